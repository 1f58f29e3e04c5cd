import PyProof.Rows.All
import HandS.ForMost
import HandS.Walk
import HandS.Defaults
import HandS.WordsExc
import HandS.Head0
import HandS.Head1
import HandS.Head2
import HandS.HeadEnd
import HandS.HeadHook1
import HandS.HeadHook2
import HandS.TupAny
import HandS.TupMul
import HandS.Conv
import HandS.IsInst
import HandS.TupLe
import HandS.Style
import HandS.Deep
import HandS.SortInts
import HandS.SortKw
import HandS.Wide
import HandS.Flow
import HandS.Zip
import HandS.SetFor
import KE.GoesMore
import KE.GoesEnum
import KE.SortData
import KE.KTupSum
import KE.DataMinMax
import HandS.TupLen
import PySem.Challenge.RW_toldbysums_k70_tellings_and_diaries
set_option Elab.async false
set_option linter.all false
set_option maxRecDepth 100000
set_option maxHeartbeats 1000000
namespace PV
open PySem PySem.Spec PyProof.Rows L2

abbrev D := PyData

/-- keys of dicts as data; a dict of tuple keys has the pair (none, none) ahead -/
def kD : Key → D
  | .inl i => .int i
  | .inr x => .str x
def IsDct (H : Hp) (a : Addr) (ks : List D) (vs : List V) : Prop :=
  (∃ kvs : List (Key × V), H a = some (.dK kvs) ∧ ks = kvs.map (fun p => kD p.1) ∧ vs = kvs.map (·.2)) ∨
  (∃ kvs : List (List Key × V), H a = some (.dT kvs) ∧ ks = .none :: kvs.map (fun p => .tuple (p.1.map kD)) ∧ vs = .non :: kvs.map (·.2))

/-- a dict that is locked: the pair (True, none) ahead -/
def IsFrz (H : Hp) (a : Addr) (ks : List D) (vs : List V) : Prop :=
  (∃ (o : Obj) (kvs : List (Key × V)), H a = some (.frz o (.dK kvs)) ∧ ks = .bool true :: kvs.map (fun p => kD p.1) ∧ vs = .non :: kvs.map (·.2)) ∨
  (∃ (o : Obj) (kvs : List (List Key × V)), H a = some (.frz o (.dT kvs)) ∧ ks = .bool true :: .none :: kvs.map (fun p => .tuple (p.1.map kD)) ∧ vs = .non :: .non :: kvs.map (·.2))
/-! ### data at a value; the mutable addresses below it -/
mutual
inductive Rp (K : PySem.W.Frag) (H : Hp) : V → D → List Addr → Prop
  | non : Rp K H .non .none []
  | bl (b : Bool) : Rp K H (.bl b) (.bool b) []
  | int (i : Int) : Rp K H (.int i) (.int i) []
  | str (x : Str) : Rp K H (.str x) (.str x) []
  | lst {a : Addr} {xs : List V} {ds : List D} {fs : List Addr} : H a = some (.lst xs) → xs.length ≤ sizeLine → RpL K H xs ds fs → Rp K H (.ref a) (.list ds) (a :: fs)
  | tup {a : Addr} {xs : List V} {ds : List D} {fs : List Addr} : H a = some (.tup xs) → xs.length ≤ sizeLine → RpL K H xs ds fs → Rp K H (.ref a) (.tuple ds) fs
  | dct {a : Addr} {kvs : List (D × D)} {vs : List V} {fs : List Addr} : IsDct H a (kvs.map (·.1)) vs → RpL K H vs (kvs.map (·.2)) fs → Rp K H (.ref a) (.dict kvs) (a :: fs)
  | dcf {a : Addr} {kvs : List (D × D)} {vs : List V} {fs : List Addr} : IsFrz H a (kvs.map (·.1)) vs → RpL K H vs (kvs.map (·.2)) fs → Rp K H (.ref a) (.dict kvs) fs
inductive RpL (K : PySem.W.Frag) (H : Hp) : List V → List D → List Addr → Prop
  | nil : RpL K H [] [] []
  | cons {v : V} {vs : List V} {d : D} {ds : List D} {f fs : List Addr} : Rp K H v d f → RpL K H vs ds fs → RpL K H (v :: vs) (d :: ds) (f ++ fs)
end

/-- what stays: the frame F and all that does not change by itself -/
def Keep (F : Addr → Prop) (H H' : Hp) : Prop := ∀ a o, H a = some o → (F a ∨ ¬ Mut (some o)) → H' a = some o
theorem Keep.refl {F H} : Keep F H H := fun _ _ h _ => h
theorem Keep.trans {F H H1 H2} (h : Keep F H H1) (k : Keep F H1 H2) : Keep F H H2 := fun a o e c => k a o (h a o e c) c
theorem Keep.of_same {F H H'} (h : Same H H') : Keep F H H' := fun a o e _ => h a o e
theorem Keep.mono {F F' : Addr → Prop} {H H'} (h : Keep F' H H') (s : ∀ a, F a → F' a) : Keep F H H' := fun a o e c => h a o e (c.imp (s a) id)
theorem same_upd {H : Hp} {p : Addr} {o : HO} (h : H p = none) : Same H (upd H p o) := fun b x e => by
  rw [upd_ne (ne_of_none e h)]; exact e
theorem Same.refl {H : Hp} : Same H H := fun _ _ h => h
theorem same_trans {H H1 H2 : Hp} (h : Same H H1) (k : Same H1 H2) : Same H H2 := fun a o e => k a o (h a o e)
theorem keep_upd {F : Addr → Prop} {H : Hp} {p : Addr} {o : HO} (m : Mut (H p)) (n : ¬ F p) : Keep F H (upd H p o) := fun a x e c => by
  by_cases h : a = p
  · subst h
    rcases c with c | c
    · exact absurd c n
    · rw [e] at m; exact absurd m c
  · rw [upd_ne h]; exact e

theorem sqT_keep {K : PySem.W.Frag} {F : Addr → Prop} {H H' : Hp} {a : Addr} {xs : List V} (h : SqT K H a xs) (k : Keep F H H') : SqT K H' a xs := by
  rcases h with (h | ⟨o, h⟩) | h
  · exact .inl (.inl (k _ _ h (.inr id)))
  · exact .inl (.inr ⟨o, k _ _ h (.inr id)⟩)
  · exact .inr h
theorem sqt {K : PySem.W.Frag} {H : Hp} {a : Addr} {xs : List V} (h : H a = some (.tup xs)) : SqT K H a xs := .inl (.inl h)
theorem isDct_keep {F : Addr → Prop} {H H' : Hp} {a : Addr} {ks : List D} {vs : List V} (h : IsDct H a ks vs) (k : Keep F H H') (hF : F a) : IsDct H' a ks vs := by
  rcases h with ⟨kvs, h, e⟩ | ⟨kvs, h, e⟩
  · exact .inl ⟨kvs, k _ _ h (.inl hF), e⟩
  · exact .inr ⟨kvs, k _ _ h (.inl hF), e⟩
theorem isFrz_keep {F : Addr → Prop} {H H' : Hp} {a : Addr} {ks : List D} {vs : List V} (h : IsFrz H a ks vs) (k : Keep F H H') : IsFrz H' a ks vs := by
  rcases h with ⟨o, kvs, h, e⟩ | ⟨o, kvs, h, e⟩
  · exact .inl ⟨o, kvs, k _ _ h (.inr id), e⟩
  · exact .inr ⟨o, kvs, k _ _ h (.inr id), e⟩
theorem isDct_mut {H : Hp} {a : Addr} {ks : List D} {vs : List V} (h : IsDct H a ks vs) : Mut (H a) := by
  rcases h with ⟨kvs, h, e⟩ | ⟨kvs, h, e⟩ <;> rw [h] <;> trivial

mutual
theorem Rp.keep {K : PySem.W.Frag} {F : Addr → Prop} {H H' : Hp} (k : Keep F H H') : ∀ (d : D) (v : V) (fp : List Addr), Rp K H v d fp → (∀ a ∈ fp, F a) → Rp K H' v d fp
  | .none, _, _, h, _ => by cases h; exact .non
  | .bool b, _, _, h, _ => by cases h; exact .bl b
  | .int b, _, _, h, _ => by cases h; exact .int b
  | .str b, _, _, h, _ => by cases h; exact .str b
  | .list ds, _, _, h, hF => by
    cases h with
    | lst h1 h2 h3 => exact .lst (k _ _ h1 (.inl (hF _ List.mem_cons_self))) h2 (RpL.keep k ds _ _ h3 fun a ha => hF a (List.mem_cons_of_mem _ ha))
  | .tuple ds, _, _, h, hF => by
    cases h with
    | tup h1 h2 h3 => exact .tup (k _ _ h1 (.inr id)) h2 (RpL.keep k ds _ _ h3 hF)
  | .dict kvs, _, _, h, hF => by
    cases h with
    | dct h1 h3 => exact .dct (isDct_keep h1 k (hF _ List.mem_cons_self)) (RpL.keepK k kvs _ _ h3 fun a ha => hF a (List.mem_cons_of_mem _ ha))
    | dcf h1 h3 => exact .dcf (isFrz_keep h1 k) (RpL.keepK k kvs _ _ h3 hF)
theorem RpL.keep {K : PySem.W.Frag} {F : Addr → Prop} {H H' : Hp} (k : Keep F H H') : ∀ (ds : List D) (vs : List V) (fp : List Addr), RpL K H vs ds fp → (∀ a ∈ fp, F a) → RpL K H' vs ds fp
  | [], _, _, h, _ => by cases h; exact .nil
  | d :: ds, _, _, h, hF => by
    cases h with
    | cons h1 h2 => exact .cons (Rp.keep k d _ _ h1 fun a ha => hF a (List.mem_append_left _ ha)) (RpL.keep k ds _ _ h2 fun a ha => hF a (List.mem_append_right _ ha))
theorem RpL.keepK {K : PySem.W.Frag} {F : Addr → Prop} {H H' : Hp} (k : Keep F H H') : ∀ (kvs : List (D × D)) (vs : List V) (fp : List Addr), RpL K H vs (kvs.map (·.2)) fp → (∀ a ∈ fp, F a) → RpL K H' vs (kvs.map (·.2)) fp
  | [], _, _, h, _ => by cases h; exact .nil
  | (_, d) :: ds, _, _, h, hF => by
    cases h with
    | cons h1 h2 => exact .cons (Rp.keep k d _ _ h1 fun a ha => hF a (List.mem_append_left _ ha)) (RpL.keepK k ds _ _ h2 fun a ha => hF a (List.mem_append_right _ ha))
end

mutual
/-- what is below a value is mutable and there -/
theorem Rp.mut {K : PySem.W.Frag} {H : Hp} : ∀ (d : D) (v : V) (fp : List Addr), Rp K H v d fp → ∀ a ∈ fp, Mut (H a)
  | .none, _, _, h, _ => by cases h; intro m; cases m
  | .bool b, _, _, h, _ => by cases h; intro m; cases m
  | .int b, _, _, h, _ => by cases h; intro m; cases m
  | .str b, _, _, h, _ => by cases h; intro m; cases m
  | .list ds, _, _, h, a => by
    cases h with
    | lst h1 h2 h3 =>
      intro m
      rcases List.mem_cons.mp m with m | m
      · rw [m, h1]; trivial
      · exact RpL.mut ds _ _ h3 a m
  | .tuple ds, _, _, h, a => by
    cases h with
    | tup h1 h2 h3 => exact RpL.mut ds _ _ h3 a
  | .dict kvs, _, _, h, a => by
    cases h with
    | dct h1 h3 =>
      intro m
      rcases List.mem_cons.mp m with m | m
      · rw [m]; exact isDct_mut h1
      · exact RpL.mutK kvs _ _ h3 a m
    | dcf h1 h3 => exact RpL.mutK kvs _ _ h3 a
theorem RpL.mut {K : PySem.W.Frag} {H : Hp} : ∀ (ds : List D) (vs : List V) (fp : List Addr), RpL K H vs ds fp → ∀ a ∈ fp, Mut (H a)
  | [], _, _, h, _ => by cases h; intro m; cases m
  | d :: ds, _, _, h, a => by
    cases h with
    | cons h1 h2 =>
      intro m
      rcases List.mem_append.mp m with m | m
      · exact Rp.mut d _ _ h1 a m
      · exact RpL.mut ds _ _ h2 a m
theorem RpL.mutK {K : PySem.W.Frag} {H : Hp} : ∀ (kvs : List (D × D)) (vs : List V) (fp : List Addr), RpL K H vs (kvs.map (·.2)) fp → ∀ a ∈ fp, Mut (H a)
  | [], _, _, h, _ => by cases h; intro m; cases m
  | (_, d) :: ds, _, _, h, a => by
    cases h with
    | cons h1 h2 =>
      intro m
      rcases List.mem_append.mp m with m | m
      · exact Rp.mut d _ _ h1 a m
      · exact RpL.mutK ds _ _ h2 a m
end
theorem Rp.dom {K : PySem.W.Frag} {H : Hp} {d : D} {v : V} {fp : List Addr} (h : Rp K H v d fp) {a : Addr} (m : a ∈ fp) : H a ≠ none := fun e => by
  have := Rp.mut d v fp h a m
  rw [e] at this; exact this
theorem RpL.dom {K : PySem.W.Frag} {H : Hp} {d : List D} {v : List V} {fp : List Addr} (h : RpL K H v d fp) {a : Addr} (m : a ∈ fp) : H a ≠ none := fun e => by
  have := RpL.mut d v fp h a m
  rw [e] at this; exact this
theorem Rp.same {K : PySem.W.Frag} {H H' : Hp} {d : D} {v : V} {fp : List Addr} (h : Rp K H v d fp) (s : Same H H') : Rp K H' v d fp := Rp.keep (F := fun _ => True) (Keep.of_same s) d v fp h fun _ _ => trivial
theorem RpL.same {K : PySem.W.Frag} {H H' : Hp} {d : List D} {v : List V} {fp : List Addr} (h : RpL K H v d fp) (s : Same H H') : RpL K H' v d fp := RpL.keep (F := fun _ => True) (Keep.of_same s) d v fp h fun _ _ => trivial
theorem RpL.length {K : PySem.W.Frag} {H : Hp} : ∀ {ds : List D} {vs : List V} {fp : List Addr}, RpL K H vs ds fp → vs.length = ds.length
  | [], _, _, h => by cases h; rfl
  | d :: ds, _, _, h => by
    cases h with
    | cons h1 h2 => simp [RpL.length h2]

/-! ### pure data: no list, no dict below -/
mutual
def pureD : D → Bool
  | .none => true
  | .bool _ => true
  | .int _ => true
  | .str _ => true
  | .list _ => false
  | .dict _ => false
  | .tuple ds => pureL ds
def pureL : List D → Bool
  | [] => true
  | d :: ds => pureD d && pureL ds
end
mutual
theorem Rp.pure {K : PySem.W.Frag} {H : Hp} : ∀ (d : D) (v : V) (fp : List Addr), Rp K H v d fp → pureD d = true → fp = []
  | .none, _, _, h, _ => by cases h; rfl
  | .bool b, _, _, h, _ => by cases h; rfl
  | .int b, _, _, h, _ => by cases h; rfl
  | .str b, _, _, h, _ => by cases h; rfl
  | .list ds, _, _, h, p => by cases p
  | .dict ds, _, _, h, p => by cases p
  | .tuple ds, _, _, h, p => by
    cases h with
    | tup h1 h2 h3 => exact RpL.pure ds _ _ h3 (by simpa [pureD] using p)
theorem RpL.pure {K : PySem.W.Frag} {H : Hp} : ∀ (ds : List D) (vs : List V) (fp : List Addr), RpL K H vs ds fp → pureL ds = true → fp = []
  | [], _, _, h, _ => by cases h; rfl
  | d :: ds, _, _, h, p => by
    cases h with
    | cons h1 h2 =>
      simp only [pureL, Bool.and_eq_true] at p
      rw [Rp.pure d _ _ h1 p.1, RpL.pure ds _ _ h2 p.2]; rfl
end
theorem Rp.of_nil {K : PySem.W.Frag} {H H' : Hp} {F : Addr → Prop} {d : D} {v : V} (h : Rp K H v d []) (k : Keep F H H') : Rp K H' v d [] :=
  Rp.keep k d v [] h fun _ m => by cases m
theorem RpL.get {K : PySem.W.Frag} {H : Hp} : ∀ {ds : List D} {vs : List V} {fp : List Addr}, RpL K H vs ds fp → ∀ {i : Nat} {d : D}, ds[i]? = some d → ∃ v f, vs[i]? = some v ∧ Rp K H v d f ∧ (∀ a ∈ f, a ∈ fp)
  | [], _, _, h, i, d, e => by simp at e
  | d :: ds, _, _, h, 0, d', e => by
    cases h with
    | cons h1 h2 =>
      simp at e; subst e
      exact ⟨_, _, rfl, h1, fun a m => List.mem_append_left _ m⟩
  | d :: ds, _, _, h, i + 1, d', e => by
    cases h with
    | cons h1 h2 =>
      obtain ⟨v, f, e1, r, m⟩ := RpL.get h2 (i := i) (d := d') (by simpa using e)
      exact ⟨v, f, by simpa using e1, r, fun a ha => List.mem_append_right _ (m a ha)⟩
theorem RpL.getV {K : PySem.W.Frag} {H : Hp} {ds : List D} {vs : List V} {fp : List Addr} (h : RpL K H vs ds fp) {i : Nat} {v : V} (e : vs[i]? = some v) : ∃ d f, ds[i]? = some d ∧ Rp K H v d f ∧ (∀ a ∈ f, a ∈ fp) := by
  have hl := h.length
  have hi : i < vs.length := by
    rcases Nat.lt_or_ge i vs.length with h | h
    · exact h
    · rw [List.getElem?_eq_none h] at e; cases e
  have hi' : i < ds.length := by omega
  obtain ⟨v', f, e1, r, m⟩ := h.get (List.getElem?_eq_getElem hi')
  rw [e] at e1
  cases e1
  exact ⟨_, f, List.getElem?_eq_getElem hi', r, m⟩

/-! ### slots -/
inductive Ow where
  | ro | own | pin
  deriving DecidableEq
def Ow.w : Ow → Bool
  | .ro => false
  | .own => true
  | .pin => true
structure Cl where
  d : D
  o : Ow
abbrev Rh := List (Option Cl)

/-- what is read: each known slot holds its data -/
structure RhR (K : PySem.W.Frag) (ρ : Rh) (σ : L2.St) (H : Hp) : Prop where
  len : σ.length = ρ.length
  rp : ∀ (i : Nat) (c : Cl), ρ[i]? = some (some c) → ∃ v fp, σ[i]? = some (some v) ∧ Rp K H v c.d fp
theorem RhR.same {K : PySem.W.Frag} {ρ : Rh} {σ : L2.St} {H H' : Hp} (h : RhR K ρ σ H) (s : Same H H') : RhR K ρ σ H' := ⟨h.len, fun i c e => let ⟨v, fp, e1, r⟩ := h.rp i c e; ⟨v, fp, e1, r.same s⟩⟩

/-- the frame: F stays as it is; so does P, of which no slot knows -/
structure Fm where
  F : Addr → Prop
  P : Addr → Prop
def Fm.all (F : Fm) : Addr → Prop := fun a => F.F a ∨ F.P a
structure Rho (K : PySem.W.Frag) (F : Fm) (L : Nat → Option V) (ρ : Rh) (σ : L2.St) (H : Hp) (f : Nat → List Addr) : Prop where
  len : σ.length = ρ.length
  fok : ∀ a, F.all a → H a ≠ none
  rp : ∀ (i : Nat) (c : Cl), ρ[i]? = some (some c) → ∃ v, σ[i]? = some (some v) ∧ Rp K H v c.d (f i)
  nd : ∀ (i : Nat) (c : Cl), ρ[i]? = some (some c) → c.o.w = true → (f i).Nodup ∧ ∀ a ∈ f i, ¬ F.F a
  pv : ∀ (i : Nat) (c : Cl), ρ[i]? = some (some c) → ∀ a ∈ f i, ¬ F.P a
  dj : ∀ (i j : Nat) (c c' : Cl), i ≠ j → ρ[i]? = some (some c) → c.o.w = true → ρ[j]? = some (some c') → ∀ a ∈ f i, a ∉ f j
  pin : ∀ (i : Nat) (v : V), L i = some v → σ[i]? = some (some v) ∧ ∃ c, ρ[i]? = some (some c) ∧ c.o = .pin
section
variable {K : PySem.W.Frag} {F : Fm} {L : Nat → Option V} {ρ ρ' : Rh} {σ : L2.St} {H H' : Hp} {f : Nat → List Addr}
theorem Rho.rd (R : Rho K F L ρ σ H f) : RhR K ρ σ H := ⟨R.len, fun i c e => let ⟨v, e1, r⟩ := R.rp i c e; ⟨v, _, e1, r⟩⟩
theorem Rho.same (R : Rho K F L ρ σ H f) (s : Same H H') : Rho K F L ρ σ H' f := by
  refine ⟨R.len, fun a h e => ?_, fun i c e => let ⟨v, e1, r⟩ := R.rp i c e; ⟨v, e1, r.same s⟩, R.nd, R.pv, R.dj, R.pin⟩
  cases q : H a with
  | none => exact R.fok a h q
  | some o => rw [s a o q] at e; cases e
theorem Rho.domf (R : Rho K F L ρ σ H f) {i : Nat} {c : Cl} (e : ρ[i]? = some (some c)) {a : Addr} (m : a ∈ f i) : H a ≠ none := by
  obtain ⟨v, _, r⟩ := R.rp i c e
  exact r.dom m
structure Fresh (K : PySem.W.Frag) (F : Fm) (ρ : Rh) (f : Nat → List Addr) (v : V) (d : D) (fp : List Addr) (H : Hp) : Prop where
  rp : Rp K H v d fp
  nd : fp.Nodup
  nf : ∀ a ∈ fp, ¬ F.all a
  dj : ∀ (i : Nat) (c : Cl), ρ[i]? = some (some c) → ∀ a ∈ fp, a ∉ f i
/-- new below a value: fresh -/
theorem Rho.fresh (R : Rho K F L ρ σ H f) (s : Same H H') {v : V} {d : D} {fp : List Addr} (r : Rp K H' v d fp) (nd : fp.Nodup) (nw : ∀ a ∈ fp, H a = none) : Fresh K F ρ f v d fp H' :=
  ⟨r, nd, fun a m hF => R.fok a hF (nw a m), fun i c e a m m' => R.domf e m' (nw a m)⟩
/-- a value is held while more runs -/
def Fm.hold (F : Fm) (fp : List Addr) : Fm := ⟨F.F, fun a => F.P a ∨ a ∈ fp⟩
def Fm.also (F : Fm) (S : Addr → Prop) : Fm := ⟨fun a => F.F a ∨ S a, F.P⟩
theorem Fm.all_hold {F : Fm} {fp : List Addr} {a : Addr} (h : F.all a) : (F.hold fp).all a := h.imp id .inl
theorem Fm.mem_hold {F : Fm} {fp : List Addr} {a : Addr} (h : a ∈ fp) : (F.hold fp).all a := .inr (.inr h)
theorem Fm.all_also {F : Fm} {S : Addr → Prop} {a : Addr} (h : F.all a) : (F.also S).all a := h.imp .inl id
theorem Rho.hold {v : V} {d : D} {fp : List Addr} (R : Rho K F L ρ σ H f) (fr : Fresh K F ρ f v d fp H) : Rho K (F.hold fp) L ρ σ H f :=
  ⟨R.len, fun a h => h.elim (fun z => R.fok a (.inl z)) fun z => z.elim (fun z => R.fok a (.inr z)) fun m => fr.rp.dom m, R.rp, R.nd,
    fun i c e a m h => h.elim (R.pv i c e a m) fun m' => fr.dj i c e a m' m, R.dj, R.pin⟩
theorem Rho.unhold {fp : List Addr} (R : Rho K (F.hold fp) L ρ σ H f) : Rho K F L ρ σ H f :=
  ⟨R.len, fun a h => R.fok a (Fm.all_hold h), R.rp, R.nd, fun i c e a m h => R.pv i c e a m (.inl h), R.dj, R.pin⟩
theorem Rho.unalso {S : Addr → Prop} (R : Rho K (F.also S) L ρ σ H f) : Rho K F L ρ σ H f :=
  ⟨R.len, fun a h => R.fok a (Fm.all_also h), R.rp, fun i c e w => ⟨(R.nd i c e w).1, fun a m h => (R.nd i c e w).2 a m (.inl h)⟩, R.pv, R.dj, R.pin⟩
theorem Keep.unhold {fp : List Addr} (k : Keep (F.hold fp).all H H') : Keep F.all H H' := k.mono fun _ => Fm.all_hold
theorem Keep.unalso {S : Addr → Prop} (k : Keep (F.also S).all H H') : Keep F.all H H' := k.mono fun _ => Fm.all_also
/-- a held value behind more -/
theorem Fresh.over {f' : Nat → List Addr} {v : V} {d : D} {fp : List Addr} (fr : Fresh K F ρ f v d fp H) (k : Keep (F.hold fp).all H H') (R : Rho K (F.hold fp) L ρ' σ H' f') : Fresh K F ρ' f' v d fp H' :=
  ⟨Rp.keep k d v fp fr.rp fun a m => Fm.mem_hold m, fr.nd, fr.nf, fun i c e a m m' => R.pv i c e a m' (.inr m)⟩
end

/-! ### expressions without effect: fr tells whether all lists below the value are new -/
def EP (fr : Bool) (X : Cx) (e : Expr) (h : Rh → Option D) : Prop :=
  ∃ t : TE, PE X e t ∧ ∀ (ρ : Rh) (σ : L2.St) (H : Hp) (d : D) (Q : VK), RhR X.K ρ σ H → h ρ = some d →
    (∀ v H' fp, Same H H' → Rp X.K H' v d fp → (fr = true → fp.Nodup ∧ ∀ a ∈ fp, H a = none) → Q v H') → t σ H Q
/-- expressions: the value's lists belong to nobody else -/
def EV (X : Cx) (e : Expr) (g : Rh → Option (D × Rh)) : Prop :=
  ∃ t : TE, PE X e t ∧ ∀ (F : Fm) (L : Nat → Option V) (ρ : Rh) (σ : L2.St) (H : Hp) (f : Nat → List Addr) (d : D) (ρ' : Rh) (Q : VK), Rho X.K F L ρ σ H f → g ρ = some (d, ρ') →
    (∀ v H' f' fp, Rho X.K F L ρ' σ H' f' → Fresh X.K F ρ' f' v d fp H' → Keep F.all H H' → Q v H') → t σ H Q
/-- tests without effect; tests -/
def TP (X : Cx) (e : Expr) (h : Rh → Option Bool) : Prop :=
  ∃ t : TT, PT X e t ∧ ∀ (ρ : Rh) (σ : L2.St) (H : Hp) (b : Bool) (Q : Bool → Hp → Prop), RhR X.K ρ σ H → h ρ = some b → (∀ H', Same H H' → Q b H') → t σ H Q
def TV (X : Cx) (e : Expr) (g : Rh → Option (Bool × Rh)) : Prop :=
  ∃ t : TT, PT X e t ∧ ∀ (F : Fm) (L : Nat → Option V) (ρ : Rh) (σ : L2.St) (H : Hp) (f : Nat → List Addr) (b : Bool) (ρ' : Rh) (Q : Bool → Hp → Prop), Rho X.K F L ρ σ H f → g ρ = some (b, ρ') →
    (∀ H' f', Rho X.K F L ρ' σ H' f' → Keep F.all H H' → Q b H') → t σ H Q
def lift {α : Type} (h : Rh → Option α) : Rh → Option (α × Rh) := fun ρ => (h ρ).map fun d => (d, ρ)
theorem lift_some {α : Type} {h : Rh → Option α} {ρ ρ' : Rh} {a : α} (e : lift h ρ = some (a, ρ')) : h ρ = some a ∧ ρ = ρ' := by
  unfold lift at e
  cases q : h ρ with
  | none => rw [q] at e; cases e
  | some x => rw [q] at e; cases e; exact ⟨rfl, rfl⟩
section
variable {X : Cx} {e : Expr}
theorem EV.of {h : Rh → Option D} (p : EP true X e h) : EV X e (lift h) := by
  obtain ⟨t, pe, hq⟩ := p
  refine ⟨t, pe, fun F L ρ σ H f d ρ' Q R g q => ?_⟩
  obtain ⟨hd, rfl⟩ := lift_some g
  refine hq ρ σ H d Q R.rd hd fun v H' fp s r fr => ?_
  obtain ⟨nd, nw⟩ := fr rfl
  exact q v H' f fp (R.same s) (R.fresh s r nd nw) (Keep.of_same s)
theorem TV.of {h : Rh → Option Bool} (p : TP X e h) : TV X e (lift h) := by
  obtain ⟨t, pe, hq⟩ := p
  refine ⟨t, pe, fun F L ρ σ H f d ρ' Q R g q => ?_⟩
  obtain ⟨hd, rfl⟩ := lift_some g
  exact hq ρ σ H d Q R.rd hd fun H' s => q H' f (R.same s) (Keep.of_same s)
theorem EP.weak {h : Rh → Option D} (p : EP true X e h) : EP false X e h := by
  obtain ⟨t, pe, hq⟩ := p
  exact ⟨t, pe, fun ρ σ H d Q R hd q => hq ρ σ H d Q R hd fun v H' fp s r _ => q v H' fp s r (fun z => nomatch z)⟩
/-- pure data are new in any case -/
def gd (d : D) : Option D := if pureD d = true then some d else none
theorem EP.gd {fr : Bool} {h : Rh → Option D} (p : EP fr X e h) : EP true X e (fun ρ => (h ρ).bind gd) := by
  obtain ⟨t, pe, hq⟩ := p
  refine ⟨t, pe, fun ρ σ H d Q R hd q => ?_⟩
  cases hh : h ρ with
  | none => simp [hh] at hd
  | some d' =>
    simp only [hh] at hd
    simp only [Option.bind_some, PV.gd] at hd
    split at hd
    · rename_i pd
      cases hd
      refine hq ρ σ H d Q R hh fun v H' fp s r _ => q v H' fp s r fun _ => ?_
      rw [Rp.pure d v fp r pd]
      exact ⟨List.nodup_nil, fun a m => nomatch m⟩
    · cases hd
end
end PV

set_option Elab.async false
set_option linter.all false
set_option maxRecDepth 100000
set_option maxHeartbeats 1000000
namespace PV
open PySem PySem.Spec PyProof.Rows L2

theorem Same.new {H H' : Hp} (s : Same H H') {a : Addr} (h : H' a = none) : H a = none := by
  cases q : H a with
  | none => rfl
  | some o => rw [s a o q] at h; cases h
/-! ### names, constants -/
def getS (i : Nat) (ρ : Rh) : Option D := match ρ[i]? with
  | some (some c) => some c.d
  | _ => none
theorem getS_some {i : Nat} {ρ : Rh} {d : D} (h : getS i ρ = some d) : ∃ c, ρ[i]? = some (some c) ∧ c.d = d := by
  unfold getS at h
  split at h
  · rename_i c e; cases h; exact ⟨c, e, rfl⟩
  · cases h
section
variable {X : Cx} {pos : Pos}
theorem ep_var {i : Nat} {x : Str} (p : PE X (.Name x pos) (tVar i)) : EP false X (.Name x pos) (getS i) := by
  refine ⟨_, p, fun ρ σ H d Q R h q => ?_⟩
  obtain ⟨c, e, rfl⟩ := getS_some h
  obtain ⟨v, fp, e1, r⟩ := R.rp i c e
  exact ⟨v, e1, q v H fp Same.refl r (fun z => nomatch z)⟩
def cst (d : D) : Rh → Option D := fun _ => some d
theorem ep_k {e : Expr} {v : V} {d : D} (p : PE X e (tC v)) (r : ∀ H, Rp X.K H v d []) : EP true X e (cst d) := by
  refine ⟨_, p, fun ρ σ H d' Q R h q => ?_⟩
  cases h
  exact q v H [] Same.refl (r H) fun _ => ⟨List.nodup_nil, fun a m => nomatch m⟩
theorem ep_int {i : Int} {j : Nat} : EP true X (.Constant (.int i) j pos) (cst (.int i)) := ep_k pe_int fun _ => .int i
theorem ep_bl {b : Bool} {j : Nat} : EP true X (.Constant (.bool b) j pos) (cst (.bool b)) := ep_k pe_bl fun _ => .bl b
theorem ep_non {j : Nat} : EP true X (.Constant .none j pos) (cst .none) := ep_k pe_non fun _ => .non
theorem ep_str {x : Str} {j : Nat} : EP true X (.Constant (.str x) j pos) (cst (.str x)) := ep_k pe_str fun _ => .str x
theorem ep_glob {x : Str} {v : V} {u : Value} {d : D} (hg : Gl X x) (hm : X.mg x = some u) (r : RelV v u) (rd : ∀ H, Rp X.K H v d []) (hd : (x == ("__debug__" : Str)) = false := by decide) : EP true X (.Name x pos) (cst d) := ep_k (pe_glob hg hm r hd) rd

/-! ### operators by values -/
/-- r answers fn; fr: new lists below the answer -/
def R2ok (fr : Bool) (K : PySem.W.Frag) (r : R2) (fn : D → D → Option D) : Prop :=
  ∀ H x y d e z fx fy (Q : VK), Rp K H x d fx → Rp K H y e fy → fn d e = some z → (∀ v H' fp, Same H H' → Rp K H' v z fp → (fr = true → fp.Nodup ∧ ∀ a ∈ fp, H a = none) → Q v H') → r x y H Q
def o2 (fn : D → D → Option D) (h1 h2 : Rh → Option D) : Rh → Option D := fun ρ => match h1 ρ, h2 ρ with
  | some x, some y => fn x y
  | _, _ => none
theorem o2_some {fn : D → D → Option D} {h1 h2 : Rh → Option D} {ρ : Rh} {z : D} (h : o2 fn h1 h2 ρ = some z) : ∃ x y, h1 ρ = some x ∧ h2 ρ = some y ∧ fn x y = some z := by
  unfold o2 at h
  split at h
  · rename_i x y e1 e2; exact ⟨x, y, e1, e2, h⟩
  · cases h
/-- with effects, from the left -/
def v2 (fn : D → D → Option D) (g1 g2 : Rh → Option (D × Rh)) : Rh → Option (D × Rh) := fun ρ => match g1 ρ with
  | some (x, ρ1) => match g2 ρ1 with
    | some (y, ρ2) => (fn x y).map fun z => (z, ρ2)
    | none => none
  | none => none
theorem v2_some {fn : D → D → Option D} {g1 g2 : Rh → Option (D × Rh)} {ρ ρ' : Rh} {z : D} (h : v2 fn g1 g2 ρ = some (z, ρ')) : ∃ x ρ1 y, g1 ρ = some (x, ρ1) ∧ g2 ρ1 = some (y, ρ') ∧ fn x y = some z := by
  unfold v2 at h
  split at h
  · rename_i x ρ1 e1
    split at h
    · rename_i y ρ2 e2
      cases q : fn x y with
      | none => rw [q] at h; cases h
      | some w => rw [q] at h; cases h; exact ⟨x, ρ1, y, e1, e2, q⟩
    · cases h
  · cases h
theorem ep_op2 {e a b : Expr} {fr fa fb : Bool} {r : R2} {fn : D → D → Option D} {h1 h2 : Rh → Option D} (pe : ∀ {ta tb : TE}, PE X a ta → PE X b tb → PE X e (tOp r ta tb)) (hr : R2ok fr X.K r fn) (ha : EP fa X a h1) (hb : EP fb X b h2) : EP fr X e (o2 fn h1 h2) := by
  obtain ⟨ta, pa, qa⟩ := ha
  obtain ⟨tb, pb, qb⟩ := hb
  refine ⟨_, pe pa pb, fun ρ σ H d Q R h q => ?_⟩
  obtain ⟨x, y, e1, e2, e3⟩ := o2_some h
  refine qa ρ σ H x _ R e1 fun v H1 fp s r1 _ => ?_
  refine qb ρ σ H1 y _ (R.same s) e2 fun u H2 fq s2 r2 _ => ?_
  refine hr H2 v u x y d fp fq Q (r1.same s2) r2 e3 fun z H3 fz s3 r3 hz => q z H3 fz (same_trans s (same_trans s2 s3)) r3 fun hfr => ?_
  obtain ⟨nd, nw⟩ := hz hfr
  exact ⟨nd, fun a m => Same.new (same_trans s s2) (nw a m)⟩
end
end PV

set_option Elab.async false
set_option linter.all false
set_option maxRecDepth 100000
set_option maxHeartbeats 1000000
namespace PV
open PySem PySem.Spec PyProof.Rows L2

section
variable {X : Cx} {pos : Pos}
/-- with effects -/
theorem ev_op2 {e a b : Expr} {r : R2} {fn : D → D → Option D} {g1 g2 : Rh → Option (D × Rh)} (pe : ∀ {ta tb : TE}, PE X a ta → PE X b tb → PE X e (tOp r ta tb)) (hr : R2ok true X.K r fn) (ha : EV X a g1) (hb : EV X b g2) : EV X e (v2 fn g1 g2) := by
  obtain ⟨ta, pa, qa⟩ := ha
  obtain ⟨tb, pb, qb⟩ := hb
  refine ⟨_, pe pa pb, fun F L ρ σ H f d ρ' Q R h q => ?_⟩
  obtain ⟨x, ρ1, y, e1, e2, e3⟩ := v2_some h
  refine qa F L ρ σ H f x ρ1 _ R e1 fun v H1 f1 fp R1 fr1 k1 => ?_
  refine qb (F.hold fp) L ρ1 σ H1 f1 y ρ' _ (R1.hold fr1) e2 fun u H2 f2 fq R2 fr2 k2 => ?_
  have fr1' := fr1.over k2 R2
  refine hr H2 v u x y d fp fq Q fr1'.rp fr2.rp e3 fun z H3 fz s3 r3 hz => ?_
  obtain ⟨nd, nw⟩ := hz rfl
  exact q z H3 f2 fz (R2.unhold.same s3) (R2.unhold.fresh s3 r3 nd nw) (k1.trans (k2.unhold.trans (Keep.of_same s3)))
/-- the second has no effect: the first may be any (read) -/
theorem ep_un {e a : Expr} {fr fa : Bool} {r : V → Hp → VK → Prop} {fn : D → Option D} {h1 : Rh → Option D} (pe : ∀ {ta : TE}, PE X a ta → PE X e (tUn r ta))
    (hr : ∀ H x d z fx (Q : VK), Rp X.K H x d fx → fn d = some z → (∀ v H' fp, Same H H' → Rp X.K H' v z fp → (fr = true → fp.Nodup ∧ ∀ a ∈ fp, H a = none) → Q v H') → r x H Q)
    (ha : EP fa X a h1) : EP fr X e (fun ρ => (h1 ρ).bind fn) := by
  obtain ⟨ta, pa, qa⟩ := ha
  refine ⟨_, pe pa, fun ρ σ H d Q R h q => ?_⟩
  cases e1 : h1 ρ with
  | none => simp [e1] at h
  | some x =>
    simp only [e1, Option.bind_some] at h
    refine qa ρ σ H x _ R e1 fun v H1 fp s r1 _ => ?_
    refine hr H1 v x d fp Q r1 h fun z H2 fz s2 r2 hz => q z H2 fz (same_trans s s2) r2 fun hfr => ?_
    exact ⟨(hz hfr).1, fun a m => Same.new s ((hz hfr).2 a m)⟩

/-! ### argument lists -/
def AP (fr : Bool) (X : Cx) (es : List Expr) (h : Rh → Option (List D)) : Prop :=
  ∃ t : TA, PA X es t ∧ ∀ (ρ : Rh) (σ : L2.St) (H : Hp) (ds : List D) (Q : List V → Hp → Prop), RhR X.K ρ σ H → h ρ = some ds →
    (∀ vs H' fp, Same H H' → RpL X.K H' vs ds fp → (fr = true → fp.Nodup ∧ ∀ a ∈ fp, H a = none) → Q vs H') → t σ H Q
structure FreshL (K : PySem.W.Frag) (F : Fm) (ρ : Rh) (f : Nat → List Addr) (v : List V) (d : List D) (fp : List Addr) (H : Hp) : Prop where
  rp : RpL K H v d fp
  nd : fp.Nodup
  nf : ∀ a ∈ fp, ¬ F.all a
  dj : ∀ (i : Nat) (c : Cl), ρ[i]? = some (some c) → ∀ a ∈ fp, a ∉ f i
def AV (X : Cx) (es : List Expr) (g : Rh → Option (List D × Rh)) : Prop :=
  ∃ t : TA, PA X es t ∧ ∀ (F : Fm) (L : Nat → Option V) (ρ : Rh) (σ : L2.St) (H : Hp) (f : Nat → List Addr) (ds : List D) (ρ' : Rh) (Q : List V → Hp → Prop), Rho X.K F L ρ σ H f → g ρ = some (ds, ρ') →
    (∀ vs H' f' fp, Rho X.K F L ρ' σ H' f' → FreshL X.K F ρ' f' vs ds fp H' → Keep F.all H H' → Q vs H') → t σ H Q
def aNil : Rh → Option (List D) := fun _ => some []
def aCons (h : Rh → Option D) (hs : Rh → Option (List D)) : Rh → Option (List D) := fun ρ => match h ρ, hs ρ with
  | some d, some ds => some (d :: ds)
  | _, _ => none
def bNil : Rh → Option (List D × Rh) := fun ρ => some ([], ρ)
def bCons (g : Rh → Option (D × Rh)) (gs : Rh → Option (List D × Rh)) : Rh → Option (List D × Rh) := fun ρ => match g ρ with
  | some (d, ρ1) => match gs ρ1 with
    | some (ds, ρ2) => some (d :: ds, ρ2)
    | none => none
  | none => none
theorem ap_nil {fr : Bool} : AP fr X [] aNil := ⟨_, pa_nil, fun ρ σ H ds Q R h q => by
  cases h
  exact q [] H [] Same.refl .nil fun _ => ⟨List.nodup_nil, fun a m => nomatch m⟩⟩
theorem ap_cons {fr : Bool} {e : Expr} {es : List Expr} {h : Rh → Option D} {hs : Rh → Option (List D)} (ha : EP fr X e h) (has : AP fr X es hs) (hst : starEach (e :: es) X.env = (false, eval e X.env) :: starEach es X.env := by rfl) : AP fr X (e :: es) (aCons h hs) := by
  obtain ⟨ta, pa, qa⟩ := ha
  obtain ⟨tb, pb, qb⟩ := has
  refine ⟨_, pa_cons pa pb hst, fun ρ σ H ds Q R hh q => ?_⟩
  unfold aCons at hh
  split at hh
  · rename_i d ds' e1 e2
    cases hh
    refine qa ρ σ H d _ R e1 fun v H1 fp s r1 n1 => ?_
    refine qb ρ σ H1 ds' _ (R.same s) e2 fun vs H2 fq s2 r2 n2 => ?_
    refine q (v :: vs) H2 (fp ++ fq) (same_trans s s2) (.cons (r1.same s2) r2) fun hfr => ?_
    obtain ⟨nd1, nw1⟩ := n1 hfr
    obtain ⟨nd2, nw2⟩ := n2 hfr
    refine ⟨List.nodup_append.mpr ⟨nd1, nd2, fun a m b m' e => ?_⟩, fun a m => ?_⟩
    · subst e; exact r1.dom m (nw2 a m')
    · rcases List.mem_append.mp m with m | m
      · exact nw1 a m
      · exact Same.new s (nw2 a m)
  · cases hh
theorem av_nil : AV X [] bNil := ⟨_, pa_nil, fun F L ρ σ H f ds ρ' Q R h q => by
  cases h
  exact q [] H f [] R ⟨.nil, List.nodup_nil, fun a m => (nomatch m), fun _ _ _ a m => (nomatch m)⟩ Keep.refl⟩
theorem av_cons {e : Expr} {es : List Expr} {g : Rh → Option (D × Rh)} {gs : Rh → Option (List D × Rh)} (ha : EV X e g) (has : AV X es gs) (hst : starEach (e :: es) X.env = (false, eval e X.env) :: starEach es X.env := by rfl) : AV X (e :: es) (bCons g gs) := by
  obtain ⟨ta, pa, qa⟩ := ha
  obtain ⟨tb, pb, qb⟩ := has
  refine ⟨_, pa_cons pa pb hst, fun F L ρ σ H f ds ρ' Q R hh q => ?_⟩
  unfold bCons at hh
  split at hh
  · rename_i d ρ1 e1
    split at hh
    · rename_i ds' ρ2 e2
      cases hh
      refine qa F L ρ σ H f d ρ1 _ R e1 fun v H1 f1 fp R1 fr1 k1 => ?_
      refine qb (F.hold fp) L ρ1 σ H1 f1 ds' ρ' _ (R1.hold fr1) e2 fun vs H2 f2 fq R2 fr2 k2 => ?_
      have fr1' := fr1.over k2 R2
      refine q (v :: vs) H2 f2 (fp ++ fq) R2.unhold ⟨.cons fr1'.rp fr2.rp, List.nodup_append.mpr ⟨fr1.nd, fr2.nd, fun a m b m' e => ?_⟩, fun a m => ?_, fun i c ec a m => ?_⟩ (k1.trans k2.unhold)
      · subst e; exact fr2.nf a m' (Fm.mem_hold m)
      · rcases List.mem_append.mp m with m | m
        · exact fr1.nf a m
        · exact fun z => fr2.nf a m (Fm.all_hold z)
      · rcases List.mem_append.mp m with m | m
        · exact fr1'.dj i c ec a m
        · exact fr2.dj i c ec a m
    · cases hh
  · cases hh
theorem AV.of {es : List Expr} {h : Rh → Option (List D)} (p : AP true X es h) : AV X es (lift h) := by
  obtain ⟨t, pe, hq⟩ := p
  refine ⟨t, pe, fun F L ρ σ H f d ρ' Q R g q => ?_⟩
  obtain ⟨hd, rfl⟩ := lift_some g
  refine hq ρ σ H d Q R.rd hd fun v H' fp s r fr => ?_
  obtain ⟨nd, nw⟩ := fr rfl
  exact q v H' f fp (R.same s) ⟨r, nd, fun a m hF => R.fok a hF (nw a m), fun i c e a m m' => R.domf e m' (nw a m)⟩ (Keep.of_same s)

/-! ### displays -/
def mkT (h : Rh → Option (List D)) : Rh → Option D := fun ρ => match h ρ with
  | some ds => if ds.length ≤ 1000000 then some (.tuple ds) else none
  | none => none
def mkL (h : Rh → Option (List D)) : Rh → Option D := fun ρ => match h ρ with
  | some ds => if ds.length ≤ 1000000 then some (.list ds) else none
  | none => none
theorem mil_line {n : Nat} (h : n ≤ 1000000) : n ≤ sizeLine := Nat.le_trans h (by decide)
theorem ep_tup {fr : Bool} {es : List Expr} {x1 : Nat} {h : Rh → Option (List D)} (ha : AP fr X es h) : EP fr X (.Tuple es x1 pos) (mkT h) := by
  obtain ⟨ta, pa, qa⟩ := ha
  refine ⟨_, pe_tup pa, fun ρ σ H d Q R hh q => ?_⟩
  unfold mkT at hh
  split at hh
  · rename_i ds e1
    split at hh
    · rename_i hl
      cases hh
      refine qa ρ σ H ds _ R e1 fun vs H1 fp s r n => ?_
      have hz : vs.length ≤ sizeLine := by rw [r.length]; exact mil_line hl
      refine ⟨hz, fun p np => ?_⟩
      exact q (.ref p) _ fp (same_trans s (same_upd np)) (.tup upd_same hz (r.same (same_upd np))) n
    · cases hh
  · cases hh
theorem ep_lst {es : List Expr} {h : Rh → Option (List D)} (ha : AP true X es h) : EP true X (.List es pos) (mkL h) := by
  obtain ⟨ta, pa, qa⟩ := ha
  refine ⟨_, pe_lst pa, fun ρ σ H d Q R hh q => ?_⟩
  unfold mkL at hh
  split at hh
  · rename_i ds e1
    split at hh
    · rename_i hl
      cases hh
      refine qa ρ σ H ds _ R e1 fun vs H1 fp s r n => ?_
      have hz : vs.length ≤ sizeLine := by rw [r.length]; exact mil_line hl
      refine ⟨hz, fun p np => ?_⟩
      refine q (.ref p) _ (p :: fp) (same_trans s (same_upd np)) (.lst upd_same hz (r.same (same_upd np))) fun _ => ?_
      obtain ⟨nd, nw⟩ := n rfl
      refine ⟨List.nodup_cons.mpr ⟨fun m => r.dom m np, nd⟩, fun a m => ?_⟩
      rcases List.mem_cons.mp m with m | m
      · rw [m]; exact Same.new s np
      · exact nw a m
    · cases hh
  · cases hh
def nkT (g : Rh → Option (List D × Rh)) : Rh → Option (D × Rh) := fun ρ => match g ρ with
  | some (ds, ρ') => if ds.length ≤ 1000000 then some (.tuple ds, ρ') else none
  | none => none
def nkL (g : Rh → Option (List D × Rh)) : Rh → Option (D × Rh) := fun ρ => match g ρ with
  | some (ds, ρ') => if ds.length ≤ 1000000 then some (.list ds, ρ') else none
  | none => none
theorem ev_tup {es : List Expr} {x1 : Nat} {g : Rh → Option (List D × Rh)} (ha : AV X es g) : EV X (.Tuple es x1 pos) (nkT g) := by
  obtain ⟨ta, pa, qa⟩ := ha
  refine ⟨_, pe_tup pa, fun F L ρ σ H f d ρ' Q R hh q => ?_⟩
  unfold nkT at hh
  split at hh
  · rename_i ds ρ1 e1
    split at hh
    · rename_i hl
      cases hh
      refine qa F L ρ σ H f ds ρ' _ R e1 fun vs H1 f1 fp R1 fr k => ?_
      have hz : vs.length ≤ sizeLine := by rw [fr.rp.length]; exact mil_line hl
      refine ⟨hz, fun p np => ?_⟩
      exact q (.ref p) _ f1 fp (R1.same (same_upd np)) ⟨.tup upd_same hz (fr.rp.same (same_upd np)), fr.nd, fr.nf, fr.dj⟩ (k.trans (Keep.of_same (same_upd np)))
    · cases hh
  · cases hh
theorem ev_lst {es : List Expr} {g : Rh → Option (List D × Rh)} (ha : AV X es g) : EV X (.List es pos) (nkL g) := by
  obtain ⟨ta, pa, qa⟩ := ha
  refine ⟨_, pe_lst pa, fun F L ρ σ H f d ρ' Q R hh q => ?_⟩
  unfold nkL at hh
  split at hh
  · rename_i ds ρ1 e1
    split at hh
    · rename_i hl
      cases hh
      refine qa F L ρ σ H f ds ρ' _ R e1 fun vs H1 f1 fp R1 fr k => ?_
      have hz : vs.length ≤ sizeLine := by rw [fr.rp.length]; exact mil_line hl
      refine ⟨hz, fun p np => ?_⟩
      refine q (.ref p) _ f1 (p :: fp) (R1.same (same_upd np)) ⟨.lst upd_same hz (fr.rp.same (same_upd np)), List.nodup_cons.mpr ⟨fun m => fr.rp.dom m np, fr.nd⟩, fun a m => ?_, fun i c e a m => ?_⟩ (k.trans (Keep.of_same (same_upd np)))
      · rcases List.mem_cons.mp m with m | m
        · rw [m]; exact fun z => R1.fok p z np
        · exact fr.nf a m
      · rcases List.mem_cons.mp m with m | m
        · rw [m]; exact fun z => R1.domf e z np
        · exact fr.dj i c e a m
    · cases hh
  · cases hh

/-! ### tests -/
/-- a bool as a test -/
def asB : D → Option Bool
  | .bool b => some b
  | _ => none
theorem tp_val {e : Expr} {fr : Bool} {h : Rh → Option D} (p : EP fr X e h) (he : ∀ whole, isTrue e X.env whole = (do let v ← whole; standAt e.pos; holding [v] (truthy v)) := by intro _; rfl) : TP X e (fun ρ => (h ρ).bind asB) := by
  obtain ⟨t, pe, hq⟩ := p
  refine ⟨_, pt_val pe he, fun ρ σ H b Q R hh q => ?_⟩
  cases e1 : h ρ with
  | none => simp [e1] at hh
  | some d =>
    simp only [e1, Option.bind_some] at hh
    cases d <;> simp only [asB, reduceCtorEq] at hh
    cases hh
    refine hq ρ σ H _ _ R e1 fun v H' fp s r _ => ?_
    cases r
    exact ⟨_, rfl, q H' s⟩
theorem tv_val {e : Expr} {g : Rh → Option (D × Rh)} (p : EV X e g) (he : ∀ whole, isTrue e X.env whole = (do let v ← whole; standAt e.pos; holding [v] (truthy v)) := by intro _; rfl) :
    TV X e (fun ρ => match g ρ with | some (.bool b, ρ') => some (b, ρ') | _ => none) := by
  obtain ⟨t, pe, hq⟩ := p
  refine ⟨_, pt_val pe he, fun F L ρ σ H f b ρ' Q R hh q => ?_⟩
  simp only at hh
  split at hh
  · rename_i b' ρ1 e1
    cases hh
    refine hq F L ρ σ H f _ ρ' _ R e1 fun v H' f' fp R' fr k => ?_
    have r := fr.rp
    cases r
    exact ⟨_, rfl, q H' f' R' k⟩
  · cases hh
/-- any value by its truth -/
def truD : D → Option Bool
  | .none => some false
  | .bool b => some b
  | .int i => some (i != 0)
  | .list xs => some (!xs.isEmpty)
  | .tuple xs => some (!xs.isEmpty)
  | _ => none
theorem isEmpty_len {α β : Type} {xs : List α} {ys : List β} (h : xs.length = ys.length) : xs.isEmpty = ys.isEmpty := by
  cases xs <;> cases ys <;> first | rfl | simp at h
theorem tp_tru {e : Expr} {fr : Bool} {h : Rh → Option D} (p : EP fr X e h) (he : ∀ whole, isTrue e X.env whole = (do let v ← whole; standAt e.pos; holding [v] (truthy v)) := by intro _; rfl) : TP X e (fun ρ => (h ρ).bind truD) := by
  obtain ⟨t, pe, hq⟩ := p
  refine ⟨_, pt_truth pe he, fun ρ σ H b Q R hh q => ?_⟩
  cases e1 : h ρ with
  | none => simp [e1] at hh
  | some d =>
    simp only [e1, Option.bind_some] at hh
    refine hq ρ σ H _ _ R e1 fun v H' fp s r _ => ?_
    refine ⟨b, ?_, q H' s⟩
    cases r with
    | non => cases hh; rfl
    | bl b => cases hh; rfl
    | int i => cases hh; rfl
    | str x => cases hh
    | lst h1 h2 h3 => cases hh; exact .inl ⟨_, .inl (.inl h1), by rw [isEmpty_len h3.length]⟩
    | tup h1 h2 h3 => cases hh; exact .inr (.inl ⟨_, sqt h1, by rw [isEmpty_len h3.length]⟩)
    | dct h1 h2 => cases hh
    | dcf h1 h2 => cases hh
def tnot (h : Rh → Option (Bool × Rh)) : Rh → Option (Bool × Rh) := fun ρ => (h ρ).map fun p => (!p.1, p.2)
def tand (g1 g2 : Rh → Option (Bool × Rh)) : Rh → Option (Bool × Rh) := fun ρ => match g1 ρ with
  | some (true, ρ1) => g2 ρ1
  | o => o
def tor (g1 g2 : Rh → Option (Bool × Rh)) : Rh → Option (Bool × Rh) := fun ρ => match g1 ρ with
  | some (false, ρ1) => g2 ρ1
  | o => o
theorem tv_not {a : Expr} {g : Rh → Option (Bool × Rh)} (p : TV X a g) : TV X (.UnaryOp .Not a pos) (tnot g) := by
  obtain ⟨t, pe, hq⟩ := p
  refine ⟨_, pt_not pe, fun F L ρ σ H f b ρ' Q R hh q => ?_⟩
  unfold tnot at hh
  cases e1 : g ρ with
  | none => simp [e1] at hh
  | some d =>
    obtain ⟨b1, ρ1⟩ := d
    simp only [e1, Option.map_some, Option.some.injEq, Prod.mk.injEq] at hh
    obtain ⟨rfl, rfl⟩ := hh
    exact hq F L ρ σ H f b1 ρ1 _ R e1 q
/-- and, or as tests: each form for any whole -/
def WV (X : Cx) (e : Expr) (g : Rh → Option (Bool × Rh)) : Prop :=
  ∃ t : TT, PW X e t ∧ ∀ (F : Fm) (L : Nat → Option V) (ρ : Rh) (σ : L2.St) (H : Hp) (f : Nat → List Addr) (b : Bool) (ρ' : Rh) (Q : Bool → Hp → Prop), Rho X.K F L ρ σ H f → g ρ = some (b, ρ') →
    (∀ H' f', Rho X.K F L ρ' σ H' f' → Keep F.all H H' → Q b H') → t σ H Q
theorem WV.tv {e : Expr} {g : Rh → Option (Bool × Rh)} (p : WV X e g) : TV X e g := let ⟨t, pe, hq⟩ := p; ⟨t, pe.pt, hq⟩
theorem wv_and1 {a : Expr} {g : Rh → Option (Bool × Rh)} (p : TV X a g) : WV X (.BoolOp .And [a] pos) g := let ⟨t, pe, hq⟩ := p; ⟨t, pw_and1 pe, hq⟩
theorem wv_or1 {a : Expr} {g : Rh → Option (Bool × Rh)} (p : TV X a g) : WV X (.BoolOp .Or [a] pos) g := let ⟨t, pe, hq⟩ := p; ⟨t, pw_or1 pe, hq⟩
theorem wv_and {a b : Expr} {rest : List Expr} {g1 g2 : Rh → Option (Bool × Rh)} (p : TV X a g1) (p2 : WV X (.BoolOp .And (b :: rest) pos) g2) : WV X (.BoolOp .And (a :: b :: rest) pos) (tand g1 g2) := by
  obtain ⟨t, pe, hq⟩ := p
  obtain ⟨t2, pe2, hq2⟩ := p2
  refine ⟨_, pw_and pe pe2, fun F L ρ σ H f b ρ' Q R hh q => ?_⟩
  unfold tand at hh
  split at hh
  · rename_i ρ1 e1
    exact hq F L ρ σ H f true ρ1 _ R e1 fun H' f' R' k => hq2 F L ρ1 σ H' f' b ρ' _ R' hh fun H2 f2 R2 k2 => q H2 f2 R2 (k.trans k2)
  · rename_i h1
    cases b with
    | true => exact absurd hh (h1 _)
    | false => exact hq F L ρ σ H f false ρ' _ R hh q
theorem wv_or {a b : Expr} {rest : List Expr} {g1 g2 : Rh → Option (Bool × Rh)} (p : TV X a g1) (p2 : WV X (.BoolOp .Or (b :: rest) pos) g2) : WV X (.BoolOp .Or (a :: b :: rest) pos) (tor g1 g2) := by
  obtain ⟨t, pe, hq⟩ := p
  obtain ⟨t2, pe2, hq2⟩ := p2
  refine ⟨_, pw_or pe pe2, fun F L ρ σ H f b ρ' Q R hh q => ?_⟩
  unfold tor at hh
  split at hh
  · rename_i ρ1 e1
    exact hq F L ρ σ H f false ρ1 _ R e1 fun H' f' R' k => hq2 F L ρ1 σ H' f' b ρ' _ R' hh fun H2 f2 R2 k2 => q H2 f2 R2 (k.trans k2)
  · rename_i h1
    cases b with
    | false => exact absurd hh (h1 _)
    | true => exact hq F L ρ σ H f true ρ' _ R hh q

/-! ### tests without effect -/
def pnot (h : Rh → Option Bool) : Rh → Option Bool := fun ρ => (h ρ).map fun b => !b
def pand (g1 g2 : Rh → Option Bool) : Rh → Option Bool := fun ρ => match g1 ρ with
  | some true => g2 ρ
  | o => o
def por (g1 g2 : Rh → Option Bool) : Rh → Option Bool := fun ρ => match g1 ρ with
  | some false => g2 ρ
  | o => o
theorem tp_not {a : Expr} {g : Rh → Option Bool} (p : TP X a g) : TP X (.UnaryOp .Not a pos) (pnot g) := by
  obtain ⟨t, pe, hq⟩ := p
  refine ⟨_, pt_not pe, fun ρ σ H b Q R hh q => ?_⟩
  unfold pnot at hh
  cases e1 : g ρ with
  | none => simp [e1] at hh
  | some d =>
    simp only [e1, Option.map_some, Option.some.injEq] at hh
    obtain rfl := hh
    exact hq ρ σ H d _ R e1 q
def WP (X : Cx) (e : Expr) (h : Rh → Option Bool) : Prop :=
  ∃ t : TT, PW X e t ∧ ∀ (ρ : Rh) (σ : L2.St) (H : Hp) (b : Bool) (Q : Bool → Hp → Prop), RhR X.K ρ σ H → h ρ = some b → (∀ H', Same H H' → Q b H') → t σ H Q
theorem WP.tp {e : Expr} {g : Rh → Option Bool} (p : WP X e g) : TP X e g := let ⟨t, pe, hq⟩ := p; ⟨t, pe.pt, hq⟩
theorem wp_and1 {a : Expr} {g : Rh → Option Bool} (p : TP X a g) : WP X (.BoolOp .And [a] pos) g := let ⟨t, pe, hq⟩ := p; ⟨t, pw_and1 pe, hq⟩
theorem wp_or1 {a : Expr} {g : Rh → Option Bool} (p : TP X a g) : WP X (.BoolOp .Or [a] pos) g := let ⟨t, pe, hq⟩ := p; ⟨t, pw_or1 pe, hq⟩
theorem wp_and {a b : Expr} {rest : List Expr} {g1 g2 : Rh → Option Bool} (p : TP X a g1) (p2 : WP X (.BoolOp .And (b :: rest) pos) g2) : WP X (.BoolOp .And (a :: b :: rest) pos) (pand g1 g2) := by
  obtain ⟨t, pe, hq⟩ := p
  obtain ⟨t2, pe2, hq2⟩ := p2
  refine ⟨_, pw_and pe pe2, fun ρ σ H b Q R hh q => ?_⟩
  unfold pand at hh
  split at hh
  · rename_i e1
    exact hq ρ σ H true _ R e1 fun H' s => hq2 ρ σ H' b _ (R.same s) hh fun H2 s2 => q H2 (same_trans s s2)
  · rename_i h1
    cases b with
    | true => exact absurd hh h1
    | false => exact hq ρ σ H false _ R hh q
theorem wp_or {a b : Expr} {rest : List Expr} {g1 g2 : Rh → Option Bool} (p : TP X a g1) (p2 : WP X (.BoolOp .Or (b :: rest) pos) g2) : WP X (.BoolOp .Or (a :: b :: rest) pos) (por g1 g2) := by
  obtain ⟨t, pe, hq⟩ := p
  obtain ⟨t2, pe2, hq2⟩ := p2
  refine ⟨_, pw_or pe pe2, fun ρ σ H b Q R hh q => ?_⟩
  unfold por at hh
  split at hh
  · rename_i e1
    exact hq ρ σ H false _ R e1 fun H' s => hq2 ρ σ H' b _ (R.same s) hh fun H2 s2 => q H2 (same_trans s s2)
  · rename_i h1
    cases b with
    | false => exact absurd hh h1
    | true => exact hq ρ σ H true _ R hh q

/-! ### and, or, not as values; a if t else b -/
def eand (h1 h2 : Rh → Option D) : Rh → Option D := fun ρ => match h1 ρ with
  | some (.bool true) => h2 ρ
  | some (.bool false) => some (.bool false)
  | _ => none
def eor (h1 h2 : Rh → Option D) : Rh → Option D := fun ρ => match h1 ρ with
  | some (.bool false) => h2 ρ
  | some (.bool true) => some (.bool true)
  | _ => none
def enot (h1 : Rh → Option D) : Rh → Option D := fun ρ => match h1 ρ with
  | some (.bool b) => some (.bool !b)
  | _ => none
theorem ep_one {a : Expr} {op : BoolOp} {fr : Bool} {h : Rh → Option D} (p : EP fr X a h) : EP fr X (.BoolOp op [a] pos) h := let ⟨t, pe, hq⟩ := p; ⟨t, pe_one pe, hq⟩
theorem ep_and {a b : Expr} {rest : List Expr} {f1 f2 : Bool} {h1 h2 : Rh → Option D} (p : EP f1 X a h1) (p2 : EP f2 X (.BoolOp .And (b :: rest) pos) h2) : EP f2 X (.BoolOp .And (a :: b :: rest) pos) (eand h1 h2) := by
  obtain ⟨t, pe, hq⟩ := p
  obtain ⟨t2, pe2, hq2⟩ := p2
  refine ⟨_, pe_and pe pe2, fun ρ σ H d Q R hh q => ?_⟩
  unfold eand at hh
  split at hh
  · rename_i e1
    refine hq ρ σ H _ _ R e1 fun v H' fp s r _ => ?_
    cases r
    exact ⟨true, rfl, hq2 ρ σ H' d _ (R.same s) hh fun v2 H2 fp2 s2 r2 n2 => q v2 H2 fp2 (same_trans s s2) r2 fun z => ⟨(n2 z).1, fun a m => Same.new s ((n2 z).2 a m)⟩⟩
  · rename_i e1
    cases hh
    refine hq ρ σ H _ _ R e1 fun v H' fp s r _ => ?_
    cases r
    exact ⟨false, rfl, q _ H' [] s (.bl _) fun _ => ⟨List.nodup_nil, fun a m => (nomatch m)⟩⟩
  · cases hh
theorem ep_or {a b : Expr} {rest : List Expr} {f1 f2 : Bool} {h1 h2 : Rh → Option D} (p : EP f1 X a h1) (p2 : EP f2 X (.BoolOp .Or (b :: rest) pos) h2) : EP f2 X (.BoolOp .Or (a :: b :: rest) pos) (eor h1 h2) := by
  obtain ⟨t, pe, hq⟩ := p
  obtain ⟨t2, pe2, hq2⟩ := p2
  refine ⟨_, pe_or pe pe2, fun ρ σ H d Q R hh q => ?_⟩
  unfold eor at hh
  split at hh
  · rename_i e1
    refine hq ρ σ H _ _ R e1 fun v H' fp s r _ => ?_
    cases r
    exact ⟨false, rfl, hq2 ρ σ H' d _ (R.same s) hh fun v2 H2 fp2 s2 r2 n2 => q v2 H2 fp2 (same_trans s s2) r2 fun z => ⟨(n2 z).1, fun a m => Same.new s ((n2 z).2 a m)⟩⟩
  · rename_i e1
    cases hh
    refine hq ρ σ H _ _ R e1 fun v H' fp s r _ => ?_
    cases r
    exact ⟨true, rfl, q _ H' [] s (.bl _) fun _ => ⟨List.nodup_nil, fun a m => (nomatch m)⟩⟩
  · cases hh
theorem ep_not {a : Expr} {f1 : Bool} {h1 : Rh → Option D} (p : EP f1 X a h1) : EP true X (.UnaryOp .Not a pos) (enot h1) := by
  obtain ⟨t, pe, hq⟩ := p
  refine ⟨_, pe_not pe, fun ρ σ H d Q R hh q => ?_⟩
  unfold enot at hh
  split at hh
  · rename_i b e1
    cases hh
    refine hq ρ σ H _ _ R e1 fun v H' fp s r _ => ?_
    cases r
    exact ⟨b, rfl, q _ H' [] s (.bl _) fun _ => ⟨List.nodup_nil, fun a m => (nomatch m)⟩⟩
  · cases hh
def eif (t : Rh → Option Bool) (h1 h2 : Rh → Option D) : Rh → Option D := fun ρ => match t ρ with
  | some true => h1 ρ
  | some false => h2 ρ
  | none => none
theorem ep_if {c a b : Expr} {fr : Bool} {g : Rh → Option Bool} {h1 h2 : Rh → Option D} (pc : TP X c g) (pa : EP fr X a h1) (pb : EP fr X b h2) : EP fr X (.IfExp c a b pos) (eif g h1 h2) := by
  obtain ⟨t, pe, hq⟩ := pc
  obtain ⟨t1, pe1, hq1⟩ := pa
  obtain ⟨t2, pe2, hq2⟩ := pb
  refine ⟨_, pe_ifExp pe pe1 pe2, fun ρ σ H d Q R hh q => ?_⟩
  unfold eif at hh
  split at hh
  · rename_i e1
    refine hq ρ σ H true _ R e1 fun H' s => ?_
    rw [if_pos rfl]
    exact hq1 ρ σ H' d _ (R.same s) hh fun v2 H2 fp2 s2 r2 n2 => q v2 H2 fp2 (same_trans s s2) r2 fun z => ⟨(n2 z).1, fun a m => Same.new s ((n2 z).2 a m)⟩
  · rename_i e1
    refine hq ρ σ H false _ R e1 fun H' s => ?_
    rw [if_neg Bool.false_ne_true]
    exact hq2 ρ σ H' d _ (R.same s) hh fun v2 H2 fp2 s2 r2 n2 => q v2 H2 fp2 (same_trans s s2) r2 fun z => ⟨(n2 z).1, fun a m => Same.new s ((n2 z).2 a m)⟩
  · cases hh
def vif (t : Rh → Option (Bool × Rh)) (h1 h2 : Rh → Option (D × Rh)) : Rh → Option (D × Rh) := fun ρ => match t ρ with
  | some (true, ρ1) => h1 ρ1
  | some (false, ρ1) => h2 ρ1
  | none => none
theorem ev_if {c a b : Expr} {g : Rh → Option (Bool × Rh)} {h1 h2 : Rh → Option (D × Rh)} (pc : TV X c g) (pa : EV X a h1) (pb : EV X b h2) : EV X (.IfExp c a b pos) (vif g h1 h2) := by
  obtain ⟨t, pe, hq⟩ := pc
  obtain ⟨t1, pe1, hq1⟩ := pa
  obtain ⟨t2, pe2, hq2⟩ := pb
  refine ⟨_, pe_ifExp pe pe1 pe2, fun F L ρ σ H f d ρ' Q R hh q => ?_⟩
  unfold vif at hh
  split at hh
  · rename_i ρ1 e1
    refine hq F L ρ σ H f true ρ1 _ R e1 fun H' f' R' k => ?_
    rw [if_pos rfl]
    exact hq1 F L ρ1 σ H' f' d ρ' _ R' hh fun v2 H2 f2 fp2 R2 n2 k2 => q v2 H2 f2 fp2 R2 n2 (k.trans k2)
  · rename_i ρ1 e1
    refine hq F L ρ σ H f false ρ1 _ R e1 fun H' f' R' k => ?_
    rw [if_neg Bool.false_ne_true]
    exact hq2 F L ρ1 σ H' f' d ρ' _ R' hh fun v2 H2 f2 fp2 R2 n2 k2 => q v2 H2 f2 fp2 R2 n2 (k.trans k2)
  · cases hh
end
end PV

set_option Elab.async false
set_option linter.all false
set_option maxRecDepth 100000
set_option maxHeartbeats 1000000
namespace PV
open PySem PySem.Spec PyProof.Rows L2

/-! ### slots stored -/
def setS (i : Nat) (c : Cl) (ρ : Rh) : Option Rh := match ρ[i]? with
  | some none => some (ρ.set i (some c))
  | some (some ⟨_, .ro⟩) => some (ρ.set i (some c))
  | some (some ⟨_, .own⟩) => some (ρ.set i (some c))
  | _ => none
theorem setS_some {i : Nat} {c : Cl} {ρ ρ' : Rh} (h : setS i c ρ = some ρ') : ρ' = ρ.set i (some c) ∧ i < ρ.length ∧ ∀ c0, ρ[i]? = some (some c0) → c0.o ≠ .pin := by
  unfold setS at h
  split at h
  · rename_i e
    cases h
    exact ⟨rfl, (List.getElem?_eq_some_iff.mp e).1, fun c0 e0 => by rw [e] at e0; cases e0⟩
  · rename_i e
    cases h
    exact ⟨rfl, (List.getElem?_eq_some_iff.mp e).1, fun c0 e0 z => by rw [e] at e0; cases e0; cases z⟩
  · rename_i e
    cases h
    exact ⟨rfl, (List.getElem?_eq_some_iff.mp e).1, fun c0 e0 z => by rw [e] at e0; cases e0; cases z⟩
  · cases h
section
variable {K : PySem.W.Frag} {F : Fm} {L : Nat → Option V} {ρ ρ' : Rh} {σ : L2.St} {H H' : Hp} {f : Nat → List Addr}
theorem get_set_ne {α : Type} {l : List α} {i j : Nat} {a : α} (h : j ≠ i) : (l.set i a)[j]? = l[j]? := List.getElem?_set_ne (Ne.symm h)
theorem get_set_eq {α : Type} {l : List α} {i : Nat} {a : α} (h : i < l.length) : (l.set i a)[i]? = some a := by simp [h]
/-- a slot takes a value -/
theorem Rho.put {v : V} {d : D} {fp : List Addr} {o : Ow} {i : Nat} (R : Rho K F L ρ σ H f) (r : Rp K H v d fp) (hP : ∀ a ∈ fp, ¬ F.P a) (ho : o = .own → fp.Nodup ∧ (∀ a ∈ fp, ¬ F.F a) ∧ ∀ j c, j ≠ i → ρ[j]? = some (some c) → ∀ a ∈ fp, a ∉ f j) (hp : o ≠ .pin)
    (hd : ∀ j c, j ≠ i → ρ[j]? = some (some c) → c.o.w = true → ∀ a ∈ f j, a ∉ fp) (e : setS i ⟨d, o⟩ ρ = some ρ') : Rho K F L ρ' (σ.set i (some v)) H (fun j => if j = i then fp else f j) := by
  obtain ⟨rfl, hi, npin⟩ := setS_some e
  have hi' : i < σ.length := by rw [R.len]; exact hi
  have gi : ∀ c, (ρ.set i (some ⟨d, o⟩))[i]? = some (some c) → c = ⟨d, o⟩ := fun c h => by
    rw [get_set_eq hi] at h; cases h; rfl
  have gj : ∀ j c, j ≠ i → (ρ.set i (some ⟨d, o⟩))[j]? = some (some c) → ρ[j]? = some (some c) := fun j c hj h => by
    rw [get_set_ne hj] at h; exact h
  refine ⟨by rw [List.length_set, List.length_set]; exact R.len, R.fok, fun j c h => ?_, fun j c h w => ?_, fun j c h => ?_, fun j k c c' hjk h w h' => ?_, fun j u h => ?_⟩
  · by_cases hj : j = i
    · subst hj
      cases gi c h
      exact ⟨v, get_set_eq hi', by rw [if_pos rfl]; exact r⟩
    · obtain ⟨u, e1, r1⟩ := R.rp j c (gj j c hj h)
      exact ⟨u, by rw [get_set_ne hj]; exact e1, by rw [if_neg hj]; exact r1⟩
  · by_cases hj : j = i
    · subst hj
      cases gi c h
      rw [if_pos rfl]
      cases o with
      | ro => cases w
      | own => exact ⟨(ho rfl).1, (ho rfl).2.1⟩
      | pin => exact absurd rfl hp
    · rw [if_neg hj]; exact R.nd j c (gj j c hj h) w
  · by_cases hj : j = i
    · rw [if_pos hj]; exact hP
    · rw [if_neg hj]; exact R.pv j c (gj j c hj h)
  · by_cases hj : j = i
    · have hk : k ≠ i := fun z => hjk (hj.trans z.symm)
      rw [if_pos hj, if_neg hk]
      subst hj
      cases gi c h
      cases o with
      | ro => cases w
      | own => exact (ho rfl).2.2 k c' hk (gj k c' hk h')
      | pin => exact absurd rfl hp
    · rw [if_neg hj]
      by_cases hk : k = i
      · rw [if_pos hk]
        exact hd j c hj (gj j c hj h) w
      · rw [if_neg hk]
        exact R.dj j k c c' hjk (gj j c hj h) w (gj k c' hk h')
  · obtain ⟨e1, c, e2, e3⟩ := R.pin j u h
    have hj : j ≠ i := fun z => by subst z; exact npin c e2 e3
    exact ⟨by rw [get_set_ne hj]; exact e1, c, by rw [get_set_ne hj]; exact e2, e3⟩
theorem Rho.setOwn {v : V} {d : D} {fp : List Addr} {i : Nat} (R : Rho K F L ρ σ H f) (fr : Fresh K F ρ f v d fp H) (e : setS i ⟨d, .own⟩ ρ = some ρ') : Rho K F L ρ' (σ.set i (some v)) H (fun j => if j = i then fp else f j) :=
  R.put (o := .own) fr.rp (fun a m z => fr.nf a m (.inr z)) (fun _ => ⟨fr.nd, fun a m z => fr.nf a m (.inl z), fun j c _ h a m => fr.dj j c h a m⟩) (fun z => nomatch z) (fun j c _ h _ a m m' => fr.dj j c h a m' m) e
theorem Rho.setRo {v : V} {d : D} {fp : List Addr} {i : Nat} (R : Rho K F L ρ σ H f) (r : Rp K H v d fp) (hF : ∀ a ∈ fp, F.F a ∧ ¬ F.P a) (e : setS i ⟨d, .ro⟩ ρ = some ρ') : Rho K F L ρ' (σ.set i (some v)) H (fun j => if j = i then fp else f j) :=
  R.put (o := .ro) r (fun a m => (hF a m).2) (fun z => nomatch z) (fun z => nomatch z) (fun j c _ h w a m m' => (R.nd j c h w).2 a m (hF a m').1) e
/-- a slot is forgotten -/
theorem Rho.drop (R : Rho K F L ρ σ H f) {i : Nat} (h : ∀ c, ρ[i]? = some (some c) → c.o ≠ .pin) : Rho K F L (ρ.set i none) σ H f := by
  have gj : ∀ j c, (ρ.set i none)[j]? = some (some c) → ρ[j]? = some (some c) ∧ j ≠ i := fun j c h => by
    by_cases hj : j = i
    · subst hj
      by_cases hi : j < ρ.length
      · rw [get_set_eq hi] at h; cases h
      · rw [List.getElem?_eq_none (by rw [List.length_set]; omega)] at h; cases h
    · rw [get_set_ne hj] at h; exact ⟨h, hj⟩
  refine ⟨by rw [List.length_set]; exact R.len, R.fok, fun j c h => R.rp j c (gj j c h).1, fun j c h => R.nd j c (gj j c h).1, fun j c h => R.pv j c (gj j c h).1, fun j k c c' hjk h w h' => R.dj j k c c' hjk (gj j c h).1 w (gj k c' h').1, fun j u e => ?_⟩
  obtain ⟨e1, c, e2, e3⟩ := R.pin j u e
  have hj : j ≠ i := fun z => by subst z; exact h c e2 e3
  exact ⟨e1, c, by rw [get_set_ne hj]; exact e2, e3⟩
/-- the object in a slot changes in place -/
theorem Rho.mutate {i : Nat} {c : Cl} {d' : D} {v : V} {fp' : List Addr} (R : Rho K F L ρ σ H f) (e : ρ[i]? = some (some c)) (w : c.o.w = true) (hv : σ[i]? = some (some v)) (r' : Rp K H' v d' fp') (nd : fp'.Nodup)
    (hn : ∀ a ∈ fp', a ∈ f i ∨ (¬ F.all a ∧ ∀ j cj, j ≠ i → ρ[j]? = some (some cj) → a ∉ f j)) (k : Keep (fun b => b ∉ f i) H H') :
    Rho K F L (ρ.set i (some ⟨d', c.o⟩)) σ H' (fun j => if j = i then fp' else f j) ∧ Keep F.all H H' := by
  have hi : i < ρ.length := (List.getElem?_eq_some_iff.mp e).1
  have nF : ∀ a, F.all a → a ∉ f i := fun a h m => h.elim (fun z => (R.nd i c e w).2 a m z) (fun z => R.pv i c e a m z)
  have kF : Keep F.all H H' := k.mono nF
  have gi : ∀ c2, (ρ.set i (some ⟨d', c.o⟩))[i]? = some (some c2) → c2 = ⟨d', c.o⟩ := fun c2 h => by
    rw [get_set_eq hi] at h; cases h; rfl
  have gj : ∀ j c2, j ≠ i → (ρ.set i (some ⟨d', c.o⟩))[j]? = some (some c2) → ρ[j]? = some (some c2) := fun j c2 hj h => by
    rw [get_set_ne hj] at h; exact h
  refine ⟨⟨by rw [List.length_set]; exact R.len, fun a h z => ?_, fun j c2 h => ?_, fun j c2 h w2 => ?_, fun j c2 h a m => ?_, fun j l c2 c3 hjl h w2 h' a m => ?_, fun j u h => ?_⟩, kF⟩
  · cases q : H a with
    | none => exact R.fok a h q
    | some o => rw [kF a o q (.inl h)] at z; cases z
  · by_cases hj : j = i
    · subst hj
      cases gi c2 h
      exact ⟨v, hv, by rw [if_pos rfl]; exact r'⟩
    · obtain ⟨u, e1, r1⟩ := R.rp j c2 (gj j c2 hj h)
      exact ⟨u, e1, by rw [if_neg hj]; exact Rp.keep k _ _ _ r1 fun a m m' => R.dj i j c c2 (Ne.symm hj) e w (gj j c2 hj h) a m' m⟩
  · by_cases hj : j = i
    · rw [if_pos hj]
      refine ⟨nd, fun a m z => ?_⟩
      rcases hn a m with q | q
      · exact (R.nd i c e w).2 a q z
      · exact q.1 (.inl z)
    · rw [if_neg hj]; exact R.nd j c2 (gj j c2 hj h) w2
  · by_cases hj : j = i
    · rw [if_pos hj] at m
      rcases hn a m with q | q
      · exact R.pv i c e a q
      · exact fun z => q.1 (.inr z)
    · rw [if_neg hj] at m; exact R.pv j c2 (gj j c2 hj h) a m
  · by_cases hj : j = i
    · have hl : l ≠ i := fun z => hjl (hj.trans z.symm)
      rw [if_pos hj] at m
      rw [if_neg hl]
      rcases hn a m with q | q
      · exact R.dj i l c c3 (Ne.symm hl) e w (gj l c3 hl h') a q
      · exact q.2 l c3 hl (gj l c3 hl h')
    · rw [if_neg hj] at m
      by_cases hl : l = i
      · rw [if_pos hl]
        intro m'
        rcases hn a m' with q | q
        · exact R.dj j i c2 c hj (gj j c2 hj h) w2 e a m q
        · exact q.2 j c2 hj (gj j c2 hj h) m
      · rw [if_neg hl]; exact R.dj j l c2 c3 hjl (gj j c2 hj h) w2 (gj l c3 hl h') a m
  · obtain ⟨e1, c2, e2, e3⟩ := R.pin j u h
    refine ⟨e1, ?_⟩
    by_cases hj : j = i
    · subst hj
      rw [e] at e2; cases e2
      exact ⟨_, get_set_eq hi, e3⟩
    · exact ⟨c2, by rw [get_set_ne hj]; exact e2, e3⟩
theorem keep_ne {a : Addr} {o : HO} (m : Mut (H a)) : Keep (fun b => b ≠ a) H (upd H a o) := keep_upd m fun z => z rfl
end

/-! ### targets -/
inductive Pat where
  | nm (i : Nat)
  | tp (ps : List Pat)
  /-- xs[e] -/
  | ix (i : Nat) (h : Rh → Option D)
  /-- xs[e][e'] -/
  | ix2 (i : Nat) (h h' : Rh → Option D)
def wr (i : Nat) (ρ : Rh) : Option (D × Ow) := match ρ[i]? with
  | some (some ⟨d, .own⟩) => some (d, .own)
  | some (some ⟨d, .pin⟩) => some (d, .pin)
  | _ => none
theorem wr_some {i : Nat} {ρ : Rh} {d : D} {o : Ow} (h : wr i ρ = some (d, o)) : ρ[i]? = some (some ⟨d, o⟩) ∧ o.w = true := by
  unfold wr at h
  split at h
  · rename_i e; cases h; exact ⟨e, rfl⟩
  · rename_i e; cases h; exact ⟨e, rfl⟩
  · cases h
def ixSet (ds : List D) (k : D) (d : D) : Option (List D) := match k with
  | .int k => match ixN ds.length k with
    | some j => some (ds.set j d)
    | none => none
  | _ => none
def ixGetL (ds : List D) (k : D) : Option D := match k with
  | .int k => atI ds k
  | _ => none
mutual
def patS (o : Ow) : Pat → D → Rh → Option Rh
  | .nm i, d, ρ => setS i ⟨d, o⟩ ρ
  | .tp ps, d, ρ => match d with
    | .tuple ds => patsS o ps ds ρ
    | _ => none
  | .ix i h, d, ρ => match o, wr i ρ, h ρ with
    | .own, some (.list ds, o'), some k => match ixSet ds k d with
      | some ds' => some (ρ.set i (some ⟨.list ds', o'⟩))
      | none => none
    | _, _, _ => none
  | .ix2 i h h', d, ρ => match o, wr i ρ, h ρ, h' ρ with
    | .own, some (.list ds, o'), some k, some k' => match ixGetL ds k with
      | some (.list es) => match ixSet es k' d with
        | some es' => match ixSet ds k (.list es') with
          | some ds' => some (ρ.set i (some ⟨.list ds', o'⟩))
          | none => none
        | none => none
      | _ => none
    | _, _, _, _ => none
def patsS (o : Ow) : List Pat → List D → Rh → Option Rh
  | [], [], ρ => some ρ
  | p :: ps, d :: ds, ρ => match patS o p d ρ with
    | some ρ1 => patsS o ps ds ρ1
    | none => none
  | _, _, _ => none
end
def PatOk (X : Cx) (tg : Expr) (p : Pat) : Prop := ∃ g : TG, PG X tg g ∧
  (∀ (F : Fm) (L : Nat → Option V) (ρ : Rh) (σ : L2.St) (H : Hp) (f : Nat → List Addr) (v : V) (d : D) (fp : List Addr) (ρ' : Rh) (Q : L2.St → Hp → Prop), Rho X.K F L ρ σ H f → Fresh X.K F ρ f v d fp H → patS .own p d ρ = some ρ' →
    (∀ σ' H' f', Rho X.K F L ρ' σ' H' f' → Keep F.all H H' → Q σ' H') → g v σ H Q) ∧
  (∀ (F : Fm) (L : Nat → Option V) (ρ : Rh) (σ : L2.St) (H : Hp) (f : Nat → List Addr) (v : V) (d : D) (fp : List Addr) (ρ' : Rh) (Q : L2.St → Hp → Prop), Rho X.K F L ρ σ H f → Rp X.K H v d fp → (∀ a ∈ fp, F.F a ∧ ¬ F.P a) → patS .ro p d ρ = some ρ' →
    (∀ σ' f', Rho X.K F L ρ' σ' H f' → Q σ' H) → g v σ H Q)
def PatsOk (X : Cx) (tgs : List Expr) (ps : List Pat) : Prop := ∃ g : TGs, PGs X tgs g ∧
  (∀ (F : Fm) (L : Nat → Option V) (ρ : Rh) (σ : L2.St) (H : Hp) (f : Nat → List Addr) (v : List V) (d : List D) (fp : List Addr) (ρ' : Rh) (Q : L2.St → Hp → Prop), Rho X.K F L ρ σ H f → FreshL X.K F ρ f v d fp H → patsS .own ps d ρ = some ρ' →
    (∀ σ' H' f', Rho X.K F L ρ' σ' H' f' → Keep F.all H H' → Q σ' H') → g v σ H Q) ∧
  (∀ (F : Fm) (L : Nat → Option V) (ρ : Rh) (σ : L2.St) (H : Hp) (f : Nat → List Addr) (v : List V) (d : List D) (fp : List Addr) (ρ' : Rh) (Q : L2.St → Hp → Prop), Rho X.K F L ρ σ H f → RpL X.K H v d fp → (∀ a ∈ fp, F.F a ∧ ¬ F.P a) → patsS .ro ps d ρ = some ρ' →
    (∀ σ' f', Rho X.K F L ρ' σ' H f' → Q σ' H) → g v σ H Q)
section
variable {X : Cx} {pos : Pos}
theorem pat_nm {tg : Expr} {i : Nat} (pg : PG X tg (gName i)) : PatOk X tg (.nm i) := by
  refine ⟨_, pg, fun F L ρ σ H f v d fp ρ' Q R fr e q => ?_, fun F L ρ σ H f v d fp ρ' Q R r hF e q => ?_⟩
  · exact q _ H _ (R.setOwn fr (by simpa [patS] using e)) Keep.refl
  · exact q _ _ (R.setRo r hF (by simpa [patS] using e))
theorem pats_nil : PatsOk X [] [] := by
  refine ⟨_, pgs_nil, fun F L ρ σ H f v d fp ρ' Q R fr e q => ?_, fun F L ρ σ H f v d fp ρ' Q R r hF e q => ?_⟩
  · cases d with
    | nil =>
      simp only [patsS, Option.some.injEq] at e
      subst e
      have := fr.rp
      cases this
      exact ⟨rfl, q σ H f R Keep.refl⟩
    | cons d ds => simp [patsS] at e
  · cases d with
    | nil =>
      simp only [patsS, Option.some.injEq] at e
      subst e
      cases r
      exact ⟨rfl, q σ f R⟩
    | cons d ds => simp [patsS] at e
theorem pats_cons {tg : Expr} {tgs : List Expr} {p : Pat} {ps : List Pat} (h1 : PatOk X tg p) (h2 : PatsOk X tgs ps) (hs : (assignEach (tg :: tgs) X.env).map (·.2) = assign tg X.env :: (assignEach tgs X.env).map (·.2) := by rfl) : PatsOk X (tg :: tgs) (p :: ps) := by
  obtain ⟨g1, p1, qo1, qr1⟩ := h1
  obtain ⟨g2, p2, qo2, qr2⟩ := h2
  refine ⟨_, pgs_cons p1 p2 hs, fun F L ρ σ H f v d fp ρ' Q R fr e q => ?_, fun F L ρ σ H f v d fp ρ' Q R r hF e q => ?_⟩
  · cases d with
    | nil => simp [patsS] at e
    | cons d ds =>
      have r := fr.rp
      cases r with
      | cons r1 r2 =>
        rename_i v1 vs f1 fs
        simp only [patsS] at e
        split at e
        · rename_i ρ1 e1
          obtain ⟨nd1, nd2, nd3⟩ := List.nodup_append.mp fr.nd
          -- the rest is held
          have frs : FreshL X.K F ρ f vs ds fs H := ⟨r2, nd2, fun a m => fr.nf a (List.mem_append_right _ m), fun i c ec a m => fr.dj i c ec a (List.mem_append_right _ m)⟩
          have R' : Rho X.K (F.hold fs) L ρ σ H f := ⟨R.len, fun a h => h.elim (fun z => R.fok a (.inl z)) fun z => z.elim (fun z => R.fok a (.inr z)) fun m => r2.dom m, R.rp, R.nd,
            fun i c e a m h => h.elim (R.pv i c e a m) fun m' => frs.dj i c e a m' m, R.dj, R.pin⟩
          have fr1 : Fresh X.K (F.hold fs) ρ f v1 d f1 H := ⟨r1, nd1, fun a m z => z.elim (fun z => fr.nf a (List.mem_append_left _ m) (.inl z)) fun z => z.elim (fun z => fr.nf a (List.mem_append_left _ m) (.inr z)) fun m' => nd3 a m a m' rfl,
            fun i c ec a m => fr.dj i c ec a (List.mem_append_left _ m)⟩
          refine ⟨v1, vs, rfl, qo1 (F.hold fs) L ρ σ H f v1 d f1 ρ1 _ R' fr1 e1 fun σ1 H1 f1' R1 k1 => ?_⟩
          have frs1 : FreshL X.K F ρ1 f1' vs ds fs H1 := ⟨RpL.keep k1 ds vs fs r2 fun a m => Fm.mem_hold m, nd2, frs.nf, fun i c e a m m' => R1.pv i c e a m' (.inr m)⟩
          exact qo2 F L ρ1 σ1 H1 f1' vs ds fs ρ' _ R1.unhold frs1 e fun σ2 H2 f2 R2 k2 => q σ2 H2 f2 R2 (k1.unhold.trans k2)
        · cases e
  · cases d with
    | nil => simp [patsS] at e
    | cons d ds =>
      cases r with
      | cons r1 r2 =>
        rename_i v1 vs f1 fs
        simp only [patsS] at e
        split at e
        · rename_i ρ1 e1
          refine ⟨v1, vs, rfl, qr1 F L ρ σ H f v1 d f1 ρ1 _ R r1 (fun a m => hF a (List.mem_append_left _ m)) e1 fun σ1 f1' R1 => ?_⟩
          exact qr2 F L ρ1 σ1 H f1' vs ds fs ρ' _ R1 r2 (fun a m => hF a (List.mem_append_right _ m)) e q
        · cases e
theorem pat_tp {es : List Expr} {k : Nat} {ps : List Pat} {n : Nat} (hc : X.calm = true) (h : PatsOk X es ps) (hl : ps.length = n) (hn : (assignEach es X.env).length = n := by rfl) (hst : (assignEach es X.env).findIdx? (·.1) = none := by rfl) : PatOk X (.Tuple es k pos) (.tp ps) := by
  obtain ⟨g, pg, qo, qr⟩ := h
  have lens : ∀ (o : Ow) (ps : List Pat) (ds : List D) (ρ ρ' : Rh), patsS o ps ds ρ = some ρ' → ps.length = ds.length := by
    intro o ps
    induction ps with
    | nil => intro ds ρ ρ' e; cases ds with
      | nil => rfl
      | cons d ds => simp [patsS] at e
    | cons p ps ih => intro ds ρ ρ' e; cases ds with
      | nil => simp [patsS] at e
      | cons d ds =>
        simp only [patsS] at e
        split at e
        · simp [ih _ _ _ e]
        · cases e
  refine ⟨_, pg_tup hc pg hn hst, fun F L ρ σ H f v d fp ρ' Q R fr e q => ?_, fun F L ρ σ H f v d fp ρ' Q R r hF e q => ?_⟩
  · simp only [patS] at e
    split at e
    · have r := fr.rp
      cases r with
      | tup h1 h2 h3 => exact ⟨_, _, rfl, sqt h1, by rw [h3.length, ← lens _ _ _ _ _ e]; exact hl, qo F L ρ σ H f _ _ fp ρ' Q R ⟨h3, fr.nd, fr.nf, fr.dj⟩ e q⟩
    · cases e
  · simp only [patS] at e
    split at e
    · cases r with
      | tup h1 h2 h3 => exact ⟨_, _, rfl, sqt h1, by rw [h3.length, ← lens _ _ _ _ _ e]; exact hl, qr F L ρ σ H f _ _ fp ρ' Q R h3 hF e q⟩
    · cases e

theorem RpL.setAt {K : PySem.W.Frag} {H : Hp} {w : V} {d : D} {fp : List Addr} (rw' : Rp K H w d fp) (nf : fp.Nodup) : ∀ {ds : List D} {vs : List V} {fs : List Addr} (j : Nat), RpL K H vs ds fs → fs.Nodup → (∀ a ∈ fp, a ∉ fs) →
    ∃ fs', RpL K H (vs.set j w) (ds.set j d) fs' ∧ fs'.Nodup ∧ ∀ a ∈ fs', a ∈ fs ∨ a ∈ fp
  | [], _, _, j, h, nd, dj => by cases h; exact ⟨[], .nil, List.nodup_nil, fun a m => nomatch m⟩
  | d0 :: ds, _, _, 0, h, nd, dj => by
    cases h with
    | cons h1 h2 =>
      rename_i v1 vs f1 fs
      obtain ⟨nd1, nd2, nd3⟩ := List.nodup_append.mp nd
      refine ⟨fp ++ fs, .cons rw' h2, List.nodup_append.mpr ⟨nf, nd2, fun a m b m' e => ?_⟩, fun a m => ?_⟩
      · subst e; exact dj a m (List.mem_append_right _ m')
      · rcases List.mem_append.mp m with m | m
        · exact .inr m
        · exact .inl (List.mem_append_right _ m)
  | d0 :: ds, _, _, j + 1, h, nd, dj => by
    cases h with
    | cons h1 h2 =>
      rename_i v1 vs f1 fs
      obtain ⟨nd1, nd2, nd3⟩ := List.nodup_append.mp nd
      obtain ⟨fs', r, n', s'⟩ := RpL.setAt rw' nf j h2 nd2 fun a m m' => dj a m (List.mem_append_right _ m')
      refine ⟨f1 ++ fs', .cons h1 r, List.nodup_append.mpr ⟨nd1, n', fun a m b m' e => ?_⟩, fun a m => ?_⟩
      · subst e
        rcases s' a m' with z | z
        · exact nd3 a m a z rfl
        · exact dj a z (List.mem_append_left _ m)
      · rcases List.mem_append.mp m with m | m
        · exact .inl (List.mem_append_left _ m)
        · exact (s' a m).imp (List.mem_append_right _) id
theorem ixSet_some {ds ds' : List D} {k d : D} (h : ixSet ds k d = some ds') : ∃ i j, k = .int i ∧ ixN ds.length i = some j ∧ ds' = ds.set j d := by
  unfold ixSet at h
  split at h
  · split at h
    · rename_i j e; cases h; exact ⟨_, j, rfl, e, rfl⟩
    · cases h
  · cases h
theorem pat_ix {o i : Expr} {x : Nat} {fr : Bool} {h : Rh → Option D} (ho : PE X o (tVar x)) (hi : EP fr X i h) (ha : ∀ v, assign (.Subscript o i pos) X.env v = (do
      let ov ← holding [v] (eval o X.env)
      let iv ← holding [v, ov] (eval i X.env)
      standAt pos
      holding [v, ov, iv] (setItem ov iv v)
      release [v, ov, iv] []) := by intro _; rfl) : PatOk X (.Subscript o i pos) (.ix x h) := by
  obtain ⟨ti, pi, qi⟩ := hi
  refine ⟨_, pg_sub ho pi set_list ha, fun F L ρ σ H f v d fp ρ' Q R fr e q => ?_, fun F L ρ σ H f v d fp ρ' Q R r hF e q => ?_⟩
  · simp only [patS] at e
    split at e
    · rename_i ds o' k e1 e2 e3
      split at e
      · rename_i ds' e4
        cases e
        obtain ⟨i0, j, rfl, e5, rfl⟩ := ixSet_some e4
        obtain ⟨ex, wx⟩ := wr_some e2
        obtain ⟨u, eu, ru⟩ := R.rp x _ ex
        obtain ⟨ndx, nfx⟩ := R.nd x _ ex wx
        refine ⟨u, eu, qi ρ σ H _ _ R.rd e3 fun iv H1 fi s1 ri _ => ?_⟩
        have ru1 := ru.same s1
        have R1 := R.same s1
        have frp := fr.rp.same s1
        cases ri
        generalize hfx : f x = fx at *
        cases ru1 with
        | lst h1 h2 h3 =>
          rename_i a xs fs
          obtain ⟨na, ndf⟩ := List.nodup_cons.mp ndx
          have djx : ∀ b ∈ fp, b ∉ a :: fs := fun b m => by rw [← hfx]; exact fr.dj x _ ex b m
          refine ⟨a, xs, i0, j, rfl, rfl, h1, by rw [h3.length]; exact e5, ?_⟩
          obtain ⟨fs', r', n', s'⟩ := RpL.setAt frp fr.nd j h3 ndf fun b m m' => djx b m (List.mem_cons_of_mem _ m')
          have na' : a ∉ fs' := fun m => (s' a m).elim na fun m' => djx a m' List.mem_cons_self
          have kne : Keep (fun b => b ≠ a) H1 (upd H1 a (.lst (xs.set j v))) := keep_ne (by rw [h1]; trivial)
          have := R1.mutate (H' := upd H1 a (.lst (xs.set j v))) (d' := .list (ds.set j d)) (fp' := a :: fs') ex wx eu
            (.lst upd_same (by rw [List.length_set]; exact h2) (RpL.keep kne _ _ _ r' fun b m e => by subst e; exact na' m)) (List.nodup_cons.mpr ⟨na', n'⟩)
            (fun b m => by
              rw [hfx]
              rcases List.mem_cons.mp m with m | m
              · rw [m]; exact .inl List.mem_cons_self
              · rcases s' b m with m | m
                · exact .inl (List.mem_cons_of_mem _ m)
                · exact .inr ⟨fr.nf b m, fun l c hl ec => fr.dj l c ec b m⟩)
            (kne.mono fun b hb e => by subst e; rw [hfx] at hb; exact hb List.mem_cons_self)
          exact q σ _ _ this.1 ((Keep.of_same s1).trans this.2)
      · cases e
    · cases e
  · simp [patS] at e
end
end PV

set_option Elab.async false
set_option linter.all false
set_option maxRecDepth 100000
set_option maxHeartbeats 1000000
namespace PV
open PySem PySem.Spec PyProof.Rows L2

/-! ### statements -/
inductive Out where
  | nx (ρ : Rh)
  | rt (d : D) (ρ : Rh)
  | bk (ρ : Rh)
  | ct (ρ : Rh)
  | no
def Good (X : Cx) (F : Fm) (L : Nat → Option V) (H : Hp) (o : Out) (D : Ends) : Prop := match o with
  | .nx ρ => ∀ σ' H' f', Rho X.K F L ρ σ' H' f' → Keep F.all H H' → D.nx σ' H'
  | .rt d ρ => ∀ v σ' H' f' fp, Rho X.K F L ρ σ' H' f' → Fresh X.K F ρ f' v d fp H' → Keep F.all H H' → D.rt v H'
  | .bk ρ => ∀ σ' H' f', Rho X.K F L ρ σ' H' f' → Keep F.all H H' → D.bk σ' H'
  | .ct ρ => ∀ σ' H' f', Rho X.K F L ρ σ' H' f' → Keep F.all H H' → D.ct σ' H'
  | .no => False
theorem Good.keep {X : Cx} {F : Fm} {L : Nat → Option V} {H H' : Hp} {o : Out} {D : Ends} (g : Good X F L H o D) (k : Keep F.all H H') : Good X F L H' o D := by
  cases o with
  | nx ρ => exact fun σ' H2 f' R k2 => g σ' H2 f' R (k.trans k2)
  | rt d ρ => exact fun v σ' H2 f' fp R fr k2 => g v σ' H2 f' fp R fr (k.trans k2)
  | bk ρ => exact fun σ' H2 f' R k2 => g σ' H2 f' R (k.trans k2)
  | ct ρ => exact fun σ' H2 f' R k2 => g σ' H2 f' R (k.trans k2)
  | no => exact g
def SS (X : Cx) (st : Stmt) (f : Rh → Out) : Prop := ∃ t : TS, PS X st t ∧
  ∀ (F : Fm) (L : Nat → Option V) (ρ : Rh) (σ : L2.St) (H : Hp) (fo : Nat → List Addr) (D : Ends), Rho X.K F L ρ σ H fo → Good X F L H (f ρ) D → t D σ H
def BS (X : Cx) (st : List Stmt) (f : Rh → Out) : Prop := ∃ t : TS, PSs X st t ∧
  ∀ (F : Fm) (L : Nat → Option V) (ρ : Rh) (σ : L2.St) (H : Hp) (fo : Nat → List Addr) (D : Ends), Rho X.K F L ρ σ H fo → Good X F L H (f ρ) D → t D σ H
def sNil : Rh → Out := .nx
def sSeq (f g : Rh → Out) : Rh → Out := fun ρ => match f ρ with
  | .nx ρ' => g ρ'
  | o => o
section
variable {X : Cx} {pos : Pos}
theorem bs_nil : BS X [] sNil := ⟨_, pss_nil, fun F L ρ σ H fo D R g => g σ H fo R Keep.refl⟩
theorem bs_cons {st : Stmt} {rest : List Stmt} {f g : Rh → Out} (h : SS X st f) (hs : BS X rest g) : BS X (st :: rest) (sSeq f g) := by
  obtain ⟨t, pe, hq⟩ := h
  obtain ⟨t2, pe2, hq2⟩ := hs
  refine ⟨_, pss_cons pe pe2, fun F L ρ σ H fo D R gd => hq F L ρ σ H fo _ R ?_⟩
  unfold sSeq at gd
  cases e : f ρ with
  | nx ρ' =>
    rw [e] at gd
    exact fun σ' H' f' R' k => hq2 F L ρ' σ' H' f' D R' (gd.keep k)
  | rt d ρ' => rw [e] at gd; exact gd
  | bk ρ' => rw [e] at gd; exact gd
  | ct ρ' => rw [e] at gd; exact gd
  | no => rw [e] at gd; exact gd
theorem bs_one {st : Stmt} {f : Rh → Out} (h : SS X st f) : BS X [st] f := let ⟨t, pe, hq⟩ := h; ⟨t, pss_one pe, hq⟩
theorem ss_pass : SS X (.Pass pos) sNil := ⟨_, ps_pass, fun F L ρ σ H fo D R g => g σ H fo R Keep.refl⟩
theorem ss_break : SS X (.Break pos) .bk := ⟨_, ps_break, fun F L ρ σ H fo D R g => g σ H fo R Keep.refl⟩
theorem ss_continue : SS X (.Continue pos) .ct := ⟨_, ps_continue, fun F L ρ σ H fo D R g => g σ H fo R Keep.refl⟩
/-- target = value -/
def sSet (p : Pat) (g : Rh → Option (D × Rh)) : Rh → Out := fun ρ => match g ρ with
  | some (d, ρ1) => match patS .own p d ρ1 with
    | some ρ2 => .nx ρ2
    | none => .no
  | none => .no
theorem ss_asg {st : Stmt} {e tg : Expr} {p : Pat} {g : Rh → Option (D × Rh)} (ps : ∀ {te : TE} {gg : TG}, PE X e te → PG X tg gg → PS X st (tAsg te gg)) (he : EV X e g) (hp : PatOk X tg p) : SS X st (sSet p g) := by
  obtain ⟨t, pe, hq⟩ := he
  obtain ⟨gg, pg, qo, _⟩ := hp
  refine ⟨_, ps pe pg, fun F L ρ σ H fo D R gd => ?_⟩
  unfold sSet at gd
  cases e : g ρ with
  | none => rw [e] at gd; exact gd.elim
  | some dr =>
    obtain ⟨d, ρ1⟩ := dr
    rw [e] at gd
    simp only at gd
    cases e2 : patS .own p d ρ1 with
    | none => rw [e2] at gd; exact gd.elim
    | some ρ2 =>
      rw [e2] at gd
      exact hq F L ρ σ H fo d ρ1 _ R e fun v H1 f1 fp R1 fr k => qo F L ρ1 σ H1 f1 v d fp ρ2 _ R1 fr e2 fun σ2 H2 f2 R2 k2 => gd σ2 H2 f2 R2 (k.trans k2)
/-- a, b = x, y of names -/
def sPar (i j : Nat) (g : Rh → Option (List D × Rh)) : Rh → Out := fun ρ => match g ρ with
  | some ([d, d'], ρ1) => match setS i ⟨d, .own⟩ ρ1 with
    | some ρ2 => match setS j ⟨d', .own⟩ ρ2 with
      | some ρ3 => .nx ρ3
      | none => .no
    | none => .no
  | _ => .no
theorem ss_par {st : Stmt} {es : List Expr} {i j : Nat} {g : Rh → Option (List D × Rh)} (ps : ∀ {ta : TA}, PA X es ta → PS X st (tPar i j ta)) (he : AV X es g) : SS X st (sPar i j g) := by
  obtain ⟨t, pe, hq⟩ := he
  refine ⟨_, ps pe, fun F L ρ σ H fo D R gd => ?_⟩
  unfold sPar at gd
  split at gd
  · rename_i d d' ρ1 e
    split at gd
    · rename_i ρ2 e2
      split at gd
      · rename_i ρ3 e3
        refine hq F L ρ σ H fo _ ρ1 _ R e fun vs H1 f1 fp R1 fr k => ?_
        have r := fr.rp
        cases r with
        | cons r1 r =>
          cases r with
          | cons r2 r =>
            cases r
            rename_i v1 w1 v2 w2
            have nd := fr.nd
            have nf := fr.nf
            have dj := fr.dj
            rw [List.append_nil] at nd nf dj
            obtain ⟨nd1, nd2, nd3⟩ := List.nodup_append.mp nd
            refine ⟨v1, v2, rfl, ?_⟩
            have fr1 : Fresh X.K F ρ1 f1 v1 d w1 H1 := ⟨r1, nd1, fun a m => nf a (List.mem_append_left _ m), fun l c ec a m => dj l c ec a (List.mem_append_left _ m)⟩
            have R2 := R1.setOwn fr1 e2
            have fr2 : Fresh X.K F ρ2 (fun l => if l = i then w1 else f1 l) v2 d' w2 H1 := ⟨r2, nd2, fun a m => nf a (List.mem_append_right _ m), fun l c ec a m m' => by
              by_cases hl : l = i
              · rw [if_pos hl] at m'; exact nd3 a m' a m rfl
              · rw [if_neg hl] at m'
                obtain ⟨rfl, _, _⟩ := setS_some e2
                rw [get_set_ne hl] at ec
                exact dj l c ec a (List.mem_append_right _ m) m'⟩
            exact gd _ H1 _ (R2.setOwn fr2 e3) k
      · exact gd.elim
    · exact gd.elim
  · exact gd.elim
/-- an expression alone -/
def sDrop (g : Rh → Option (D × Rh)) : Rh → Out := fun ρ => match g ρ with
  | some (_, ρ1) => .nx ρ1
  | none => .no
theorem ss_expr {e : Expr} {g : Rh → Option (D × Rh)} (he : EV X e g) (hs : swapsWith e none pos.line X.env = pure false := by rfl) : SS X (.Expr e pos) (sDrop g) := by
  obtain ⟨t, pe, hq⟩ := he
  refine ⟨_, ps_expr pe hs, fun F L ρ σ H fo D R gd => ?_⟩
  unfold sDrop at gd
  split at gd
  · rename_i d ρ1 e
    exact hq F L ρ σ H fo _ ρ1 _ R e fun v H1 f1 fp R1 fr k => gd σ H1 f1 R1 k
  · exact gd.elim
def sRet (g : Rh → Option (D × Rh)) : Rh → Out := fun ρ => match g ρ with
  | some (d, ρ1) => .rt d ρ1
  | none => .no
theorem ss_ret {e : Expr} {g : Rh → Option (D × Rh)} (he : EV X e g) : SS X (.Return (some e) pos) (sRet g) := by
  obtain ⟨t, pe, hq⟩ := he
  refine ⟨_, ps_ret pe, fun F L ρ σ H fo D R gd => ?_⟩
  unfold sRet at gd
  split at gd
  · rename_i d ρ1 e
    exact hq F L ρ σ H fo _ ρ1 _ R e fun v H1 f1 fp R1 fr k => gd v σ H1 f1 fp R1 fr k
  · exact gd.elim
/-- a name given up: its own list goes -/
def mvS (i : Nat) (ρ : Rh) : Option (D × Rh) := match ρ[i]? with
  | some (some ⟨d, o⟩) => if pureD d = true then some (d, ρ) else match o with
    | .own => some (d, ρ.set i none)
    | _ => none
  | _ => none
theorem ev_mv {e : Expr} {i : Nat} (p : PE X e (tVar i)) : EV X e (mvS i) := by
  refine ⟨_, p, fun F L ρ σ H f d ρ' Q R h q => ?_⟩
  unfold mvS at h
  split at h
  · rename_i d0 o0 e0
    obtain ⟨v, ev, r⟩ := R.rp i _ e0
    split at h
    · rename_i hp
      cases h
      have hf := Rp.pure d v _ r hp
      simp only at r
      rw [hf] at r
      exact ⟨v, ev, q v H f [] R ⟨r, List.nodup_nil, fun a m => (nomatch m), fun _ _ _ a m => (nomatch m)⟩ Keep.refl⟩
    · split at h
      · cases h
        obtain ⟨nd, nf⟩ := R.nd i _ e0 rfl
        refine ⟨v, ev, q v H f (f i) (R.drop fun c e => by rw [e0] at e; cases e; exact fun z => nomatch z) ⟨r, nd, fun a m z => z.elim (nf a m) (R.pv i _ e0 a m), fun j c ec a m => ?_⟩ Keep.refl⟩
        by_cases hj : j = i
        · subst hj
          have hi : j < ρ.length := (List.getElem?_eq_some_iff.mp e0).1
          rw [get_set_eq hi] at ec; cases ec
        · rw [get_set_ne hj] at ec
          exact R.dj i j _ c (Ne.symm hj) e0 rfl ec a m
      · cases h
  · cases h
def sIf (t : Rh → Option (Bool × Rh)) (f g : Rh → Out) : Rh → Out := fun ρ => match t ρ with
  | some (true, ρ1) => f ρ1
  | some (false, ρ1) => g ρ1
  | none => .no
theorem ss_if {c : Expr} {a b : List Stmt} {t : Rh → Option (Bool × Rh)} {f g : Rh → Out} (hc : TV X c t) (ha : BS X a f) (hb : BS X b g) : SS X (.If c a b pos) (sIf t f g) := by
  obtain ⟨tt, pe, hq⟩ := hc
  obtain ⟨t1, p1, q1⟩ := ha
  obtain ⟨t2, p2, q2⟩ := hb
  refine ⟨_, ps_if pe p1 p2, fun F L ρ σ H fo D R gd => ?_⟩
  unfold sIf at gd
  split at gd
  · rename_i ρ1 e
    exact hq F L ρ σ H fo true ρ1 _ R e fun H1 f1 R1 k => by
      rw [if_pos rfl]; exact q1 F L ρ1 σ H1 f1 D R1 (gd.keep k)
  · rename_i ρ1 e
    exact hq F L ρ σ H fo false ρ1 _ R e fun H1 f1 R1 k => by
      rw [if_neg Bool.false_ne_true]; exact q2 F L ρ1 σ H1 f1 D R1 (gd.keep k)
  · exact gd.elim

/-! ### while -/
def wh (c : Rh → Option (Bool × Rh)) (b : Rh → Out) : Nat → Rh → Option Out
  | 0, _ => none
  | n + 1, ρ => match c ρ with
    | none => some .no
    | some (false, ρ1) => some (.nx ρ1)
    | some (true, ρ1) => match b ρ1 with
      | .nx ρ2 => wh c b n ρ2
      | .ct ρ2 => wh c b n ρ2
      | .bk ρ2 => some (.nx ρ2)
      | .rt d ρ2 => some (.rt d ρ2)
      | .no => some .no
theorem wh_mono {c : Rh → Option (Bool × Rh)} {b : Rh → Out} : ∀ {n m : Nat} {ρ : Rh} {o : Out}, wh c b n ρ = some o → n ≤ m → wh c b m ρ = some o
  | 0, _, _, _, h, _ => by cases h
  | n + 1, 0, _, _, _, h => by omega
  | n + 1, m + 1, ρ, o, h, hm => by
    unfold wh at h ⊢
    split at h
    · exact h
    · exact h
    · split at h
      · exact wh_mono h (by omega)
      · exact wh_mono h (by omega)
      · exact h
      · exact h
      · exact h
open Classical in
noncomputable def sWhile (c : Rh → Option (Bool × Rh)) (b : Rh → Out) : Rh → Out := fun ρ =>
  if h : ∃ n o, wh c b n ρ = some o then Classical.choose (Classical.choose_spec h) else .no
theorem sWhile_of {c : Rh → Option (Bool × Rh)} {b : Rh → Out} {n : Nat} {ρ : Rh} {o : Out} (h : wh c b n ρ = some o) : sWhile c b ρ = o := by
  have hx : ∃ n o, wh c b n ρ = some o := ⟨n, o, h⟩
  unfold sWhile
  rw [dif_pos hx]
  have h2 := Classical.choose_spec (Classical.choose_spec hx)
  have a := wh_mono h (Nat.le_max_left n (Classical.choose hx))
  have b' := wh_mono h2 (Nat.le_max_right n (Classical.choose hx))
  rw [a] at b'
  exact (Option.some.inj b').symm
/-- a turn -/
theorem sWhile_eq (c : Rh → Option (Bool × Rh)) (b : Rh → Out) (ρ : Rh) : sWhile c b ρ = match c ρ with
    | none => .no
    | some (false, ρ1) => .nx ρ1
    | some (true, ρ1) => match b ρ1 with
      | .nx ρ2 => sWhile c b ρ2
      | .ct ρ2 => sWhile c b ρ2
      | .bk ρ2 => .nx ρ2
      | .rt d ρ2 => .rt d ρ2
      | .no => .no := by
  have un : ∀ n, wh c b (n + 1) ρ = match c ρ with
    | none => some .no
    | some (false, ρ1) => some (.nx ρ1)
    | some (true, ρ1) => match b ρ1 with
      | .nx ρ2 => wh c b n ρ2
      | .ct ρ2 => wh c b n ρ2
      | .bk ρ2 => some (.nx ρ2)
      | .rt d ρ2 => some (.rt d ρ2)
      | .no => some .no := fun n => rfl
  have go : ∀ ρ2, (∀ n, wh c b (n + 1) ρ = wh c b n ρ2) → sWhile c b ρ = sWhile c b ρ2 := fun ρ2 h => by
    by_cases hx : ∃ n o, wh c b n ρ2 = some o
    · obtain ⟨n, o, e⟩ := hx
      rw [sWhile_of e, sWhile_of ((h n).trans e)]
    · have hy : ¬ ∃ n o, wh c b n ρ = some o := fun ⟨n, o, e⟩ => by
        cases n with
        | zero => cases e
        | succ n => exact hx ⟨n, o, (h n).symm.trans e⟩
      unfold sWhile
      rw [dif_neg hx, dif_neg hy]
  split
  · rename_i e; exact sWhile_of (n := 1) (by rw [un 0, e])
  · rename_i ρ1 e; exact sWhile_of (n := 1) (by rw [un 0, e])
  · rename_i ρ1 e
    split
    · rename_i ρ2 e2; exact go ρ2 fun n => by rw [un n, e]; simp only [e2]
    · rename_i ρ2 e2; exact go ρ2 fun n => by rw [un n, e]; simp only [e2]
    · rename_i ρ2 e2; exact sWhile_of (n := 1) (by rw [un 0, e]; simp only [e2])
    · rename_i d ρ2 e2; exact sWhile_of (n := 1) (by rw [un 0, e]; simp only [e2])
    · rename_i e2; exact sWhile_of (n := 1) (by rw [un 0, e]; simp only [e2])
theorem ss_while {c : Expr} {body : List Stmt} {t : Rh → Option (Bool × Rh)} {f : Rh → Out} (hp : PassesOwn (model X.prog X.w) X.A X.env X.xe) (hc : TV X c t) (hb : BS X body f) : SS X (.While c body [] pos) (sWhile t f) := by
  obtain ⟨tt, pe, hq⟩ := hc
  obtain ⟨t1, p1, q1⟩ := hb
  refine ⟨_, ps_while hp pe p1, fun F L ρ σ H fo D R gd => ?_⟩
  by_cases hx : ∃ n o, wh t f n ρ = some o
  · obtain ⟨n, o, hn⟩ := hx
    rw [sWhile_of hn] at gd
    refine ⟨fun m σ' H' => ∃ ρ' f', Rho X.K F L ρ' σ' H' f' ∧ wh t f m ρ' = some o ∧ Keep F.all H H', ⟨n, ρ, fo, R, hn, Keep.refl⟩, ?_⟩
    rintro m σ1 H1 ⟨ρ1, f1, R1, hm, k1⟩
    cases m with
    | zero => cases hm
    | succ m =>
      unfold wh at hm
      split at hm
      · cases hm; exact gd.elim
      · rename_i ρ2 e
        cases hm
        exact hq F L ρ1 σ1 H1 f1 false ρ2 _ R1 e fun H2 f2 R2 k2 => by
          rw [if_neg Bool.false_ne_true]; exact gd σ1 H2 f2 R2 (k1.trans k2)
      · rename_i ρ2 e
        refine hq F L ρ1 σ1 H1 f1 true ρ2 _ R1 e fun H2 f2 R2 k2 => ?_
        rw [if_pos rfl]
        refine ⟨fun σ3 H3 => ∃ ρ3 f3, Rho X.K F L ρ3 σ3 H3 f3 ∧ wh t f m ρ3 = some o ∧ Keep F.all H H3, fun σ3 H3 q => ⟨m, Nat.lt_succ_self m, q⟩, ?_⟩
        refine q1 F L ρ2 σ1 H2 f2 _ R2 ?_
        have k12 := k1.trans k2
        split at hm
        · rename_i ρ3 e3
          rw [e3]
          exact fun σ3 H3 f3 R3 k3 => ⟨ρ3, f3, R3, hm, k12.trans k3⟩
        · rename_i ρ3 e3
          rw [e3]
          exact fun σ3 H3 f3 R3 k3 => ⟨ρ3, f3, R3, hm, k12.trans k3⟩
        · rename_i ρ3 e3
          rw [e3]
          cases hm
          exact fun σ3 H3 f3 R3 k3 => gd σ3 H3 f3 R3 (k12.trans k3)
        · rename_i d ρ3 e3
          rw [e3]
          cases hm
          exact fun v σ3 H3 f3 fp R3 fr k3 => gd v σ3 H3 f3 fp R3 fr (k12.trans k3)
        · cases hm; exact gd.elim
  · unfold sWhile at gd
    rw [dif_neg hx] at gd
    exact gd.elim
end
end PV

set_option Elab.async false
set_option linter.all false
set_option maxRecDepth 100000
set_option maxHeartbeats 1000000
namespace PV
open PySem PySem.Spec PyProof.Rows L2

/-! ### what is walked -/
/-- slots as they are read, the addresses told -/
structure RhF (K : PySem.W.Frag) (ρ : Rh) (σ : L2.St) (H : Hp) (f : Nat → List Addr) : Prop where
  len : σ.length = ρ.length
  rp : ∀ (i : Nat) (c : Cl), ρ[i]? = some (some c) → ∃ v, σ[i]? = some (some v) ∧ Rp K H v c.d (f i)
theorem RhF.rd {K : PySem.W.Frag} {ρ : Rh} {σ : L2.St} {H : Hp} {f : Nat → List Addr} (R : RhF K ρ σ H f) : RhR K ρ σ H := ⟨R.len, fun i c e => let ⟨v, e1, r⟩ := R.rp i c e; ⟨v, _, e1, r⟩⟩
theorem RhF.same {K : PySem.W.Frag} {ρ : Rh} {σ : L2.St} {H H' : Hp} {f : Nat → List Addr} (R : RhF K ρ σ H f) (s : Same H H') : RhF K ρ σ H' f := ⟨R.len, fun i c e => let ⟨v, e1, r⟩ := R.rp i c e; ⟨v, e1, r.same s⟩⟩
theorem Rho.rf {K : PySem.W.Frag} {F : Fm} {L : Nat → Option V} {ρ : Rh} {σ : L2.St} {H : Hp} {f : Nat → List Addr} (R : Rho K F L ρ σ H f) : RhF K ρ σ H f := ⟨R.len, R.rp⟩
open Classical in
theorem RhR.rf {K : PySem.W.Frag} {ρ : Rh} {σ : L2.St} {H : Hp} (R : RhR K ρ σ H) : ∃ f, RhF K ρ σ H f := by
  refine ⟨fun i => if h : ∃ v fp c, ρ[i]? = some (some c) ∧ σ[i]? = some (some v) ∧ Rp K H v c.d fp then Classical.choose (Classical.choose_spec h) else [], R.len, fun i c e => ?_⟩
  obtain ⟨v, fp, e1, r⟩ := R.rp i c e
  have h : ∃ v fp c, ρ[i]? = some (some c) ∧ σ[i]? = some (some v) ∧ Rp K H v c.d fp := ⟨v, fp, c, e, e1, r⟩
  obtain ⟨c', e', e1', r'⟩ := Classical.choose_spec (Classical.choose_spec h)
  rw [e] at e'; cases e'
  exact ⟨_, e1', by rw [dif_pos h]; exact r'⟩
/-- the state of a walk at its start: n items, S what has to stay, fps what is below each item -/
structure WkOk (K : PySem.W.Frag) (H1 : Hp) (J : It) (ds : List D) (S : List Addr) : Prop where
  wk : ∃ (G : Hp → Prop) (Y : Nat → Hp → V → Hp → Prop), Walk J ds.length G Y ∧ G H1 ∧ (∀ H2, Keep (fun a => a ∈ S) H1 H2 → G H2) ∧
    ∀ i H2 x H3, i < ds.length → Keep (fun a => a ∈ S) H1 H2 → Y i H2 x H3 → Same H2 H3 ∧ ∃ d fp, ds[i]? = some d ∧ Rp K H3 x d fp ∧ ∀ a ∈ fp, a ∈ S
  dom : ∀ a ∈ S, H1 a ≠ none
def IP (X : Cx) (tg iter : Expr) (bs : List Nat) (h : Rh → Option (List D)) : Prop := ∃ wi : TI, PI X tg iter wi ∧
  ∀ (ρ : Rh) (σ : L2.St) (H : Hp) (f : Nat → List Addr) (ds : List D) (R : It → Hp → Prop), RhF X.K ρ σ H f → h ρ = some ds →
    (∀ J H1 S, Same H H1 → WkOk X.K H1 J ds S → (∀ a ∈ S, H a = none ∨ ∃ i ∈ bs, ∃ c, ρ[i]? = some (some c) ∧ a ∈ f i) → R J H1) → wi σ H R
def IV (X : Cx) (tg iter : Expr) (bs : List Nat) (g : Rh → Option (List D × Rh)) : Prop := ∃ wi : TI, PI X tg iter wi ∧
  ∀ (F : Fm) (L : Nat → Option V) (ρ : Rh) (σ : L2.St) (H : Hp) (f : Nat → List Addr) (ds : List D) (ρ' : Rh) (R : It → Hp → Prop), Rho X.K F L ρ σ H f → g ρ = some (ds, ρ') →
    (∀ J H1 f1 S, Rho X.K F L ρ' σ H1 f1 → Keep F.all H H1 → WkOk X.K H1 J ds S → (∀ a ∈ S, ¬ F.P a ∧ ((∀ i c, ρ'[i]? = some (some c) → a ∉ f1 i) ∨ ∃ i ∈ bs, ∃ c, ρ'[i]? = some (some c) ∧ a ∈ f1 i)) → R J H1) → wi σ H R
theorem IV.of {X : Cx} {tg iter : Expr} {bs : List Nat} {h : Rh → Option (List D)} (p : IP X tg iter bs h) : IV X tg iter bs (lift h) := by
  obtain ⟨wi, pi, hq⟩ := p
  refine ⟨wi, pi, fun F L ρ σ H f ds ρ' R Ro g q => ?_⟩
  obtain ⟨hd, rfl⟩ := lift_some g
  refine hq ρ σ H f ds R Ro.rf hd fun J H1 S s w hS => q J H1 f S (Ro.same s) (Keep.of_same s) w fun a m => ?_
  rcases hS a m with z | ⟨i, hi, c, e, m'⟩
  · exact ⟨fun hp => Ro.fok a (.inr hp) z, .inl fun i c e m' => Ro.domf e m' z⟩
  · exact ⟨Ro.pv i c e a m', .inr ⟨i, hi, c, e, m'⟩⟩

/-- slots that are walked become readable alone -/
def demS : List Nat → Rh → Option Rh
  | [], ρ => some ρ
  | i :: is, ρ => match ρ[i]? with
    | some (some ⟨_, .ro⟩) => demS is ρ
    | some (some ⟨d, .own⟩) => demS is (ρ.set i (some ⟨d, .ro⟩))
    | _ => none
section
variable {K : PySem.W.Frag} {F : Fm} {L : Nat → Option V} {ρ ρ' : Rh} {σ : L2.St} {H H' : Hp} {f : Nat → List Addr}
/-- one slot becomes readable alone -/
theorem Rho.dem1 (R : Rho K F L ρ σ H f) {i : Nat} {d : D} (e : ρ[i]? = some (some ⟨d, .own⟩)) : Rho K F L (ρ.set i (some ⟨d, .ro⟩)) σ H f := by
  have hi : i < ρ.length := (List.getElem?_eq_some_iff.mp e).1
  have gj : ∀ (j : Nat) (c : Cl), (ρ.set i (some ⟨d, .ro⟩))[j]? = some (some c) → ∃ c' : Cl, ρ[j]? = some (some c') ∧ c'.d = c.d ∧ (c.o.w = true → c'.o.w = true) := fun j c h => by
    by_cases hj : j = i
    · subst hj
      rw [get_set_eq hi] at h; cases h
      exact ⟨_, e, rfl, fun z => rfl⟩
    · rw [get_set_ne hj] at h; exact ⟨c, h, rfl, id⟩
  refine ⟨by rw [List.length_set]; exact R.len, R.fok, fun j c h => ?_, fun j c h w => ?_, fun j c h => ?_, fun j k c c' hjk h w h' => ?_, fun j u h => ?_⟩
  · obtain ⟨c', e1, e2, _⟩ := gj j c h
    rw [← e2]; exact R.rp j c' e1
  · obtain ⟨c', e1, e2, e3⟩ := gj j c h
    exact R.nd j c' e1 (e3 w)
  · obtain ⟨c', e1, e2, e3⟩ := gj j c h
    exact R.pv j c' e1
  · obtain ⟨c1, e1, _, e3⟩ := gj j c h
    obtain ⟨c2, e4, _, _⟩ := gj k c' h'
    exact R.dj j k c1 c2 hjk e1 (e3 w) e4
  · obtain ⟨e1, c, e2, e3⟩ := R.pin j u h
    have hj : j ≠ i := fun z => by subst z; rw [e] at e2; cases e2; cases e3
    exact ⟨e1, c, by rw [get_set_ne hj]; exact e2, e3⟩
theorem Rho.dem : ∀ {bs : List Nat} {ρ : Rh}, Rho K F L ρ σ H f → demS bs ρ = some ρ' → Rho K F L ρ' σ H f
  | [], ρ, R, h => by cases h; exact R
  | i :: is, ρ, R, h => by
    unfold demS at h
    split at h
    · exact Rho.dem R h
    · rename_i e; exact Rho.dem (R.dem1 e) h
    · cases h
/-- behind demS: what is below a walked slot belongs to no slot that is written -/
theorem demS_w : ∀ {bs : List Nat} {ρ ρ' : Rh}, demS bs ρ = some ρ' → (∀ (j : Nat) (c : Cl), ρ'[j]? = some (some c) → ∃ c', ρ[j]? = some (some c') ∧ (c.o.w = true → c'.o.w = true ∧ j ∉ bs))
  | [], ρ, ρ', h, j, c, e => by cases h; exact ⟨c, e, fun w => ⟨w, fun m => nomatch m⟩⟩
  | i :: is, ρ, ρ', h, j, c, e => by
    unfold demS at h
    split at h
    · rename_i d e0
      obtain ⟨c', e1, q⟩ := demS_w h j c e
      refine ⟨c', e1, fun w => ⟨(q w).1, fun m => ?_⟩⟩
      rcases List.mem_cons.mp m with m | m
      · subst m
        rw [e0] at e1; cases e1
        have z := (q w).1
        cases z
      · exact (q w).2 m
    · rename_i d e0
      have hi : i < ρ.length := (List.getElem?_eq_some_iff.mp e0).1
      obtain ⟨c', e1, q⟩ := demS_w h j c e
      by_cases hj : j = i
      · subst hj
        rw [get_set_eq hi] at e1; cases e1
        exact ⟨_, e0, fun w => by have z := (q w).1; cases z⟩
      · rw [get_set_ne hj] at e1
        refine ⟨c', e1, fun w => ⟨(q w).1, fun m => ?_⟩⟩
        rcases List.mem_cons.mp m with m | m
        · exact hj m
        · exact (q w).2 m
    · cases h
theorem demS_known : ∀ {bs : List Nat} {ρ ρ' : Rh}, demS bs ρ = some ρ' → ∀ i ∈ bs, ∃ c, ρ[i]? = some (some c)
  | [], _, _, _, i, m => nomatch m
  | b :: bs, ρ, ρ', h, i, m => by
    unfold demS at h
    split at h
    · rename_i d e0
      rcases List.mem_cons.mp m with m | m
      · subst m; exact ⟨_, e0⟩
      · exact demS_known h i m
    · rename_i d e0
      rcases List.mem_cons.mp m with m | m
      · subst m; exact ⟨_, e0⟩
      · obtain ⟨c, e⟩ := demS_known h i m
        by_cases hi : i = b
        · subst hi; exact ⟨_, e0⟩
        · rw [get_set_ne hi] at e; exact ⟨c, e⟩
    · cases h
/-- the frame of a loop -/
theorem Rho.loop {bs : List Nat} {S : List Addr} (R : Rho K F L ρ σ H f) (e : demS bs ρ = some ρ') (dm : ∀ a ∈ S, H a ≠ none) (hS : ∀ a ∈ S, (∀ i c, ρ[i]? = some (some c) → a ∉ f i) ∨ ∃ i ∈ bs, ∃ c, ρ[i]? = some (some c) ∧ a ∈ f i) :
    Rho K (F.also (fun a => a ∈ S)) L ρ' σ H f := by
  have R' := R.dem e
  refine ⟨R'.len, fun a h => h.elim (fun z => z.elim (fun z => R.fok a (.inl z)) (dm a)) fun z => R.fok a (.inr z), R'.rp, fun j c h w => ⟨(R'.nd j c h w).1, fun a m z => ?_⟩, R'.pv, R'.dj, R'.pin⟩
  rcases z with z | z
  · exact (R'.nd j c h w).2 a m z
  · obtain ⟨c', e1, q⟩ := demS_w e j c h
    obtain ⟨w', nb⟩ := q w
    rcases hS a z with z | ⟨i, hi, ci, ei, mi⟩
    · exact z j c' e1 m
    · have hij : j ≠ i := fun z => nb (by rw [z]; exact hi)
      exact R.dj j i c' ci hij e1 w' ei a m mi
end

/-! ### for -/
def forS (p : Pat) (b : Rh → Out) : List D → Rh → Out
  | [], ρ => .nx ρ
  | d :: ds, ρ => match patS .ro p d ρ with
    | none => .no
    | some ρ1 => match b ρ1 with
      | .nx ρ2 => forS p b ds ρ2
      | .ct ρ2 => forS p b ds ρ2
      | .bk ρ2 => .nx ρ2
      | .rt d ρ2 => .rt d ρ2
      | .no => .no
def sFor (bs : List Nat) (p : Pat) (g : Rh → Option (List D × Rh)) (b : Rh → Out) : Rh → Out := fun ρ => match g ρ with
  | none => .no
  | some (ds, ρ1) => match demS bs ρ1 with
    | none => .no
    | some ρ2 => forS p b ds ρ2
section
variable {X : Cx} {pos : Pos}
theorem Good.unalso {F : Fm} {S : Addr → Prop} {L : Nat → Option V} {H : Hp} {o : Out} {D : Ends} (g : Good X F L H o D) : Good X (F.also S) L H o D := by
  cases o with
  | nx ρ => exact fun σ' H2 f' R k2 => g σ' H2 f' R.unalso k2.unalso
  | rt d ρ => exact fun v σ' H2 f' fp R fr k2 => g v σ' H2 f' fp R.unalso ⟨fr.rp, fr.nd, fun a m z => fr.nf a m (Fm.all_also z), fr.dj⟩ k2.unalso
  | bk ρ => exact fun σ' H2 f' R k2 => g σ' H2 f' R.unalso k2.unalso
  | ct ρ => exact fun σ' H2 f' R k2 => g σ' H2 f' R.unalso k2.unalso
  | no => exact g
theorem ss_for {tg iter : Expr} {body : List Stmt} {bs : List Nat} {p : Pat} {g : Rh → Option (List D × Rh)} {b : Rh → Out} (hp : PassesOwn (model X.prog X.w) X.A X.env X.xe) (hc : X.calm = true) (hi : IV X tg iter bs g) (ht : PatOk X tg p) (hb : BS X body b)
    (hs : ∀ x, foldedSetIterable iter X.env x = pure x := by intro _; rfl) : SS X (.For tg iter body [] pos) (sFor bs p g b) := by
  obtain ⟨wi, pi, hiq⟩ := hi
  obtain ⟨gt, pg, _, hgq⟩ := ht
  obtain ⟨tb, pb, hbq⟩ := hb
  refine ⟨_, ps_for hp hc pi pg pb hs, fun F L ρ σ H fo D R gd => ?_⟩
  unfold sFor at gd
  split at gd
  · exact gd.elim
  · rename_i ds ρ1 e1
    split at gd
    · exact gd.elim
    · rename_i ρ2 e2
      refine hiq F L ρ σ H fo ds ρ1 _ R e1 fun J H1 f1 S R1 k1 w hS => ?_
      obtain ⟨⟨G, Y, wk, g0, gk, yk⟩, dm⟩ := w
      have R2 := R1.loop e2 dm fun a m => (hS a m).2
      -- the invariant: what is left to do leads to the same end
      refine for_it wk (fun i σ' H' => ∃ ρ' f', Rho X.K (F.also fun a => a ∈ S) L ρ' σ' H' f' ∧ Keep (F.also fun a => a ∈ S).all H1 H' ∧ Good X F L H (forS p b (ds.drop i) ρ') D) ⟨ρ2, f1, R2, Keep.refl, by rw [List.drop_zero]; exact gd⟩
        (fun i σ' H' hi q => ?_) (fun i x σ' H' H'' hi q y => ?_) (fun σ' H' q => ?_)
      · obtain ⟨ρ', f', R', k', _⟩ := q
        exact gk H' (k'.mono fun a m => .inl (.inr m))
      · obtain ⟨ρ', f', R', k', gd'⟩ := q
        obtain ⟨s, d, fp, ed, rd, hfp⟩ := yk i H' x H'' hi (k'.mono fun a m => .inl (.inr m)) y
        rw [List.drop_eq_getElem_cons hi] at gd'
        have ed' : ds[i] = d := by
          rw [List.getElem?_eq_getElem hi] at ed; exact Option.some.inj ed
        rw [ed'] at gd'
        unfold forS at gd'
        split at gd'
        · exact gd'.elim
        · rename_i ρ3 e3
          refine hgq (F.also fun a => a ∈ S) L ρ' σ' H'' f' x d fp ρ3 _ (R'.same s) rd (fun a m => ⟨.inr (hfp a m), (hS a (hfp a m)).1⟩) e3 fun σ3 f3 R3 => ?_
          refine hbq _ L ρ3 σ3 H'' f3 _ R3 ?_
          have kk : Keep (F.also fun a => a ∈ S).all H1 H'' := k'.trans (Keep.of_same s)
          have kH : Keep F.all H H'' := k1.trans kk.unalso
          split at gd'
          · rename_i ρ4 e4
            rw [e4]
            exact fun σ4 H4 f4 R4 k4 => ⟨ρ4, f4, R4, kk.trans k4, gd'⟩
          · rename_i ρ4 e4
            rw [e4]
            exact fun σ4 H4 f4 R4 k4 => ⟨ρ4, f4, R4, kk.trans k4, gd'⟩
          · rename_i ρ4 e4
            rw [e4]
            exact fun σ4 H4 f4 R4 k4 => gd' σ4 H4 f4 R4.unalso (kH.trans k4.unalso)
          · rename_i d4 ρ4 e4
            rw [e4]
            exact fun v σ4 H4 f4 fp4 R4 fr4 k4 => gd' v σ4 H4 f4 fp4 R4.unalso ⟨fr4.rp, fr4.nd, fun a m z => fr4.nf a m (Fm.all_also z), fr4.dj⟩ (kH.trans k4.unalso)
          · exact gd'.elim
      · obtain ⟨ρ', f', R', k', gd'⟩ := q
        rw [List.drop_length] at gd'
        exact gd' σ' H' f' R'.unalso (k1.trans k'.unalso)
end
end PV

set_option Elab.async false
set_option linter.all false
set_option maxRecDepth 100000
set_option maxHeartbeats 1000000
namespace PV
open PySem PySem.Spec PyProof.Rows L2

/-! ### readings that are the same in every context -/
def cE (K : PySem.W.Frag) (h : Rh → Option D) : TE := fun σ H Q => ∃ ρ d, RhR K ρ σ H ∧ h ρ = some d ∧ ∀ v H' fp, Same H H' → Rp K H' v d fp → (fp.Nodup ∧ ∀ a ∈ fp, H a = none) → Q v H'
theorem EP.canon {X : Cx} {e : Expr} {h : Rh → Option D} (p : EP true X e h) : PE X e (cE X.K h) := by
  obtain ⟨t, pe, hq⟩ := p
  exact ⟨fun pins s σ H Q I ⟨ρ, d, R, hd, q⟩ => pe.run pins s σ H Q I (hq ρ σ H d Q R hd fun v H' fp s r n => q v H' fp s r (n rfl))⟩
def cV (K : PySem.W.Frag) (g : Rh → Option (D × Rh)) : TE := fun σ H Q => ∃ F L ρ f d ρ', Rho K F L ρ σ H f ∧ g ρ = some (d, ρ') ∧ ∀ v H' f' fp, Rho K F L ρ' σ H' f' → Fresh K F ρ' f' v d fp H' → Keep F.all H H' → Q v H'
theorem EV.canon {X : Cx} {e : Expr} {g : Rh → Option (D × Rh)} (p : EV X e g) : PE X e (cV X.K g) := by
  obtain ⟨t, pe, hq⟩ := p
  exact ⟨fun pins s σ H Q I ⟨F, L, ρ, f, d, ρ', R, hd, q⟩ => pe.run pins s σ H Q I (hq F L ρ σ H f d ρ' Q R hd q)⟩
/-- the tests of a comprehension -/
def TPs (X : Cx) (ifs : List Expr) (h : Rh → Option Bool) : Prop :=
  ∃ t : TT, PTs X ifs t ∧ ∀ (ρ : Rh) (σ : L2.St) (H : Hp) (b : Bool) (Q : Bool → Hp → Prop), RhR X.K ρ σ H → h ρ = some b → (∀ H', Same H H' → Q b H') → t σ H Q
def TVs (X : Cx) (ifs : List Expr) (g : Rh → Option (Bool × Rh)) : Prop :=
  ∃ t : TT, PTs X ifs t ∧ ∀ (F : Fm) (L : Nat → Option V) (ρ : Rh) (σ : L2.St) (H : Hp) (f : Nat → List Addr) (b : Bool) (ρ' : Rh) (Q : Bool → Hp → Prop), Rho X.K F L ρ σ H f → g ρ = some (b, ρ') →
    (∀ H' f', Rho X.K F L ρ' σ H' f' → Keep F.all H H' → Q b H') → t σ H Q
def tAll : Rh → Option Bool := fun _ => some true
theorem tps_nil {X : Cx} : TPs X [] tAll := ⟨_, pts_nil, fun ρ σ H b Q R h q => by cases h; exact q H Same.refl⟩
theorem tps_one {X : Cx} {c : Expr} {h : Rh → Option Bool} (p : TP X c h) : TPs X [c] h := let ⟨t, pe, hq⟩ := p; ⟨t, pts_one pe, hq⟩
theorem tvs_one {X : Cx} {c : Expr} {h : Rh → Option (Bool × Rh)} (p : TV X c h) : TVs X [c] h := let ⟨t, pe, hq⟩ := p; ⟨t, pts_one pe, hq⟩
theorem TVs.of {X : Cx} {cs : List Expr} {h : Rh → Option Bool} (p : TPs X cs h) : TVs X cs (lift h) := by
  obtain ⟨t, pe, hq⟩ := p
  refine ⟨t, pe, fun F L ρ σ H f d ρ' Q R g q => ?_⟩
  obtain ⟨hd, rfl⟩ := lift_some g
  exact hq ρ σ H d Q R.rd hd fun H' s => q H' f (R.same s) (Keep.of_same s)
def cT (K : PySem.W.Frag) (h : Rh → Option Bool) : TT := fun σ H Q => ∃ ρ b, RhR K ρ σ H ∧ h ρ = some b ∧ ∀ H', Same H H' → Q b H'
theorem TPs.canon {X : Cx} {ifs : List Expr} {h : Rh → Option Bool} (p : TPs X ifs h) : PTs X ifs (cT X.K h) := by
  obtain ⟨t, pe, hq⟩ := p
  exact ⟨fun pins s σ H Q I ⟨ρ, b, R, hd, q⟩ => pe.run pins s σ H Q I (hq ρ σ H b Q R hd q)⟩
def cTV (K : PySem.W.Frag) (g : Rh → Option (Bool × Rh)) : TT := fun σ H Q => ∃ F L ρ f b ρ', Rho K F L ρ σ H f ∧ g ρ = some (b, ρ') ∧ ∀ H' f', Rho K F L ρ' σ H' f' → Keep F.all H H' → Q b H'
theorem TVs.canon {X : Cx} {ifs : List Expr} {g : Rh → Option (Bool × Rh)} (p : TVs X ifs g) : PTs X ifs (cTV X.K g) := by
  obtain ⟨t, pe, hq⟩ := p
  exact ⟨fun pins s σ H Q I ⟨F, L, ρ, f, d, ρ', R, hd, q⟩ => pe.run pins s σ H Q I (hq F L ρ σ H f d ρ' Q R hd q)⟩

/-! ### targets of comprehensions -/
mutual
def Pat.slots : Pat → List Nat
  | .nm i => [i]
  | .tp ps => slotsL ps
  | .ix _ _ => []
  | .ix2 _ _ _ => []
def slotsL : List Pat → List Nat
  | [] => []
  | p :: ps => p.slots ++ slotsL ps
end
/-- outside of vs all is as it was -/
def Out1 (vs : List Nat) (σ σ' : L2.St) : Prop := σ'.length = σ.length ∧ ∀ j, j ∉ vs → σ'[j]? = σ[j]?
theorem Out1.trans {vs : List Nat} {a b c : L2.St} (h : Out1 vs a b) (k : Out1 vs b c) : Out1 vs a c := ⟨k.1.trans h.1, fun j hj => (k.2 j hj).trans (h.2 j hj)⟩
/-- both uses of a target: read alone; with effects around -/
def PatC (X : Cx) (tg : Expr) (p : Pat) (vs : List Nat) : Prop := (∃ g : TG, PG X tg g ∧
    ∀ (ρ : Rh) (σ : L2.St) (H : Hp) (v : V) (d : D) (fp : List Addr) (ρ' : Rh) (Q : L2.St → Hp → Prop), RhR X.K ρ σ H → Rp X.K H v d fp → patS .ro p d ρ = some ρ' → (∀ σ', RhR X.K ρ' σ' H → Out1 vs σ σ' → Q σ' H) → g v σ H Q) ∧
  (∃ g : TG, PG X tg g ∧
    ∀ (F : Fm) (L : Nat → Option V) (ρ : Rh) (σ : L2.St) (H : Hp) (f : Nat → List Addr) (v : V) (d : D) (fp : List Addr) (ρ' : Rh) (Q : L2.St → Hp → Prop), Rho X.K F L ρ σ H f → Rp X.K H v d fp → (∀ a ∈ fp, F.F a ∧ ¬ F.P a) → patS .ro p d ρ = some ρ' →
      (∀ σ' f', Rho X.K F L ρ' σ' H f' → Out1 vs σ σ' → Q σ' H) → g v σ H Q)
def PatsC (X : Cx) (tgs : List Expr) (ps : List Pat) (vs : List Nat) : Prop := (∃ g : TGs, PGs X tgs g ∧
    ∀ (ρ : Rh) (σ : L2.St) (H : Hp) (v : List V) (d : List D) (fp : List Addr) (ρ' : Rh) (Q : L2.St → Hp → Prop), RhR X.K ρ σ H → RpL X.K H v d fp → patsS .ro ps d ρ = some ρ' → (∀ σ', RhR X.K ρ' σ' H → Out1 vs σ σ' → Q σ' H) → g v σ H Q) ∧
  (∃ g : TGs, PGs X tgs g ∧
    ∀ (F : Fm) (L : Nat → Option V) (ρ : Rh) (σ : L2.St) (H : Hp) (f : Nat → List Addr) (v : List V) (d : List D) (fp : List Addr) (ρ' : Rh) (Q : L2.St → Hp → Prop), Rho X.K F L ρ σ H f → RpL X.K H v d fp → (∀ a ∈ fp, F.F a ∧ ¬ F.P a) → patsS .ro ps d ρ = some ρ' →
      (∀ σ' f', Rho X.K F L ρ' σ' H f' → Out1 vs σ σ' → Q σ' H) → g v σ H Q)
section
variable {X : Cx} {pos : Pos}
theorem out1_set {vs : List Nat} {σ : L2.St} {i : Nat} {v : Option V} (h : i ∈ vs) : Out1 vs σ (σ.set i v) := ⟨List.length_set .., fun j hj => get_set_ne fun z => hj (by rw [z]; exact h)⟩
theorem patc_nm {tg : Expr} {i : Nat} {vs : List Nat} (pg : PG X tg (gName i)) (hv : i ∈ vs) : PatC X tg (.nm i) vs := by
  refine ⟨⟨_, pg, fun ρ σ H v d fp ρ' Q R r e q => ?_⟩, ⟨_, pg, fun F L ρ σ H f v d fp ρ' Q R r hF e q => ?_⟩⟩
  · obtain ⟨rfl, hi, _⟩ := setS_some (show setS i ⟨d, .ro⟩ ρ = some ρ' by simpa [patS] using e)
    refine q _ ⟨by rw [List.length_set, List.length_set]; exact R.len, fun j c h => ?_⟩ (out1_set hv)
    by_cases hj : j = i
    · subst hj
      rw [get_set_eq hi] at h; cases h
      exact ⟨v, fp, get_set_eq (by rw [R.len]; exact hi), r⟩
    · rw [get_set_ne hj] at h ⊢
      exact R.rp j c h
  · exact q _ _ (R.setRo r hF (by simpa [patS] using e)) (out1_set hv)
theorem patsc_nil {vs : List Nat} : PatsC X [] [] vs := by
  refine ⟨⟨_, pgs_nil, fun ρ σ H v d fp ρ' Q R r e q => ?_⟩, ⟨_, pgs_nil, fun F L ρ σ H f v d fp ρ' Q R r hF e q => ?_⟩⟩
  · cases d with
    | nil =>
      simp only [patsS, Option.some.injEq] at e
      subst e
      cases r
      exact ⟨rfl, q σ R ⟨rfl, fun _ _ => rfl⟩⟩
    | cons d ds => simp [patsS] at e
  · cases d with
    | nil =>
      simp only [patsS, Option.some.injEq] at e
      subst e
      cases r
      exact ⟨rfl, q σ f R ⟨rfl, fun _ _ => rfl⟩⟩
    | cons d ds => simp [patsS] at e
theorem patsc_cons {tg : Expr} {tgs : List Expr} {p : Pat} {ps : List Pat} {vs : List Nat} (h1 : PatC X tg p vs) (h2 : PatsC X tgs ps vs) (hs : (assignEach (tg :: tgs) X.env).map (·.2) = assign tg X.env :: (assignEach tgs X.env).map (·.2) := by rfl) : PatsC X (tg :: tgs) (p :: ps) vs := by
  obtain ⟨⟨g1, p1, q1⟩, ⟨g1', p1', q1'⟩⟩ := h1
  obtain ⟨⟨g2, p2, q2⟩, ⟨g2', p2', q2'⟩⟩ := h2
  refine ⟨⟨_, pgs_cons p1 p2 hs, fun ρ σ H v d fp ρ' Q R r e q => ?_⟩, ⟨_, pgs_cons p1' p2' hs, fun F L ρ σ H f v d fp ρ' Q R r hF e q => ?_⟩⟩
  · cases d with
    | nil => simp [patsS] at e
    | cons d ds =>
      cases r with
      | cons r1 r2 =>
        rename_i v1 vs f1 fs
        simp only [patsS] at e
        split at e
        · rename_i ρ1 e1
          exact ⟨v1, vs, rfl, q1 ρ σ H v1 d f1 ρ1 _ R r1 e1 fun σ1 R1 o1 => q2 ρ1 σ1 H vs ds fs ρ' _ R1 r2 e fun σ2 R2 o2 => q σ2 R2 (o1.trans o2)⟩
        · cases e
  · cases d with
    | nil => simp [patsS] at e
    | cons d ds =>
      cases r with
      | cons r1 r2 =>
        rename_i v1 vs f1 fs
        simp only [patsS] at e
        split at e
        · rename_i ρ1 e1
          exact ⟨v1, vs, rfl, q1' F L ρ σ H f v1 d f1 ρ1 _ R r1 (fun a m => hF a (List.mem_append_left _ m)) e1 fun σ1 f1' R1 o1 =>
            q2' F L ρ1 σ1 H f1' vs ds fs ρ' _ R1 r2 (fun a m => hF a (List.mem_append_right _ m)) e fun σ2 f2 R2 o2 => q σ2 f2 R2 (o1.trans o2)⟩
        · cases e
theorem patsS_len (o : Ow) : ∀ (ps : List Pat) (ds : List D) (ρ ρ' : Rh), patsS o ps ds ρ = some ρ' → ps.length = ds.length
  | [], [], _, _, _ => rfl
  | [], _ :: _, _, _, e => by simp [patsS] at e
  | _ :: _, [], _, _, e => by simp [patsS] at e
  | p :: ps, d :: ds, ρ, ρ', e => by
    simp only [patsS] at e
    split at e
    · simp [patsS_len o ps ds _ _ e]
    · cases e
theorem patc_tp {es : List Expr} {k : Nat} {ps : List Pat} {n : Nat} {vs : List Nat} (hc : X.calm = true) (h : PatsC X es ps vs) (hl : ps.length = n) (hn : (assignEach es X.env).length = n := by rfl) (hst : (assignEach es X.env).findIdx? (·.1) = none := by rfl) : PatC X (.Tuple es k pos) (.tp ps) vs := by
  obtain ⟨⟨g, pg, q1⟩, ⟨g', pg', q2⟩⟩ := h
  refine ⟨⟨_, pg_tup hc pg hn hst, fun ρ σ H v d fp ρ' Q R r e q => ?_⟩, ⟨_, pg_tup hc pg' hn hst, fun F L ρ σ H f v d fp ρ' Q R r hF e q => ?_⟩⟩
  · simp only [patS] at e
    split at e
    · cases r with
      | tup h1 h2 h3 => exact ⟨_, _, rfl, sqt h1, by rw [h3.length, ← patsS_len _ _ _ _ _ e]; exact hl, q1 ρ σ H _ _ fp ρ' Q R h3 e q⟩
    · cases e
  · simp only [patS] at e
    split at e
    · cases r with
      | tup h1 h2 h3 => exact ⟨_, _, rfl, sqt h1, by rw [h3.length, ← patsS_len _ _ _ _ _ e]; exact hl, q2 F L ρ σ H f _ _ fp ρ' Q R h3 hF e q⟩
    · cases e
def cP (K : PySem.W.Frag) (p : Pat) (vs : List Nat) : TG := fun v σ H Q => ∃ ρ d fp ρ', RhR K ρ σ H ∧ Rp K H v d fp ∧ patS .ro p d ρ = some ρ' ∧ ∀ σ', RhR K ρ' σ' H → Out1 vs σ σ' → Q σ' H
theorem PatC.canon {tg : Expr} {p : Pat} {vs : List Nat} (h : PatC X tg p vs) : PG X tg (cP X.K p vs) := by
  obtain ⟨⟨g, pg, hq⟩, _⟩ := h
  exact ⟨fun pins s σ H v u Q I r ⟨ρ, d, fp, ρ', R, rd, e, q⟩ => pg.run pins s σ H v u Q I r (hq ρ σ H v d fp ρ' Q R rd e q)⟩
def cPV (K : PySem.W.Frag) (p : Pat) (vs : List Nat) : TG := fun v σ H Q => ∃ F L ρ f d fp ρ', Rho K F L ρ σ H f ∧ Rp K H v d fp ∧ (∀ a ∈ fp, F.F a ∧ ¬ F.P a) ∧ patS .ro p d ρ = some ρ' ∧ ∀ σ' f', Rho K F L ρ' σ' H f' → Out1 vs σ σ' → Q σ' H
theorem PatC.canonV {tg : Expr} {p : Pat} {vs : List Nat} (h : PatC X tg p vs) : PG X tg (cPV X.K p vs) := by
  obtain ⟨_, ⟨g, pg, hq⟩⟩ := h
  exact ⟨fun pins s σ H v u Q I r ⟨F, L, ρ, f, d, fp, ρ', R, rd, hF, e, q⟩ => pg.run pins s σ H v u Q I r (hq F L ρ σ H f v d fp ρ' Q R rd hF e q)⟩
end

/-! ### slots wiped -/
def wipR (ρ : Rh) : List Nat → Rh
  | [] => ρ
  | v :: vs => (wipR ρ vs).set v none
theorem wipR_len (ρ : Rh) : ∀ vs, (wipR ρ vs).length = ρ.length
  | [] => rfl
  | v :: vs => by unfold wipR; rw [List.length_set, wipR_len ρ vs]
theorem wipR_some {ρ : Rh} {i : Nat} {c : Cl} : ∀ {vs : List Nat}, (wipR ρ vs)[i]? = some (some c) → ρ[i]? = some (some c) ∧ i ∉ vs
  | [], h => ⟨h, fun m => nomatch m⟩
  | v :: vs, h => by
    unfold wipR at h
    by_cases hi : i = v
    · subst hi
      by_cases hv : i < (wipR ρ vs).length
      · rw [get_set_eq hv] at h; cases h
      · rw [List.getElem?_eq_none (by simpa using hv)] at h; cases h
    · rw [get_set_ne hi] at h
      obtain ⟨h1, h2⟩ := wipR_some h
      exact ⟨h1, fun m => (List.mem_cons.mp m).elim hi h2⟩
theorem wipe_get (σ : L2.St) (j : Nat) : ∀ vs : List Nat, (wipe σ vs)[j]? = if j ∈ vs ∧ j < σ.length then some none else σ[j]?
  | [] => by rw [if_neg (by simp)]; rfl
  | v :: vs => by
    unfold wipe
    have ih := wipe_get σ j vs
    by_cases hj : j = v
    · subst hj
      by_cases hl : j < σ.length
      · rw [get_set_eq (by rw [wipe_length]; exact hl), if_pos ⟨List.mem_cons_self, hl⟩]
      · rw [List.getElem?_eq_none (by rw [List.length_set, wipe_length]; omega), if_neg (fun z => hl z.2), List.getElem?_eq_none (by omega)]
    · rw [get_set_ne hj, ih]
      by_cases hm : j ∈ vs ∧ j < σ.length
      · rw [if_pos hm, if_pos ⟨List.mem_cons_of_mem _ hm.1, hm.2⟩]
      · rw [if_neg hm, if_neg (fun z => hm ⟨(List.mem_cons.mp z.1).resolve_left hj, z.2⟩)]
theorem wipe_out1 {σ σ' : L2.St} {vs : List Nat} (h : Out1 vs (wipe σ vs) σ') : wipe σ' vs = wipe σ vs := by
  apply List.ext_getElem?
  intro j
  rw [wipe_get, wipe_get, h.1, wipe_length]
  by_cases hm : j ∈ vs ∧ j < σ.length
  · rw [if_pos hm, if_pos hm]
  · rw [if_neg hm, if_neg hm]
    by_cases hj : j ∈ vs
    · have hl : ¬ j < σ.length := fun z => hm ⟨hj, z⟩
      rw [List.getElem?_eq_none (by rw [h.1, wipe_length]; omega), List.getElem?_eq_none (by omega)]
    · rw [h.2 j hj, wipe_get, if_neg hm]
theorem RhR.wip {K : PySem.W.Frag} {ρ : Rh} {σ : L2.St} {H : Hp} (R : RhR K ρ σ H) (vs : List Nat) : RhR K (wipR ρ vs) (wipe σ vs) H := by
  refine ⟨by rw [wipe_length, wipR_len]; exact R.len, fun i c h => ?_⟩
  obtain ⟨h1, h2⟩ := wipR_some h
  obtain ⟨v, fp, e1, r⟩ := R.rp i c h1
  exact ⟨v, fp, by rw [wipe_get, if_neg (fun z => h2 z.1)]; exact e1, r⟩
/-- no pinned slot among these -/
def noPin (ρ : Rh) : List Nat → Bool
  | [] => true
  | v :: vs => (match ρ[v]? with
    | some (some ⟨_, .pin⟩) => false
    | _ => true) && noPin ρ vs
theorem noPin_of {ρ : Rh} : ∀ {vs : List Nat}, noPin ρ vs = true → ∀ v ∈ vs, ∀ c, ρ[v]? = some (some c) → c.o ≠ .pin
  | [], _, v, m => nomatch m
  | w :: vs, h, v, m => by
    unfold noPin at h
    rw [Bool.and_eq_true] at h
    intro c e z
    rcases List.mem_cons.mp m with m | m
    · subst m
      obtain ⟨d, o⟩ := c
      cases z
      rw [e] at h
      exact absurd h.1 (by simp)
    · exact noPin_of h.2 v m c e z
theorem Rho.wip {K : PySem.W.Frag} {F : Fm} {L : Nat → Option V} {ρ : Rh} {σ : L2.St} {H : Hp} {f : Nat → List Addr} (R : Rho K F L ρ σ H f) {vs : List Nat} (hp : noPin ρ vs = true) : Rho K F L (wipR ρ vs) (wipe σ vs) H f := by
  have gs : ∀ (i : Nat) (c : Cl), (wipR ρ vs)[i]? = some (some c) → ρ[i]? = some (some c) := fun i c h => (wipR_some h).1
  have ws : ∀ i, i ∉ vs → (wipe σ vs)[i]? = σ[i]? := fun i h => by rw [wipe_get, if_neg (fun z => h z.1)]
  refine ⟨by rw [wipe_length, wipR_len]; exact R.len, R.fok, fun i c h => ?_, fun i c h => R.nd i c (gs i c h), fun i c h => R.pv i c (gs i c h), fun i j c c' hij h w h' => R.dj i j c c' hij (gs i c h) w (gs j c' h'), fun i u h => ?_⟩
  · obtain ⟨v, e1, r⟩ := R.rp i c (gs i c h)
    exact ⟨v, by rw [ws i (wipR_some h).2]; exact e1, r⟩
  · obtain ⟨e1, c, e2, e3⟩ := R.pin i u h
    have hi : i ∉ vs := fun m => noPin_of hp i m c e2 e3
    refine ⟨by rw [ws i hi]; exact e1, c, ?_, e3⟩
    have : ∀ vs : List Nat, i ∉ vs → (wipR ρ vs)[i]? = ρ[i]? := fun vs => by
      induction vs with
      | nil => intro _; rfl
      | cons w ws ih =>
        intro hn
        unfold wipR
        rw [get_set_ne (fun z => hn (by rw [z]; exact List.mem_cons_self))]
        exact ih fun m => hn (List.mem_cons_of_mem _ m)
    rw [this vs hi]; exact e2
theorem RpL.append {K : PySem.W.Frag} {H : Hp} : ∀ {ds ds' : List D} {vs vs' : List V} {fs fs' : List Addr}, RpL K H vs ds fs → RpL K H vs' ds' fs' → RpL K H (vs ++ vs') (ds ++ ds') (fs ++ fs')
  | [], _, _, _, _, _, h, h' => by cases h; exact h'
  | d :: ds, ds', _, _, _, _, h, h' => by
    cases h with
    | cons h1 h2 =>
      have := RpL.cons h1 (RpL.append h2 h')
      rw [← List.append_assoc] at this
      exact this
end PV

set_option Elab.async false
set_option linter.all false
set_option maxRecDepth 100000
set_option maxHeartbeats 1000000
namespace PV
open PySem PySem.Spec PyProof.Rows L2

/-! ### list comprehensions -/
def lcS (step : D → Option (Option D)) : List D → Option (List D)
  | [] => some []
  | d :: ds => match step d with
    | none => none
    | some o => match lcS step ds with
      | none => none
      | some r => some (o.toList ++ r)
def stepE (p : Pat) (t : Rh → Option Bool) (e : Rh → Option D) (ρ : Rh) (d : D) : Option (Option D) := match patS .ro p d ρ with
  | none => none
  | some ρ1 => match t ρ1 with
    | none => none
    | some false => some none
    | some true => match e ρ1 with
      | none => none
      | some x => some (some x)
def eLc (p : Pat) (vs : List Nat) (hi : Rh → Option (List D)) (t : Rh → Option Bool) (e : Rh → Option D) : Rh → Option D := fun ρ => match hi ρ with
  | none => none
  | some ds => if ds.length ≤ 1000000 then (match lcS (stepE p t e (wipR ρ vs)) ds with
    | none => none
    | some r => some (.list r)) else none
theorem mil_lt {n : Nat} (h : n < 1000000) : n < sizeLine := Nat.lt_of_lt_of_le h (by decide)
theorem same_updD {H H1 : Hp} {p : Addr} {o : HO} (s : Same H H1) (n : H p = none) : Same H (upd H1 p o) := fun b x e => by
  rw [upd_ne (fun z => by subst z; rw [n] at e; cases e)]; exact s b x e
section
variable {X : Cx}
/-- the reading of a comprehension without effect -/
theorem lc_sound {tg iter elt : Expr} {bs vs : List Nat} {hi : Rh → Option (List D)} {p : Pat} {t : Rh → Option Bool} {e : Rh → Option D} {K : PySem.W.Frag} {wi : TI}
    (hiq : ∀ (ρ : Rh) (σ : L2.St) (H : Hp) (f : Nat → List Addr) (ds : List D) (R : It → Hp → Prop), RhF K ρ σ H f → hi ρ = some ds →
      (∀ J H1 S, Same H H1 → WkOk K H1 J ds S → (∀ a ∈ S, H a = none ∨ ∃ i ∈ bs, ∃ c, ρ[i]? = some (some c) ∧ a ∈ f i) → R J H1) → wi σ H R)
    (ρ : Rh) (σ : L2.St) (H : Hp) (d : D) (Q : VK) (R : RhR K ρ σ H) (h : eLc p vs hi t e ρ = some d)
    (q : ∀ v H' fp, Same H H' → Rp K H' v d fp → (fp.Nodup ∧ ∀ a ∈ fp, H a = none) → Q v H') : tLc wi (cP K p vs) (cT K t) (cE K e) vs σ H Q := by
  unfold eLc at h
  split at h
  · cases h
  · rename_i ds e1
    split at h
    · rename_i hlen
      split at h
      · cases h
      · rename_i outs e2
        cases h
        obtain ⟨f, Rf⟩ := R.rf
        refine hiq ρ σ H f ds _ Rf e1 fun J H1 S s1 w hS => ?_
        obtain ⟨⟨G, Y, wk, g0, gk, yk⟩, dm⟩ := w
        intro D nD
        have nDH : H D = none := Same.new s1 nD
        refine lc_it wk (fun i Hc => ∃ done r acc fs, lcS (stepE p t e (wipR ρ vs)) (ds.drop i) = some r ∧ done ++ r = outs ∧ Hc D = some (.lst acc) ∧ RpL K Hc acc done fs ∧ fs.Nodup ∧ (∀ a ∈ fs, H a = none ∧ a ≠ D) ∧ acc.length ≤ i ∧ Same H1 Hc)
          ⟨[], outs, [], [], by rw [List.drop_zero]; exact e2, rfl, upd_same, .nil, List.nodup_nil, fun a m => (nomatch m), Nat.le_refl _, same_upd nD⟩ (fun i Hc hi' q' => ?_) (fun i x Hc H' hi' q' y => ?_) (fun Hc q' => ?_)
        · obtain ⟨_, _, _, _, _, _, _, _, _, _, _, s⟩ := q'
          exact gk Hc (Keep.of_same s)
        · obtain ⟨done, r, acc, fs, er, eo, hD, rp, nd, nw, la, s⟩ := q'
          obtain ⟨s2, d', fpd, ed, rd, _⟩ := yk i Hc x H' hi' (Keep.of_same s) y
          have ed' : ds[i] = d' := by
            rw [List.getElem?_eq_getElem hi'] at ed; exact Option.some.inj ed
          rw [List.drop_eq_getElem_cons hi', ed'] at er
          unfold lcS at er
          split at er
          · cases er
          · rename_i o es
            split at er
            · cases er
            · rename_i r' er'
              cases er
              unfold stepE at es
              split at es
              · cases es
              · rename_i ρ1 ep
                have sH : Same H H' := same_trans s1 (same_trans s s2)
                refine ⟨wipR ρ vs, d', fpd, ρ1, (R.wip vs).same sH, rd, ep, fun σ1 R1 o1 => ⟨wipe_out1 o1, ?_⟩⟩
                split at es
                · cases es
                · rename_i et
                  cases es
                  refine ⟨ρ1, false, R1, et, fun H3 s3 => ?_⟩
                  refine iteF ?_
                  have s23 := same_trans s2 s3
                  exact ⟨done, r', acc, fs, er', by simpa using eo, s23 _ _ hD, rp.same s23, nd, nw, by omega, same_trans s s23⟩
                · rename_i et
                  split at es
                  · cases es
                  · rename_i xd ee
                    cases es
                    refine ⟨ρ1, true, R1, et, fun H3 s3 => ?_⟩
                    refine iteT ?_
                    refine ⟨ρ1, xd, R1.same s3, ee, fun yv H4 fp s4 ry n => ?_⟩
                    have s24 := same_trans s2 (same_trans s3 s4)
                    have hD4 := s24 _ _ hD
                    refine ⟨acc, hD4, mil_lt (by omega), ?_⟩
                    have kne : Keep (fun b => b ≠ D) H4 (upd H4 D (.lst (acc ++ [yv]))) := keep_ne (by rw [hD4]; trivial)
                    have hfp : ∀ a ∈ fp, H a = none ∧ a ≠ D := fun a m => by
                      have z := n.2 a m
                      have z2 : Hc a = none := Same.new (same_trans s2 s3) z
                      exact ⟨Same.new (same_trans s1 s) z2, fun w => by rw [w, hD] at z2; cases z2⟩
                    refine ⟨done ++ [xd], r', acc ++ [yv], fs ++ (fp ++ []), er', by simpa using eo, upd_same,
                      RpL.append (RpL.keep kne _ _ _ (rp.same s24) fun a m => (nw a m).2) (.cons (Rp.keep kne _ _ _ ry fun a m => (hfp a m).2) .nil), ?_, ?_, by simp; omega, same_updD (same_trans s s24) nD⟩
                    · rw [List.append_nil]
                      refine List.nodup_append.mpr ⟨nd, n.1, fun a m b m' z => ?_⟩
                      subst z
                      exact rp.dom m (Same.new (same_trans s2 s3) (n.2 a m'))
                    · rw [List.append_nil]
                      intro a m
                      rcases List.mem_append.mp m with m | m
                      · exact nw a m
                      · exact hfp a m
        · obtain ⟨done, r, acc, fs, er, eo, hD, rp, nd, nw, la, s⟩ := q'
          rw [List.drop_length] at er
          cases er
          rw [List.append_nil] at eo
          subst eo
          refine q (.ref D) Hc (D :: fs) (same_trans s1 s) (.lst hD (mil_line (by omega)) rp) ⟨List.nodup_cons.mpr ⟨fun m => (nw D m).2 rfl, nd⟩, fun a m => ?_⟩
          rcases List.mem_cons.mp m with m | m
          · rw [m]; exact nDH
          · exact (nw a m).1
    · cases h
variable {elt tg iter : Expr} {ifs : List Expr} {scope : Scope} {own : List (Str × Nat)} {pos : Pos}
theorem ep_lc {bs : List Nat} {hi : Rh → Option (List D)} {p : Pat} {t : Rh → Option Bool} {e : Rh → Option D} (hc : X.calm = true) (hN : X.N.Nodup) (hI : IP X tg iter bs hi) (ok : BlkOk X.N X.env.scope scope own)
    (hg : ∀ (s : Shared) (H : Hp) (C : Addr) (cl : List (Str × Addr)) (fp : List Addr), PatC (X.blk s H scope (compEnvC scope cl C X.env) fp) tg p (own.map (·.2)))
    (ht : ∀ (s : Shared) (H : Hp) (C : Addr) (cl : List (Str × Addr)) (fp : List Addr), TPs (X.blk s H scope (compEnvC scope cl C X.env) fp) ifs t)
    (he : ∀ (s : Shared) (H : Hp) (C : Addr) (cl : List (Str × Addr)) (fp : List Addr), EP true (X.blk s H scope (compEnvC scope cl C X.env) fp) elt e) (hs : ∀ x, foldedSetIterable iter X.env x = pure x := by intro _; rfl) :
    EP true X (.ListComp elt [⟨tg, iter, ifs, 0⟩] scope pos) (eLc p (own.map (·.2)) hi t e) := by
  obtain ⟨wi, pi, hiq⟩ := hI
  exact ⟨_, pe_lc (g := cP X.K p (own.map (·.2))) (tt := cT X.K t) (te := cE X.K e) hc hN pi ok (fun s H C cl fp => (hg s H C cl fp).canon) (fun s H C cl fp => (ht s H C cl fp).canon) (fun s H C cl fp => (he s H C cl fp).canon) hs, fun ρ σ H d Q R h q => lc_sound (elt := elt) (tg := tg) (iter := iter) hiq ρ σ H d Q R h fun v H' fp s r n => q v H' fp s r fun _ => n⟩
/-- name = [..] -/
theorem ss_setLc {i : Nat} {y : Str} {py spos : Pos} {bs : List Nat} {hi : Rh → Option (List D)} {p : Pat} {t : Rh → Option Bool} {e : Rh → Option D} (hc : X.calm = true) (hN : X.N.Nodup) (hy : X.N[i]? = some y) (hyl : X.env.scope.names.lookup y = some .local)
    (hsw : swapsWith (.ListComp elt [⟨tg, iter, ifs, 0⟩] scope pos) (some (.Name y py)) spos.line X.env = pure true) (hI : IP X tg iter bs hi) (ok : BlkOk X.N X.env.scope scope own)
    (hg : ∀ (s : Shared) (H : Hp) (C : Addr) (cl : List (Str × Addr)) (fp : List Addr), PatC (X.blk s H scope (compEnvC scope cl C X.env) fp) tg p (own.map (·.2)))
    (ht : ∀ (s : Shared) (H : Hp) (C : Addr) (cl : List (Str × Addr)) (fp : List Addr), TPs (X.blk s H scope (compEnvC scope cl C X.env) fp) ifs t)
    (he : ∀ (s : Shared) (H : Hp) (C : Addr) (cl : List (Str × Addr)) (fp : List Addr), EP true (X.blk s H scope (compEnvC scope cl C X.env) fp) elt e) (hs : ∀ x, foldedSetIterable iter X.env x = pure x := by intro _; rfl) :
    SS X (.Assign [.Name y py] (.ListComp elt [⟨tg, iter, ifs, 0⟩] scope pos) spos) (sSet (.nm i) (lift (eLc p (own.map (·.2)) hi t e))) := by
  obtain ⟨wi, pi, hiq⟩ := hI
  refine ⟨_, ps_setLc (g := cP X.K p (own.map (·.2))) (tt := cT X.K t) (te := cE X.K e) hc hN hy hyl hsw pi ok (fun s H C cl fp => (hg s H C cl fp).canon) (fun s H C cl fp => (ht s H C cl fp).canon) (fun s H C cl fp => (he s H C cl fp).canon) hs, fun F L ρ σ H fo D R gd => ?_⟩
  unfold sSet lift at gd
  cases e1 : eLc p (own.map (·.2)) hi t e ρ with
  | none => rw [e1] at gd; exact gd.elim
  | some d =>
    rw [e1] at gd
    simp only [Option.map_some, patS] at gd
    cases e2 : setS i ⟨d, .own⟩ ρ with
    | none => rw [e2] at gd; exact gd.elim
    | some ρ2 =>
      rw [e2] at gd
      refine lc_sound (elt := elt) (tg := tg) (iter := iter) hiq ρ σ H d _ R.rd e1 fun v H' fp s r n => ?_
      have R' := R.same s
      exact gd _ H' _ (R'.setOwn (R.fresh s r n.1 n.2) e2) (Keep.of_same s)
end

/-! ### with effects -/
def lcV (p : Pat) (t : Rh → Option (Bool × Rh)) (e : Rh → Option (D × Rh)) (vs : List Nat) : List D → Rh → Option (List D × Rh)
  | [], ρ => some ([], ρ)
  | d :: ds, ρ => match patS .ro p d ρ with
    | none => none
    | some ρ1 => match t ρ1 with
      | none => none
      | some (false, ρ2) => if noPin ρ2 vs = true then lcV p t e vs ds (wipR ρ2 vs) else none
      | some (true, ρ2) => match e ρ2 with
        | none => none
        | some (x, ρ3) => if noPin ρ3 vs = true then (match lcV p t e vs ds (wipR ρ3 vs) with
          | none => none
          | some (r, ρ4) => some (x :: r, ρ4)) else none
def vLc (bs : List Nat) (p : Pat) (vs : List Nat) (gi : Rh → Option (List D × Rh)) (t : Rh → Option (Bool × Rh)) (e : Rh → Option (D × Rh)) : Rh → Option (D × Rh) := fun ρ => match gi ρ with
  | none => none
  | some (ds, ρ1) => if ds.length ≤ 1000000 ∧ noPin ρ1 vs = true then (match demS bs ρ1 with
    | none => none
    | some ρ2 => match lcV p t e vs ds (wipR ρ2 vs) with
      | none => none
      | some (r, ρ3) => some (.list r, ρ3)) else none
/-- the slots wiped are unknown -/
theorem wipR_unk {ρ : Rh} {vs : List Nat} {i : Nat} (m : i ∈ vs) (c : Cl) : (wipR ρ vs)[i]? ≠ some (some c) := fun h => (wipR_some h).2 m
section
variable {K : PySem.W.Frag} {F : Fm} {L : Nat → Option V} {ρ ρ' : Rh} {σ : L2.St} {H H' : Hp} {f : Nat → List Addr}
/-- something of which no slot knows changes -/
theorem Rho.aside {p : Addr} {o : HO} (R : Rho K F L ρ σ H f) (m : Mut (H p)) (h : ∀ i c, ρ[i]? = some (some c) → p ∉ f i) : Rho K F L ρ σ (upd H p o) f := by
  refine ⟨R.len, fun a ha z => ?_, fun i c e => ?_, R.nd, R.pv, R.dj, R.pin⟩
  · by_cases hp : a = p
    · subst hp; rw [upd_same] at z; cases z
    · rw [upd_ne hp] at z; exact R.fok a ha z
  · obtain ⟨v, e1, r⟩ := R.rp i c e
    exact ⟨v, e1, Rp.keep (keep_ne m) _ _ _ r fun a ma z => h i c e (by rw [← z]; exact ma)⟩
/-- slots may move where none of the wiped is known -/
theorem Rho.swap {σ' : L2.St} {vs : List Nat} (R : Rho K F L ρ σ H f) (hl : σ'.length = σ.length) (hk : ∀ i, i ∉ vs → σ'[i]? = σ[i]?) (hn : ∀ i ∈ vs, ∀ c, ρ[i]? ≠ some (some c)) : Rho K F L ρ σ' H f := by
  refine ⟨hl.trans R.len, R.fok, fun i c e => ?_, R.nd, R.pv, R.dj, fun i u e => ?_⟩
  · have hi : i ∉ vs := fun m => hn i m c e
    rw [hk i hi]; exact R.rp i c e
  · obtain ⟨e1, c, e2, e3⟩ := R.pin i u e
    have hi : i ∉ vs := fun m => hn i m c e2
    exact ⟨by rw [hk i hi]; exact e1, c, e2, e3⟩
theorem Rho.hold2 {fp : List Addr} (R : Rho K F L ρ σ H f) (dm : ∀ a ∈ fp, H a ≠ none) (h : ∀ i c, ρ[i]? = some (some c) → ∀ a ∈ fp, a ∉ f i) : Rho K (F.hold fp) L ρ σ H f :=
  ⟨R.len, fun a ha => ha.elim (fun z => R.fok a (.inl z)) fun z => z.elim (fun z => R.fok a (.inr z)) (dm a), R.rp, R.nd, fun i c e a m z => z.elim (R.pv i c e a m) fun m' => h i c e a m' m, R.dj, R.pin⟩
theorem lcV_unk {p : Pat} {t : Rh → Option (Bool × Rh)} {e : Rh → Option (D × Rh)} {vs : List Nat} : ∀ {ds : List D} {ρ ρ' : Rh} {r : List D}, lcV p t e vs ds ρ = some (r, ρ') → (∀ i ∈ vs, ∀ c, ρ[i]? ≠ some (some c)) → ∀ i ∈ vs, ∀ c, ρ'[i]? ≠ some (some c)
  | [], ρ, ρ', r, h, hn => by cases h; exact hn
  | d :: ds, ρ, ρ', r, h, hn => by
    unfold lcV at h
    split at h
    · cases h
    · split at h
      · cases h
      · split at h
        · exact lcV_unk h fun i m c => wipR_unk m c
        · cases h
      · split at h
        · cases h
        · split at h
          · split at h
            · cases h
            · rename_i e4
              cases h
              exact lcV_unk e4 fun i m c => wipR_unk m c
          · cases h
end
theorem lcv_sound {bs vs : List Nat} {gi : Rh → Option (List D × Rh)} {p : Pat} {t : Rh → Option (Bool × Rh)} {e : Rh → Option (D × Rh)} {K : PySem.W.Frag} {wi : TI}
    (hiq : ∀ (F : Fm) (L : Nat → Option V) (ρ : Rh) (σ : L2.St) (H : Hp) (f : Nat → List Addr) (ds : List D) (ρ' : Rh) (R : It → Hp → Prop), Rho K F L ρ σ H f → gi ρ = some (ds, ρ') →
      (∀ J H1 f1 S, Rho K F L ρ' σ H1 f1 → Keep F.all H H1 → WkOk K H1 J ds S → (∀ a ∈ S, ¬ F.P a ∧ ((∀ i c, ρ'[i]? = some (some c) → a ∉ f1 i) ∨ ∃ i ∈ bs, ∃ c, ρ'[i]? = some (some c) ∧ a ∈ f1 i)) → R J H1) → wi σ H R)
    (F : Fm) (L : Nat → Option V) (ρ : Rh) (σ : L2.St) (H : Hp) (f : Nat → List Addr) (d : D) (ρ' : Rh) (Q : VK) (R : Rho K F L ρ σ H f) (h : vLc bs p vs gi t e ρ = some (d, ρ'))
    (q : ∀ v H' f' fp, Rho K F L ρ' σ H' f' → Fresh K F ρ' f' v d fp H' → Keep F.all H H' → Q v H') : tLc wi (cPV K p vs) (cTV K t) (cV K e) vs σ H Q := by
  unfold vLc at h
  split at h
  · cases h
  · rename_i ds ρ1 e1
    split at h
    · rename_i hlen
      split at h
      · cases h
      · rename_i ρ2 e2
        split at h
        · cases h
        · rename_i outs ρ3 e3
          cases h
          refine hiq F L ρ σ H f ds ρ1 _ R e1 fun J H1 f1 S R1 k1 w hS => ?_
          obtain ⟨⟨G, Y, wk, g0, gk, yk⟩, dm⟩ := w
          have R2 := R1.loop e2 dm fun a m => (hS a m).2
          have np2 : noPin ρ2 vs = true := by
            have : ∀ vs : List Nat, noPin ρ1 vs = true → noPin ρ2 vs = true := fun vs => by
              induction vs with
              | nil => intro _; rfl
              | cons v vs ih =>
                intro h
                unfold noPin at h ⊢
                rw [Bool.and_eq_true] at h ⊢
                refine ⟨?_, ih h.2⟩
                split
                · rename_i d' ed
                  -- a slot pinned behind demS was so before
                  have : ∀ {bs : List Nat} {ρ ρ' : Rh} {d : D}, demS bs ρ = some ρ' → ρ'[v]? = some (some ⟨d, .pin⟩) → ρ[v]? = some (some ⟨d, .pin⟩) := by
                    intro bs
                    induction bs with
                    | nil => intro ρ ρ' d h e; cases h; exact e
                    | cons b bs ihb =>
                      intro ρ ρ' d h e
                      unfold demS at h
                      split at h
                      · exact ihb h e
                      · rename_i d0 e0
                        have := ihb h e
                        by_cases hb : v = b
                        · subst hb
                          rw [get_set_eq (List.getElem?_eq_some_iff.mp e0).1] at this
                          cases this
                        · rw [get_set_ne hb] at this; exact this
                      · cases h
                  have z := this e2 ed
                  rw [z] at h
                  exact absurd h.1 (by simp)
                · rfl
            exact this vs hlen.2
          have R3 := R2.wip np2
          intro D nD
          have ndD : ∀ i c, (wipR ρ2 vs)[i]? = some (some c) → D ∉ f1 i := fun i c ec m => R3.domf ec m nD
          refine lc_it wk (fun i Hc => ∃ ρc fc done r acc fs, lcV p t e vs (ds.drop i) ρc = some (r, ρ') ∧ done ++ r = outs ∧ (∀ j ∈ vs, ∀ c, ρc[j]? ≠ some (some c)) ∧ Rho K ((F.also fun a => a ∈ S).hold (D :: fs)) L ρc (wipe σ vs) Hc fc ∧
              Hc D = some (.lst acc) ∧ RpL K Hc acc done fs ∧ (D :: fs).Nodup ∧ (∀ a ∈ D :: fs, ¬ (F.also fun a => a ∈ S).all a) ∧ acc.length ≤ i ∧ Keep (F.also fun a => a ∈ S).all H1 Hc)
            ⟨wipR ρ2 vs, f1, [], outs, [], [], by rw [List.drop_zero]; exact e3, rfl, fun j m c => wipR_unk m c, (R3.same (same_upd nD)).hold2 (fun a m => by
                rcases List.mem_cons.mp m with m | m
                · rw [m, upd_same]; exact fun z => nomatch z
                · cases m) (fun i c ec a m => by
                rcases List.mem_cons.mp m with m | m
                · rw [m]; exact ndD i c ec
                · cases m), upd_same, .nil, List.nodup_cons.mpr ⟨fun m => (nomatch m), List.nodup_nil⟩, (fun a m => by
                rcases List.mem_cons.mp m with m | m
                · rw [m]; exact fun z => R2.fok D z nD
                · cases m), Nat.le_refl _, Keep.of_same (same_upd nD)⟩ (fun i Hc hi' q' => ?_) (fun i x Hc H' hi' q' y => ?_) (fun Hc q' => ?_)
          · obtain ⟨_, _, _, _, _, _, _, _, _, _, _, _, _, _, _, k⟩ := q'
            exact gk Hc (k.mono fun a m => .inl (.inr m))
          · obtain ⟨ρc, fc, done, r, acc, fs, er, eo, unk, Rc, hD, rp, nd, nf, la, k⟩ := q'
            obtain ⟨s2, d', fpd, ed, rd, hfpd⟩ := yk i Hc x H' hi' (k.mono fun a m => .inl (.inr m)) y
            have ed' : ds[i] = d' := by
              rw [List.getElem?_eq_getElem hi'] at ed; exact Option.some.inj ed
            rw [List.drop_eq_getElem_cons hi', ed'] at er
            unfold lcV at er
            split at er
            · cases er
            · rename_i ρ4 ep
              refine ⟨_, L, ρc, fc, d', fpd, ρ4, Rc.same s2, rd, fun a m => ⟨.inr (hfpd a m), fun z => ?_⟩, ep, fun σ4 f4 R4 o4 => ⟨wipe_out1 o4, ?_⟩⟩
              · rcases z with z | z
                · exact (hS a (hfpd a m)).1 z
                · exact nf a z (.inl (.inr (hfpd a m)))
              · have hwip : wipe σ4 vs = wipe σ vs := wipe_out1 o4
                split at er
                · cases er
                · rename_i ρ5 et
                  split at er
                  · rename_i np5
                    refine ⟨_, L, ρ4, f4, false, ρ5, R4, et, fun H5 f5 R5 k5 => ?_⟩
                    refine iteF ?_
                    have kk : Keep ((F.also fun a => a ∈ S).hold (D :: fs)).all Hc H5 := (Keep.of_same s2).trans k5
                    have R6 := R5.wip np5
                    rw [hwip] at R6
                    exact ⟨wipR ρ5 vs, f5, done, r, acc, fs, er, eo, fun j m c => wipR_unk m c, R6, kk _ _ hD (.inl (Fm.mem_hold List.mem_cons_self)), RpL.keep kk _ _ _ rp fun a m => Fm.mem_hold (List.mem_cons_of_mem _ m), nd, nf, by omega, k.trans kk.unhold⟩
                  · cases er
                · rename_i ρ5 et
                  split at er
                  · cases er
                  · rename_i xd ρ6 ee
                    split at er
                    · rename_i np6
                      split at er
                      · cases er
                      · rename_i r' ρ7 er'
                        cases er
                        refine ⟨_, L, ρ4, f4, true, ρ5, R4, et, fun H5 f5 R5 k5 => ?_⟩
                        refine iteT ?_
                        refine ⟨_, L, ρ5, f5, xd, ρ6, R5, ee, fun yv H6 f6 fp R6 fr k6 => ?_⟩
                        have kk : Keep ((F.also fun a => a ∈ S).hold (D :: fs)).all Hc H6 := (Keep.of_same s2).trans (k5.trans k6)
                        have hD6 := kk _ _ hD (.inl (Fm.mem_hold List.mem_cons_self))
                        have rp6 := RpL.keep kk _ _ _ rp fun a m => Fm.mem_hold (List.mem_cons_of_mem _ m)
                        refine ⟨acc, hD6, mil_lt (by have := hlen.1; omega), ?_⟩
                        have mu : Mut (H6 D) := by rw [hD6]; trivial
                        have kne : Keep (fun b => b ≠ D) H6 (upd H6 D (.lst (acc ++ [yv]))) := keep_ne mu
                        have hfp : ∀ a ∈ fp, ¬ (F.also fun a => a ∈ S).all a ∧ a ∉ D :: fs := fun a m => ⟨fun z => fr.nf a m (Fm.all_hold z), fun m' => fr.nf a m (Fm.mem_hold m')⟩
                        have nDfs : D ∉ fs := (List.nodup_cons.mp nd).1
                        have R7 := R6.wip np6
                        rw [hwip] at R7
                        -- the new list is held
                        have R8 : Rho K ((F.also fun a => a ∈ S).hold (D :: (fs ++ fp))) L (wipR ρ6 vs) (wipe σ vs) H6 f6 := R7.unhold.hold2
                          (fun a m => by
                            rcases List.mem_cons.mp m with m | m
                            · rw [m, hD6]; exact fun z => nomatch z
                            · rcases List.mem_append.mp m with m | m
                              · exact rp6.dom m
                              · exact fr.rp.dom m)
                          (fun i c ec a m m' => by
                            rcases List.mem_cons.mp m with m | m
                            · exact R7.pv i c ec a m' (.inr (by rw [m]; exact List.mem_cons_self))
                            · rcases List.mem_append.mp m with m | m
                              · exact R7.pv i c ec a m' (.inr (List.mem_cons_of_mem _ m))
                              · exact fr.dj i c (wipR_some ec).1 a m m')
                        refine ⟨wipR ρ6 vs, f6, done ++ [xd], r', acc ++ [yv], fs ++ fp, er', by simpa using eo, fun j m c => wipR_unk m c, R8.aside mu fun i c ec m => R8.pv i c ec D m (.inr List.mem_cons_self), upd_same, ?_, ?_, ?_, by simp; omega, ?_⟩
                        · have := RpL.append (RpL.keep kne _ _ _ rp6 fun a m z => nDfs (by rw [← z]; exact m)) (.cons (Rp.keep kne _ _ _ fr.rp fun a m z => (hfp a m).2 (by rw [z]; exact List.mem_cons_self)) .nil)
                          rw [List.append_nil] at this
                          exact this
                        · refine List.nodup_cons.mpr ⟨fun m => ?_, List.nodup_append.mpr ⟨(List.nodup_cons.mp nd).2, fr.nd, fun a m b m' z => ?_⟩⟩
                          · rcases List.mem_append.mp m with m | m
                            · exact nDfs m
                            · exact (hfp D m).2 List.mem_cons_self
                          · subst z; exact (hfp a m').2 (List.mem_cons_of_mem _ m)
                        · intro a m
                          rcases List.mem_cons.mp m with m | m
                          · exact nf a (by rw [m]; exact List.mem_cons_self)
                          · rcases List.mem_append.mp m with m | m
                            · exact nf a (List.mem_cons_of_mem _ m)
                            · exact (hfp a m).1
                        · exact (k.trans kk.unhold).trans (kne.mono fun a ha z => nf D List.mem_cons_self (by rw [← z]; exact ha))
                    · cases er
          · obtain ⟨ρc, fc, done, r, acc, fs, er, eo, unk, Rc, hD, rp, nd, nf, la, k⟩ := q'
            rw [List.drop_length] at er
            cases er
            rw [List.append_nil] at eo
            subst eo
            have Rf : Rho K F L ρ' σ Hc fc := (Rc.unhold.unalso).swap (by rw [wipe_length]) (fun i hi => by rw [wipe_get, if_neg (fun z => hi z.1)]) unk
            refine q (.ref D) Hc fc (D :: fs) Rf ⟨.lst hD (mil_line (by have := hlen.1; omega)) rp, nd, fun a m z => nf a m (Fm.all_also z), fun i c ec a m m' => Rc.pv i c ec a m' (.inr m)⟩ (k1.trans k.unalso)
    · cases h
section
variable {X : Cx} {elt tg iter : Expr} {ifs : List Expr} {scope : Scope} {own : List (Str × Nat)} {pos : Pos}
theorem ev_lc {bs : List Nat} {gi : Rh → Option (List D × Rh)} {p : Pat} {t : Rh → Option (Bool × Rh)} {e : Rh → Option (D × Rh)} (hc : X.calm = true) (hN : X.N.Nodup) (hI : IV X tg iter bs gi) (ok : BlkOk X.N X.env.scope scope own)
    (hg : ∀ (s : Shared) (H : Hp) (C : Addr) (cl : List (Str × Addr)) (fp : List Addr), PatC (X.blk s H scope (compEnvC scope cl C X.env) fp) tg p (own.map (·.2)))
    (ht : ∀ (s : Shared) (H : Hp) (C : Addr) (cl : List (Str × Addr)) (fp : List Addr), TVs (X.blk s H scope (compEnvC scope cl C X.env) fp) ifs t)
    (he : ∀ (s : Shared) (H : Hp) (C : Addr) (cl : List (Str × Addr)) (fp : List Addr), EV (X.blk s H scope (compEnvC scope cl C X.env) fp) elt e) (hs : ∀ x, foldedSetIterable iter X.env x = pure x := by intro _; rfl) :
    EV X (.ListComp elt [⟨tg, iter, ifs, 0⟩] scope pos) (vLc bs p (own.map (·.2)) gi t e) := by
  obtain ⟨wi, pi, hiq⟩ := hI
  exact ⟨_, pe_lc (g := cPV X.K p (own.map (·.2))) (tt := cTV X.K t) (te := cV X.K e) hc hN pi ok (fun s H C cl fp => (hg s H C cl fp).canonV) (fun s H C cl fp => (ht s H C cl fp).canon) (fun s H C cl fp => (he s H C cl fp).canon) hs, fun F L ρ σ H f d ρ' Q R h q => lcv_sound hiq F L ρ σ H f d ρ' Q R h q⟩
theorem ss_setLcV {i : Nat} {y : Str} {py spos : Pos} {bs : List Nat} {gi : Rh → Option (List D × Rh)} {p : Pat} {t : Rh → Option (Bool × Rh)} {e : Rh → Option (D × Rh)} (hc : X.calm = true) (hN : X.N.Nodup) (hy : X.N[i]? = some y) (hyl : X.env.scope.names.lookup y = some .local)
    (hsw : swapsWith (.ListComp elt [⟨tg, iter, ifs, 0⟩] scope pos) (some (.Name y py)) spos.line X.env = pure true) (hI : IV X tg iter bs gi) (ok : BlkOk X.N X.env.scope scope own)
    (hg : ∀ (s : Shared) (H : Hp) (C : Addr) (cl : List (Str × Addr)) (fp : List Addr), PatC (X.blk s H scope (compEnvC scope cl C X.env) fp) tg p (own.map (·.2)))
    (ht : ∀ (s : Shared) (H : Hp) (C : Addr) (cl : List (Str × Addr)) (fp : List Addr), TVs (X.blk s H scope (compEnvC scope cl C X.env) fp) ifs t)
    (he : ∀ (s : Shared) (H : Hp) (C : Addr) (cl : List (Str × Addr)) (fp : List Addr), EV (X.blk s H scope (compEnvC scope cl C X.env) fp) elt e) (hs : ∀ x, foldedSetIterable iter X.env x = pure x := by intro _; rfl) :
    SS X (.Assign [.Name y py] (.ListComp elt [⟨tg, iter, ifs, 0⟩] scope pos) spos) (sSet (.nm i) (vLc bs p (own.map (·.2)) gi t e)) := by
  obtain ⟨wi, pi, hiq⟩ := hI
  refine ⟨_, ps_setLc (g := cPV X.K p (own.map (·.2))) (tt := cTV X.K t) (te := cV X.K e) hc hN hy hyl hsw pi ok (fun s H C cl fp => (hg s H C cl fp).canonV) (fun s H C cl fp => (ht s H C cl fp).canon) (fun s H C cl fp => (he s H C cl fp).canon) hs, fun F L ρ σ H fo D R gd => ?_⟩
  unfold sSet at gd
  cases e1 : vLc bs p (own.map (·.2)) gi t e ρ with
  | none => rw [e1] at gd; exact gd.elim
  | some dr =>
    obtain ⟨d, ρ1⟩ := dr
    rw [e1] at gd
    simp only [patS] at gd
    cases e2 : setS i ⟨d, .own⟩ ρ1 with
    | none => rw [e2] at gd; exact gd.elim
    | some ρ2 =>
      rw [e2] at gd
      exact lcv_sound hiq F L ρ σ H fo d ρ1 _ R e1 fun v H' f' fp R' fr k => gd _ H' _ (R'.setOwn fr e2) k
end
end PV

set_option Elab.async false
set_option linter.all false
set_option maxRecDepth 100000
set_option maxHeartbeats 1000000
namespace PV
open PySem PySem.Spec PyProof.Rows L2

/-- a def without defaults, as the head tells it -/
abbrev FnD (K : PySem.W.Frag) (x qual : Str) (st : Stmt) (f : Addr) (fd : FuncData) : Prop := FunD K x qual (defArgs st) (defBody st) (defScope st) [] [] f fd
theorem FnD.walk {P : Program} {w : World} {K : PySem.W.Frag} {mg : Str → Option Value} {base : Heap} {x qual : Str} {st : Stmt} {f : Addr} {fd : FuncData} {N ps : List Str} {k : Nat} {sp : Sp} (F : FnD K x qual st f fd) (S : FnScope N ps (defScope st)) (hl : ∀ vs H Q E, sp vs H Q E → vs.length = ps.length)
    (hb : ∀ (cdv : Value) (A : Around) (outer : List Env) (s : Shared) (H : Hp) (vs : List V) (Q : VK) (E : XK), Room k (A.deeper (envOfC qual (defScope st) s.heap.objs.size f cdv)) → sp vs H Q E →
      ∃ t, PSs (cxOf CX0 P w K mg base N qual (defScope st) f cdv A outer s H E).nox (defBody st) t ∧ t { nx := fun _ H' => Q .non H', rt := Q } (start N vs) H) : FnOk P w K mg base CX0 (k + 1) f fd ps sp :=
  FunD.ok F S hl fun cdv A outer s H vs Q E hr hp => let ⟨t, h, q⟩ := hb cdv A outer s H vs Q E hr hp; ⟨t, h.nox, q⟩
/-! ### defs without effect on their arguments -/
def spP (K : PySem.W.Frag) (n : Nat) (F : List D → Option D) : Sp := fun vs H Q _ => vs.length = n ∧ ∃ ds fs d, RpL K H vs ds fs ∧ F ds = some d ∧
  ∀ v H' fp, Same H H' → Rp K H' v d fp → fp.Nodup → (∀ a ∈ fp, H a = none) → Q v H'
def rho0 (n : Nat) (ds : List D) : Rh := ds.map (fun d => some ⟨d, .ro⟩) ++ List.replicate (n - ds.length) none
def runP (n : Nat) (B : Rh → Out) (ds : List D) : Option D := match B (rho0 n ds) with
  | .rt d _ => some d
  | .nx _ => some .none
  | _ => none
theorem RpL.fn {K : PySem.W.Frag} {H : Hp} : ∀ {ds : List D} {vs : List V} {fs : List Addr}, RpL K H vs ds fs → ∃ f : Nat → List Addr, ∀ i d, ds[i]? = some d → ∃ v, vs[i]? = some v ∧ Rp K H v d (f i)
  | [], _, _, _ => ⟨fun _ => [], fun i d e => by simp at e⟩
  | d :: ds, _, _, h => by
    cases h with
    | cons h1 h2 =>
      rename_i v vs f1 fs
      obtain ⟨f, hf⟩ := RpL.fn h2
      refine ⟨fun i => match i with | 0 => f1 | i + 1 => f i, fun i d' e => ?_⟩
      cases i with
      | zero => simp at e; subst e; exact ⟨v, rfl, h1⟩
      | succ i =>
        obtain ⟨u, e1, r⟩ := hf i d' (by simpa using e)
        exact ⟨u, by simpa using e1, r⟩
theorem rho0_get {n : Nat} {ds : List D} {i : Nat} {c : Cl} (h : (rho0 n ds)[i]? = some (some c)) : ∃ d, ds[i]? = some d ∧ c = ⟨d, .ro⟩ := by
  unfold rho0 at h
  by_cases hi : i < ds.length
  · rw [List.getElem?_append_left (by simpa using hi), List.getElem?_map, List.getElem?_eq_getElem hi] at h
    simp only [Option.map_some, Option.some.injEq] at h
    exact ⟨ds[i], List.getElem?_eq_getElem hi, h.symm⟩
  · rw [List.getElem?_append_right (by simpa using hi)] at h
    have := List.mem_of_getElem? h
    rw [List.mem_replicate] at this
    cases this.2
theorem start_get {N : List Str} {vs : List V} {i : Nat} {v : V} (h : vs[i]? = some v) : (start N vs)[i]? = some (some v) := by
  unfold L2.start
  have hi : i < vs.length := (List.getElem?_eq_some_iff.mp h).1
  rw [List.getElem?_append_left (by simpa using hi), List.getElem?_map, h]; rfl
section
variable {P : Program} {w : World} {K : PySem.W.Frag} {mg : Str → Option Value} {base : Heap}
theorem fnP {x qual : Str} {st : Stmt} {f : Addr} {fd : FuncData} {N ps : List Str} {k : Nat} {B : Rh → Out} (F : FnD K x qual st f fd) (S : FnScope N ps (defScope st))
    (hb : ∀ (cdv : Value) (A : Around) (outer : List Env) (s : Shared) (H : Hp) (E : XK), Room k (A.deeper (envOfC qual (defScope st) s.heap.objs.size f cdv)) → BS (cxOf CX0 P w K mg base N qual (defScope st) f cdv A outer s H E).nox (defBody st) B) :
    FnOk P w K mg base CX0 (k + 1) f fd ps (spP K ps.length (runP N.length B)) := by
  refine F.walk S (fun vs H Q E h => h.1) fun cdv A outer s H vs Q E hr h => ?_
  obtain ⟨hl, ds, fs, d, rp, hd, q⟩ := h
  obtain ⟨t, pe, hq⟩ := hb cdv A outer s H E hr
  refine ⟨t, pe, ?_⟩
  obtain ⟨f0, hf0⟩ := rp.fn
  have hlen := rp.length
  have R : Rho K ⟨fun a => H a ≠ none, fun _ => False⟩ (fun _ => none) (rho0 N.length ds) (start N vs) H f0 := by
    refine ⟨?_, fun a h => h.elim id fun z => z.elim, fun i c e => ?_, fun i c e wr => ?_, fun i c e a m z => z, fun i j c c' hij e wr => ?_, fun i v z => nomatch z⟩
    · unfold rho0 L2.start; simp [hlen]
    · obtain ⟨d', e1, rfl⟩ := rho0_get e
      obtain ⟨v, e2, r⟩ := hf0 i d' e1
      exact ⟨v, start_get e2, r⟩
    · obtain ⟨d', e1, rfl⟩ := rho0_get e; cases wr
    · obtain ⟨d', e1, rfl⟩ := rho0_get e; cases wr
  refine hq _ _ _ _ H f0 _ R ?_
  have sm : ∀ H', Keep (Fm.all ⟨fun a => H a ≠ none, fun _ => False⟩) H H' → Same H H' := fun H' k a o e => k a o e (.inl (.inl (fun z => by rw [e] at z; cases z)))
  unfold runP at hd
  split at hd
  · rename_i d' ρ' e
    cases hd
    rw [e]
    exact fun v σ' H' f' fp R' fr k => q v H' fp (sm H' k) fr.rp fr.nd fun a m => Classical.byContradiction fun z => fr.nf a m (.inl z)
  · rename_i ρ' e
    cases hd
    rw [e]
    exact fun σ' H' f' R' k => q .non H' [] (sm H' k) .non List.nodup_nil fun a m => nomatch m
  · cases hd
/-- nothing promised -/
theorem fn_zero {f : Addr} {fd : FuncData} {ps : List Str} {k : Nat} : FnOk P w K mg base CX0 k f fd ps (spP K ps.length fun _ => none) :=
  ⟨fun vs H Q E h => h.1, fun A outer s H args us vs Q E hr he hb hv h => by obtain ⟨_, ds, fs, d, _, e, _⟩ := h; cases e⟩
theorem fnP_imp {f : Addr} {fd : FuncData} {ps : List Str} {k n : Nat} {F F' : List D → Option D} (h : FnOk P w K mg base CX0 k f fd ps (spP K n F)) (hf : ∀ ds d, F' ds = some d → F ds = some d) : FnOk P w K mg base CX0 k f fd ps (spP K n F') :=
  h.imp fun vs H Q E ⟨hl, ds, fs, d, rp, e, q⟩ => ⟨hl, ds, fs, d, rp, hf ds d e, q⟩

/-! ### defs that change one argument -/
def spM (K : PySem.W.Frag) (n m : Nat) (F : List D → Option (D × D)) : Sp := fun vs H Q _ => vs.length = n ∧ ∃ ds, ∃ f : Nat → List Addr, ∃ r d' vm, ds.length = n ∧ vs[m]? = some vm ∧ (∀ i d, ds[i]? = some d → ∃ v, vs[i]? = some v ∧ Rp K H v d (f i)) ∧ (f m).Nodup ∧
  (∀ j d, j ≠ m → ds[j]? = some d → ∀ a ∈ f m, a ∉ f j) ∧ F ds = some (r, d') ∧
  ∀ v H' fm fp, Keep (fun a => H a ≠ none ∧ a ∉ f m) H H' → Rp K H' vm d' fm → fm.Nodup → (∀ a ∈ fm, a ∈ f m ∨ H a = none) → Rp K H' v r fp → fp.Nodup → (∀ a ∈ fp, (a ∈ f m ∨ H a = none) ∧ a ∉ fm) → Q v H'
def rhoM (n m : Nat) (ds : List D) : Rh := (ds.mapIdx fun i d => some (⟨d, if i = m then .pin else .ro⟩ : Cl)) ++ List.replicate (n - ds.length) none
def runM (n m : Nat) (B : Rh → Out) (ds : List D) : Option (D × D) := match B (rhoM n m ds) with
  | .rt d ρ => match ρ[m]? with
    | some (some c) => some (d, c.d)
    | _ => none
  | .nx ρ => match ρ[m]? with
    | some (some c) => some (.none, c.d)
    | _ => none
  | _ => none
theorem rhoM_get {n m : Nat} {ds : List D} {i : Nat} {c : Cl} (h : (rhoM n m ds)[i]? = some (some c)) : ∃ d, ds[i]? = some d ∧ c = ⟨d, if i = m then .pin else .ro⟩ := by
  unfold rhoM at h
  by_cases hi : i < ds.length
  · rw [List.getElem?_append_left (by simpa using hi), List.getElem?_mapIdx, List.getElem?_eq_getElem hi] at h
    simp only [Option.map_some, Option.some.injEq] at h
    exact ⟨ds[i], List.getElem?_eq_getElem hi, h.symm⟩
  · rw [List.getElem?_append_right (by simpa using hi)] at h
    have := List.mem_of_getElem? h
    rw [List.mem_replicate] at this
    cases this.2
theorem fnM {x qual : Str} {st : Stmt} {f : Addr} {fd : FuncData} {N ps : List Str} {k m : Nat} {B : Rh → Out} (F : FnD K x qual st f fd) (S : FnScope N ps (defScope st)) (hm : m < ps.length)
    (hb : ∀ (cdv : Value) (A : Around) (outer : List Env) (s : Shared) (H : Hp) (E : XK), Room k (A.deeper (envOfC qual (defScope st) s.heap.objs.size f cdv)) → BS (cxOf CX0 P w K mg base N qual (defScope st) f cdv A outer s H E).nox (defBody st) B) :
    FnOk P w K mg base CX0 (k + 1) f fd ps (spM K ps.length m (runM N.length m B)) := by
  refine F.walk S (fun vs H Q E h => h.1) fun cdv A outer s H vs Q E hr h => ?_
  obtain ⟨hl, ds, f0, r, d', vm, hld, hvm, hf0, nd0, dj0, hd, q⟩ := h
  obtain ⟨t, pe, hq⟩ := hb cdv A outer s H E hr
  refine ⟨t, pe, ?_⟩
  have hmd : m < ds.length := by omega
  have gm : (rhoM N.length m ds)[m]? = some (some ⟨ds[m], .pin⟩) := by
    unfold rhoM
    rw [List.getElem?_append_left (by simpa using hmd), List.getElem?_mapIdx, List.getElem?_eq_getElem hmd]
    simp
  have R : Rho K ⟨fun a => H a ≠ none ∧ a ∉ f0 m, fun _ => False⟩ (fun i => if i = m then some vm else none) (rhoM N.length m ds) (start N vs) H f0 := by
    refine ⟨?_, fun a h => h.elim (fun z => z.1) fun z => z.elim, fun i c e => ?_, fun i c e wr => ?_, fun i c e a m z => z, fun i j c c' hij e wr e' => ?_, fun i v z => ?_⟩
    · unfold rhoM L2.start; simp [hl, hld]
    · obtain ⟨d', e1, rfl⟩ := rhoM_get e
      obtain ⟨v, e2, r⟩ := hf0 i d' e1
      exact ⟨v, start_get e2, r⟩
    · obtain ⟨d', e1, rfl⟩ := rhoM_get e
      by_cases hi : i = m
      · subst hi; exact ⟨nd0, fun a h z => z.2 h⟩
      · simp only [if_neg hi] at wr; cases wr
    · obtain ⟨d', e1, rfl⟩ := rhoM_get e
      obtain ⟨d2, e2, rfl⟩ := rhoM_get e'
      by_cases hi : i = m
      · subst hi; exact dj0 j d2 (Ne.symm hij) e2
      · simp only [if_neg hi] at wr; cases wr
    · by_cases hi : i = m
      · subst hi
        rw [if_pos rfl] at z; cases z
        exact ⟨start_get hvm, _, gm, rfl⟩
      · rw [if_neg hi] at z; cases z
  refine hq _ _ _ _ H f0 _ R ?_
  have kp : ∀ H', Keep (Fm.all ⟨fun a => H a ≠ none ∧ a ∉ f0 m, fun _ => False⟩) H H' → Keep (fun a => H a ≠ none ∧ a ∉ f0 m) H H' := fun H' k => k.mono fun a z => .inl z
  have nw : ∀ a, ¬ (Fm.all ⟨fun a => H a ≠ none ∧ a ∉ f0 m, fun _ => False⟩ a) → a ∈ f0 m ∨ H a = none := fun a z => by
    by_cases h1 : a ∈ f0 m
    · exact .inl h1
    · exact .inr (Classical.byContradiction fun h2 => z (.inl ⟨h2, h1⟩))
  unfold runM at hd
  split at hd
  · rename_i d1 ρ' e
    split at hd
    · rename_i c ec
      cases hd
      rw [e]
      intro v σ' H' f' fp R' fr k
      obtain ⟨e1, c1, e2, e3⟩ := R'.pin m vm (if_pos rfl)
      rw [ec] at e2; cases e2
      obtain ⟨v1, e4, r1⟩ := R'.rp m c ec
      rw [e1] at e4; cases e4
      obtain ⟨nd1, nf1⟩ := R'.nd m c ec (by rw [e3]; rfl)
      exact q v H' (f' m) fp (kp H' k) r1 nd1 (fun a h => nw a fun z => z.elim (nf1 a h) id) fr.rp fr.nd fun a h => ⟨nw a (fr.nf a h), fr.dj m c ec a h⟩
    · cases hd
  · rename_i ρ' e
    split at hd
    · rename_i c ec
      cases hd
      rw [e]
      intro σ' H' f' R' k
      obtain ⟨e1, c1, e2, e3⟩ := R'.pin m vm (if_pos rfl)
      rw [ec] at e2; cases e2
      obtain ⟨v1, e4, r1⟩ := R'.rp m c ec
      rw [e1] at e4; cases e4
      obtain ⟨nd1, nf1⟩ := R'.nd m c ec (by rw [e3]; rfl)
      exact q .non H' (f' m) [] (kp H' k) r1 nd1 (fun a h => nw a fun z => z.elim (nf1 a h) id) .non List.nodup_nil fun a h => nomatch h
    · cases hd
  · cases hd
theorem fn_zeroM {f : Addr} {fd : FuncData} {ps : List Str} {k m : Nat} : FnOk P w K mg base CX0 k f fd ps (spM K ps.length m fun _ => none) :=
  ⟨fun vs H Q E h => h.1, fun A outer s H args us vs Q E hr he hb hv h => by obtain ⟨_, ds, f, r, d', vm, _, _, _, _, _, e, _⟩ := h; cases e⟩
end

/-! ### calls -/
section
variable {X : Cx} {pos p : Pos} {k n : Nat} {f : Addr} {fd : FuncData} {ps : List Str} {x : Str} {e : Expr} {es : List Expr} {F : List D → Option D}
theorem ep_call {fr : Bool} {h : Rh → Option (List D)} (G : FnOk X.prog X.w X.K X.mg X.base CX0 k f fd ps (spP X.K n F)) (hn : n = ps.length) (hr : Room k X.A) (hg : Gl X x) (hm : X.mg x = some (.ref f)) (hk : PySem.W.keepIn X.K (.ref f) = true) (hb : Binds X.K fd ps [])
    (ha : AP fr X (e :: es) h) (hl : (e :: es).length = n := by rfl) (hdb : (x == ("__debug__" : Str)) = false := by decide) (he : starEach (e :: es) X.env = (false, eval e X.env) :: starEach es X.env := by rfl) (hpl : (backTo pos (starEach es X.env)).any (·.1) = false := by rfl)
    (hal : ∀ ρ ds, h ρ = some ds → ds.length = n) : EP true X (.Call (.Name x p) (e :: es) [] pos) (fun ρ => match h ρ with | some ds => F ds | none => none) := by
  obtain ⟨t, pe, hq⟩ := ha
  refine ⟨_, pe_call G hr hg hm hk hb .nil pass0 pe hdb he hpl, fun ρ σ H d Q R hd q => ?_⟩
  simp only at hd
  split at hd
  · rename_i ds e1
    refine hq ρ σ H ds _ R e1 fun vs H1 fs s r _ => ?_
    show spP X.K n F (vs ++ []) H1 Q _
    rw [List.append_nil]
    exact ⟨r.length.trans (hal ρ ds e1), ds, fs, d, r, hd, fun v H' fp s2 rv nd nw => q v H' fp (same_trans s s2) rv fun _ => ⟨nd, fun a m => Same.new s (nw a m)⟩⟩
  · cases hd
theorem ev_call {g : Rh → Option (List D × Rh)} (G : FnOk X.prog X.w X.K X.mg X.base CX0 k f fd ps (spP X.K n F)) (hr : Room k X.A) (hg : Gl X x) (hm : X.mg x = some (.ref f)) (hk : PySem.W.keepIn X.K (.ref f) = true) (hb : Binds X.K fd ps [])
    (ha : AV X (e :: es) g) (hal : ∀ ρ ds ρ', g ρ = some (ds, ρ') → ds.length = n) (hdb : (x == ("__debug__" : Str)) = false := by decide) (he : starEach (e :: es) X.env = (false, eval e X.env) :: starEach es X.env := by rfl) (hpl : (backTo pos (starEach es X.env)).any (·.1) = false := by rfl) :
    EV X (.Call (.Name x p) (e :: es) [] pos) (fun ρ => match g ρ with | some (ds, ρ') => (F ds).map fun d => (d, ρ') | none => none) := by
  obtain ⟨t, pe, hq⟩ := ha
  refine ⟨_, pe_call G hr hg hm hk hb .nil pass0 pe hdb he hpl, fun Fm L ρ σ H fo d ρ' Q R hd q => ?_⟩
  simp only at hd
  split at hd
  · rename_i ds ρ1 e1
    cases e2 : F ds with
    | none => rw [e2] at hd; cases hd
    | some d1 =>
      rw [e2] at hd; cases hd
      refine hq Fm L ρ σ H fo ds ρ' _ R e1 fun vs H1 f1 fs R1 fr k1 => ?_
      show spP X.K n F (vs ++ []) H1 Q _
      rw [List.append_nil]
      exact ⟨fr.rp.length.trans (hal ρ ds ρ' e1), ds, fs, d, fr.rp, e2, fun v H' fp s2 rv nd nw => q v H' f1 fp (R1.same s2) (R1.fresh s2 rv nd nw) (k1.trans (Keep.of_same s2))⟩
  · cases hd

/-! ### calls that change a slot -/
inductive Ag where
  | rd (i : Nat)
  | ev (g : Rh → Option (D × Rh))
def runAg : List Ag → Rh → Option (List (D ⊕ Nat) × Rh)
  | [], ρ => some ([], ρ)
  | .rd i :: as, ρ => match getS i ρ with
    | some _ => match runAg as ρ with
      | some (xs, ρ') => some (.inr i :: xs, ρ')
      | none => none
    | none => none
  | .ev g :: as, ρ => match g ρ with
    | some (d, ρ1) => match runAg as ρ1 with
      | some (xs, ρ') => some (.inl d :: xs, ρ')
      | none => none
    | none => none
def valAg (ρ : Rh) : D ⊕ Nat → Option D
  | .inl d => some d
  | .inr i => getS i ρ
def valAgs (ρ : Rh) : List (D ⊕ Nat) → Option (List D)
  | [] => some []
  | x :: xs => match valAg ρ x, valAgs ρ xs with
    | some d, some ds => some (d :: ds)
    | _, _ => none
inductive AgL (K : PySem.W.Frag) (H : Hp) (σ : L2.St) : List V → List (D ⊕ Nat) → List Addr → Prop
  | nil : AgL K H σ [] [] []
  | inl {v : V} {d : D} {fp fs : List Addr} {vs : List V} {xs : List (D ⊕ Nat)} : Rp K H v d fp → AgL K H σ vs xs fs → AgL K H σ (v :: vs) (.inl d :: xs) (fp ++ fs)
  | inr {v : V} {i : Nat} {fs : List Addr} {vs : List V} {xs : List (D ⊕ Nat)} : σ[i]? = some (some v) → AgL K H σ vs xs fs → AgL K H σ (v :: vs) (.inr i :: xs) fs
def AgOk (X : Cx) (es : List Expr) (as : List Ag) : Prop := ∃ t : TA, PA X es t ∧
  ∀ (F : Fm) (L : Nat → Option V) (ρ : Rh) (σ : L2.St) (H : Hp) (f : Nat → List Addr) (xs : List (D ⊕ Nat)) (ρ' : Rh) (Q : List V → Hp → Prop), Rho X.K F L ρ σ H f → runAg as ρ = some (xs, ρ') →
    (∀ vs H' f' fp, Rho X.K F L ρ' σ H' f' → AgL X.K H' σ vs xs fp → fp.Nodup → (∀ a ∈ fp, ¬ F.all a) → (∀ i c, ρ'[i]? = some (some c) → ∀ a ∈ fp, a ∉ f' i) → Keep F.all H H' → Q vs H') → t σ H Q
theorem ag_nil : AgOk X [] [] := ⟨_, pa_nil, fun F L ρ σ H f xs ρ' Q R h q => by
  cases h
  exact q [] H f [] R .nil List.nodup_nil (fun a m => (nomatch m)) (fun _ _ _ a m => (nomatch m)) Keep.refl⟩
theorem ag_rd {i : Nat} {as : List Ag} (he : PE X e (tVar i)) (hs : AgOk X es as) (hst : starEach (e :: es) X.env = (false, eval e X.env) :: starEach es X.env := by rfl) : AgOk X (e :: es) (.rd i :: as) := by
  obtain ⟨t, pe, hq⟩ := hs
  refine ⟨_, pa_cons he pe hst, fun F L ρ σ H f xs ρ' Q R h q => ?_⟩
  unfold runAg at h
  split at h
  · rename_i d ed
    split at h
    · rename_i ys ρ1 e1
      cases h
      obtain ⟨c, ec, _⟩ := getS_some ed
      obtain ⟨v, ev, _⟩ := R.rp i c ec
      exact ⟨v, ev, hq F L ρ σ H f ys ρ' _ R e1 fun vs H' f' fp R' al nd nf dj k => q (v :: vs) H' f' fp R' (.inr ev al) nd nf dj k⟩
    · cases h
  · cases h
theorem AgL.keep {K : PySem.W.Frag} {H H' : Hp} {σ : L2.St} {F : Addr → Prop} (k : Keep F H H') : ∀ {vs : List V} {xs : List (D ⊕ Nat)} {fp : List Addr}, AgL K H σ vs xs fp → (∀ a ∈ fp, F a) → AgL K H' σ vs xs fp
  | _, _, _, .nil, _ => .nil
  | _, _, _, .inl r s, h => .inl (Rp.keep k _ _ _ r fun a m => h a (List.mem_append_left _ m)) (AgL.keep k s fun a m => h a (List.mem_append_right _ m))
  | _, _, _, .inr e s, h => .inr e (AgL.keep k s h)
theorem AgL.dom {K : PySem.W.Frag} {H : Hp} {σ : L2.St} : ∀ {vs : List V} {xs : List (D ⊕ Nat)} {fp : List Addr}, AgL K H σ vs xs fp → ∀ a ∈ fp, H a ≠ none
  | _, _, _, .nil, _, m => nomatch m
  | _, _, _, .inl r s, a, m => (List.mem_append.mp m).elim r.dom (AgL.dom s a)
  | _, _, _, .inr e s, a, m => AgL.dom s a m
theorem ag_ev {g : Rh → Option (D × Rh)} {as : List Ag} (he : EV X e g) (hs : AgOk X es as) (hst : starEach (e :: es) X.env = (false, eval e X.env) :: starEach es X.env := by rfl) : AgOk X (e :: es) (.ev g :: as) := by
  obtain ⟨te, p1, q1⟩ := he
  obtain ⟨t, pe, hq⟩ := hs
  refine ⟨_, pa_cons p1 pe hst, fun F L ρ σ H f xs ρ' Q R h q => ?_⟩
  unfold runAg at h
  split at h
  · rename_i d ρ1 ed
    split at h
    · rename_i ys ρ2 e2
      cases h
      refine q1 F L ρ σ H f d ρ1 _ R ed fun v H1 f1 fp1 R1 fr1 k1 => ?_
      refine hq (F.hold fp1) L ρ1 σ H1 f1 ys ρ' _ (R1.hold fr1) e2 fun vs H2 f2 fp2 R2 al nd nf dj k2 => ?_
      have fr1' := fr1.over k2 R2
      refine q (v :: vs) H2 f2 (fp1 ++ fp2) R2.unhold (.inl fr1'.rp al) (List.nodup_append.mpr ⟨fr1.nd, nd, fun a m b m' z => ?_⟩) (fun a m z => ?_) (fun i c ec a m => ?_) (k1.trans k2.unhold)
      · subst z; exact nf a m' (Fm.mem_hold m)
      · rcases List.mem_append.mp m with m | m
        · exact fr1.nf a m z
        · exact nf a m (Fm.all_hold z)
      · rcases List.mem_append.mp m with m | m
        · exact fr1'.dj i c ec a m
        · exact dj i c ec a m
    · cases h
  · cases h
def agIx : Ag → Option Nat
  | .rd i => some i
  | .ev _ => none
def xIx : D ⊕ Nat → Option Nat
  | .inr i => some i
  | .inl _ => none
theorem runAg_ix : ∀ {as : List Ag} {ρ ρ' : Rh} {xs : List (D ⊕ Nat)}, runAg as ρ = some (xs, ρ') → xs.map xIx = as.map agIx
  | [], _, _, _, h => by cases h; rfl
  | .rd i :: as, ρ, ρ', xs, h => by
    unfold runAg at h
    split at h
    · split at h
      · rename_i e1
        cases h
        simp [runAg_ix e1, xIx, agIx]
      · cases h
    · cases h
  | .ev g :: as, ρ, ρ', xs, h => by
    unfold runAg at h
    split at h
    · split at h
      · rename_i e1
        cases h
        simp [runAg_ix e1, xIx, agIx]
      · cases h
    · cases h
theorem valAgs_get {ρ : Rh} : ∀ {xs : List (D ⊕ Nat)} {ds : List D}, valAgs ρ xs = some ds → ds.length = xs.length ∧ ∀ (j : Nat) (d : D), ds[j]? = some d → ∃ x : D ⊕ Nat, xs[j]? = some x ∧ valAg ρ x = some d
  | [], ds, h => by cases h; exact ⟨rfl, fun j d e => by simp at e⟩
  | x :: xs, ds, h => by
    unfold valAgs at h
    split at h
    · rename_i d0 ds0 e1 e2
      cases h
      obtain ⟨hl, hg⟩ := valAgs_get e2
      refine ⟨by simp [hl], fun j d e => ?_⟩
      cases j with
      | zero => simp at e; subst e; exact ⟨x, rfl, e1⟩
      | succ j => obtain ⟨y, ey, vy⟩ := hg j d (by simpa using e); exact ⟨y, by simpa using ey, vy⟩
    · cases h
theorem AgL.get {K : PySem.W.Frag} {H : Hp} {σ : L2.St} : ∀ {vs : List V} {xs : List (D ⊕ Nat)} {fp : List Addr}, AgL K H σ vs xs fp → vs.length = xs.length ∧ ∃ g : Nat → List Addr, ∀ (j : Nat) (x : D ⊕ Nat), xs[j]? = some x → ∃ v, vs[j]? = some v ∧ ((∃ d, x = .inl d ∧ Rp K H v d (g j) ∧ ∀ a ∈ g j, a ∈ fp) ∨ ∃ i, x = .inr i ∧ σ[i]? = some (some v))
  | _, _, _, .nil => ⟨rfl, fun _ => [], fun j x e => by simp at e⟩
  | _, _, _, .inl (fp := f1) r s => by
    obtain ⟨hl, g, hg⟩ := AgL.get s
    refine ⟨by simp [hl], fun j => match j with | 0 => f1 | j + 1 => g j, fun j x e => ?_⟩
    cases j with
    | zero => simp at e; subst e; exact ⟨_, rfl, .inl ⟨_, rfl, r, fun a m => List.mem_append_left _ m⟩⟩
    | succ j =>
      obtain ⟨v, ev, h⟩ := hg j x (by simpa using e)
      refine ⟨v, by simpa using ev, h.imp (fun ⟨d, e1, e2, e3⟩ => ⟨d, e1, e2, fun a m => List.mem_append_right _ (e3 a m)⟩) id⟩
  | _, _, _, .inr es s => by
    obtain ⟨hl, g, hg⟩ := AgL.get s
    refine ⟨by simp [hl], fun j => match j with | 0 => [] | j + 1 => g j, fun j x e => ?_⟩
    cases j with
    | zero => simp at e; subst e; exact ⟨_, rfl, .inr ⟨_, rfl, es⟩⟩
    | succ j =>
      obtain ⟨v, ev, h⟩ := hg j x (by simpa using e)
      exact ⟨v, by simpa using ev, h⟩
/-- the argument m is the slot i, which changes -/
def callM (i : Nat) (as : List Ag) (F : List D → Option (D × D)) : Rh → Option (D × Rh) := fun ρ => match runAg as ρ with
  | none => none
  | some (xs, ρ1) => match wr i ρ1 with
    | none => none
    | some (_, o) => match valAgs ρ1 xs with
      | none => none
      | some ds => match F ds with
        | some (r, d') => some (r, ρ1.set i (some ⟨d', o⟩))
        | none => none
open Classical in
theorem ev_callM {m i : Nat} {as : List Ag} {F : List D → Option (D × D)} (G : FnOk X.prog X.w X.K X.mg X.base CX0 k f fd ps (spM X.K n m F)) (hr : Room k X.A) (hg : Gl X x) (hm : X.mg x = some (.ref f)) (hk : PySem.W.keepIn X.K (.ref f) = true) (hb : Binds X.K fd ps [])
    (ha : AgOk X (e :: es) as) (hn : as.length = n) (hi1 : (as.map agIx)[m]? = some (some i)) (hi2 : ∀ j, j < as.length → (as.map agIx)[j]? = some (some i) → j = m) (hdb : (x == ("__debug__" : Str)) = false := by decide)
    (he : starEach (e :: es) X.env = (false, eval e X.env) :: starEach es X.env := by rfl) (hpl : (backTo pos (starEach es X.env)).any (·.1) = false := by rfl) : EV X (.Call (.Name x p) (e :: es) [] pos) (callM i as F) := by
  obtain ⟨t, pe, hq⟩ := ha
  refine ⟨_, pe_call G hr hg hm hk hb .nil pass0 pe hdb he hpl, fun Fm L ρ σ H fo r ρ' Q R hd q => ?_⟩
  unfold callM at hd
  split at hd
  · cases hd
  · rename_i xs ρ1 e1
    split at hd
    · cases hd
    · rename_i di o ew
      split at hd
      · cases hd
      · rename_i ds e2
        split at hd
        · rename_i r' d' e3
          cases hd
          have hix := runAg_ix e1
          obtain ⟨hwr, hw⟩ := wr_some ew
          refine hq Fm L ρ σ H fo xs ρ1 _ R e1 fun vs H1 f1 fp R1 al nd nf dj k1 => ?_
          show spM X.K n m F (vs ++ []) H1 Q _
          rw [List.append_nil]
          obtain ⟨hvl, g, hg'⟩ := al.get
          obtain ⟨hdl, hdg⟩ := valAgs_get e2
          have hxl : xs.length = as.length := by have := congrArg List.length hix; simpa using this
          have xm : xs[m]? = some (.inr i) := by
            have h1 : (xs.map xIx)[m]? = some (some i) := by rw [hix]; exact hi1
            rw [List.getElem?_map] at h1
            cases hx : xs[m]? with
            | none => rw [hx] at h1; cases h1
            | some y =>
              rw [hx] at h1
              cases y with
              | inl d => cases h1
              | inr j => cases h1; rfl
          have xo : ∀ j, xs[j]? = some (.inr i) → j = m := fun j hj => by
            have hjl : j < as.length := by rw [← hxl]; exact (List.getElem?_eq_some_iff.mp hj).1
            refine hi2 j hjl ?_
            rw [← hix, List.getElem?_map, hj]; rfl
          obtain ⟨vm, evm, hvm⟩ := hg' m _ xm
          have svm : σ[i]? = some (some vm) := by
            rcases hvm with ⟨d, z, _⟩ | ⟨i', z, h⟩
            · cases z
            · cases z; exact h
          -- the addresses by argument
          let fa : Nat → List Addr := fun j => match xs[j]? with
            | some (.inr l) => f1 l
            | some (.inl _) => g j
            | none => []
          have fam : fa m = f1 i := by show (match xs[m]? with | some (.inr l) => f1 l | some (.inl _) => g m | none => []) = _; rw [xm]
          have hfa : ∀ j d, ds[j]? = some d → ∃ v, vs[j]? = some v ∧ Rp X.K H1 v d (fa j) := fun j d ej => by
            obtain ⟨y, ey, vy⟩ := hdg j d ej
            obtain ⟨v, ev, hv⟩ := hg' j y ey
            refine ⟨v, ev, ?_⟩
            show Rp X.K H1 v d (match xs[j]? with | some (.inr l) => f1 l | some (.inl _) => g j | none => [])
            rw [ey]
            rcases hv with ⟨d1, rfl, r1, _⟩ | ⟨l, rfl, sl⟩
            · cases vy; exact r1
            · obtain ⟨c, ec, ed⟩ := getS_some (show getS l ρ1 = some d from vy)
              obtain ⟨v2, ev2, r2⟩ := R1.rp l c ec
              rw [sl] at ev2; cases ev2
              rw [← ed]; exact r2
          obtain ⟨ndi, nfi⟩ := R1.nd i _ hwr hw
          refine ⟨by omega, ds, fa, r, d', vm, by omega, evm, hfa, by rw [fam]; exact ndi, fun j d hj ej a ma => ?_, e3, fun v H2 fm fr K2 rm ndm sm rr ndr sr => ?_⟩
          · rw [fam] at ma
            obtain ⟨y, ey, vy⟩ := hdg j d ej
            show a ∉ (match xs[j]? with | some (.inr l) => f1 l | some (.inl _) => g j | none => [])
            rw [ey]
            cases y with
            | inl d1 =>
              obtain ⟨v, ev, hv⟩ := hg' j _ ey
              rcases hv with ⟨d2, _, _, sub⟩ | ⟨l, z, _⟩
              · exact fun ma' => dj i _ hwr a (sub a ma') ma
              · cases z
            | inr l =>
              have hl : l ≠ i := fun z => hj (xo j (by rw [← z]; exact ey))
              obtain ⟨c, ec, ed⟩ := getS_some (show getS l ρ1 = some d from vy)
              exact R1.dj i l _ c (Ne.symm hl) hwr hw ec a ma
          · rw [fam] at K2 sm sr
            have kk : Keep (fun b => b ∉ f1 i) H1 H2 := fun b ob eb hb => K2 b ob eb (hb.imp (fun z => ⟨(fun w => by rw [eb] at w; cases w), z⟩) id)
            obtain ⟨R2, kF⟩ := R1.mutate (d' := d') (fp' := fm) hwr hw svm rm ndm (fun a ma => (sm a ma).imp id fun z => ⟨fun w => R1.fok a w z, fun j cj hj ej ma' => R1.domf ej ma' z⟩) kk
            refine q v H2 _ fr R2 ⟨rr, ndr, fun a ma z => ?_, fun j c ec a ma => ?_⟩ (k1.trans kF)
            · rcases (sr a ma).1 with h1 | h1
              · exact z.elim (nfi a h1) (R1.pv i _ hwr a h1)
              · exact R1.fok a z h1
            · by_cases hj : j = i
              · rw [if_pos hj]; exact (sr a ma).2
              · rw [if_neg hj]
                have ec' : ρ1[j]? = some (some c) := by rw [get_set_ne hj] at ec; exact ec
                rcases (sr a ma).1 with h1 | h1
                · exact R1.dj i j _ c (Ne.symm hj) hwr hw ec' a h1
                · exact fun ma' => R1.domf ec' ma' h1
        · cases hd
end
end PV

set_option Elab.async false
set_option linter.all false
set_option maxRecDepth 100000
set_option maxHeartbeats 1000000
namespace PV
open PySem PySem.Spec PyProof.Rows L2

theorem no_mem {P : Addr → Prop} : ([] : List Addr).Nodup ∧ ∀ a ∈ ([] : List Addr), P a := ⟨List.nodup_nil, fun a m => nomatch m⟩
/-! ### binary operators -/
def subD : D → D → Option D
  | .int i, .int j => some (.int (i - j))
  | _, _ => none
theorem r2_sub {K : PySem.W.Frag} : R2ok true K (rI0 fun i j => .int (i - j)) subD := by
  intro H x y d e z fx fy Q rx ry h q
  unfold subD at h
  split at h
  · cases h
    cases rx; cases ry
    exact ⟨_, _, rfl, rfl, q _ H [] Same.refl (.int _) fun _ => no_mem⟩
  · cases h
def addI : D → D → Option D
  | .int i, .int j => some (.int (i + j))
  | _, _ => none
theorem r2_addI {K : PySem.W.Frag} : R2ok true K (rI0 fun i j => .int (i + j)) addI := by
  intro H x y d e z fx fy Q rx ry h q
  unfold addI at h
  split at h
  · cases h
    cases rx; cases ry
    exact ⟨_, _, rfl, rfl, q _ H [] Same.refl (.int _) fun _ => no_mem⟩
  · cases h
def addT : D → D → Option D
  | .tuple a, .tuple b => if pureL a = true ∧ pureL b = true ∧ a.length + b.length ≤ 1000000 then some (.tuple (a ++ b)) else none
  | _, _ => none
theorem r2_addT {K : PySem.W.Frag} : R2ok true K (rCatA K) addT := by
  intro H x y d e z fx fy Q rx ry h q
  unfold addT at h
  split at h
  · split at h
    · rename_i a b hc
      obtain ⟨pa, pb, hl⟩ := hc
      cases h
      cases rx with
      | tup h1 z1 r1 =>
        cases ry with
        | tup h2 z2 r2 =>
          rename_i ax xs ay ys
          have ex := RpL.pure _ _ _ r1 pa
          have ey := RpL.pure _ _ _ r2 pb
          subst ex; subst ey
          have l1 := r1.length
          have l2 := r2.length
          have hz : (xs ++ ys).length ≤ sizeLine := by rw [List.length_append, l1, l2]; exact mil_line hl
          have r3 := RpL.append r1 r2
          refine ⟨ax, ay, xs, ys, rfl, rfl, sqt h1, sqt h2, by rw [l1, l2]; exact mil_line hl, fun e => ?_, fun n e => ?_, fun n1 n2 p np => ?_⟩
          · subst e
            cases a with
            | nil => exact q _ H [] Same.refl (.tup h2 z2 r2) fun _ => no_mem
            | cons => cases l1
          · subst e
            cases b with
            | nil =>
              exact q _ H [] Same.refl (by rw [List.append_nil]; exact .tup h1 z1 r1) fun _ => no_mem
            | cons => cases l2
          · exact q _ _ [] (same_upd np) (.tup upd_same hz (r3.same (same_upd np))) fun _ => no_mem
    · cases h
  · cases h
def addL : D → D → Option D
  | .list a, .list b => if pureL a = true ∧ pureL b = true ∧ a.length + b.length ≤ 1000000 then some (.list (a ++ b)) else none
  | _, _ => none
theorem r2_addL {K : PySem.W.Frag} : R2ok true K rCat addL := by
  intro H x y d e z fx fy Q rx ry h q
  unfold addL at h
  split at h
  · split at h
    · rename_i a b hc
      obtain ⟨pa, pb, hl⟩ := hc
      cases h
      cases rx with
      | lst h1 z1 r1 =>
        cases ry with
        | lst h2 z2 r2 =>
          have ex := RpL.pure _ _ _ r1 pa
          have ey := RpL.pure _ _ _ r2 pb
          subst ex; subst ey
          have l1 := r1.length
          have l2 := r2.length
          have r3 := RpL.append r1 r2
          refine ⟨_, _, _, _, rfl, rfl, h1, h2, by rw [l1, l2]; exact mil_line hl, fun p np => ?_⟩
          refine q _ _ [p] (same_upd np) (.lst upd_same (by rw [List.length_append, l1, l2]; exact mil_line hl) (r3.same (same_upd np))) fun _ => ⟨List.nodup_cons.mpr ⟨fun m => (nomatch m), List.nodup_nil⟩, fun a m => ?_⟩
          rcases List.mem_cons.mp m with m | m
          · rw [m]; exact np
          · cases m
    · cases h
  · cases h
theorem abs64 {j : Int} (h : j.natAbs < 18446744073709551616) : -(2 ^ 64) < j ∧ j < 2 ^ 64 := by constructor <;> omega
theorem abs63 {j : Int} (h : j.natAbs ≤ 1000000) : -(2 ^ 63) ≤ j ∧ j < 2 ^ 63 := by constructor <;> omega
def mulI : D → D → Option D
  | .int i, .int j => if i.natAbs < 18446744073709551616 ∨ j.natAbs < 18446744073709551616 then some (.int (i * j)) else none
  | _, _ => none
theorem r2_mulI {K : PySem.W.Frag} : R2ok true K (rI CMul fun i j => .int (i * j)) mulI := by
  intro H x y d e z fx fy Q rx ry h q
  unfold mulI at h
  split at h
  · split at h
    · rename_i hc
      cases h
      cases rx; cases ry
      exact ⟨_, _, rfl, rfl, hc.imp abs64 abs64, q _ H [] Same.refl (.int _) fun _ => no_mem⟩
    · cases h
  · cases h
def fdivI : D → D → Option D
  | .int i, .int j => if 0 < j ∧ j < 1073741824 then some (.int (i / j)) else none
  | _, _ => none
theorem r2_fdivI {K : PySem.W.Frag} : R2ok true K (rI CDiv fun i j => .int (i / j)) fdivI := by
  intro H x y d e z fx fy Q rx ry h q
  unfold fdivI at h
  split at h
  · split at h
    · rename_i hc
      cases h
      cases rx; cases ry
      exact ⟨_, _, rfl, rfl, hc, q _ H [] Same.refl (.int _) fun _ => no_mem⟩
    · cases h
  · cases h
def modI : D → D → Option D
  | .int i, .int j => if 0 < j then some (.int (i % j)) else none
  | _, _ => none
theorem r2_modI {K : PySem.W.Frag} : R2ok true K (rI (fun _ j => 0 < j) fun i j => .int (i % j)) modI := by
  intro H x y d e z fx fy Q rx ry h q
  unfold modI at h
  split at h
  · split at h
    · rename_i hc
      cases h
      cases rx; cases ry
      exact ⟨_, _, rfl, rfl, hc, q _ H [] Same.refl (.int _) fun _ => no_mem⟩
    · cases h
  · cases h
def repL : D → D → Option D
  | .list a, .int k => if pureL a = true ∧ k.natAbs ≤ 1000000 ∧ a.length * k.toNat ≤ 1000000 then some (.list (List.replicate k.toNat a).flatten) else none
  | _, _ => none
theorem RpL.rep {K : PySem.W.Frag} {H : Hp} {ds : List D} {vs : List V} (r : RpL K H vs ds []) : ∀ n : Nat, RpL K H (List.replicate n vs).flatten (List.replicate n ds).flatten []
  | 0 => .nil
  | n + 1 => by
    rw [List.replicate_succ, List.replicate_succ, List.flatten_cons, List.flatten_cons]
    exact RpL.append (fs := []) (fs' := []) r (RpL.rep r n)
theorem len_rep {α : Type} (xs : List α) (n : Nat) : (List.replicate n xs).flatten.length = xs.length * n := by
  simp [Nat.mul_comm]
theorem r2_repL {K : PySem.W.Frag} : R2ok true K rRep repL := by
  intro H x y d e z fx fy Q rx ry h q
  unfold repL at h
  split at h
  · split at h
    · rename_i a k hc
      obtain ⟨pa, h12, hl⟩ := hc
      obtain ⟨h1, h2⟩ := abs63 h12
      cases h
      cases ry
      cases rx with
      | lst ha za r1 =>
        have ex := RpL.pure _ _ _ r1 pa
        subst ex
        have l1 := r1.length
        refine ⟨_, _, _, rfl, rfl, ha, h1, h2, by rw [l1]; exact mil_line hl, fun p np => ?_⟩
        refine q _ _ [p] (same_upd np) (.lst upd_same (by rw [len_rep, l1]; exact mil_line hl) ((r1.rep k.toNat).same (same_upd np))) fun _ => ⟨List.nodup_cons.mpr ⟨fun m => (nomatch m), List.nodup_nil⟩, fun a m => ?_⟩
        rcases List.mem_cons.mp m with m | m
        · rw [m]; exact np
        · cases m
    · cases h
  · cases h
def repT : D → D → Option D
  | .tuple a, .int k => if pureL a = true ∧ a ≠ [] ∧ 2 ≤ k ∧ k ≤ 1000 ∧ a.length ≤ 1000 then some (.tuple (List.replicate k.toNat a).flatten) else none
  | _, _ => none
theorem r2_repT {K : PySem.W.Frag} : R2ok true K (rRepT K) repT := by
  intro H x y d e z fx fy Q rx ry h q
  unfold repT at h
  split at h
  · split at h
    · rename_i a k hc
      obtain ⟨pa, hne, h1, h2, hl⟩ := hc
      cases h
      cases ry
      cases rx with
      | tup ha za r1 =>
        have ex := RpL.pure _ _ _ r1 pa
        subst ex
        have l1 := r1.length
        refine ⟨_, _, _, rfl, rfl, sqt ha, fun z => ?_, h1, h2, by rw [l1]; exact hl, fun p np => ?_⟩
        · subst z
          exact hne (List.length_eq_zero_iff.mp l1.symm)
        · refine q _ _ [] (same_upd np) (.tup upd_same ?_ ((r1.rep k.toNat).same (same_upd np))) fun _ => no_mem
          rw [len_rep, l1]
          have : a.length * k.toNat ≤ 1000 * 1000 := Nat.mul_le_mul hl (by omega)
          exact mil_line (by omega)
    · cases h
  · cases h

/-! ### comparisons -/
def ltI : D → D → Option D
  | .int i, .int j => some (.bool (decide (i < j)))
  | _, _ => none
def leI : D → D → Option D
  | .int i, .int j => some (.bool (decide (i ≤ j)))
  | _, _ => none
def gtI : D → D → Option D
  | .int i, .int j => some (.bool (decide (j < i)))
  | _, _ => none
def geI : D → D → Option D
  | .int i, .int j => some (.bool (decide (j ≤ i)))
  | _, _ => none
theorem r2_cmp {K : PySem.W.Frag} {g : Int → Int → Bool} {fn : D → D → Option D} (h0 : ∀ x y, fn x y = match x, y with | .int i, .int j => some (.bool (g i j)) | _, _ => none) : R2ok true K (rI0 fun i j => .bl (g i j)) fn := by
  intro H x y d e z fx fy Q rx ry h q
  rw [h0] at h
  split at h
  · cases h
    cases rx; cases ry
    exact ⟨_, _, rfl, rfl, q _ H [] Same.refl (.bl _) fun _ => no_mem⟩
  · cases h
theorem r2_ltI {K : PySem.W.Frag} : R2ok true K (rI0 fun i j => .bl (decide (i < j))) ltI := r2_cmp fun x y => by cases x <;> cases y <;> rfl
theorem r2_leI {K : PySem.W.Frag} : R2ok true K (rI0 fun i j => .bl (decide (i ≤ j))) leI := r2_cmp fun x y => by cases x <;> cases y <;> rfl
theorem r2_gtI {K : PySem.W.Frag} : R2ok true K (rI0 fun i j => .bl (decide (j < i))) gtI := r2_cmp fun x y => by cases x <;> cases y <;> rfl
theorem r2_geI {K : PySem.W.Frag} : R2ok true K (rI0 fun i j => .bl (decide (j ≤ i))) geI := r2_cmp fun x y => by cases x <;> cases y <;> rfl
mutual
def noDct : D → Bool
  | .none => true
  | .bool _ => true
  | .int _ => true
  | .str _ => true
  | .list ds => noDctL ds
  | .tuple ds => noDctL ds
  | .dict _ => false
def noDctL : List D → Bool
  | [] => true
  | d :: ds => noDct d && noDctL ds
end
mutual
theorem Rp.dp {K : PySem.W.Frag} {H : Hp} : ∀ (d : D) (v : V) (fp : List Addr), Rp K H v d fp → noDct d = true → Dp K H v d
  | .none, _, _, h, _ => by cases h; exact .non
  | .bool b, _, _, h, _ => by cases h; exact .bl b
  | .int b, _, _, h, _ => by cases h; exact .int b
  | .str b, _, _, h, _ => by cases h; exact .str b
  | .list ds, _, _, h, p => by
    cases h with
    | lst h1 h2 h3 => exact .lst (.inl (.inl h1)) (RpL.dp ds _ _ h3 (by simpa [noDct] using p))
  | .tuple ds, _, _, h, p => by
    cases h with
    | tup h1 h2 h3 => exact .tup (sqt h1) (RpL.dp ds _ _ h3 (by simpa [noDct] using p))
  | .dict _, _, _, h, p => by cases p
theorem RpL.dp {K : PySem.W.Frag} {H : Hp} : ∀ (d : List D) (v : List V) (fp : List Addr), RpL K H v d fp → noDctL d = true → DpAll K H v d
  | [], _, _, h, _ => by cases h; exact .nil
  | d :: ds, _, _, h, p => by
    cases h with
    | cons h1 h2 =>
      simp only [noDctL, Bool.and_eq_true] at p
      exact .cons (Rp.dp d _ _ h1 p.1) (RpL.dp ds _ _ h2 p.2)
end
def okEq (d : D) : Bool := noDct d && SeqAt.shaped d
def eqD (d e : D) : Option D := if okEq d = true ∧ okEq e = true then some (.bool (PyData.eqv d e)) else none
def neD (d e : D) : Option D := if okEq d = true ∧ okEq e = true then some (.bool (!PyData.eqv d e)) else none
theorem r2_eqD {K : PySem.W.Frag} : R2ok true K (rEqD K) eqD := by
  intro H x y d e z fx fy Q rx ry h q
  unfold eqD okEq at h
  split at h
  · rename_i hc
    simp only [Bool.and_eq_true] at hc
    cases h
    exact ⟨d, e, Rp.dp d x fx rx hc.1.1, Rp.dp e y fy ry hc.2.1, hc.1.2, hc.2.2, q _ H [] Same.refl (.bl _) fun _ => no_mem⟩
  · cases h
theorem r2_neD {K : PySem.W.Frag} : R2ok true K (rNeD K) neD := by
  intro H x y d e z fx fy Q rx ry h q
  unfold neD okEq at h
  split at h
  · rename_i hc
    simp only [Bool.and_eq_true] at hc
    cases h
    exact ⟨d, e, Rp.dp d x fx rx hc.1.1, Rp.dp e y fy ry hc.2.1, hc.1.2, hc.2.2, q _ H [] Same.refl (.bl _) fun _ => no_mem⟩
  · cases h
def isNon : D → Bool
  | .none => true
  | _ => false
theorem Rp.non_iff {K : PySem.W.Frag} {H : Hp} {v : V} {d : D} {fp : List Addr} (h : Rp K H v d fp) : decide (v = .non) = isNon d := by
  cases h <;> rfl
def isN (d e : D) : Option D := match e with
  | .none => some (.bool (isNon d))
  | _ => none
def isNotN (d e : D) : Option D := match e with
  | .none => some (.bool (!isNon d))
  | _ => none
theorem r2_isN {K : PySem.W.Frag} : R2ok true K (fun x y H Q => y = .non ∧ Q (.bl (decide (x = .non))) H) isN := by
  intro H x y d e z fx fy Q rx ry h q
  unfold isN at h
  split at h
  · cases h; cases ry
    refine ⟨rfl, ?_⟩
    rw [rx.non_iff]
    exact q _ H [] Same.refl (.bl _) fun _ => no_mem
  · cases h
theorem r2_notN {K : PySem.W.Frag} : R2ok true K (fun x y H Q => y = .non ∧ Q (.bl (!decide (x = .non))) H) isNotN := by
  intro H x y d e z fx fy Q rx ry h q
  unfold isNotN at h
  split at h
  · cases h; cases ry
    refine ⟨rfl, ?_⟩
    rw [rx.non_iff]
    exact q _ H [] Same.refl (.bl _) fun _ => no_mem
  · cases h
def isB (d e : D) : Option D := match d, e with
  | .bool a, .bool b => some (.bool (decide (a = b)))
  | _, _ => none
def isNotB (d e : D) : Option D := match d, e with
  | .bool a, .bool b => some (.bool (!decide (a = b)))
  | _, _ => none
theorem r2_isB {K : PySem.W.Frag} : R2ok true K (fun x y H Q => ∃ a b, x = .bl a ∧ y = .bl b ∧ Q (.bl (decide (a = b))) H) isB := by
  intro H x y d e z fx fy Q rx ry h q
  unfold isB at h
  split at h
  · cases h; cases ry; cases rx
    exact ⟨_, _, rfl, rfl, q _ H [] Same.refl (.bl _) fun _ => no_mem⟩
  · cases h
theorem r2_notB {K : PySem.W.Frag} : R2ok true K (fun x y H Q => ∃ a b, x = .bl a ∧ y = .bl b ∧ Q (.bl (!decide (a = b))) H) isNotB := by
  intro H x y d e z fx fy Q rx ry h q
  unfold isNotB at h
  split at h
  · cases h; cases ry; cases rx
    exact ⟨_, _, rfl, rfl, q _ H [] Same.refl (.bl _) fun _ => no_mem⟩
  · cases h
/-! ### subscripts -/
def ixD : D → D → Option D
  | .list ds, .int k => atI ds k
  | .tuple ds, .int k => atI ds k
  | _, _ => none
theorem ixN_lt {n : Nat} {k : Int} {j : Nat} (h : ixN n k = some j) : j < n := (ixN_seq h).2.1
theorem RpL.at {K : PySem.W.Frag} {H : Hp} {ds : List D} {vs : List V} {fs : List Addr} (r : RpL K H vs ds fs) {k : Int} {d : D} (h : atI ds k = some d) : ∃ v f, atI vs k = some v ∧ Rp K H v d f ∧ ∀ a ∈ f, a ∈ fs := by
  unfold atI at h ⊢
  cases e : ixN ds.length k with
  | none => rw [e] at h; cases h
  | some j =>
    rw [e] at h
    obtain ⟨v, f, e1, r1, m⟩ := r.get (show ds[j]? = some d from h)
    exact ⟨v, f, by rw [r.length, e]; exact e1, r1, m⟩
theorem r2_ix {K : PySem.W.Frag} : R2ok false K (fun x y H Q => rIxL K x y H Q ∨ rIxT K x y H Q) ixD := by
  intro H x y d e z fx fy Q rx ry h q
  unfold ixD at h
  split at h
  · cases ry
    cases rx with
    | lst h1 h2 h3 =>
      obtain ⟨v, f, e1, r1, _⟩ := h3.at h
      exact .inl ⟨_, _, _, v, rfl, rfl, .inl (.inl h1), e1, q v H f Same.refl r1 fun z => nomatch z⟩
  · cases ry
    cases rx with
    | tup h1 h2 h3 =>
      obtain ⟨v, f, e1, r1, _⟩ := h3.at h
      exact .inr ⟨_, _, _, v, rfl, rfl, sqt h1, e1, q v H f Same.refl r1 fun z => nomatch z⟩
  · cases h
section
variable {X : Cx} {pos : Pos} {a b : Expr} {fa fb : Bool} {h1 h2 : Rh → Option D} {g1 g2 : Rh → Option (D × Rh)}
theorem ep_ix (ha : EP fa X a h1) (hb : EP fb X b h2) (hs : PlainIx b) : EP false X (.Subscript a b pos) (o2 ixD h1 h2) := ep_op2 (fun pa pb => pe_ix (ix_list.or ix_tup) pa pb hs) r2_ix ha hb
theorem ep_bin {fr : Bool} {op : Operator} {r : R2} {fn : D → D → Option D} (ho : OpR X (binaryOp op) r) (hr : R2ok fr X.K r fn) (ha : EP fa X a h1) (hb : EP fb X b h2) : EP fr X (.BinOp a op b pos) (o2 fn h1 h2) := ep_op2 (fun pa pb => pe_op ho pa pb) hr ha hb
theorem ev_bin {op : Operator} {r : R2} {fn : D → D → Option D} (ho : OpR X (binaryOp op) r) (hr : R2ok true X.K r fn) (ha : EV X a g1) (hb : EV X b g2) : EV X (.BinOp a op b pos) (v2 fn g1 g2) := ev_op2 (fun pa pb => pe_op ho pa pb) hr ha hb
theorem ep_cmp {fr : Bool} {op : CmpOp} {r : R2} {fn : D → D → Option D} (ho : OpR X (compareOp op) r) (hr : R2ok fr X.K r fn) (ha : EP fa X a h1) (hb : EP fb X b h2) (hm : behindInMarks op b = false) : EP fr X (.Compare a [op] [b] pos) (o2 fn h1 h2) := ep_op2 (fun pa pb => pe_cmpR ho pa pb hm) hr ha hb
theorem ev_cmp {op : CmpOp} {r : R2} {fn : D → D → Option D} (ho : OpR X (compareOp op) r) (hr : R2ok true X.K r fn) (ha : EV X a g1) (hb : EV X b g2) (hm : behindInMarks op b = false) : EV X (.Compare a [op] [b] pos) (v2 fn g1 g2) := ev_op2 (fun pa pb => pe_cmpR ho pa pb hm) hr ha hb
end
/-! ### calls of built-ins by values -/
def RNok (fr : Bool) (K : PySem.W.Frag) (r : List V → Hp → VK → Prop) (fn : List D → Option D) : Prop :=
  ∀ H xs ds z fs (Q : VK), RpL K H xs ds fs → fn ds = some z → (∀ v H' fp, Same H H' → Rp K H' v z fp → (fr = true → fp.Nodup ∧ ∀ a ∈ fp, H a = none) → Q v H') → r xs H Q
def fnE (fn : List D → Option D) (h : Rh → Option (List D)) : Rh → Option D := fun ρ => match h ρ with
  | some ds => fn ds
  | none => none
def fnV (fn : List D → Option D) (g : Rh → Option (List D × Rh)) : Rh → Option (D × Rh) := fun ρ => match g ρ with
  | some (ds, ρ') => (fn ds).map fun d => (d, ρ')
  | none => none
section
variable {X : Cx} {pos : Pos} {e : Expr} {es : List Expr} {r : List V → Hp → VK → Prop} {fn : List D → Option D}
theorem ep_cb {fr fa : Bool} {h : Rh → Option (List D)} (pe : ∀ {t : TA}, PA X es t → PE X e (tCB r t)) (hr : RNok fr X.K r fn) (ha : AP fa X es h) : EP fr X e (fnE fn h) := by
  obtain ⟨t, pa, hq⟩ := ha
  refine ⟨_, pe pa, fun ρ σ H d Q R hd q => ?_⟩
  unfold fnE at hd
  split at hd
  · rename_i ds e1
    refine hq ρ σ H ds _ R e1 fun vs H1 fs s r1 _ => ?_
    exact hr H1 vs ds d fs Q r1 hd fun v H' fp s2 rv n => q v H' fp (same_trans s s2) rv fun z => ⟨(n z).1, fun a m => Same.new s ((n z).2 a m)⟩
  · cases hd
theorem ev_cb {g : Rh → Option (List D × Rh)} (pe : ∀ {t : TA}, PA X es t → PE X e (tCB r t)) (hr : RNok true X.K r fn) (ha : AV X es g) : EV X e (fnV fn g) := by
  obtain ⟨t, pa, hq⟩ := ha
  refine ⟨_, pe pa, fun F L ρ σ H f d ρ' Q R hd q => ?_⟩
  unfold fnV at hd
  split at hd
  · rename_i ds ρ1 e1
    cases e2 : fn ds with
    | none => rw [e2] at hd; cases hd
    | some z =>
      rw [e2] at hd; cases hd
      refine hq F L ρ σ H f ds ρ' _ R e1 fun vs H1 f1 fs R1 fr k1 => ?_
      exact hr H1 vs ds d fs Q fr.rp e2 fun v H' fp s2 rv n => q v H' f1 fp (R1.same s2) (R1.fresh s2 rv (n rfl).1 (n rfl).2) (k1.trans (Keep.of_same s2))
  · cases hd
end
def lenF : List D → Option D
  | [.list ds] => some (.int ds.length)
  | [.tuple ds] => some (.int ds.length)
  | _ => none
theorem rn_len {K : PySem.W.Frag} : RNok true K (fun xs H Q => ∃ p ys, xs = [.ref p] ∧ (SqL K H p ys ∨ SqT K H p ys) ∧ Q (.int ys.length) H) lenF := by
  intro H xs ds z fs Q r h q
  unfold lenF at h
  split at h
  · cases h
    cases r with
    | cons r1 r2 =>
      cases r2
      cases r1 with
      | lst h1 h2 h3 => exact ⟨_, _, rfl, .inl (.inl (.inl h1)), q _ H [] Same.refl (by rw [h3.length]; exact .int _) fun _ => no_mem⟩
  · cases h
    cases r with
    | cons r1 r2 =>
      cases r2
      cases r1 with
      | tup h1 h2 h3 => exact ⟨_, _, rfl, .inr (sqt h1), q _ H [] Same.refl (by rw [h3.length]; exact .int _) fun _ => no_mem⟩
  · cases h
def intF : List D → Option D
  | [.int i] => some (.int i)
  | [.bool b] => some (.int (if b then 1 else 0))
  | _ => none
end PV

set_option Elab.async false
set_option linter.all false
set_option maxRecDepth 100000
set_option maxHeartbeats 2000000
namespace PV
open PySem PySem.Spec PyProof.Rows L2

/-! ### enumerate of a tuple -/
theorem meets_enumT (q : Addr) (items : Array Value) (n : Nat) (od : Option Addr) (sl : Array (Option Value)) :
    Meets (Builtin.«enumerate.__new__» ⟨[.type "enumerate", .ref q], []⟩) (fun _ R s => s.heap.get? q = some { cls := .type "tuple", dict := od, data := .seq items n, slots := sl } ∧
      R (.ok (.ret (.ref (s.heap.push { cls := .type "tuple_iterator", data := .fields #[.ref q, .int 0 0] }).objs.size)))
        { s with heap := (s.heap.push { cls := .type "tuple_iterator", data := .fields #[.ref q, .int 0 0] }).push { cls := .type "enumerate", data := .fields #[.none, .bool false, .ref s.heap.objs.size, rawInt 0, .none, .none] } }) :=
  .of_wp fun prog w A R s h => by
    obtain ⟨hp, gs, dd, tk, os⟩ := s
    obtain ⟨hT, h⟩ := h
    have hse := sub_enumerate
    have hI : Heap.IsTuple (Shared.heap ⟨hp, gs, dd, tk, os⟩) q items := ⟨_, hT, rfl, n, rfl⟩
    wp_walk using AutoSeq1.wpAny_loadPart' hT
    refine wpAny_stack_any fun stk => wpAny_pure ?_
    split
    · rename_i c _ _ _ _ _
      cases (c == Value.type "enumerate")
      · wp_walk using AutoSeq1.wpAny_loadPart' hT, wpAny_pyIter_tuple hI
        exact ⟨_, rfl, h⟩
      · wp_walk using AutoSeq1.wpAny_loadPart' hT, wpAny_pyIter_tuple hI
        exact ⟨_, rfl, h⟩
    · wp_walk using AutoSeq1.wpAny_loadPart' hT, wpAny_pyIter_tuple hI
      exact ⟨_, rfl, h⟩
theorem call_enumT {prog : Program} {w : World} {A : Around} {E : Value → Shared → Prop} {s : Shared} {q : Addr} {items : Array Value} {Q : Value → Shared → Prop} (hT : IsTup s.heap q items)
    (h : ∀ h', IsEnum h' (s.heap.objs.size + 1) s.heap.objs.size 0 .none → h'.IsTupleIter s.heap.objs.size q 0 → (∀ b o, s.heap.get? b = some o → h'.get? b = some o) → Q (.ref (s.heap.objs.size + 1)) { s with heap := h' }) :
    wpAny (model prog w) A (call (.type "enumerate") [.ref q]) Q E s := by
  obtain ⟨⟨c, od, dt, sl⟩, ht, hc, n, hd⟩ := hT
  replace hc : c = .type "tuple" := hc
  replace hd : dt = .seq items n := hd
  subst hc hd
  refine callType_new F.called_enumerate (by decide) (F.typeCall_enumerate_1 _) (F.newCall_enumerate_1 _) (fun ob => F.args_object_init_2 ob _) F.entry_enumerate_new
    (meets_enumT q items n od sl) ⟨ht, ?_⟩
  have hsz : (s.heap.push { cls := .type "tuple_iterator", data := .fields #[.ref q, .int 0 0] }).objs.size = s.heap.objs.size + 1 := Heap.size_push ..
  show _ ∧ _
  rw [hsz]
  have hE : IsEnum ((s.heap.push { cls := .type "tuple_iterator", data := .fields #[.ref q, .int 0 0] }).push
      { cls := .type "enumerate", data := .fields #[.none, .bool false, .ref s.heap.objs.size, rawInt 0, .none, .none] }) (s.heap.objs.size + 1) s.heap.objs.size 0 .none := by
    have gp := Heap.get?_push_size (s.heap.push { cls := .type "tuple_iterator", data := .fields #[.ref q, .int 0 0] })
      (o := { cls := .type "enumerate", data := .fields #[.none, .bool false, .ref s.heap.objs.size, rawInt 0, .none, .none] }) rfl
    rw [hsz] at gp
    exact gp
  exact ⟨⟨_, hE, rfl⟩, h _ hE ⟨_, Heap.get?_push_of_some _ (Heap.get?_push_size _ rfl), rfl, rfl⟩ fun b o x => Heap.get?_push_of_some _ (Heap.get?_push_of_some _ x)⟩
/-- the tuple at a, item by item, in new pairs with their numbers -/
def IteT (K : PySem.W.Frag) (a : Addr) : It :=
  ⟨fun i H => ∃ (xs : List V) (x : V), SqT K H a xs ∧ xs[i]? = some x,
    fun i H v H' => ∃ T x, v = .ref T ∧ H T = none ∧ H' = upd H T (.tup [.int (i : Nat), x]) ∧ ∀ xs, SqT K H a xs → xs[i]? = some x,
    fun i H => ∃ xs : List V, SqT K H a xs ∧ xs.length = i⟩
theorem turn_enumT {P : Program} {w : World} {K : PySem.W.Frag} {elts : List Expr} {kk : Nat} {tpos : Pos} (a e it : Addr) :
    Turn P w K (.Tuple elts kk tpos) (IteT K a) [e, it] e (fun i h => (∃ old, IsEnum h e it ((i : Nat) : Int) old) ∧ h.IsTupleIter it a i ∧ e ≠ it ∧ a ≠ it ∧ e ≠ a) where
  mem := List.mem_cons_self
  obj := fun i h st b hb => by
    obtain ⟨⟨old, hE⟩, ⟨ob, eb, cb, db⟩, _⟩ := st
    rcases List.mem_cons.mp hb with z | z
    · rw [z]; exact ⟨_, hE, fun v q => nomatch q⟩
    · rcases List.mem_cons.mp z with z | z
      · rw [z]; exact ⟨ob, eb, fun v q => by rw [db] at q; cases q⟩
      · cases z
  keep := fun i h h' st k => by
    obtain ⟨⟨old, hE⟩, hI, n1, n2, n3⟩ := st
    exact ⟨⟨old, k e (by simp) _ hE⟩, hI.at fun o q => k it (by simp) o q, n1, n2, n3⟩
  item := by
    intro X eP eW eK hc i pins s σ H E I hf st hg
    subst eP eW eK
    obtain ⟨⟨old, hE⟩, hI, n1, n2, n3⟩ := st
    obtain ⟨xs, x, hq, hx⟩ := hg
    obtain ⟨its, rv, tp, hz⟩ := I.tuple hq
    have hil : i < its.toArray.size := by
      have := (List.getElem?_eq_some_iff.mp hx).1
      rw [List.size_toArray, ← rv.length]; exact this
    obtain ⟨u, hu, ru⟩ := rv.get hx
    have hel : e < s.heap.objs.size := Heap.lt_size hE
    have hitl : it < s.heap.objs.size := by obtain ⟨_, q, _⟩ := hI; exact Heap.lt_size q
    have hal : a < s.heap.objs.size := tp.lt
    refine wpAny_pyNext_enum_itemD (Draws.tuple (prog := X.prog) (w := X.w) (A := X.A.in1) (show X.A.in1.handled = none from I.ok.hd hc) it a n2 its.toArray) hE ⟨hI, show s.heap.IsTuple a its.toArray from tp⟩ hil n1 (by simp; exact ⟨n1, n3⟩) fun y h' tk py ho st' hT hsz hk => ?_
    have ey : y = u := by
      have hu' : its.toArray[i]? = some u := by simpa using hu
      rw [hu'] at py; exact (Option.some.inj py).symm
    subst ey
    refine ⟨_, rfl, wpAny_letOwnedTupleGo_enum (s := { s with heap := h', toks := tk + 1 }) ho fun h'' hE' sb => ?_⟩
    have hT2 : h''.get? s.heap.objs.size = some { cls := .type "tuple", data := .seq #[.int i tk, y] } := (sb.2 _ (Nat.ne_of_gt hel)).trans hT
    have new : ObjOk X.prog X.w (upd H s.heap.objs.size (.tup [.int (i : Nat), x])) h'' s.heap.objs.size (.tup [.int (i : Nat), x]) :=
      ⟨(by show 2 ≤ sizeLine; decide), [.int i tk, y], .cons ⟨_, rfl⟩ (.cons ru .nil), ⟨_, hT2, rfl, _, rfl⟩⟩
    have I1 : Inv X pins σ (upd H s.heap.objs.size (.tup [.int (i : Nat), x])) { s with heap := h'', toks := tk + 1 } :=
      I.turnedNew (ch := [e, it]) (fun b ob hb q => (sb.2 b (fun z => hb (by simp [z]))).trans (hk b ob (fun z => hb (by simp [z])) (fun z => hb (by simp [z])) q)) hf (Nat.le_refl _) new
    refine ⟨.ref s.heap.objs.size, _, I1, rfl, ⟨_, x, rfl, I.hok.fresh (Nat.le_refl _), rfl, fun ys hy => by rw [I.tuple_inj hy hq]; exact hx⟩, ⟨⟨y, ?_⟩, st'.1.at fun o q => (sb.2 it (Ne.symm n1)).trans q, n1, n2, n3⟩, fun b hb => ?_⟩
    · have e1 : ((i + 1 : Nat) : Int) = (i : Int) + 1 := by omega
      rw [e1]; exact hE'
    · have hlt : b < s.heap.objs.size := by
        rcases List.mem_cons.mp hb with z | z
        · rw [z]; exact hel
        · rcases List.mem_cons.mp z with z | z
          · rw [z]; exact hitl
          · cases z
      rw [upd_ne (Nat.ne_of_lt hlt)]
      exact (hf b hb).1
  done := by
    intro X eP eW eK hc i pins s σ H E I hf st hg
    subst eP eW eK
    obtain ⟨⟨old, hE⟩, hI, n1, n2, n3⟩ := st
    obtain ⟨xs, hq, hx⟩ := hg
    obtain ⟨its, rv, tp, hz⟩ := I.tuple hq
    have hl : i = its.toArray.size := by rw [List.size_toArray, ← rv.length]; exact hx.symm
    obtain ⟨f0, f1, f2, f3, f4, f5⟩ := hf it (by simp)
    subst hl
    exact wpAny_pyNext_enum_endD (Draws.tuple (prog := X.prog) (w := X.w) (A := X.A.in1) (show X.A.in1.handled = none from I.ok.hd hc) it a n2 its.toArray) hE ⟨hI, show s.heap.IsTuple a its.toArray from tp⟩
      fun h' eb => ⟨rfl, I.turned (t' := s.toks) (fun b o hb q => eb b o hb q) f0 f1 f3 f4 f5⟩
  self := fun A i s Q E st h => let ⟨⟨_, hE⟩, _⟩ := st; wpAny_pyIter_enum hE h

def iEnumA (K : PySem.W.Frag) (ta : TA) : TI := fun σ H R => ta σ H fun vs H1 => ∃ a xs, vs = [.ref a] ∧ ((SqL K H1 a xs ∧ R (Ite K a) H1) ∨ (SqT K H1 a xs ∧ R (IteT K a) H1))
section
variable {X : Cx} {tg e : Expr} {ta : TA} {p pos tpos : Pos} {elts : List Expr} {kk : Nat}
theorem pi_enumA (hg : Gl X "enumerate") (hm : X.mg "enumerate" = none) (ha : PA X [e] ta) (hs : starEach [e] X.env = [(false, eval e X.env)] := by rfl) :
    PI X (.Tuple elts kk tpos) (.Call (.Name "enumerate" p) [e] [] pos) (iEnumA X.K ta) := by
  refine ⟨fun pins s σ H R I hh => ?_⟩
  refine Call_ (ld_blt I hg hm boot_enumerate (PyProof.Rows.callWith_type1 (thn (ha.run pos pins s σ H _ I hh) fun us s1 ⟨vs, H1, I1, r1, q1⟩ => ?_) hs rfl))
  obtain ⟨a, xs, ex, q1⟩ := q1
  subst ex
  cases r1 with
  | cons r rr =>
    cases rr
    cases r
    have two : ∀ b ∈ [s1.heap.objs.size + 1, s1.heap.objs.size], FpOk X pins H1 b := fun b hb => by
      have hle : s1.heap.objs.size ≤ b := by
        rcases List.mem_cons.mp hb with z | z
        · rw [z]; exact Nat.le_add_right _ _
        · rcases List.mem_cons.mp z with z | z
          · rw [z]; exact Nat.le_refl _
          · cases z
      exact I1.fpOk hle (I1.hok.fresh hle)
    rcases q1 with ⟨hq, q⟩ | ⟨hq, q⟩
    · obtain ⟨its, rv, pl, hz⟩ := I1.list hq
      exact call_enumerate_list pl.isList fun h' he hit hsz hk => wpAny_pyIter_enum he ⟨s1.heap.objs.size + 1, [s1.heap.objs.size + 1, s1.heap.objs.size], _, _, H1, rfl, I1.kept (t' := s1.toks) hk, turn_enum a _ _, ⟨⟨.none, he⟩, hit, Nat.succ_ne_self _⟩, two, q⟩
    · obtain ⟨its, rv, tp, hz⟩ := I1.tuple hq
      exact call_enumT tp fun h' he hit hk => wpAny_pyIter_enum he ⟨s1.heap.objs.size + 1, [s1.heap.objs.size + 1, s1.heap.objs.size], _, _, H1, rfl, I1.kept (t' := s1.toks) hk, turn_enumT a _ _,
        ⟨⟨.none, he⟩, hit, Nat.succ_ne_self _, Nat.ne_of_lt tp.lt, Nat.ne_of_gt (Nat.lt_succ_of_lt tp.lt)⟩, two, q⟩
/-- a list or a tuple walked -/
def iSeq (K : PySem.W.Frag) (tl : TE) : TI := fun σ H R => tl σ H fun x H1 => ∃ a xs, x = .ref a ∧ ((SqL K H1 a xs ∧ R (Itl K a) H1) ∨ (SqT K H1 a xs ∧ R (Itt K a) H1))
theorem pi_seq {l : Expr} {tl : TE} (hl : PE X l tl) : PI X tg l (iSeq X.K tl) := by
  refine ⟨fun pins s σ H R I hh => ?_⟩
  refine thn (hl.run pins s σ H _ I hh) fun v s1 ⟨x, H1, I1, r1, q1⟩ => ?_
  obtain ⟨a, xs, e, q1⟩ := q1
  subst e
  cases r1
  have one : ∀ b ∈ [s1.heap.objs.size], FpOk X pins H1 b := fun b hb => by
    rw [List.mem_singleton.mp hb]
    exact I1.fpOk (Nat.le_refl _) (I1.hok.fresh (Nat.le_refl _))
  rcases q1 with ⟨hq, q⟩ | ⟨hq, q⟩
  · obtain ⟨its, rv, pl, hz⟩ := I1.list hq
    exact wpAny_pyIter_list pl.isList ⟨s1.heap.objs.size, [s1.heap.objs.size], _, _, H1, rfl, I1.kept (t' := s1.toks) fun b o e => Heap.get?_push_of_some _ e, turn_list a _, ⟨_, Heap.get?_push_size _ rfl, rfl, rfl⟩, one, q⟩
  · obtain ⟨its, rv, tp, hz⟩ := I1.tuple hq
    exact wpAny_pyIter_tuple (show s1.heap.IsTuple a its.toArray from tp) ⟨s1.heap.objs.size, [s1.heap.objs.size], _, _, H1, rfl, I1.kept (t' := s1.toks) fun b o e => Heap.get?_push_of_some _ e, turn_tuple a _, ⟨_, Heap.get?_push_size _ rfl, rfl, rfl⟩, one, q⟩
end
section
variable {K : PySem.W.Frag} {a b : Addr} {xs ys : List V}
theorem walk_enumT : Walk (IteT K a) xs.length (fun H => SqT K H a xs) (YPair (fun i => some (.int (i : Nat))) (fun i => xs[i]?)) := by
  refine ⟨fun i _ hi q => ⟨xs, xs[i], q, by simp [hi]⟩, fun _ q => ⟨xs, q, rfl⟩, fun i H v H' _ q y => ?_⟩
  obtain ⟨T, x, h1, h2, h3, h4⟩ := y
  exact ⟨T, .int (i : Nat), x, h1, h2, h3, rfl, h4 xs q⟩
theorem walk_zipT {n : Nat} (hn : n = min xs.length ys.length) : Walk (RZ.ItzT K a b) n (fun H => SqT K H a xs ∧ SqT K H b ys) (YPair (fun i => xs[i]?) (fun i => ys[i]?)) := by
  subst hn
  refine ⟨fun i _ hi q => ?_, fun _ q => ⟨xs, ys, q.1, q.2, by omega⟩, fun i H v H' _ q y => ?_⟩
  · have h1 : i < xs.length := by omega
    have h2 : i < ys.length := by omega
    exact ⟨xs, ys, xs[i], ys[i], q.1, q.2, by simp [h1], by simp [h2]⟩
  · obtain ⟨T, x, z, h1, h2, h3, h4, h5⟩ := y
    exact ⟨T, x, z, h1, h2, h3, h4 xs q.1, h5 ys q.2⟩
end

/-! ### walks of data -/
theorem keepS_same {S : List Addr} {H H' : Hp} (h : Same H H') : Keep (fun a => a ∈ S) H H' := Keep.of_same h
theorem sqL_keep {K : PySem.W.Frag} {F : Addr → Prop} {H H' : Hp} {a : Addr} {xs : List V} (h : H a = some (.lst xs)) (k : Keep F H H') (hF : F a) : SqL K H' a xs := .inl (.inl (k _ _ h (.inl hF)))
/-- the items of a list or tuple -/
theorem wk_items {K : PySem.W.Frag} {H1 H2 : Hp} {ds : List D} {vs : List V} {fs S : List Addr} (r : RpL K H1 vs ds fs) (hS : ∀ a ∈ fs, a ∈ S) (k : Keep (fun a => a ∈ S) H1 H2) {i : Nat} {x : V} (e : vs[i]? = some x) : ∃ d fp, ds[i]? = some d ∧ Rp K H2 x d fp ∧ ∀ a ∈ fp, a ∈ S := by
  obtain ⟨d, f, e1, r1, m⟩ := r.getV e
  exact ⟨d, f, e1, Rp.keep k _ _ _ r1 fun a ha => hS a (m a ha), fun a ha => hS a (m a ha)⟩
theorem wkOk_list {K : PySem.W.Frag} {H1 : Hp} {a : Addr} {ds : List D} {vs : List V} {fs : List Addr} (h : H1 a = some (.lst vs)) (r : RpL K H1 vs ds fs) : WkOk K H1 (Itl K a) ds (a :: fs) := by
  refine ⟨⟨_, _, by rw [← r.length]; exact walk_list, .inl (.inl h), fun H2 k => sqL_keep h k List.mem_cons_self, fun i H2 x H3 hi k y => ?_⟩, fun b m => ?_⟩
  · obtain ⟨rfl, e⟩ := y
    exact ⟨Same.refl, wk_items r (fun b m => List.mem_cons_of_mem _ m) k e⟩
  · rcases List.mem_cons.mp m with m | m
    · rw [m, h]; exact fun z => nomatch z
    · exact r.dom m
theorem wkOk_tup {K : PySem.W.Frag} {H1 : Hp} {a : Addr} {ds : List D} {vs : List V} {fs : List Addr} (h : SqT K H1 a vs) (r : RpL K H1 vs ds fs) : WkOk K H1 (Itt K a) ds fs := by
  refine ⟨⟨_, _, by rw [← r.length]; exact walk_tup, h, fun H2 k => sqT_keep h k, fun i H2 x H3 hi k y => ?_⟩, fun b m => r.dom m⟩
  obtain ⟨rfl, e⟩ := y
  exact ⟨Same.refl, wk_items r (fun b m => m) k e⟩
def seqD : D → Option (List D)
  | .list ds => some ds
  | .tuple ds => some ds
  | _ => none
/-- what a value's lists are: new, or below the slots bs -/
def EPb (X : Cx) (e : Expr) (bs : List Nat) (h : Rh → Option D) : Prop :=
  ∃ t : TE, PE X e t ∧ ∀ (ρ : Rh) (σ : L2.St) (H : Hp) (f : Nat → List Addr) (d : D) (Q : VK), RhF X.K ρ σ H f → h ρ = some d →
    (∀ v H' fp, Same H H' → Rp X.K H' v d fp → (∀ a ∈ fp, H a = none ∨ ∃ i ∈ bs, ∃ c, ρ[i]? = some (some c) ∧ a ∈ f i) → Q v H') → t σ H Q
section
variable {X : Cx} {tg e : Expr} {p pos tpos : Pos} {elts : List Expr} {kk : Nat} {bs : List Nat} {h : Rh → Option D}
theorem EPb.of (pe : EP true X e h) : EPb X e [] h := by
  obtain ⟨t, pe, hq⟩ := pe
  exact ⟨t, pe, fun ρ σ H f d Q R hd q => hq ρ σ H d Q R.rd hd fun v H' fp s r n => q v H' fp s r fun a m => .inl ((n rfl).2 a m)⟩
theorem epb_var {i : Nat} (pe : PE X e (tVar i)) : EPb X e [i] (getS i) := by
  refine ⟨_, pe, fun ρ σ H f d Q R hd q => ?_⟩
  obtain ⟨c, ec, rfl⟩ := getS_some hd
  obtain ⟨v, ev, r⟩ := R.rp i c ec
  exact ⟨v, ev, q v H (f i) Same.refl r fun a m => .inr ⟨i, List.mem_singleton.mpr rfl, c, ec, m⟩⟩
theorem ip_seq (he : EPb X e bs h) : IP X tg e bs (fun ρ => (h ρ).bind seqD) := by
  obtain ⟨t, pe, hq⟩ := he
  refine ⟨_, pi_seq pe, fun ρ σ H f ds R Rf hd q => ?_⟩
  cases e1 : h ρ with
  | none => simp [e1] at hd
  | some d =>
    simp only [e1, Option.bind_some] at hd
    refine hq ρ σ H f d _ Rf e1 fun v H1 fp s r hfp => ?_
    cases r with
    | lst h1 h2 h3 => cases hd; exact ⟨_, _, rfl, .inl ⟨.inl (.inl h1), q _ _ _ s (wkOk_list h1 h3) hfp⟩⟩
    | tup h1 h2 h3 => cases hd; exact ⟨_, _, rfl, .inr ⟨sqt h1, q _ _ _ s (wkOk_tup (sqt h1) h3) hfp⟩⟩
    | _ => cases hd
/-- numbered items -/
def enumD (ds : List D) : List D := ds.mapIdx fun i d => .tuple [.int i, d]
theorem enumD_len (ds : List D) : (enumD ds).length = ds.length := by simp [enumD]
theorem pair_rp {K : PySem.W.Frag} {H : Hp} {T : Addr} {x y : V} {d d' : D} {f f' : List Addr} (n : H T = none) (r1 : Rp K H x d f) (r2 : Rp K H y d' f') : Rp K (upd H T (.tup [x, y])) (.ref T) (.tuple [d, d']) (f ++ (f' ++ [])) :=
  .tup upd_same (by show 2 ≤ sizeLine; decide) (.cons (r1.same (same_upd n)) (.cons (r2.same (same_upd n)) .nil))
theorem wkOk_enum {K : PySem.W.Frag} {H1 : Hp} {a : Addr} {ds : List D} {vs : List V} {fs : List Addr} (h : H1 a = some (.lst vs)) (r : RpL K H1 vs ds fs) : WkOk K H1 (Ite K a) (enumD ds) (a :: fs) := by
  refine ⟨⟨_, _, by rw [enumD_len, ← r.length]; exact walk_enum, .inl (.inl h), fun H2 k => sqL_keep h k List.mem_cons_self, fun i H2 x H3 hi k y => ?_⟩, fun b m => ?_⟩
  · obtain ⟨T, x1, x2, rfl, nT, rfl, e1, e2⟩ := y
    cases e1
    obtain ⟨d, fp, ed, rd, m⟩ := wk_items r (fun b m => List.mem_cons_of_mem _ m) k e2
    exact ⟨same_upd nT, .tuple [.int i, d], _, by simp [enumD, ed], pair_rp nT (.int _) rd, fun b hb => by simp at hb; exact m b hb⟩
  · rcases List.mem_cons.mp m with m | m
    · rw [m, h]; exact fun z => nomatch z
    · exact r.dom m
theorem wkOk_enumT {K : PySem.W.Frag} {H1 : Hp} {a : Addr} {ds : List D} {vs : List V} {fs : List Addr} (h : SqT K H1 a vs) (r : RpL K H1 vs ds fs) : WkOk K H1 (IteT K a) (enumD ds) fs := by
  refine ⟨⟨_, _, by rw [enumD_len, ← r.length]; exact walk_enumT, h, fun H2 k => sqT_keep h k, fun i H2 x H3 hi k y => ?_⟩, fun b m => r.dom m⟩
  obtain ⟨T, x1, x2, rfl, nT, rfl, e1, e2⟩ := y
  cases e1
  obtain ⟨d, fp, ed, rd, m⟩ := wk_items r (fun b m => m) k e2
  exact ⟨same_upd nT, .tuple [.int i, d], _, by simp [enumD, ed], pair_rp nT (.int _) rd, fun b hb => by simp at hb; exact m b hb⟩
theorem ip_enum (hg : Gl X "enumerate") (hm : X.mg "enumerate" = none) (he : EPb X e bs h) (hs : starEach [e] X.env = [(false, eval e X.env)] := by rfl) (hst : starEach [e] X.env = (false, eval e X.env) :: starEach [] X.env := by rfl) :
    IP X (.Tuple elts kk tpos) (.Call (.Name "enumerate" p) [e] [] pos) bs (fun ρ => ((h ρ).bind seqD).map enumD) := by
  obtain ⟨t, pe, hq⟩ := he
  refine ⟨_, pi_enumA hg hm (pa_cons pe pa_nil hst) hs, fun ρ σ H f ds R Rf hd q => ?_⟩
  cases e1 : h ρ with
  | none => simp [e1] at hd
  | some d =>
    simp only [e1, Option.bind_some] at hd
    refine hq ρ σ H f d _ Rf e1 fun v H1 fp s r hfp => ?_
    cases r with
    | lst h1 h2 h3 => cases hd; exact ⟨_, _, rfl, .inl ⟨.inl (.inl h1), q _ _ _ s (wkOk_enum h1 h3) hfp⟩⟩
    | tup h1 h2 h3 => cases hd; exact ⟨_, _, rfl, .inr ⟨sqt h1, q _ _ _ s (wkOk_enumT (sqt h1) h3) hfp⟩⟩
    | _ => cases hd
end
/-! ### ranges -/
def rangeD (lo : Int) (n : Nat) : List D := (List.range n).map fun (i : Nat) => .int (lo + i)
theorem rangeD_len (lo : Int) (n : Nat) : (rangeD lo n).length = n := by simp [rangeD]
theorem wkOk_range {K : PySem.W.Frag} {H1 : Hp} {lo : Int} {n : Nat} : WkOk K H1 (Itr lo n) (rangeD lo n) [] := by
  refine ⟨⟨_, _, by rw [rangeD_len]; exact walk_range, trivial, fun _ _ => trivial, fun i H2 x H3 hi k y => ?_⟩, fun b m => nomatch m⟩
  obtain ⟨rfl, rfl⟩ := y
  rw [rangeD_len] at hi
  exact ⟨Same.refl, _, [], by simp [rangeD, hi], .int _, fun a m => nomatch m⟩
theorem abs62 {j : Int} (h : j.natAbs ≤ 1000000) : -(2 ^ 62) ≤ j ∧ j < 2 ^ 62 := by constructor <;> omega
def rng1 : List D → Option (List D)
  | [.int j] => if j.natAbs ≤ 1000000 then some (rangeD 0 j.toNat) else none
  | _ => none
def rng2 : List D → Option (List D)
  | [.int i, .int j] => if i.natAbs ≤ 1000000 ∧ j.natAbs ≤ 1000000 then some (rangeD i (j - i).toNat) else none
  | _ => none
section
variable {X : Cx} {tg a b c : Expr} {p pos : Pos} {fr : Bool} {h : Rh → Option (List D)} {g : Rh → Option (List D × Rh)}
theorem ip_range1 (hg : Gl X "range") (hm : X.mg "range" = none) (ha : AP fr X [a] h) (hs : starEach [a] X.env = [(false, eval a X.env)] := by rfl) : IP X tg (.Call (.Name "range" p) [a] [] pos) [] (fun ρ => (h ρ).bind rng1) := by
  obtain ⟨t, pe, hq⟩ := ha
  refine ⟨_, pi_range1 hg hm pe hs, fun ρ σ H f ds R Rf hd q => ?_⟩
  cases e1 : h ρ with
  | none => simp [e1] at hd
  | some d =>
    simp only [e1, Option.bind_some] at hd
    refine hq ρ σ H d _ Rf.rd e1 fun vs H1 fp s r _ => ?_
    unfold rng1 at hd
    split at hd
    · split at hd
      · rename_i j hc
        cases hd
        cases r with
        | cons r1 r2 =>
          cases r1; cases r2
          exact ⟨j, rfl, (abs62 hc).1, (abs62 hc).2, q _ _ [] s wkOk_range fun a m => nomatch m⟩
      · cases hd
    · cases hd
theorem ip_range2 (hg : Gl X "range") (hm : X.mg "range" = none) (ha : AP fr X [a, b] h) (hs : starEach [a, b] X.env = [(false, eval a X.env), (false, eval b X.env)] := by rfl) (hs2 : starEach [b] X.env = [(false, eval b X.env)] := by rfl) :
    IP X tg (.Call (.Name "range" p) [a, b] [] pos) [] (fun ρ => (h ρ).bind rng2) := by
  obtain ⟨t, pe, hq⟩ := ha
  refine ⟨_, pi_range2 hg hm pe hs hs2, fun ρ σ H f ds R Rf hd q => ?_⟩
  cases e1 : h ρ with
  | none => simp [e1] at hd
  | some d =>
    simp only [e1, Option.bind_some] at hd
    refine hq ρ σ H d _ Rf.rd e1 fun vs H1 fp s r _ => ?_
    unfold rng2 at hd
    split at hd
    · split at hd
      · rename_i i j hc
        cases hd
        cases r with
        | cons r1 r2 =>
          cases r1
          cases r2 with
          | cons r3 r4 =>
            cases r3; cases r4
            exact ⟨i, j, rfl, ⟨(abs62 hc.1).1, (abs62 hc.1).2, (abs62 hc.2).1, (abs62 hc.2).2⟩, q _ _ [] s wkOk_range fun a m => nomatch m⟩
      · cases hd
    · cases hd
def ivf (fn : List D → Option (List D)) (g : Rh → Option (List D × Rh)) : Rh → Option (List D × Rh) := fun ρ => match g ρ with
  | some (ds, ρ') => (fn ds).map fun r => (r, ρ')
  | none => none
theorem iv_range1 (hg : Gl X "range") (hm : X.mg "range" = none) (ha : AV X [a] g) (hs : starEach [a] X.env = [(false, eval a X.env)] := by rfl) : IV X tg (.Call (.Name "range" p) [a] [] pos) [] (ivf rng1 g) := by
  obtain ⟨t, pe, hq⟩ := ha
  refine ⟨_, pi_range1 hg hm pe hs, fun F L ρ σ H f ds ρ' R Ro hd q => ?_⟩
  unfold ivf at hd
  split at hd
  · rename_i xs ρ1 e1
    cases e2 : rng1 xs with
    | none => rw [e2] at hd; cases hd
    | some r =>
      rw [e2] at hd; cases hd
      refine hq F L ρ σ H f xs ρ' _ Ro e1 fun vs H1 f1 fp R1 fr k => ?_
      unfold rng1 at e2
      split at e2
      · split at e2
        · rename_i j hc
          cases e2
          have r := fr.rp
          cases r with
          | cons r1 r2 =>
            cases r1; cases r2
            exact ⟨j, rfl, (abs62 hc).1, (abs62 hc).2, q _ _ f1 [] R1 k wkOk_range fun a m => nomatch m⟩
        · cases e2
      · cases e2
  · cases hd
end
end PV

set_option Elab.async false
set_option linter.all false
set_option maxRecDepth 100000
set_option maxHeartbeats 2000000
namespace PV
open PySem PySem.Spec PyProof.Rows L2

/-! ### sorted of a list or a tuple of data -/
/-- the items of a list or a tuple, the heap told -/
theorem collectSz {prog : Program} {w : World} {A : Around} {E : Value → Shared → Prop} {s : Shared} {q : Addr} {T : String} {o : Obj} {xs : Array Value} {n : Nat} {Q : List Value → Shared → Prop} (hT : T = "list" ∨ T = "tuple")
    (ho : s.heap.get? q = some o) (hc : o.cls = .type T) (hd : o.data = .seq xs n) (hsz : xs.size ≤ sizeLine)
    (hQ : ∀ h', h'.objs.size = s.heap.objs.size + 1 → (∀ b ob, s.heap.get? b = some ob → h'.get? b = some ob) → Q xs.toList { s with heap := h' }) : wpAny (model prog w) A (collect (.ref q)) Q E s := by
  unfold collect
  refine wpAny_bind (wpAny_runValue (codeAny_builtin F.entry_proto_collect ?_))
  rw [Around.under_plainId F.plain_proto_collect _]
  show wpAny _ A.in1 (newList [] >>= fun nl => again (.builtin "list.__iadd__" ⟨[nl, .ref q], []⟩)) _ _ s
  refine wpAny_bind (wpAny_newObj_type ?_)
  refine wpAny_pure ⟨plainId_quiet F.plain_list_iadd _, codeAny_builtin F.entry_list_iadd ?_⟩
  rw [Around.under_plainId F.plain_list_iadd _]
  show wpAny _ A.in1 (Builtin.List.listExtendWith (.ref s.heap.objs.size) (.ref q) (.ref s.heap.objs.size)) _ _ _
  have g0 : (s.heap.push { cls := .type "list", data := .seq ([] : List Value).toArray }).get? s.heap.objs.size = some { cls := .type "list", data := .seq #[] 0 } := Heap.get?_push_size _ rfl
  have g1 := Heap.get?_update_self (Obj.mapSeq (· ++ xs)) g0 rfl
  have last : wpAny (model prog w) A (match Value.ref s.heap.objs.size with
      | Value.ref a => do
        match (← load a).data with
          | Data.seq ys _ => pure ys.toList
          | _ => unsupported "internal:collect"
      | _ => unsupported "internal:collect") Q E { s with heap := (s.heap.push { cls := .type "list", data := .seq ([] : List Value).toArray }).update s.heap.objs.size (Obj.mapSeq (· ++ xs)) } := by
    show wpAny _ A (load s.heap.objs.size >>= _) _ _ _
    refine wpAny_bind (wpAny_load g1 ?_)
    refine wpAny_pure ?_
    have e0 : ((#[] : Array Value) ++ xs).toList = xs.toList := by simp
    show Q ((#[] : Array Value) ++ xs).toList _
    rw [e0]
    exact hQ _ (by rw [Heap.size_update, size_push']) fun b ob hb => (Heap.get?_update_other _ _ (Nat.ne_of_gt (Heap.lt_size hb))).trans (Heap.get?_push_of_some _ hb)
  refine wpAny_mono (wpAny_extend_seq (hsz := hsz) (A := A) (R := fun r s' => r = .ok (.ret (.ref s.heap.objs.size)) ∧ s' = { s with heap := (s.heap.push { cls := .type "list", data := .seq ([] : List Value).toArray }).update s.heap.objs.size (Obj.mapSeq (· ++ xs)) })
    (s := { s with heap := s.heap.push { cls := .type "list", data := .seq ([] : List Value).toArray } }) _ q _ 0 hT g0 (Heap.get?_push_of_some _ ho) hc hd ⟨rfl, rfl⟩) (fun fin s' hh => ?_) (fun ee s' hh => absurd hh.1 (by simp))
  cases fin with
  | done fl =>
    obtain ⟨e1, rfl⟩ := hh
    cases e1
    exact last
  | again c' => exact ⟨hh.1, codeAny_mono hh.2 fun r s'' hr => by obtain ⟨rfl, rfl⟩ := hr; exact last⟩
open PySem.W in
theorem sortedSeq {prog : Program} {w : World} {A : Around} {E : Value → Shared → Prop} {s : Shared} {β : Type} {vs : List Value} {bs : List β} {enc : β → PyData} {R : Value → β → Prop} {a : Addr} {T : String} {o : Obj} {n : Nat} {rev : Bool} {kw : List (Str × Value)} {Q : Value → Shared → Prop}
    (hT : T = "list" ∨ T = "tuple") (ho : s.heap.get? a = some o) (hc : o.cls = .type T) (hd : o.data = .seq vs.toArray n) (hkw : (kw = [] ∧ rev = false) ∨ kw = [(Str.ofString "reverse", .bool rev)])
    (e : EachIs R vs bs) (er : EachIs (fun v b => ∃ as, Reads s.heap v (enc b) as) vs bs) (hal : AllAlike (bs.map enc)) (hk : Sortable (bs.map enc)) (hL : bs.length ≤ sizeLine) (hu : ∀ b, b ∈ bs → A.units + 2 + (enc b).depth < cLine)
    (h : ∀ out N h' ep, EachIs R out (bs.mergeSort (dataLe rev enc)) → s.heap.objs.size ≤ N → h'.get? N = some (seqObj "list" (List.toArray out) ep) → (∀ b ob, s.heap.get? b = some ob → h'.get? b = some ob) → Q (.ref N) { s with heap := h' }) :
    wpAny (model prog w) A (call (.builtin "sorted") [.ref a] kw) Q E s := by
  have hvl : vs.length ≤ sizeLine := by rw [e.length]; exact hL
  have ha1 : argsOk "sorted" ⟨[.ref a], kw⟩ := by
    rcases hkw with ⟨z, _⟩ | z
    · rw [z]; exact args_sorted1 _
    · rw [z]; exact args_sorted_rev _ _
  have ha2 : ∀ x : Addr, argsOk "list.sort" ⟨[.ref x], kw⟩ := fun x => by
    rcases hkw with ⟨z, _⟩ | z
    · rw [z]; exact args_list_sort _
    · rw [z]; exact args_list_sort_rev _ _
  have hsame : ∀ x : Addr, Builtin.«list.sort» ⟨[.ref x], kw⟩ = Builtin.«list.sort» ⟨[.ref x], [(Str.ofString "reverse", .bool rev)]⟩ := fun x => by
    rcases hkw with ⟨z, z2⟩ | z
    · rw [z, z2]; exact plain_is_rev x
    · rw [z]
  refine call_function_entry_kw kind_sorted plain_sorted entry_sorted ha1 ?_
  unfold Builtin.«sorted»
  refine wpAny_bind (m := checkCount "sorted" 1 1 _) (wpAny_pure ?_)
  refine wpAny_bind (collectSz hT ho hc hd (by rw [List.size_toArray]; exact hvl) (fun h1 z1 k1 => ?_))
  refine wpAny_bind (wpAny_newList ?_ (by simpa using hvl))
  have gN : (h1.push (seqObj "list" vs.toArray 0)).get? h1.objs.size = some (seqObj "list" vs.toArray 0) := Heap.get?_push_size _ rfl
  have k2 : ∀ b ob, s.heap.get? b = some ob → (h1.push (seqObj "list" vs.toArray 0)).get? b = some ob := fun b ob eb => Heap.get?_push_of_some _ (k1 b ob eb)
  have kS : ∀ b ob, s.heap.get? b = some ob → (sortingHeap (h1.push (seqObj "list" vs.toArray 0)) h1.objs.size vs).get? b = some ob := fun b ob eb => sortingHeap_old (Nat.ne_of_lt (Heap.lt_size (k1 b ob eb))) (k2 b ob eb)
  have er' : EachIs (fun v b => ∃ as, Reads (sortingHeap (h1.push (seqObj "list" vs.toArray 0)) h1.objs.size vs) v (enc b) as) vs bs := er.mono fun _ _ ⟨as, r⟩ => ⟨as, PyProof.Rows.Reads.keeps kS r⟩
  have hle : s.heap.objs.size ≤ h1.objs.size := by omega
  show wpAny _ _ _ _ _ { s with heap := h1.push (seqObj "list" vs.toArray 0) }
  refine wpAny_bind (wpAny_holding (wpAny_call_entry_kw slot_list_sort ⟨_, gN, rfl⟩ entry_list_sort ?body (ha2 _)))
  case body =>
    show wpAny (model prog w) A.in1.in1 (Builtin.«list.sort» ⟨[.ref h1.objs.size], kw⟩) _ _ _
    rw [hsame]
    refine list_sort_rev_vals (s := { s with heap := h1.push (seqObj "list" vs.toArray 0) }) gN (SortsAt.data (s := { s with heap := sortingHeap (h1.push (seqObj "list" vs.toArray 0)) h1.objs.size vs }) (each_map (R := fun v d => ∃ as, Reads (sortingHeap (h1.push (seqObj "list" vs.toArray 0)) h1.objs.size vs) v d as) enc er') hal hk (bound_map hu)) hvl ?_
    obtain ⟨ep, hep⟩ := sortedHeap_at (out := (sortVals (dataKind (sortingHeap (h1.push (seqObj "list" vs.toArray 0)) h1.objs.size vs) (bs.map enc)) rev vs vs).toArray) (vs := vs) gN
    exact ⟨_, rfl, wpAny_pure ⟨_, rfl, h _ _ _ ep (sortVals_data rev e er' hal) hle hep fun b ob eb => (sortedHeap_old (Nat.ne_of_lt (Heap.lt_size (k1 b ob eb))) (Heap.lt_size (k2 b ob eb))).trans (k2 b ob eb)⟩⟩

/-! ### sorted, by values -/
def vEnc (p : V × D) : D := p.2
/-- what sorted can sort: alike data without lists, not below None -/
def okSort (ds : List D) : Bool := pureL ds && ds.all (fun d => ds.all fun e => PySem.W.alike d e) && ((ds.all fun d => match d with | .tuple (_ :: _) => true | _ => false) || ds.all fun d => match d with | .tuple _ => false | .none => false | _ => true) && ds.all (fun d => decide (d.depth ≤ 40))
theorem okSort_alike {ds : List D} (h : okSort ds = true) : pureL ds = true ∧ PySem.W.AllAlike ds ∧ PySem.W.Sortable ds ∧ ∀ d ∈ ds, d.depth ≤ 40 := by
  unfold okSort at h
  simp only [Bool.and_eq_true, List.all_eq_true, Bool.or_eq_true, decide_eq_true_eq] at h
  obtain ⟨⟨⟨h1, h2⟩, h3⟩, h4⟩ := h
  refine ⟨h1, fun d hd e he => h2 d hd e he, ?_, h4⟩
  rcases h3 with h3 | h3
  · refine .inl fun d hd => ?_
    have := h3 d hd
    split at this
    · exact ⟨_, _, rfl⟩
    · cases this
  · refine .inr fun d hd => ?_
    have := h3 d hd
    split at this
    · cases this
    · cases this
    · rename_i n1 n2
      exact ⟨n2, fun xs e => n1 xs e⟩
def sortD (rev : Bool) (ds : List D) : List D := ds.mergeSort (PySem.W.dataLe rev id)
def sortF (rev : Bool) : List D → Option D
  | [.list ds] => if okSort ds = true then some (.list (sortD rev ds)) else none
  | [.tuple ds] => if okSort ds = true then some (.list (sortD rev ds)) else none
  | _ => none
mutual
theorem pure_noDct : ∀ d : D, pureD d = true → noDct d = true
  | .none, _ => rfl
  | .bool _, _ => rfl
  | .int _, _ => rfl
  | .str _, _ => rfl
  | .list _, h => by cases h
  | .dict _, h => by cases h
  | .tuple ds, h => by
    simp only [pureD] at h
    simp only [noDct]
    exact pureL_noDct ds h
theorem pureL_noDct : ∀ ds : List D, pureL ds = true → noDctL ds = true
  | [], _ => rfl
  | d :: ds, h => by
    simp only [pureL, Bool.and_eq_true] at h
    simp only [noDctL, Bool.and_eq_true]
    exact ⟨pure_noDct d h.1, pureL_noDct ds h.2⟩
end
theorem pureL_mem : ∀ {ds : List D}, pureL ds = true → ∀ d ∈ ds, pureD d = true
  | [], _, d, m => nomatch m
  | e :: ds, h, d, m => by
    simp only [pureL, Bool.and_eq_true] at h
    rcases List.mem_cons.mp m with m | m
    · rw [m]; exact h.1
    · exact pureL_mem h.2 d m
theorem RpL.pairs {K : PySem.W.Frag} {H : Hp} : ∀ {ds : List D} {vs : List V}, RpL K H vs ds [] → ∃ ps : List (V × D), ps.map (·.1) = vs ∧ ps.map (·.2) = ds ∧ ∀ p ∈ ps, Rp K H p.1 p.2 []
  | [], _, h => by cases h; exact ⟨[], rfl, rfl, fun p m => nomatch m⟩
  | d :: ds, _, h => by
    generalize hz : ([] : List Addr) = z at h
    cases h with
    | cons h1 h2 =>
      obtain ⟨z1, z2⟩ := List.append_eq_nil_iff.mp hz.symm
      subst z1; subst z2
      obtain ⟨ps, e1, e2, e3⟩ := RpL.pairs h2
      refine ⟨(_, d) :: ps, by rw [List.map_cons, e1], by rw [List.map_cons, e2], fun p m => ?_⟩
      rcases List.mem_cons.mp m with m | m
      · rw [m]; exact h1
      · exact e3 p m
theorem RpL.of_pairs {K : PySem.W.Frag} {H : Hp} : ∀ {ps : List (V × D)}, (∀ p ∈ ps, Rp K H p.1 p.2 []) → RpL K H (ps.map (·.1)) (ps.map (·.2)) []
  | [], _ => .nil
  | p :: ps, h => .cons (f := []) (fs := []) (h p List.mem_cons_self) (RpL.of_pairs fun q m => h q (List.mem_cons_of_mem _ m))
theorem each_pairs {R : Value → V × D → Prop} : ∀ {ps : List (V × D)} {its : List Value}, Vals (ps.map (·.1)) its → (∀ p ∈ ps, ∀ u, RelV p.1 u → u ∈ its → R u p) → PySem.W.EachIs R its ps
  | [], _, r, _ => by cases r; exact .nil
  | p :: ps, _, r, h => by
    cases r with
    | cons r1 r2 => exact .cons (h p List.mem_cons_self _ r1 List.mem_cons_self) (each_pairs r2 fun q m u ru mu => h q (List.mem_cons_of_mem _ m) u ru (List.mem_cons_of_mem _ mu))
theorem vals_each : ∀ {ps : List (V × D)} {out : List Value}, PySem.W.EachIs (fun u (p : V × D) => RelV p.1 u) out ps → Vals (ps.map (·.1)) out
  | _, _, .nil => .nil
  | _, _, .cons h t => .cons h (vals_each t)
/-- the rule: sorted of a list or tuple -/
def rSortA (K : PySem.W.Frag) (rev : Bool) : List V → Hp → VK → Prop := fun vs H Q => ∃ (a : Addr) (xs : List V) (ps : List (V × D)), vs = [.ref a] ∧ (SqL K H a xs ∨ SqT K H a xs) ∧ xs.length ≤ sizeLine ∧ ps.map (·.1) = xs ∧ (∀ p ∈ ps, Rp K H p.1 p.2 []) ∧ okSort (ps.map (·.2)) = true ∧
  ∀ p, H p = none → Q (.ref p) (upd H p (.lst ((ps.mergeSort (PySem.W.dataLe rev vEnc)).map (·.1))))
section
variable {X : Cx}
theorem sortA_run {rev : Bool} {kw : List (Str × Value)} {k : Nat} (hr : Room k X.A) (hkw : (kw = [] ∧ rev = false) ∨ kw = [(Str.ofString "reverse", .bool rev)]) {pins : List (Addr × Obj)} {s : Shared} {σ : L2.St} {H : Hp} {xs : List V} {us : List Value} {Q : VK} (I : Inv X pins σ H s) (r : Vals xs us) (h : rSortA X.K rev xs H Q) :
    wpAny (model X.prog X.w) X.A (call (.builtin "sorted") us kw) (L2.EP X pins σ Q) X.xe s := by
  obtain ⟨a, ys, ps, rfl, hs, hz, e1, hp, ok, q⟩ := h
  cases r with
  | cons r1 r2 =>
    cases r2
    cases r1
    obtain ⟨hpu, hal, hsb, hdp⟩ := okSort_alike ok
    have hun := hr.un
    obtain ⟨its, rv, o, n, T, hT, ho, hc, hd⟩ : ∃ its : List Value, Vals ys its ∧ ∃ o n T, (T = "list" ∨ T = "tuple") ∧ s.heap.get? a = some o ∧ o.cls = .type T ∧ o.data = .seq its.toArray n := by
      rcases hs with hs | hs
      · obtain ⟨its, rv, ⟨o, n, e, c, _, d⟩, _⟩ := I.list hs
        exact ⟨its, rv, o, n, "list", .inl rfl, e, c, d⟩
      · obtain ⟨its, rv, ⟨o, e, c, n, d⟩, _⟩ := I.tuple hs
        exact ⟨its, rv, o, n, "tuple", .inr rfl, e, c, d⟩
    subst e1
    have hl : ps.length ≤ sizeLine := by rw [List.length_map] at hz; exact hz
    refine sortedSeq hT ho hc hd hkw (bs := ps) (enc := vEnc) (R := fun u (p : V × D) => RelV p.1 u) (each_pairs rv fun p m u ru _ => ru) (each_pairs rv fun p m u ru _ => ?_) hal hsb hl (fun p m => ?_) fun out N h' ep hout hN hN' kk => ?_
    · exact Dp.reads I p.2 p.1 u (Rp.dp _ _ _ (hp p m) (pure_noDct _ (pureL_mem hpu _ (List.mem_map_of_mem m)))) ru
    · have := hdp p.2 (List.mem_map_of_mem m)
      show X.A.units + 2 + p.2.depth < cLine
      omega
    · have hv := vals_each hout
      refine ⟨.ref N, _, I.laid (t' := s.toks) (o := .lst ((ps.mergeSort (PySem.W.dataLe rev vEnc)).map (·.1))) kk hN ⟨by rw [List.length_map, List.length_mergeSort]; exact hl, out, ep, hv, hN'⟩, rfl, q N (I.hok.fresh hN)⟩
theorem cr_sortA {k : Nat} (hr : Room k X.A) : CallR X (.builtin "sorted") (rSortA X.K false) := fun pins s σ H xs us Q I r h => sortA_run hr (.inl ⟨rfl, rfl⟩) I r h
end
theorem rn_sortA {K : PySem.W.Frag} {rev : Bool} : RNok true K (rSortA K rev) (sortF rev) := by
  intro H xs ds z fs Q r h q
  have go : ∀ {a : Addr} {vs : List V} {es : List D} {f : List Addr}, (SqL K H a vs ∨ SqT K H a vs) → vs.length ≤ sizeLine → RpL K H vs es f → okSort es = true → z = .list (sortD rev es) → rSortA K rev [.ref a] H Q := fun {a vs es f} h1 hz r1 ok ez => by
    obtain ⟨hpu, _⟩ := okSort_alike ok
    have hf := RpL.pure es vs f r1 hpu
    subst hf
    obtain ⟨ps, e1, e2, hp⟩ := r1.pairs
    refine ⟨a, vs, ps, rfl, h1, hz, e1, hp, by rw [e2]; exact ok, fun p np => ?_⟩
    have hm : (ps.mergeSort (PySem.W.dataLe rev vEnc)).map (·.2) = sortD rev es := by
      rw [PySem.W.sort_maps (r := PySem.W.dataLe rev vEnc) (s := PySem.W.dataLe rev id) (fun p : V × D => p.2) (fun _ _ _ _ => rfl), e2]; rfl
    have hr := RpL.of_pairs (K := K) (H := H) (ps := ps.mergeSort (PySem.W.dataLe rev vEnc)) fun p m => hp p (List.mem_mergeSort.mp m)
    rw [hm] at hr
    rw [ez] at q
    refine q _ _ [p] (same_upd np) (.lst upd_same (by rw [List.length_map, List.length_mergeSort, ← List.length_map (f := (·.1)), e1]; exact hz) (hr.same (same_upd np))) fun _ => ⟨List.nodup_cons.mpr ⟨fun m => (nomatch m), List.nodup_nil⟩, fun b m => ?_⟩
    rcases List.mem_cons.mp m with m | m
    · rw [m]; exact np
    · cases m
  unfold sortF at h
  split at h
  · split at h
    · rename_i ok
      cases h
      cases r with
      | cons r1 r2 =>
        cases r2
        cases r1 with
        | lst h1 h2 h3 => exact go (.inl (.inl (.inl h1))) h2 h3 ok rfl
    · cases h
  · split at h
    · rename_i ok
      cases h
      cases r with
      | cons r1 r2 =>
        cases r2
        cases r1 with
        | tup h1 h2 h3 => exact go (.inr (sqt h1)) h2 h3 ok rfl
    · cases h
  · cases h
end PV

set_option Elab.async false
set_option linter.all false
set_option maxRecDepth 100000
set_option maxHeartbeats 2000000
namespace PV
open PySem PySem.Spec PyProof.Rows L2

/-! ### short names of readings -/
def gE (h : Rh → Option D) : Rh → Option D := fun ρ => (h ρ).bind gd
def qB (h : Rh → Option D) : Rh → Option Bool := fun ρ => (h ρ).bind asB
def qT (h : Rh → Option D) : Rh → Option Bool := fun ρ => (h ρ).bind truD
def wB (g : Rh → Option (D × Rh)) : Rh → Option (Bool × Rh) := fun ρ => match g ρ with | some (.bool b, ρ') => some (b, ρ') | _ => none
def iS (h : Rh → Option D) : Rh → Option (List D) := fun ρ => (h ρ).bind seqD
def iE (h : Rh → Option D) : Rh → Option (List D) := fun ρ => ((h ρ).bind seqD).map enumD
def iR1 (h : Rh → Option (List D)) : Rh → Option (List D) := fun ρ => (h ρ).bind rng1
def iR2 (h : Rh → Option (List D)) : Rh → Option (List D) := fun ρ => (h ρ).bind rng2
def u1 (fn : D → Option D) (h : Rh → Option D) : Rh → Option D := fun ρ => (h ρ).bind fn
def w1 (fn : D → Option D) (g : Rh → Option (D × Rh)) : Rh → Option (D × Rh) := fun ρ => match g ρ with
  | some (d, ρ') => (fn d).map fun z => (z, ρ')
  | none => none
section
variable {X : Cx} {pos p : Pos} {e a b c : Expr} {es : List Expr} {fr fa fb fc : Bool} {h h1 h2 h3 : Rh → Option D} {g : Rh → Option (D × Rh)}
theorem ep_g (q : EP fr X e h) : EP true X e (gE h) := q.gd
theorem tp_b (q : EP fr X e h) (he : ∀ whole, isTrue e X.env whole = (do let v ← whole; standAt e.pos; holding [v] (truthy v)) := by intro _; rfl) : TP X e (qB h) := tp_val q he
theorem tp_t (q : EP fr X e h) (he : ∀ whole, isTrue e X.env whole = (do let v ← whole; standAt e.pos; holding [v] (truthy v)) := by intro _; rfl) : TP X e (qT h) := tp_tru q he
theorem tv_b (q : EV X e g) (he : ∀ whole, isTrue e X.env whole = (do let v ← whole; standAt e.pos; holding [v] (truthy v)) := by intro _; rfl) : TV X e (wB g) := tv_val q he
/-- a comparison as a test -/
theorem tp_cmp {op : CmpOp} {r : R2} {fn : D → D → Option D} (ho : OpR X (compareOp op) r) (hr : R2ok fr X.K r fn) (ha : EP fa X a h1) (hb : EP fb X b h2) (hm : behindInMarks op b = false) : TP X (.Compare a [op] [b] pos) (qB (o2 fn h1 h2)) := by
  obtain ⟨ta, pa, qa⟩ := ha
  obtain ⟨tb, pb, qb⟩ := hb
  refine ⟨_, pt_cmpR ho pa pb hm, fun ρ σ H d Q R hh q => ?_⟩
  unfold qB at hh
  cases e0 : o2 fn h1 h2 ρ with
  | none => simp [e0] at hh
  | some z =>
    simp only [e0, Option.bind_some] at hh
    obtain ⟨x, y, e1, e2, e3⟩ := o2_some e0
    cases z <;> simp only [asB, reduceCtorEq] at hh
    cases hh
    refine qa ρ σ H x _ R e1 fun v H1 fp s r1 _ => qb ρ σ H1 y _ (R.same s) e2 fun u H2 fq s2 r2 _ => ?_
    refine hr H2 v u x y _ fp fq _ (r1.same s2) r2 e3 fun z H3 fz s3 r3 hz => ?_
    cases r3
    exact ⟨_, rfl, q H3 (same_trans s (same_trans s2 s3))⟩
theorem tv_cmp {op : CmpOp} {r : R2} {fn : D → D → Option D} {g1 g2 : Rh → Option (D × Rh)} (ho : OpR X (compareOp op) r) (hr : R2ok true X.K r fn) (ha : EV X a g1) (hb : EV X b g2) (hm : behindInMarks op b = false) : TV X (.Compare a [op] [b] pos) (wB (v2 fn g1 g2)) := by
  obtain ⟨ta, pa, qa⟩ := ha
  obtain ⟨tb, pb, qb⟩ := hb
  refine ⟨_, pt_cmpR ho pa pb hm, fun F L ρ σ H f bb ρ' Q R hh q => ?_⟩
  unfold wB at hh
  split at hh
  · rename_i b0 ρ2 e0
    cases hh
    obtain ⟨x, ρ1, y, e1, e2, e3⟩ := v2_some e0
    refine qa F L ρ σ H f x ρ1 _ R e1 fun v H1 f1 fp R1 fr1 k1 => qb (F.hold fp) L ρ1 σ H1 f1 y ρ' _ (R1.hold fr1) e2 fun u H2 f2 fq R2 fr2 k2 => ?_
    have fr1' := fr1.over k2 R2
    refine hr H2 v u x y _ fp fq _ fr1'.rp fr2.rp e3 fun z H3 fz s3 r3 hz => ?_
    cases r3
    exact ⟨_, rfl, q H3 f2 (R2.unhold.same s3) (k1.trans (k2.unhold.trans (Keep.of_same s3)))⟩
  · cases hh
/-- a op b op' c -/
def chn (fn fn' : D → D → Option D) (h1 h2 h3 : Rh → Option D) : Rh → Option D := fun ρ => match h1 ρ, h2 ρ with
  | some x, some y => match fn x y with
    | some (.bool true) => match h3 ρ with
      | some z => fn' y z
      | none => none
    | some (.bool false) => some (.bool false)
    | _ => none
  | _, _ => none
section
variable {op op' : CmpOp} {r r' : R2} {fn fn' : D → D → Option D}
theorem chn_sound {K : PySem.W.Frag} {ta tb tc : TE} (hr : R2ok true K r fn) (hr' : R2ok true K r' fn')
    (qa : ∀ (ρ : Rh) (σ : L2.St) (H : Hp) (d : D) (Q : VK), RhR K ρ σ H → h1 ρ = some d → (∀ v H' fp, Same H H' → Rp K H' v d fp → (fa = true → fp.Nodup ∧ ∀ a ∈ fp, H a = none) → Q v H') → ta σ H Q)
    (qb : ∀ (ρ : Rh) (σ : L2.St) (H : Hp) (d : D) (Q : VK), RhR K ρ σ H → h2 ρ = some d → (∀ v H' fp, Same H H' → Rp K H' v d fp → (fb = true → fp.Nodup ∧ ∀ a ∈ fp, H a = none) → Q v H') → tb σ H Q)
    (qc : ∀ (ρ : Rh) (σ : L2.St) (H : Hp) (d : D) (Q : VK), RhR K ρ σ H → h3 ρ = some d → (∀ v H' fp, Same H H' → Rp K H' v d fp → (fc = true → fp.Nodup ∧ ∀ a ∈ fp, H a = none) → Q v H') → tc σ H Q)
    (ρ : Rh) (σ : L2.St) (H : Hp) (d : D) (Q : VK) (R : RhR K ρ σ H) (hh : chn fn fn' h1 h2 h3 ρ = some d) (q : ∀ v H' fp, Same H H' → Rp K H' v d fp → (fp.Nodup ∧ ∀ a ∈ fp, H a = none) → Q v H') : tChain r r' ta tb tc σ H Q := by
  unfold chn at hh
  split at hh
  · rename_i x y e1 e2
    refine qa ρ σ H x _ R e1 fun v H1 fp s r1 _ => qb ρ σ H1 y _ (R.same s) e2 fun u H2 fq s2 r2 _ => ?_
    split at hh
    · rename_i e3
      refine hr H2 v u x y _ fp fq _ (r1.same s2) r2 e3 fun z H3 fz s3 r3 _ => ?_
      cases r3
      refine ⟨true, rfl, ?_⟩
      rw [if_pos rfl]
      have s03 := same_trans s (same_trans s2 s3)
      split at hh
      · rename_i w e4
        refine qc ρ σ H3 w _ (R.same s03) e4 fun t H4 ft s4 r4 _ => ?_
        exact hr' H4 u t y w d fq ft Q (r2.same (same_trans s3 s4)) r4 hh fun z2 H5 fz2 s5 r5 n5 => q z2 H5 fz2 (same_trans s03 (same_trans s4 s5)) r5 ⟨(n5 rfl).1, fun a m => Same.new (same_trans s03 s4) ((n5 rfl).2 a m)⟩
      · cases hh
    · rename_i e3
      cases hh
      refine hr H2 v u x y _ fp fq _ (r1.same s2) r2 e3 fun z H3 fz s3 r3 _ => ?_
      cases r3
      refine ⟨false, rfl, ?_⟩
      rw [if_neg Bool.false_ne_true]
      exact q _ H3 [] (same_trans s (same_trans s2 s3)) (.bl false) no_mem
    · cases hh
  · cases hh
theorem ep_chain (ho : OpR X (compareOp op) r) (ho' : OpR X (compareOp op') r') (hr : R2ok true X.K r fn) (hr' : R2ok true X.K r' fn') (ha : EP fa X a h1) (hb : EP fb X b h2) (hc : EP fc X c h3) (hm : lastMarks [op, op'] [b, c] = false := by with_unfolding_all rfl) :
    EP true X (.Compare a [op, op'] [b, c] pos) (chn fn fn' h1 h2 h3) := by
  obtain ⟨ta, pa, qa⟩ := ha
  obtain ⟨tb, pb, qb⟩ := hb
  obtain ⟨tc, pc, qc⟩ := hc
  exact ⟨_, pe_chain ho ho' pa pb pc hm, fun ρ σ H d Q R hh q => chn_sound hr hr' qa qb qc ρ σ H d Q R hh fun v H' fp s r n => q v H' fp s r fun _ => n⟩
theorem tp_chain (ho : OpR X (compareOp op) r) (ho' : OpR X (compareOp op') r') (hr : R2ok true X.K r fn) (hr' : R2ok true X.K r' fn') (ha : EP fa X a h1) (hb : EP fb X b h2) (hc : EP fc X c h3) (hm : lastMarks [op, op'] [b, c] = false := by with_unfolding_all rfl) :
    TP X (.Compare a [op, op'] [b, c] pos) (qB (chn fn fn' h1 h2 h3)) := by
  obtain ⟨ta, pa, qa⟩ := ha
  obtain ⟨tb, pb, qb⟩ := hb
  obtain ⟨tc, pc, qc⟩ := hc
  refine ⟨_, pt_chain ho ho' pa pb pc hm, fun ρ σ H d Q R hh q => ?_⟩
  unfold qB at hh
  cases e0 : chn fn fn' h1 h2 h3 ρ with
  | none => simp [e0] at hh
  | some z =>
    simp only [e0, Option.bind_some] at hh
    cases z <;> simp only [asB, reduceCtorEq] at hh
    cases hh
    exact chn_sound hr hr' qa qb qc ρ σ H _ _ R e0 fun v H' fp s r n => by cases r; exact ⟨_, rfl, q H' s⟩
end
/-- not x by truth, as a value -/
def notT (d : D) : Option D := (truD d).map fun b => .bool !b
theorem truV_of {K : PySem.W.Frag} {H : Hp} {v : V} {d : D} {fp : List Addr} {b : Bool} (r : Rp K H v d fp) (h : truD d = some b) : TruV K v H b := by
  cases r with
  | non => cases h; rfl
  | bl b => cases h; rfl
  | int i => cases h; rfl
  | str x => cases h
  | lst h1 h2 h3 => cases h; exact .inl ⟨_, .inl (.inl h1), by rw [isEmpty_len h3.length]⟩
  | tup h1 h2 h3 => cases h; exact .inr (.inl ⟨_, sqt h1, by rw [isEmpty_len h3.length]⟩)
  | dct h1 h2 => cases h
  | dcf h1 h2 => cases h
theorem ep_notT (ha : EP fa X a h) : EP true X (.UnaryOp .Not a pos) (u1 notT h) := by
  refine ep_un (r := fun x H Q => ∃ k, TruV X.K x H k ∧ Q (.bl (!k)) H) (fun pa => pe_notT pa) (fun H x d z fx Q rx hz q => ?_) ha
  unfold notT at hz
  cases e0 : truD d with
  | none => rw [e0] at hz; cases hz
  | some k => rw [e0] at hz; cases hz; exact ⟨k, truV_of rx e0, q _ H [] Same.refl (.bl _) fun _ => no_mem⟩
def negI : D → Option D
  | .int i => some (.int (-i))
  | _ => none
theorem ep_neg (ha : EP fa X a h) : EP true X (.UnaryOp .USub a pos) (u1 negI h) := by
  refine ep_un (r := rU fun i => .int (-i)) (fun pa => pe_un un_neg pa) (fun H x d z fx Q rx hz q => ?_) ha
  unfold negI at hz
  split at hz
  · cases hz; cases rx; exact ⟨_, rfl, q _ H [] Same.refl (.int _) fun _ => no_mem⟩
  · cases hz
/-- with effects, one argument -/
theorem ev_un {r : V → Hp → VK → Prop} {fn : D → Option D} (pe : ∀ {ta : TE}, PE X a ta → PE X e (tUn r ta))
    (hr : ∀ H x d z fx (Q : VK), Rp X.K H x d fx → fn d = some z → (∀ v H' fp, Same H H' → Rp X.K H' v z fp → (fp.Nodup ∧ ∀ a ∈ fp, H a = none) → Q v H') → r x H Q) (ha : EV X a g) : EV X e (w1 fn g) := by
  obtain ⟨ta, pa, qa⟩ := ha
  refine ⟨_, pe pa, fun F L ρ σ H f d ρ' Q R hh q => ?_⟩
  unfold w1 at hh
  split at hh
  · rename_i d0 ρ1 e1
    cases e2 : fn d0 with
    | none => rw [e2] at hh; cases hh
    | some z =>
      rw [e2] at hh; cases hh
      exact qa F L ρ σ H f d0 ρ' _ R e1 fun v H1 f1 fp R1 fr1 k1 => hr H1 v d0 d fp Q fr1.rp e2 fun u H2 fz s2 r2 n => q u H2 f1 fz (R1.same s2) (R1.fresh s2 r2 n.1 n.2) (k1.trans (Keep.of_same s2))
  · cases hh
/-! ### tuple(x), list(x) -/
def tupD : D → Option D
  | .list ds => if pureL ds = true then some (.tuple ds) else none
  | .tuple ds => if pureL ds = true then some (.tuple ds) else none
  | _ => none
theorem tup_ok {K : PySem.W.Frag} (H : Hp) (x : V) (d z : D) (fx : List Addr) (Q : VK) (rx : Rp K H x d fx) (hz : tupD d = some z) (q : ∀ v H' fp, Same H H' → Rp K H' v z fp → (fp.Nodup ∧ ∀ a ∈ fp, H a = none) → Q v H') : kTup K x H Q := by
  unfold tupD at hz
  split at hz
  · split at hz
    · rename_i hp
      cases hz
      cases rx with
      | lst h1 h2 h3 =>
        have hf := RpL.pure _ _ _ h3 hp
        subst hf
        exact .inl ⟨_, _, rfl, .inl (.inl h1), fun p np => q _ _ [] (same_upd np) (.tup upd_same h2 (h3.same (same_upd np))) no_mem⟩
    · cases hz
  · split at hz
    · rename_i hp
      cases hz
      cases rx with
      | tup h1 h2 h3 =>
        have hf := RpL.pure _ _ _ h3 hp
        subst hf
        exact .inr ⟨_, _, rfl, sqt h1, q _ H [] Same.refl (.tup h1 h2 h3) no_mem⟩
    · cases hz
  · cases hz
theorem ep_tuple (hg : Gl X "tuple") (hm : X.mg "tuple" = none) (ha : EP fa X a h) (na : starEach [a] X.env = (false, eval a X.env) :: starEach [] X.env := by rfl) : EP true X (.Call (.Name "tuple" p) [a] [] pos) (u1 tupD h) :=
  ep_un (r := kTup X.K) (fun pa => pe_tupleOf hg hm pa na) (fun H x d z fx Q rx hz q => tup_ok H x d z fx Q rx hz fun v H' fp s r n => q v H' fp s r fun _ => n) ha
theorem ev_tuple (hg : Gl X "tuple") (hm : X.mg "tuple" = none) (ha : EV X a g) (na : starEach [a] X.env = (false, eval a X.env) :: starEach [] X.env := by rfl) : EV X (.Call (.Name "tuple" p) [a] [] pos) (w1 tupD g) :=
  ev_un (r := kTup X.K) (fun pa => pe_tupleOf hg hm pa na) (fun H x d z fx Q rx hz q => tup_ok H x d z fx Q rx hz q) ha
end
def listF : List D → Option D
  | [.list ds] => if pureL ds = true then some (.list ds) else none
  | [.tuple ds] => if pureL ds = true then some (.list ds) else none
  | _ => none
theorem rn_list {K : PySem.W.Frag} : RNok true K (fun xs H Q => ∃ p ys, xs = [.ref p] ∧ (SqL K H p ys ∨ SqT K H p ys) ∧ ∀ l, H l = none → Q (.ref l) (upd H l (.lst ys))) listF := by
  intro H xs ds z fs Q r h q
  have go : ∀ {a : Addr} {vs : List V} {es : List D} {f : List Addr}, (SqL K H a vs ∨ SqT K H a vs) → vs.length ≤ sizeLine → RpL K H vs es f → pureL es = true → z = .list es → ∃ p ys, [V.ref a] = [.ref p] ∧ (SqL K H p ys ∨ SqT K H p ys) ∧ ∀ l, H l = none → Q (.ref l) (upd H l (.lst ys)) := fun {a vs es f} h1 hz r1 hp ez => by
    have hf := RpL.pure _ _ _ r1 hp
    subst hf
    refine ⟨a, vs, rfl, h1, fun l nl => ?_⟩
    rw [ez] at q
    refine q _ _ [l] (same_upd nl) (.lst upd_same hz (r1.same (same_upd nl))) fun _ => ⟨List.nodup_cons.mpr ⟨fun m => (nomatch m), List.nodup_nil⟩, fun b m => ?_⟩
    rcases List.mem_cons.mp m with m | m
    · rw [m]; exact nl
    · cases m
  unfold listF at h
  split at h
  · split at h
    · rename_i hp
      cases h
      cases r with
      | cons r1 r2 =>
        cases r2
        cases r1 with
        | lst h1 h2 h3 => exact go (.inl (.inl (.inl h1))) h2 h3 hp rfl
    · cases h
  · split at h
    · rename_i hp
      cases h
      cases r with
      | cons r1 r2 =>
        cases r2
        cases r1 with
        | tup h1 h2 h3 => exact go (.inr (sqt h1)) h2 h3 hp rfl
    · cases h
  · cases h
/-! ### int(x), sum, min, max -/
theorem rn_int {K : PySem.W.Frag} : RNok true K (fun xs H Q => (∃ i, xs = [.int i] ∧ Q (.int i) H) ∨ ∃ k, xs = [.bl k] ∧ Q (.int (if k then 1 else 0)) H) intF := by
  intro H xs ds z fs Q r h q
  unfold intF at h
  split at h
  · cases h
    cases r with
    | cons r1 r2 => cases r2; cases r1; exact .inl ⟨_, rfl, q _ H [] Same.refl (.int _) fun _ => no_mem⟩
  · cases h
    cases r with
    | cons r1 r2 => cases r2; cases r1; exact .inr ⟨_, rfl, q _ H [] Same.refl (.int _) fun _ => no_mem⟩
  · cases h
def intsOf : List D → Option (List Int)
  | [] => some []
  | .int i :: ds => match intsOf ds with
    | some r => some (i :: r)
    | none => none
  | _ => none
theorem intsOf_map {ds : List D} {ns : List Int} (h : intsOf ds = some ns) : ds = ns.map .int := by
  induction ds generalizing ns with
  | nil => cases h; rfl
  | cons d ds ih =>
    unfold intsOf at h
    split at h
    · rename_i z; cases z
    · rename_i i ds' e
      cases e
      split at h
      · rename_i r e2
        cases h
        rw [List.map_cons, ← ih e2]
      · cases h
    · cases h
theorem intsOf_ints (ns : List Int) : intsOf (ns.map .int) = some ns := by
  induction ns with
  | nil => rfl
  | cons n ns ih => simp [intsOf, ih]
theorem RpL.ints {K : PySem.W.Frag} {H : Hp} : ∀ {ns : List Int} {vs : List V} {f : List Addr}, RpL K H vs (ns.map .int) f → vs = ns.map V.int
  | [], _, _, h => by cases h; rfl
  | n :: ns, _, _, h => by
    cases h with
    | cons h1 h2 => cases h1; rw [List.map_cons, ← RpL.ints h2]
def rSumA (K : PySem.W.Frag) : List V → Hp → VK → Prop := fun vs H Q => ∃ (a : Addr) (ns : List Int), vs = [V.ref a] ∧ (SqL K H a (ns.map V.int) ∨ SqT K H a (ns.map V.int)) ∧ Q (.int ns.sum) H
theorem cr_sumA {X : Cx} (hc : X.calm = true) : CallR X (.builtin "sum") (rSumA X.K) := by
  intro pins s σ H vs us Q I r h
  obtain ⟨a, ns, rfl, hs, q⟩ := h
  rw [Vals.ref1 r]
  rcases hs with hs | hs
  · obtain ⟨its, rv, hl, _⟩ := I.list hs
    exact sum_raw (I.ok.hd hc) hl.isList rv.ints fun h' tk t' hk => ⟨.int _, H, I.kept hk, ⟨_, rfl⟩, q⟩
  · obtain ⟨its, rv, ht, _⟩ := I.tuple hs
    have hi := rv.ints
    obtain ⟨xs, e⟩ := hi.allInts.items
    have hn : numsOf (intItems xs).toList = ns := by rw [← e]; exact hi.numsOf
    rw [nums_intItems] at hn
    have ht' : s.heap.IsTuple a its.toArray := ht
    rw [e] at ht'
    refine PySem.W.ktm_sumG (I.ok.hd hc) ht' fun h' tk t' hk => ⟨.int ns.sum, H, I.kept hk, ⟨t', ?_⟩, q⟩
    rw [preSum_eq, List.take_of_length_le (by simp), hn]
def sumF : List D → Option D
  | [.list ds] => match intsOf ds with
    | some ns => some (.int ns.sum)
    | none => none
  | [.tuple ds] => match intsOf ds with
    | some ns => some (.int ns.sum)
    | none => none
  | _ => none
theorem rn_sum {K : PySem.W.Frag} : RNok true K (rSumA K) sumF := by
  intro H xs ds z fs Q r h q
  unfold sumF at h
  split at h
  · split at h
    · rename_i ns e
      cases h
      have em := intsOf_map e
      subst em
      cases r with
      | cons r1 r2 =>
        cases r2
        cases r1 with
        | lst h1 h2 h3 =>
          rw [h3.ints] at h1
          exact ⟨_, ns, rfl, .inl (.inl (.inl h1)), q _ H [] Same.refl (.int _) fun _ => no_mem⟩
    · cases h
  · split at h
    · rename_i ns e
      cases h
      have em := intsOf_map e
      subst em
      cases r with
      | cons r1 r2 =>
        cases r2
        cases r1 with
        | tup h1 h2 h3 =>
          rw [h3.ints] at h1
          exact ⟨_, ns, rfl, .inr (sqt h1), q _ H [] Same.refl (.int _) fun _ => no_mem⟩
    · cases h
  · cases h
def min2F : List D → Option D
  | [.int i, .int j] => some (.int (if j < i then j else i))
  | _ => none
def max2F : List D → Option D
  | [.int i, .int j] => some (.int (if j > i then j else i))
  | _ => none
theorem rn_min2 {K : PySem.W.Frag} : RNok true K (fun xs H Q => ∃ i j, xs = [.int i, .int j] ∧ Q (.int (if j < i then j else i)) H) min2F := by
  intro H xs ds z fs Q r h q
  unfold min2F at h
  split at h
  · cases h
    cases r with
    | cons r1 r2 => cases r2 with
      | cons r2 r3 => cases r3; cases r1; cases r2; exact ⟨_, _, rfl, q _ H [] Same.refl (.int _) fun _ => no_mem⟩
  · cases h
theorem rn_max2 {K : PySem.W.Frag} : RNok true K (fun xs H Q => ∃ i j, xs = [.int i, .int j] ∧ Q (.int (if j > i then j else i)) H) max2F := by
  intro H xs ds z fs Q r h q
  unfold max2F at h
  split at h
  · cases h
    cases r with
    | cons r1 r2 => cases r2 with
      | cons r2 r3 => cases r3; cases r1; cases r2; exact ⟨_, _, rfl, q _ H [] Same.refl (.int _) fun _ => no_mem⟩
  · cases h
/-! ### any, all of lists of bools -/
def boolsOf : List D → Option (List Bool)
  | [] => some []
  | .bool i :: ds => match boolsOf ds with
    | some r => some (i :: r)
    | none => none
  | _ => none
theorem boolsOf_map {ds : List D} {ns : List Bool} (h : boolsOf ds = some ns) : ds = ns.map .bool := by
  induction ds generalizing ns with
  | nil => cases h; rfl
  | cons d ds ih =>
    unfold boolsOf at h
    split at h
    · rename_i z; cases z
    · rename_i i ds' e
      cases e
      split at h
      · rename_i r e2
        cases h
        rw [List.map_cons, ← ih e2]
      · cases h
    · cases h
theorem boolsOf_bools (ns : List Bool) : boolsOf (ns.map .bool) = some ns := by
  induction ns with
  | nil => rfl
  | cons n ns ih => simp [boolsOf, ih]
theorem RpL.bools {K : PySem.W.Frag} {H : Hp} : ∀ {ns : List Bool} {vs : List V} {f : List Addr}, RpL K H vs (ns.map .bool) f → vs = ns.map V.bl
  | [], _, _, h => by cases h; rfl
  | n :: ns, _, _, h => by
    cases h with
    | cons h1 h2 => cases h1; rw [List.map_cons, ← RpL.bools h2]
def allF : List D → Option D
  | [.list ds] => match boolsOf ds with
    | some ns => some (.bool (ns.all id))
    | none => none
  | _ => none
def anyF : List D → Option D
  | [.list ds] => match boolsOf ds with
    | some ns => some (.bool (ns.any id))
    | none => none
  | _ => none
theorem rn_all {K : PySem.W.Frag} : RNok true K (rAll K) allF := by
  intro H xs ds z fs Q r h q
  unfold allF at h
  split at h
  · split at h
    · rename_i ns e
      cases h
      have em := boolsOf_map e
      subst em
      cases r with
      | cons r1 r2 =>
        cases r2
        cases r1 with
        | lst h1 h2 h3 =>
          rw [h3.bools] at h1
          exact ⟨_, ns, rfl, .inl (.inl h1), q _ H [] Same.refl (.bl _) fun _ => no_mem⟩
    · cases h
  · cases h
theorem rn_any {K : PySem.W.Frag} : RNok true K (rAny K) anyF := by
  intro H xs ds z fs Q r h q
  unfold anyF at h
  split at h
  · split at h
    · rename_i ns e
      cases h
      have em := boolsOf_map e
      subst em
      cases r with
      | cons r1 r2 =>
        cases r2
        cases r1 with
        | lst h1 h2 h3 =>
          rw [h3.bools] at h1
          exact ⟨_, ns, rfl, .inl (.inl h1), q _ H [] Same.refl (.bl _) fun _ => no_mem⟩
    · cases h
  · cases h
end PV

set_option Elab.async false
set_option linter.all false
set_option maxRecDepth 100000
set_option maxHeartbeats 2000000
namespace PV
open PySem PySem.Spec PyProof.Rows L2

/-! ### more ways of one operator -/
def alt (f g : D → D → Option D) : D → D → Option D := fun x y => match f x y with | some z => some z | none => g x y
theorem R2ok.alt {fr : Bool} {K : PySem.W.Frag} {r r' : R2} {f g : D → D → Option D} (h : R2ok fr K r f) (h' : R2ok fr K r' g) : R2ok fr K (fun x y H Q => r x y H Q ∨ r' x y H Q) (alt f g) := by
  intro H x y d e z fx fy Q rx ry hz q
  unfold PV.alt at hz
  split at hz
  · rename_i w e1; cases hz; exact .inl (h H x y d e z fx fy Q rx ry e1 q)
  · exact .inr (h' H x y d e z fx fy Q rx ry hz q)
def addS : D → D → Option D
  | .str a, .str b => if a.length + b.length ≤ 1000000 then some (.str (a ++ b)) else none
  | _, _ => none
theorem r2_addS {K : PySem.W.Frag} : R2ok true K (fun x y H Q => ∃ i j, x = .str i ∧ y = .str j ∧ i.length + j.length ≤ sizeLine ∧ Q (.str (i ++ j)) H) addS := by
  intro H x y d e z fx fy Q rx ry h q
  unfold addS at h
  split at h
  · split at h
    · rename_i hl
      cases h; cases rx; cases ry
      exact ⟨_, _, rfl, rfl, mil_line hl, q _ H [] Same.refl (.str _) fun _ => no_mem⟩
    · cases h
  · cases h
def addD := alt addI (alt addT (alt addL addS))
def mulD := alt mulI (alt repL repT)
section
variable {X : Cx} {K : PySem.W.Frag}
theorem op_addA : OpR X (binaryOp .Add) (fun x y H Q => (rI0 fun i j => .int (i + j)) x y H Q ∨ rCatA X.K x y H Q ∨ rCat x y H Q ∨ ∃ i j, x = .str i ∧ y = .str j ∧ i.length + j.length ≤ sizeLine ∧ Q (.str (i ++ j)) H) := op_add.or (op_catA.or (op_cat.or op_add_str))
theorem r2_addA : R2ok true K (fun x y H Q => (rI0 fun i j => .int (i + j)) x y H Q ∨ rCatA K x y H Q ∨ rCat x y H Q ∨ ∃ i j, x = .str i ∧ y = .str j ∧ i.length + j.length ≤ sizeLine ∧ Q (.str (i ++ j)) H) addD := r2_addI.alt (r2_addT.alt (r2_addL.alt r2_addS))
theorem op_mulA : OpR X (binaryOp .Mult) (fun x y H Q => (rI CMul fun i j => .int (i * j)) x y H Q ∨ rRep x y H Q ∨ rRepT X.K x y H Q) := op_mul.or (op_rep.or op_repT)
theorem r2_mulA : R2ok true K (fun x y H Q => (rI CMul fun i j => .int (i * j)) x y H Q ∨ rRep x y H Q ∨ rRepT K x y H Q) mulD := r2_mulI.alt (r2_repL.alt r2_repT)
end
@[simp] theorem addD_int (i j : Int) : addD (.int i) (.int j) = some (.int (i + j)) := rfl
theorem addD_tup (a b : List D) : addD (.tuple a) (.tuple b) = if pureL a = true ∧ pureL b = true ∧ a.length + b.length ≤ 1000000 then some (.tuple (a ++ b)) else none := by
  show alt addI (alt addT (alt addL addS)) _ _ = _
  unfold alt addI addT addL addS
  by_cases h : pureL a = true ∧ pureL b = true ∧ a.length + b.length ≤ 1000000 <;> simp [h]
theorem addD_lst (a b : List D) : addD (.list a) (.list b) = if pureL a = true ∧ pureL b = true ∧ a.length + b.length ≤ 1000000 then some (.list (a ++ b)) else none := by
  show alt addI (alt addT (alt addL addS)) _ _ = _
  unfold alt addI addT addL addS
  by_cases h : pureL a = true ∧ pureL b = true ∧ a.length + b.length ≤ 1000000 <;> simp [h]
theorem mulD_int (i j : Int) : mulD (.int i) (.int j) = if i.natAbs < 18446744073709551616 ∨ j.natAbs < 18446744073709551616 then some (.int (i * j)) else none := by
  show alt mulI (alt repL repT) _ _ = _
  unfold alt mulI repL repT
  by_cases h : i.natAbs < 18446744073709551616 ∨ j.natAbs < 18446744073709551616
  · simp only [if_pos h]
  · simp only [if_neg h]
def fdivD : D → D → Option D
  | .int i, .int j => if 0 < j ∧ j.natAbs.log2 < 9000 then some (.int (i / j)) else none
  | _, _ => none
theorem r2_fdivW {K : PySem.W.Frag} : R2ok true K (rI CDivW fun i j => .int (i / j)) fdivD := by
  intro H x y d e z fx fy Q rx ry h q
  unfold fdivD at h
  split at h
  · split at h
    · rename_i hc
      cases h; cases rx; cases ry
      exact ⟨_, _, rfl, rfl, hc, q _ H [] Same.refl (.int _) fun _ => no_mem⟩
    · cases h
  · cases h
def andI : D → D → Option D
  | .int i, .int j => some (.int (Builtin.bitAnd i j))
  | _, _ => none
theorem r2_and {K : PySem.W.Frag} : R2ok true K (rI0 fun i j => .int (Builtin.bitAnd i j)) andI := by
  intro H x y d e z fx fy Q rx ry h q
  unfold andI at h
  split at h
  · cases h; cases rx; cases ry
    exact ⟨_, _, rfl, rfl, q _ H [] Same.refl (.int _) fun _ => no_mem⟩
  · cases h
def powI : D → D → Option D
  | .int i, .int j => if 0 ≤ j ∧ j.natAbs ≤ 1000000 ∧ i.natAbs < 18446744073709551616 then some (.int (i ^ j.toNat)) else none
  | _, _ => none
theorem pow_ok {i j : Int} (h : 0 ≤ j ∧ j.natAbs ≤ 1000000 ∧ i.natAbs < 18446744073709551616) : CPow i j := ⟨h.1, by have := h.2.1; omega, by have := h.2.2; omega⟩
theorem r2_pow {K : PySem.W.Frag} : R2ok true K (rI CPow fun i j => .int (i ^ j.toNat)) powI := by
  intro H x y d e z fx fy Q rx ry h q
  unfold powI at h
  split at h
  · split at h
    · rename_i hc
      cases h; cases rx; cases ry
      exact ⟨_, _, rfl, rfl, pow_ok hc, q _ H [] Same.refl (.int _) fun _ => no_mem⟩
    · cases h
  · cases h
/-! ### order of tuples of ints -/
def cmpT (g : List Int → List Int → Bool) : D → D → Option D
  | .tuple a, .tuple b => match intsOf a, intsOf b with
    | some ns, some ms => some (.bool (g ns ms))
    | _, _ => none
  | _, _ => none
theorem r2_cmpT {K : PySem.W.Frag} {g : List Int → List Int → Bool} : R2ok true K (fun x y H Q => ∃ (a b : Addr) (ns ms : List Int), x = .ref a ∧ y = .ref b ∧ SqT K H a (ns.map V.int) ∧ SqT K H b (ms.map V.int) ∧ Q (.bl (g ns ms)) H) (cmpT g) := by
  intro H x y d e z fx fy Q rx ry h q
  unfold cmpT at h
  split at h
  · split at h
    · rename_i ns ms e1 e2
      cases h
      have m1 := intsOf_map e1
      have m2 := intsOf_map e2
      subst m1; subst m2
      cases rx with
      | tup h1 _ h3 =>
        cases ry with
        | tup k1 _ k3 =>
          rw [h3.ints] at h1
          rw [k3.ints] at k1
          exact ⟨_, _, _, _, rfl, rfl, sqt h1, sqt k1, q _ H [] Same.refl (.bl _) fun _ => no_mem⟩
    · cases h
  · cases h
def ltD := alt ltI (cmpT HT.lexLt)
def leTI (ns ms : List Int) : Bool := Ob.lexAt (fun j => decide (ns.getD j 0 = ms.getD j 0)) (fun j => decide (ns.getD j 0 ≤ ms.getD j 0)) (decide (ns.length ≤ ms.length)) 0 (min ns.length ms.length)
def leD := alt leI (cmpT leTI)
section
variable {X : Cx} {K : PySem.W.Frag} {k : Nat}
theorem op_ltA (hr : Room k X.A) : OpR X (compareOp .Lt) (fun x y H Q => (rI0 fun i j => .bl (decide (i < j))) x y H Q ∨ rLtT X.K x y H Q) := op_lt.or (op_ltT hr.units0)
theorem r2_ltA : R2ok true K (fun x y H Q => (rI0 fun i j => .bl (decide (i < j))) x y H Q ∨ rLtT K x y H Q) ltD := r2_ltI.alt r2_cmpT
theorem op_leA (hr : Room k X.A) : OpR X (compareOp .LtE) (fun x y H Q => (rI0 fun i j => .bl (decide (i ≤ j))) x y H Q ∨ rLeT X.K x y H Q) := op_le.or (op_leT hr.units0)
theorem r2_leA : R2ok true K (fun x y H Q => (rI0 fun i j => .bl (decide (i ≤ j))) x y H Q ∨ rLeT K x y H Q) leD := r2_leI.alt (r2_cmpT (g := leTI))
end
@[simp] theorem ltD_int (i j : Int) : ltD (.int i) (.int j) = some (.bool (decide (i < j))) := rfl
@[simp] theorem leD_int (i j : Int) : leD (.int i) (.int j) = some (.bool (decide (i ≤ j))) := rfl
/-! ### is -/
def isD := alt isN isB
def isNotD := alt isNotN isNotB
section
variable {X : Cx} {K : PySem.W.Frag}
theorem op_isA : OpR X (compareOp .Is) (fun x y H Q => (y = .non ∧ Q (.bl (decide (x = .non))) H) ∨ ∃ a b, x = .bl a ∧ y = .bl b ∧ Q (.bl (decide (a = b))) H) := op_isN.or op_is_bl
theorem r2_isA : R2ok true K (fun x y H Q => (y = .non ∧ Q (.bl (decide (x = .non))) H) ∨ ∃ a b, x = .bl a ∧ y = .bl b ∧ Q (.bl (decide (a = b))) H) isD := r2_isN.alt r2_isB
theorem op_isNotA : OpR X (compareOp .IsNot) (fun x y H Q => (y = .non ∧ Q (.bl (!decide (x = .non))) H) ∨ ∃ a b, x = .bl a ∧ y = .bl b ∧ Q (.bl (!decide (a = b))) H) := op_notN.or op_isnot_bl
theorem r2_isNotA : R2ok true K (fun x y H Q => (y = .non ∧ Q (.bl (!decide (x = .non))) H) ∨ ∃ a b, x = .bl a ∧ y = .bl b ∧ Q (.bl (!decide (a = b))) H) isNotD := r2_notN.alt r2_notB
end
@[simp] theorem isD_none (d : D) : isD d .none = some (.bool (isNon d)) := rfl
@[simp] theorem isNotD_none (d : D) : isNotD d .none = some (.bool (!isNon d)) := rfl
@[simp] theorem isD_bool (a b : Bool) : isD (.bool a) (.bool b) = some (.bool (decide (a = b))) := rfl
@[simp] theorem isNotD_bool (a b : Bool) : isNotD (.bool a) (.bool b) = some (.bool (!decide (a = b))) := rfl
/-! ### in -/
def flatD : D → Bool
  | .none => true
  | .bool _ => true
  | .int _ => true
  | .str _ => true
  | _ => false
def eqF : D → D → Bool
  | .none, .none => true
  | .bool a, .bool b => a == b
  | .bool a, .int b => (if a then 1 else 0) == b
  | .int a, .bool b => a == (if b then 1 else 0)
  | .int a, .int b => a == b
  | .str a, .str b => a == b
  | _, _ => false
theorem Rp.flat {K : PySem.W.Frag} {H : Hp} {v : V} {d : D} {f : List Addr} (r : Rp K H v d f) (h : flatD d = true) : flatV v = true ∧ ∀ {v' : V} {d' : D} {f' : List Addr}, Rp K H v' d' f' → flatD d' = true → eqV v' v = eqF d' d := by
  cases r <;> first | (exact ⟨rfl, fun r' h' => by cases r' <;> first | rfl | cases h'⟩) | cases h
theorem RpL.flats {K : PySem.W.Frag} {H : Hp} {x : V} {d : D} {f : List Addr} (rx : Rp K H x d f) (hd : flatD d = true) : ∀ {ds : List D} {vs : List V} {fs : List Addr}, RpL K H vs ds fs → ds.all flatD = true → vs.all flatV = true ∧ inV x vs = ds.any fun z => eqF z d
  | [], _, _, h, _ => by cases h; exact ⟨rfl, rfl⟩
  | e :: ds, _, _, h, p => by
    cases h with
    | cons h1 h2 =>
      rw [List.all_cons, Bool.and_eq_true] at p
      obtain ⟨a, b⟩ := RpL.flats rx hd h2 p.2
      unfold inV at b ⊢
      rw [List.all_cons, List.any_cons, List.any_cons, a, b, (h1.flat p.1).1, (rx.flat hd).2 h1 p.1]
      exact ⟨rfl, rfl⟩
def inF (neg : Bool) (d : D) : D → Option D
  | .list ds => if flatD d = true ∧ ds.all flatD = true then some (.bool (if neg then !ds.any fun z => eqF z d else ds.any fun z => eqF z d)) else none
  | .tuple ds => if flatD d = true ∧ ds.all flatD = true then some (.bool (if neg then !ds.any fun z => eqF z d else ds.any fun z => eqF z d)) else none
  | _ => none
theorem r2_inF {K : PySem.W.Frag} {neg : Bool} : R2ok true K (rIn K neg) (inF neg) := by
  intro H x y d e z fx fy Q rx ry h q
  unfold inF at h
  split at h
  · split at h
    · rename_i hc
      cases h
      cases ry with
      | lst h1 _ h3 =>
        obtain ⟨a, b⟩ := RpL.flats rx hc.1 h3 hc.2
        exact ⟨_, _, rfl, .inl (.inl (.inl h1)), (rx.flat hc.1).1, a, by rw [b]; exact q _ H [] Same.refl (.bl _) fun _ => no_mem⟩
    · cases h
  · split at h
    · rename_i hc
      cases h
      cases ry with
      | tup h1 _ h3 =>
        obtain ⟨a, b⟩ := RpL.flats rx hc.1 h3 hc.2
        exact ⟨_, _, rfl, .inr (sqt h1), (rx.flat hc.1).1, a, by rw [b]; exact q _ H [] Same.refl (.bl _) fun _ => no_mem⟩
    · cases h
  · cases h
def inL (neg : Bool) (d : D) : D → Option D
  | .list ds => if noDct d = true ∧ SeqAt.shaped d = true ∧ noDctL ds = true ∧ SeqAt.shaped (.list ds) = true then some (.bool (if neg then !ds.any fun z => PyData.eqv z d else ds.any fun z => PyData.eqv z d)) else none
  | _ => none
theorem r2_inL {K : PySem.W.Frag} : R2ok true K (rInD K) (inL false) := by
  intro H x y d e z fx fy Q rx ry h q
  unfold inL at h
  split at h
  · split at h
    · rename_i ds hc
      cases h
      exact ⟨d, ds, Rp.dp d x fx rx hc.1, Rp.dp (.list ds) y fy ry (by simpa [noDct] using hc.2.2.1), hc.2.1, hc.2.2.2, q _ H [] Same.refl (.bl _) fun _ => no_mem⟩
    · cases h
  · cases h
theorem r2_notInL {K : PySem.W.Frag} : R2ok true K (rNotInD K) (inL true) := by
  intro H x y d e z fx fy Q rx ry h q
  unfold inL at h
  split at h
  · split at h
    · rename_i ds hc
      cases h
      exact ⟨d, ds, Rp.dp d x fx rx hc.1, Rp.dp (.list ds) y fy ry (by simpa [noDct] using hc.2.2.1), hc.2.1, hc.2.2.2, q _ H [] Same.refl (.bl _) fun _ => no_mem⟩
    · cases h
  · cases h
def inD := alt (inF false) (inL false)
def notInD := alt (inF true) (inL true)
section
variable {X : Cx} {K : PySem.W.Frag} {k : Nat}
theorem op_inA (hr : Room k X.A) : OpR X (compareOp .In) (fun x y H Q => rIn X.K false x y H Q ∨ rInD X.K x y H Q) := op_in_seq.or (op_inD (by have := hr.un; omega))
theorem r2_inA : R2ok true K (fun x y H Q => rIn K false x y H Q ∨ rInD K x y H Q) inD := r2_inF.alt r2_inL
theorem op_notInA (hr : Room k X.A) : OpR X (compareOp .NotIn) (fun x y H Q => rIn X.K true x y H Q ∨ rNotInD X.K x y H Q) := op_notIn_seq.or (op_notInD (by have := hr.un; omega))
theorem r2_notInA : R2ok true K (fun x y H Q => rIn K true x y H Q ∨ rNotInD K x y H Q) notInD := r2_inF.alt r2_notInL
end
/-! ### slices -/
def cutD (ds : List D) (lo hi : Option Int) : List D := (ds.drop (HT.sIx ds.length 0 lo)).take (HT.sIx ds.length ds.length hi - HT.sIx ds.length 0 lo)
theorem RpL.pureN {K : PySem.W.Frag} {H : Hp} {ds : List D} {vs : List V} {fs : List Addr} (r : RpL K H vs ds fs) (p : pureL ds = true) : RpL K H vs ds [] := by
  have := RpL.pure _ _ _ r p
  subst this; exact r
theorem pureL_iff {ds : List D} : pureL ds = true ↔ ∀ d ∈ ds, pureD d = true := by
  induction ds with
  | nil => simp [pureL]
  | cons d ds ih => simp [pureL, ih]
theorem RpL.of_get {K : PySem.W.Frag} {H : Hp} : ∀ {ds : List D} {vs : List V}, vs.length = ds.length → (∀ (i : Nat) (v : V) (d : D), vs[i]? = some v → ds[i]? = some d → Rp K H v d []) → RpL K H vs ds []
  | [], [], _, _ => .nil
  | d :: ds, v :: vs, hl, h => .cons (f := []) (fs := []) (h 0 v d rfl rfl) (RpL.of_get (by simpa using hl) fun i v' d' e1 e2 => h (i + 1) v' d' (by simpa using e1) (by simpa using e2))
theorem RpL.getN {K : PySem.W.Frag} {H : Hp} {ds : List D} {vs : List V} (r : RpL K H vs ds []) {i : Nat} {v : V} {d : D} (e1 : vs[i]? = some v) (e2 : ds[i]? = some d) : Rp K H v d [] := by
  obtain ⟨v', f, e3, r', m⟩ := r.get e2
  rw [e1] at e3; cases e3
  have : f = [] := List.eq_nil_iff_forall_not_mem.mpr fun a ha => by have := m a ha; simp at this
  subst this; exact r'
theorem RpL.sub {K : PySem.W.Frag} {H : Hp} {ds : List D} {vs : List V} (r : RpL K H vs ds []) {a n : Nat} : RpL K H ((vs.drop a).take n) ((ds.drop a).take n) [] := by
  refine RpL.of_get (by simp [r.length]) fun i v d e1 e2 => ?_
  rw [List.getElem?_take] at e1 e2
  split at e1
  · rename_i hi
    rw [if_pos hi] at e2
    rw [List.getElem?_drop] at e1 e2
    exact r.getN e1 e2
  · cases e1
theorem RpL.cut {K : PySem.W.Frag} {H : Hp} {ds : List D} {vs : List V} {fs : List Addr} (r : RpL K H vs ds fs) (p : pureL ds = true) (lo hi : Option Int) : RpL K H (cutV vs lo hi) (cutD ds lo hi) [] := by
  unfold cutV cutD
  rw [← r.length]
  exact (r.pureN p).sub
def PartOk (X : Cx) (e : Option Expr) (h : Rh → Option (Option Int)) : Prop := ∃ t : TO, PO X e t ∧ ∀ (ρ : Rh) (σ : L2.St) (H : Hp) (o : Option Int) (Q : Option Int → Hp → Prop), RhR X.K ρ σ H → h ρ = some o → (∀ H', Same H H' → Q o H') → t σ H Q
def opn : Rh → Option (Option Int) := fun _ => some none
def ops (h : Rh → Option D) : Rh → Option (Option Int) := fun ρ => match h ρ with
  | some (.int i) => some (some i)
  | _ => none
def cutS (d : D) (lo hi : Option Int) : Option D := match d with
  | .list ds => if pureL ds = true then some (.list (cutD ds lo hi)) else none
  | .tuple ds => if pureL ds = true then some (.tuple (cutD ds lo hi)) else none
  | _ => none
def slE (h : Rh → Option D) (lo hi : Rh → Option (Option Int)) : Rh → Option D := fun ρ => match h ρ, lo ρ, hi ρ with
  | some d, some l, some u => cutS d l u
  | _, _, _ => none
section
variable {X : Cx} {pos p2 : Pos} {a e : Expr} {fa : Bool} {h : Rh → Option D} {lo hi : Option Expr} {hl hu : Rh → Option (Option Int)} {g : Rh → Option (D × Rh)}
theorem po_n : PartOk X none opn := ⟨_, po_none, fun ρ σ H o Q R hh q => by cases hh; exact q H Same.refl⟩
theorem po_s (ha : EP fa X a h) : PartOk X (some a) (ops h) := by
  obtain ⟨t, pe, hq⟩ := ha
  refine ⟨_, po_some pe, fun ρ σ H o Q R hh q => ?_⟩
  unfold ops at hh
  split at hh
  · rename_i i e
    cases hh
    refine hq ρ σ H _ _ R e fun v H' fp s r _ => ?_
    cases r
    exact ⟨i, rfl, q H' s⟩
  · cases hh
theorem one_new {H : Hp} {p : Addr} (np : H p = none) : ([p] : List Addr).Nodup ∧ ∀ a ∈ ([p] : List Addr), H a = none := ⟨by simp, fun a m => by rw [List.mem_singleton] at m; rw [m]; exact np⟩
theorem cut_ok {K : PySem.W.Frag} {H : Hp} {v : V} {d z : D} {fp : List Addr} {l u : Option Int} {Q : VK} (r : Rp K H v d fp) (hz : cutS d l u = some z) (q : ∀ v H' fp, Same H H' → Rp K H' v z fp → (fp.Nodup ∧ ∀ a ∈ fp, H a = none) → Q v H') : rSlL K v l u H Q ∨ rSlA K v l u H Q := by
  unfold cutS at hz
  split at hz
  · split at hz
    · rename_i ds hp
      cases hz
      cases r with
      | lst k1 k2 k3 =>
        exact .inl ⟨_, _, rfl, .inl (.inl k1), fun p np => q _ _ [p] (same_upd np) (.lst upd_same (Nat.le_trans (cutV_length ..) k2) ((k3.cut hp l u).same (same_upd np))) (one_new np)⟩
    · cases hz
  · split at hz
    · rename_i ds hp
      cases hz
      cases r with
      | tup k1 k2 k3 =>
        rename_i b xs
        have rc := k3.cut hp l u
        refine .inr ⟨b, xs, rfl, sqt k1, fun hw => ?_, fun _ p np => q _ _ [] (same_upd np) (.tup upd_same (Nat.le_trans (cutV_length ..) k2) (rc.same (same_upd np))) no_mem⟩
        have hx : cutV xs l u = xs := by unfold cutV; rw [hw.1, hw.2]; simp
        rw [hx] at rc
        exact q _ H [] Same.refl (.tup k1 k2 rc) no_mem
    · cases hz
  · cases hz
theorem ep_slice (ha : EP fa X a h) (h1 : PartOk X lo hl) (h2 : PartOk X hi hu) : EP true X (.Subscript a (.Slice lo hi none p2) pos) (slE h hl hu) := by
  obtain ⟨t, pe, hq⟩ := ha
  obtain ⟨t1, p1, q1⟩ := h1
  obtain ⟨t2, p2, q2⟩ := h2
  refine ⟨_, pe_slice (sl_list.or sl_tupA) pe p1 p2, fun ρ σ H d Q R hh q => ?_⟩
  unfold slE at hh
  split at hh
  · rename_i d0 l u e1 e2 e3
    refine hq ρ σ H _ _ R e1 fun v H1 fp s r _ => q1 ρ σ H1 _ _ (R.same s) e2 fun H2 s2 => q2 ρ σ H2 _ _ (R.same (same_trans s s2)) e3 fun H3 s3 => ?_
    exact cut_ok (r.same (same_trans s2 s3)) hh fun v' H4 fp' s4 r4 n4 => q v' H4 fp' (same_trans s (same_trans s2 (same_trans s3 s4))) r4 fun _ => ⟨n4.1, fun c m => Same.new (same_trans s (same_trans s2 s3)) (n4.2 c m)⟩
  · cases hh
/-! ### xs[::-1] of lists -/
def revD : D → Option D
  | .list ds => if pureL ds = true then some (.list ds.reverse) else none
  | _ => none
theorem RpL.rev {K : PySem.W.Frag} {H : Hp} {ds : List D} {vs : List V} (r : RpL K H vs ds []) : RpL K H vs.reverse ds.reverse [] := by
  refine RpL.of_get (by simp [r.length]) fun i v d e1 e2 => ?_
  have hl := r.length
  have hi : i < vs.length := by have := (List.getElem?_eq_some_iff.mp e1).1; simpa using this
  rw [List.getElem?_reverse hi] at e1
  rw [List.getElem?_reverse (by omega)] at e2
  rw [← hl] at e2
  exact r.getN e1 e2
theorem rev_ok {K : PySem.W.Frag} (H : Hp) (x : V) (d z : D) (fx : List Addr) (Q : VK) (rx : Rp K H x d fx) (hz : revD d = some z) (q : ∀ v H' fp, Same H H' → Rp K H' v z fp → (fp.Nodup ∧ ∀ a ∈ fp, H a = none) → Q v H') : ∃ a xs, x = .ref a ∧ SqL K H a xs ∧ ∀ p, H p = none → Q (.ref p) (upd H p (.lst xs.reverse)) := by
  unfold revD at hz
  split at hz
  · split at hz
    · rename_i ds hp
      cases hz
      cases rx with
      | lst k1 k2 k3 =>
        exact ⟨_, _, rfl, .inl (.inl k1), fun p np => q _ _ [p] (same_upd np) (.lst upd_same (by rw [List.length_reverse]; exact k2) ((k3.pureN hp).rev.same (same_upd np))) (one_new np)⟩
    · cases hz
  · cases hz
theorem ep_rev {k : Nat} {p1 p3 p4 : Pos} (ha : EP fa X a h) : EP true X (.Subscript a (.Slice none none (some (.UnaryOp .USub (.Constant (.int 1) k p1) p3)) p4) pos) (u1 revD h) :=
  ep_un (r := fun x H Q => ∃ a xs, x = .ref a ∧ SqL X.K H a xs ∧ ∀ p, H p = none → Q (.ref p) (upd H p (.lst xs.reverse))) (fun pa => pe_revL pa) (fun H x d z fx Q rx hz q => rev_ok H x d z fx Q rx hz fun v H' fp s r n => q v H' fp s r fun _ => n) ha
theorem ev_rev {k : Nat} {p1 p3 p4 : Pos} (ha : EV X a g) : EV X (.Subscript a (.Slice none none (some (.UnaryOp .USub (.Constant (.int 1) k p1) p3)) p4) pos) (w1 revD g) :=
  ev_un (r := fun x H Q => ∃ a xs, x = .ref a ∧ SqL X.K H a xs ∧ ∀ p, H p = none → Q (.ref p) (upd H p (.lst xs.reverse))) (fun pa => pe_revL pa) (fun H x d z fx Q rx hz q => rev_ok H x d z fx Q rx hz q) ha
end
end PV

set_option Elab.async false
set_option linter.all false
set_option maxRecDepth 100000
set_option maxHeartbeats 2000000
namespace PV
open PySem PySem.Spec PyProof.Rows L2

/-! ### the names of the language that the text leaves as they are -/
structure Bl (mg : Str → Option Value) : Prop where
  len : mg "len" = none
  tuple : mg "tuple" = none
  list : mg "list" = none
  sum : mg "sum" = none
  sorted : mg "sorted" = none
  range : mg "range" = none
  enumerate : mg "enumerate" = none
  zip : mg "zip" = none
  any : mg "any" = none
  all : mg "all" = none
  isinstance : mg "isinstance" = none
  int : mg "int" = none
  min : mg "min" = none
  max : mg "max" = none
  set : mg "set" = none
  str : mg "str" = none
  abs : mg "abs" = none
  dict : mg "dict" = none
  bool : mg "bool" = none

/-! ### known defs -/
def runF (np n : Nat) (B : Rh → Out) (ds : List D) : Option D := if ds.length = np then runP n B ds else none
def runN (np n m : Nat) (B : Rh → Out) (ds : List D) : Option (D × D) := if ds.length = np then runM n m B ds else none
structure KnP (P : Program) (w : World) (K : PySem.W.Frag) (mg : Str → Option Value) (base : Heap) (k : Nat) (x : Str) (n : Nat) (F : List D → Option D) : Prop where
  ex : ∃ f fd ps, mg x = some (.ref f) ∧ PySem.W.keepIn K (.ref f) = true ∧ Binds K fd ps [] ∧ ps.length = n ∧ FnOk P w K mg base CX0 k f fd ps (spP K n F)
  ar : ∀ ds d, F ds = some d → ds.length = n
structure KnM (P : Program) (w : World) (K : PySem.W.Frag) (mg : Str → Option Value) (base : Heap) (k : Nat) (x : Str) (n m : Nat) (F : List D → Option (D × D)) : Prop where
  ex : ∃ f fd ps, mg x = some (.ref f) ∧ PySem.W.keepIn K (.ref f) = true ∧ Binds K fd ps [] ∧ ps.length = n ∧ FnOk P w K mg base CX0 k f fd ps (spM K n m F)
section
variable {P : Program} {w : World} {K : PySem.W.Frag} {mg : Str → Option Value} {base : Heap}
theorem KnP.of {x qual : Str} {st : Stmt} {f : Addr} {fd : FuncData} {N ps : List Str} {k : Nat} {B : Rh → Out} (F : FnD K x qual st f fd) (S : FnScope N ps (defScope st)) (hm : mg x = some (.ref f)) (hb : Binds K fd ps [])
    (h : ∀ (cdv : Value) (A : Around) (outer : List Env) (s : Shared) (H : Hp) (E : XK), Room k (A.deeper (envOfC qual (defScope st) s.heap.objs.size f cdv)) → BS (cxOf CX0 P w K mg base N qual (defScope st) f cdv A outer s H E).nox (defBody st) B) :
    KnP P w K mg base (k + 1) x ps.length (runF ps.length N.length B) :=
  ⟨⟨f, fd, ps, hm, F.kp, hb, rfl, fnP_imp (fnP F S h) fun ds d e => by unfold runF at e; split at e <;> first | exact e | cases e⟩, fun ds d e => by unfold runF at e; split at e <;> first | assumption | cases e⟩
theorem KnM.of {x qual : Str} {st : Stmt} {f : Addr} {fd : FuncData} {N ps : List Str} {k m : Nat} {B : Rh → Out} (F : FnD K x qual st f fd) (S : FnScope N ps (defScope st)) (hm : mg x = some (.ref f)) (hb : Binds K fd ps []) (hlt : m < ps.length)
    (h : ∀ (cdv : Value) (A : Around) (outer : List Env) (s : Shared) (H : Hp) (E : XK), Room k (A.deeper (envOfC qual (defScope st) s.heap.objs.size f cdv)) → BS (cxOf CX0 P w K mg base N qual (defScope st) f cdv A outer s H E).nox (defBody st) B) :
    KnM P w K mg base (k + 1) x ps.length m (runN ps.length N.length m B) :=
  ⟨⟨f, fd, ps, hm, F.kp, hb, rfl, (fnM F S hlt h).imp fun vs H Q E ⟨hl, ds, f0, r, d', vm, h1, h2, h3, h4, h5, h6, h7⟩ => ⟨hl, ds, f0, r, d', vm, h1, h2, h3, h4, h5, (by unfold runN at h6; split at h6 <;> first | exact h6 | cases h6), h7⟩⟩⟩
theorem KnP.imp {k n : Nat} {x : Str} {F F' : List D → Option D} (G : KnP P w K mg base k x n F) (h : ∀ ds d, F' ds = some d → F ds = some d) : KnP P w K mg base k x n F' :=
  let ⟨f, fd, ps, a, b, c, d, e⟩ := G.ex; ⟨⟨f, fd, ps, a, b, c, d, fnP_imp e h⟩, fun ds d e => G.ar ds d (h ds d e)⟩
end
/-! ### calls of known defs -/
section
variable {X : Cx} {pos p : Pos} {k n m : Nat} {x : Str} {e : Expr} {es : List Expr} {F : List D → Option D}
theorem ep_callK {fr : Bool} {h : Rh → Option (List D)} (G : KnP X.prog X.w X.K X.mg X.base k x n F) (hr : Room k X.A) (hg : Gl X x) (ha : AP fr X (e :: es) h)
    (hdb : (x == ("__debug__" : Str)) = false := by decide) (he : starEach (e :: es) X.env = (false, eval e X.env) :: starEach es X.env := by rfl) (hpl : (backTo pos (starEach es X.env)).any (·.1) = false := by rfl) : EP true X (.Call (.Name x p) (e :: es) [] pos) (fnE F h) := by
  obtain ⟨⟨f, fd, ps, hm, hk, hb, hps, G1⟩, har⟩ := G
  obtain ⟨t, pe, hq⟩ := ha
  refine ⟨_, pe_call G1 hr hg hm hk hb .nil pass0 pe hdb he hpl, fun ρ σ H d Q R hd q => ?_⟩
  unfold fnE at hd
  split at hd
  · rename_i ds e1
    refine hq ρ σ H ds _ R e1 fun vs H1 fs s r _ => ?_
    show spP X.K n F (vs ++ []) H1 Q _
    rw [List.append_nil]
    exact ⟨r.length.trans (har ds d hd), ds, fs, d, r, hd, fun v H' fp s2 rv nd nw => q v H' fp (same_trans s s2) rv fun _ => ⟨nd, fun a m => Same.new s (nw a m)⟩⟩
  · cases hd
theorem ev_callK {g : Rh → Option (List D × Rh)} (G : KnP X.prog X.w X.K X.mg X.base k x n F) (hr : Room k X.A) (hg : Gl X x) (ha : AV X (e :: es) g)
    (hdb : (x == ("__debug__" : Str)) = false := by decide) (he : starEach (e :: es) X.env = (false, eval e X.env) :: starEach es X.env := by rfl) (hpl : (backTo pos (starEach es X.env)).any (·.1) = false := by rfl) : EV X (.Call (.Name x p) (e :: es) [] pos) (fnV F g) := by
  obtain ⟨⟨f, fd, ps, hm, hk, hb, hps, G1⟩, har⟩ := G
  obtain ⟨t, pe, hq⟩ := ha
  refine ⟨_, pe_call G1 hr hg hm hk hb .nil pass0 pe hdb he hpl, fun Fm L ρ σ H fo d ρ' Q R hd q => ?_⟩
  unfold fnV at hd
  split at hd
  · rename_i ds ρ1 e1
    cases e2 : F ds with
    | none => rw [e2] at hd; cases hd
    | some d1 =>
      rw [e2] at hd; cases hd
      refine hq Fm L ρ σ H fo ds ρ' _ R e1 fun vs H1 f1 fs R1 fr k1 => ?_
      show spP X.K n F (vs ++ []) H1 Q _
      rw [List.append_nil]
      exact ⟨fr.rp.length.trans (har ds _ e2), ds, fs, d, fr.rp, e2, fun v H' fp s2 rv nd nw => q v H' f1 fp (R1.same s2) (R1.fresh s2 rv nd nw) (k1.trans (Keep.of_same s2))⟩
  · cases hd
def agChk (m i : Nat) : List (Option Nat) → Bool
  | [] => false
  | some j :: l => match m with
    | 0 => j == i && agNo i l
    | m + 1 => !(j == i) && agChk m i l
  | none :: l => match m with
    | 0 => false
    | m + 1 => agChk m i l
where agNo (i : Nat) : List (Option Nat) → Bool
  | [] => true
  | some j :: l => !(j == i) && agNo i l
  | none :: l => agNo i l
theorem agNo_ok {i : Nat} : ∀ {l : List (Option Nat)}, agChk.agNo i l = true → ∀ j : Nat, l[j]? ≠ some (some i)
  | [], _, j, e => by simp at e
  | some a :: l, h, j, e => by
    unfold agChk.agNo at h
    rw [Bool.and_eq_true] at h
    cases j with
    | zero => simp at e; subst e; simp at h
    | succ j => exact agNo_ok h.2 j (by simpa using e)
  | none :: l, h, j, e => by
    unfold agChk.agNo at h
    cases j with
    | zero => simp at e
    | succ j => exact agNo_ok h j (by simpa using e)
theorem agChk_ok {i : Nat} : ∀ {l : List (Option Nat)} {m : Nat}, agChk m i l = true → l[m]? = some (some i) ∧ ∀ j : Nat, l[j]? = some (some i) → j = m
  | [], m, h => by simp [agChk] at h
  | some a :: l, 0, h => by
    unfold agChk at h
    rw [Bool.and_eq_true] at h
    have ha : a = i := by simpa using h.1
    subst ha
    refine ⟨rfl, fun j e => ?_⟩
    cases j with
    | zero => rfl
    | succ j => exact absurd (by simpa using e) (agNo_ok h.2 j)
  | some a :: l, m + 1, h => by
    unfold agChk at h
    simp only [Bool.and_eq_true] at h
    obtain ⟨h1, h2⟩ := agChk_ok h.2
    refine ⟨by simpa using h1, fun j e => ?_⟩
    cases j with
    | zero => simp at e; subst e; simp at h
    | succ j => rw [h2 j (by simpa using e)]
  | none :: l, 0, h => by simp [agChk] at h
  | none :: l, m + 1, h => by
    unfold agChk at h
    obtain ⟨h1, h2⟩ := agChk_ok h
    refine ⟨by simpa using h1, fun j e => ?_⟩
    cases j with
    | zero => simp at e
    | succ j => rw [h2 j (by simpa using e)]
theorem ev_callN {i : Nat} {as : List Ag} {F : List D → Option (D × D)} (G : KnM X.prog X.w X.K X.mg X.base k x n m F) (hr : Room k X.A) (hg : Gl X x) (ha : AgOk X (e :: es) as) (hn : as.length = n) (hi : agChk m i (as.map agIx) = true)
    (hdb : (x == ("__debug__" : Str)) = false := by decide) (he : starEach (e :: es) X.env = (false, eval e X.env) :: starEach es X.env := by rfl) (hpl : (backTo pos (starEach es X.env)).any (·.1) = false := by rfl) : EV X (.Call (.Name x p) (e :: es) [] pos) (callM i as F) := by
  obtain ⟨f, fd, ps, hm, hk, hb, hps, G1⟩ := G.ex
  exact ev_callM G1 hr hg hm hk hb ha hn (agChk_ok hi).1 (fun j _ e => (agChk_ok hi).2 j e) hdb he hpl
end
/-! ### isinstance -/
def tyN : D → String
  | .none => "NoneType"
  | .bool _ => "bool"
  | .int _ => "int"
  | .str _ => "str"
  | .list _ => "list"
  | .tuple _ => "tuple"
  | .dict _ => "dict"
def locked : D → Bool
  | .dict ((.bool _, _) :: _) => true
  | _ => false
theorem not_frz {H : Hp} {a : Addr} {kvs : List (D × D)} {vs : List V} (h : IsFrz H a (kvs.map (·.1)) vs) : locked (.dict kvs) = true := by
  cases kvs with
  | nil => rcases h with ⟨_, _, _, h, _⟩ | ⟨_, _, _, h, _⟩ <;> cases h
  | cons p kvs =>
    obtain ⟨p1, p2⟩ := p
    rcases h with ⟨_, _, _, h, _⟩ | ⟨_, _, _, h, _⟩ <;> (simp only [List.map_cons, List.cons.injEq] at h; rw [h.1]; rfl)
theorem Rp.tyX {K : PySem.W.Frag} {H : Hp} {v : V} {d : D} {f : List Addr} (r : Rp K H v d f) (hl : locked d = false) : TyX K H v (.type (tyN d)) := by
  cases r with
  | non => exact .base .non
  | bl b => exact .base (.bl b)
  | int i => exact .base (.int i)
  | str x => exact .base (.str x)
  | lst h1 h2 h3 => exact .base (.lst h1)
  | tup h1 h2 h3 => exact .base (.tup h1)
  | dct h1 h2 =>
    rcases h1 with ⟨kvs, h, _⟩ | ⟨kvs, h, _⟩
    · exact .base (.dK h)
    · exact .base (.dT h)
  | dcf h1 h2 => rw [not_frz h1] at hl; cases hl
def isiD (T : String) (d : D) : Option D := if locked d = true then none else (kitB (tyN d) T).map .bool
theorem kb_NoneType_int : kitB "NoneType" "int" = some false := by decide +kernel
theorem kb_bool_int : kitB "bool" "int" = some true := by decide +kernel
theorem kb_int_int : kitB "int" "int" = some true := by decide +kernel
theorem kb_str_int : kitB "str" "int" = some false := by decide +kernel
theorem kb_list_int : kitB "list" "int" = some false := by decide +kernel
theorem kb_tuple_int : kitB "tuple" "int" = some false := by decide +kernel
theorem kb_dict_int : kitB "dict" "int" = some false := by decide +kernel
theorem isi_int (d : D) (h : locked d = false) : isiD "int" d = some (.bool (match d with | .int _ => true | .bool _ => true | _ => false)) := by
  cases d <;> simp only [isiD, h, tyN, kb_NoneType_int, kb_bool_int, kb_int_int, kb_str_int, kb_list_int, kb_tuple_int, kb_dict_int, Option.map_some, Bool.false_eq_true, if_false]
theorem kb_NoneType_bool : kitB "NoneType" "bool" = some false := by decide +kernel
theorem kb_bool_bool : kitB "bool" "bool" = some true := by decide +kernel
theorem kb_int_bool : kitB "int" "bool" = some false := by decide +kernel
theorem kb_str_bool : kitB "str" "bool" = some false := by decide +kernel
theorem kb_list_bool : kitB "list" "bool" = some false := by decide +kernel
theorem kb_tuple_bool : kitB "tuple" "bool" = some false := by decide +kernel
theorem kb_dict_bool : kitB "dict" "bool" = some false := by decide +kernel
theorem isi_bool (d : D) (h : locked d = false) : isiD "bool" d = some (.bool (match d with | .bool _ => true | _ => false)) := by
  cases d <;> simp only [isiD, h, tyN, kb_NoneType_bool, kb_bool_bool, kb_int_bool, kb_str_bool, kb_list_bool, kb_tuple_bool, kb_dict_bool, Option.map_some, Bool.false_eq_true, if_false]
theorem kb_NoneType_str : kitB "NoneType" "str" = some false := by decide +kernel
theorem kb_bool_str : kitB "bool" "str" = some false := by decide +kernel
theorem kb_int_str : kitB "int" "str" = some false := by decide +kernel
theorem kb_str_str : kitB "str" "str" = some true := by decide +kernel
theorem kb_list_str : kitB "list" "str" = some false := by decide +kernel
theorem kb_tuple_str : kitB "tuple" "str" = some false := by decide +kernel
theorem kb_dict_str : kitB "dict" "str" = some false := by decide +kernel
theorem isi_str (d : D) (h : locked d = false) : isiD "str" d = some (.bool (match d with | .str _ => true | _ => false)) := by
  cases d <;> simp only [isiD, h, tyN, kb_NoneType_str, kb_bool_str, kb_int_str, kb_str_str, kb_list_str, kb_tuple_str, kb_dict_str, Option.map_some, Bool.false_eq_true, if_false]
theorem kb_NoneType_tuple : kitB "NoneType" "tuple" = some false := by decide +kernel
theorem kb_bool_tuple : kitB "bool" "tuple" = some false := by decide +kernel
theorem kb_int_tuple : kitB "int" "tuple" = some false := by decide +kernel
theorem kb_str_tuple : kitB "str" "tuple" = some false := by decide +kernel
theorem kb_list_tuple : kitB "list" "tuple" = some false := by decide +kernel
theorem kb_tuple_tuple : kitB "tuple" "tuple" = some true := by decide +kernel
theorem kb_dict_tuple : kitB "dict" "tuple" = some false := by decide +kernel
theorem isi_tuple (d : D) (h : locked d = false) : isiD "tuple" d = some (.bool (match d with | .tuple _ => true | _ => false)) := by
  cases d <;> simp only [isiD, h, tyN, kb_NoneType_tuple, kb_bool_tuple, kb_int_tuple, kb_str_tuple, kb_list_tuple, kb_tuple_tuple, kb_dict_tuple, Option.map_some, Bool.false_eq_true, if_false]
theorem kb_NoneType_list : kitB "NoneType" "list" = some false := by decide +kernel
theorem kb_bool_list : kitB "bool" "list" = some false := by decide +kernel
theorem kb_int_list : kitB "int" "list" = some false := by decide +kernel
theorem kb_str_list : kitB "str" "list" = some false := by decide +kernel
theorem kb_list_list : kitB "list" "list" = some true := by decide +kernel
theorem kb_tuple_list : kitB "tuple" "list" = some false := by decide +kernel
theorem kb_dict_list : kitB "dict" "list" = some false := by decide +kernel
theorem isi_list (d : D) (h : locked d = false) : isiD "list" d = some (.bool (match d with | .list _ => true | _ => false)) := by
  cases d <;> simp only [isiD, h, tyN, kb_NoneType_list, kb_bool_list, kb_int_list, kb_str_list, kb_list_list, kb_tuple_list, kb_dict_list, Option.map_some, Bool.false_eq_true, if_false]
theorem kb_NoneType_dict : kitB "NoneType" "dict" = some false := by decide +kernel
theorem kb_bool_dict : kitB "bool" "dict" = some false := by decide +kernel
theorem kb_int_dict : kitB "int" "dict" = some false := by decide +kernel
theorem kb_str_dict : kitB "str" "dict" = some false := by decide +kernel
theorem kb_list_dict : kitB "list" "dict" = some false := by decide +kernel
theorem kb_tuple_dict : kitB "tuple" "dict" = some false := by decide +kernel
theorem kb_dict_dict : kitB "dict" "dict" = some true := by decide +kernel
theorem isi_dict (d : D) (h : locked d = false) : isiD "dict" d = some (.bool (match d with | .dict _ => true | _ => false)) := by
  cases d <;> simp only [isiD, h, tyN, kb_NoneType_dict, kb_bool_dict, kb_int_dict, kb_str_dict, kb_list_dict, kb_tuple_dict, kb_dict_dict, Option.map_some, Bool.false_eq_true, if_false]
section
variable {X : Cx} {pos p p2 : Pos} {a : Expr} {fa : Bool} {h : Rh → Option D} {T : String}
theorem pe_isi {ta : TE} (hg : Gl X "isinstance") (hm : X.mg "isinstance" = none) (hgT : Gl X (Str.ofString T)) (hmT : X.mg (Str.ofString T) = none) (hb : bootBuiltins (Str.ofString T) = some (.type T)) (hn : Str.ofString T ≠ "__name__") (hd : (Str.ofString T == ("__debug__" : Str)) = false)
    (ha : PE X a ta) (hs1 : starEach [a, .Name (Str.ofString T) p2] X.env = (false, eval a X.env) :: starEach [.Name (Str.ofString T) p2] X.env) (hs2 : starEach [.Name (Str.ofString T) p2] X.env = (false, eval (.Name (Str.ofString T) p2) X.env) :: starEach [] X.env)
    (hpl : (backTo pos (starEach [.Name (Str.ofString T) p2] X.env)).any (·.1) = false) : PE X (.Call (.Name "isinstance" p) [a, .Name (Str.ofString T) p2] [] pos) (tCB (rIsi X.K) (tCons ta (tCons (tC (.ty T)) tNil))) :=
  pe_callB (id := "isinstance") call_isi hg hm (by decide +kernel) (pa_cons ha (pa_cons (pe_bltn hgT hmT hb rfl hn hd) pa_nil hs2) hs1) (by decide) (by decide) hs1 hpl
theorem ep_isi (T : String) (hg : Gl X "isinstance") (hm : X.mg "isinstance" = none) (hgT : Gl X (Str.ofString T)) (hmT : X.mg (Str.ofString T) = none) (hb : bootBuiltins (Str.ofString T) = some (.type T)) (ha : EP fa X a h) (hn : Str.ofString T ≠ "__name__" := by decide) (hd : (Str.ofString T == ("__debug__" : Str)) = false := by decide)
    (hs1 : starEach [a, .Name (Str.ofString T) p2] X.env = (false, eval a X.env) :: starEach [.Name (Str.ofString T) p2] X.env := by rfl) (hs2 : starEach [.Name (Str.ofString T) p2] X.env = (false, eval (.Name (Str.ofString T) p2) X.env) :: starEach [] X.env := by rfl)
    (hpl : (backTo pos (starEach [.Name (Str.ofString T) p2] X.env)).any (·.1) = false := by rfl) : EP true X (.Call (.Name "isinstance" p) [a, .Name (Str.ofString T) p2] [] pos) (u1 (isiD T) h) := by
  obtain ⟨t, pe, hq⟩ := ha
  refine ⟨_, pe_isi hg hm hgT hmT hb hn hd pe hs1 hs2 hpl, fun ρ σ H d Q R hh q => ?_⟩
  unfold u1 at hh
  cases e0 : h ρ with
  | none => simp [e0] at hh
  | some x =>
    simp only [e0, Option.bind_some] at hh
    unfold isiD at hh
    by_cases hlk : locked x = true
    · rw [if_pos hlk] at hh; cases hh
    rw [if_neg hlk] at hh
    have hlk' : locked x = false := by simpa using hlk
    cases e1 : kitB (tyN x) T with
    | none => rw [e1] at hh; cases hh
    | some b =>
      rw [e1] at hh; cases hh
      refine hq ρ σ H x _ R e0 fun v H1 fp s r _ => ?_
      exact ⟨v, .ty T, .type (tyN x), .type T, b, rfl, .ty T, r.tyX hlk', kit_ty e1, q _ H1 [] s (.bl b) fun _ => no_mem⟩
end
end PV

set_option Elab.async false
set_option linter.all false
set_option maxRecDepth 100000
set_option maxHeartbeats 2000000
namespace PV
open PySem PySem.Spec PyProof.Rows L2

/-! ### statements by short names -/
section
variable {X : Cx} {pos : Pos} {e : Expr} {st : Stmt} {i : Nat} {g : Rh → Option (D × Rh)}
theorem ss_set (ps : ∀ {te : TE}, PE X e te → PS X st (tAsg te (gName i))) (he : EV X e g) : SS X st (sSet (.nm i) g) := by
  obtain ⟨t, pe, hq⟩ := he
  refine ⟨_, ps pe, fun F L ρ σ H fo D0 R gd => ?_⟩
  unfold sSet at gd
  cases e1 : g ρ with
  | none => simp only [e1, Good] at gd
  | some p =>
    obtain ⟨d, ρ1⟩ := p
    simp only [e1] at gd
    refine hq F L ρ σ H fo d ρ1 _ R e1 fun v H1 f1 fp R1 fr k1 => ?_
    cases e2 : patS .own (.nm i) d ρ1 with
    | none => simp only [e2, Good] at gd
    | some ρ2 =>
      simp only [e2] at gd
      exact gd _ H1 _ (R1.setOwn fr (by simpa [patS] using e2)) k1
theorem ss_retN : SS X (.Return none pos) (sRet (lift (cst .none))) :=
  ⟨_, ps_retN, fun F L ρ σ H fo D0 R gd => by
    exact gd .non σ H fo [] R ⟨.non, List.nodup_nil, fun a m => (nomatch m), fun _ _ _ a m => (nomatch m)⟩ Keep.refl⟩
end
/-! ### a part of a new value is new -/
section
variable {X : Cx} {pos : Pos} {a b : Expr} {fb : Bool} {h1 h2 : Rh → Option D} {g1 g2 : Rh → Option (D × Rh)}
theorem RpL.getSub {K : PySem.W.Frag} {H : Hp} : ∀ {ds : List D} {vs : List V} {fp : List Addr}, RpL K H vs ds fp → ∀ {i : Nat} {d : D}, ds[i]? = some d → ∃ v f, vs[i]? = some v ∧ Rp K H v d f ∧ f.Sublist fp
  | [], _, _, h, i, d, e => by simp at e
  | d :: ds, _, _, h, 0, d', e => by
    cases h with
    | cons h1 h2 =>
      simp at e; subst e
      exact ⟨_, _, rfl, h1, List.sublist_append_left ..⟩
  | d :: ds, _, _, h, i + 1, d', e => by
    cases h with
    | cons h1 h2 =>
      obtain ⟨v, f, e1, r, m⟩ := RpL.getSub h2 (i := i) (d := d') (by simpa using e)
      exact ⟨v, f, by simpa using e1, r, m.trans (List.sublist_append_right ..)⟩
theorem RpL.atSub {K : PySem.W.Frag} {H : Hp} {ds : List D} {vs : List V} {fs : List Addr} (r : RpL K H vs ds fs) {k : Int} {d : D} (h : atI ds k = some d) : ∃ v f, atI vs k = some v ∧ Rp K H v d f ∧ f.Sublist fs := by
  unfold atI at h ⊢
  cases e : ixN ds.length k with
  | none => rw [e] at h; cases h
  | some j =>
    rw [e] at h
    obtain ⟨v, f, e1, r1, m⟩ := r.getSub (show ds[j]? = some d from h)
    exact ⟨v, f, by rw [r.length, e]; exact e1, r1, m⟩
theorem ix_sub {K : PySem.W.Frag} {H : Hp} {x y : V} {d e z : D} {fx fy : List Addr} {Q : VK} (rx : Rp K H x d fx) (ry : Rp K H y e fy) (h : ixD d e = some z) (q : ∀ v f, Rp K H v z f → f.Sublist fx → Q v H) : rIxL K x y H Q ∨ rIxT K x y H Q := by
  unfold ixD at h
  split at h
  · cases ry
    cases rx with
    | lst h1 h2 h3 =>
      obtain ⟨v, f, e1, r1, m⟩ := h3.atSub h
      exact .inl ⟨_, _, _, v, rfl, rfl, .inl (.inl h1), e1, q v f r1 (m.trans (List.sublist_cons_self ..))⟩
  · cases ry
    cases rx with
    | tup h1 h2 h3 =>
      obtain ⟨v, f, e1, r1, m⟩ := h3.atSub h
      exact .inr ⟨_, _, _, v, rfl, rfl, sqt h1, e1, q v f r1 m⟩
  · cases h
theorem ep_ixF (ha : EP true X a h1) (hb : EP fb X b h2) (hs : PlainIx b) : EP true X (.Subscript a b pos) (o2 ixD h1 h2) := by
  obtain ⟨ta, pa, qa⟩ := ha
  obtain ⟨tb, pb, qb⟩ := hb
  refine ⟨_, pe_ix (ix_list.or ix_tup) pa pb hs, fun ρ σ H d Q R h q => ?_⟩
  obtain ⟨x, y, e1, e2, e3⟩ := o2_some h
  refine qa ρ σ H x _ R e1 fun v H1 fp s r1 n1 => qb ρ σ H1 y _ (R.same s) e2 fun u H2 fq s2 r2 _ => ?_
  exact ix_sub (r1.same s2) r2 e3 fun w f rw' m => q w H2 f (same_trans s s2) rw' fun _ => ⟨m.nodup (n1 rfl).1, fun c hc => (n1 rfl).2 c (m.subset hc)⟩
theorem ev_ix (ha : EV X a g1) (hb : EV X b g2) (hs : PlainIx b) : EV X (.Subscript a b pos) (v2 ixD g1 g2) := by
  obtain ⟨ta, pa, qa⟩ := ha
  obtain ⟨tb, pb, qb⟩ := hb
  refine ⟨_, pe_ix (ix_list.or ix_tup) pa pb hs, fun F L ρ σ H f d ρ' Q R h q => ?_⟩
  obtain ⟨x, ρ1, y, e1, e2, e3⟩ := v2_some h
  refine qa F L ρ σ H f x ρ1 _ R e1 fun v H1 f1 fp R1 fr1 k1 => qb (F.hold fp) L ρ1 σ H1 f1 y ρ' _ (R1.hold fr1) e2 fun u H2 f2 fq R2 fr2 k2 => ?_
  have fr1' := fr1.over k2 R2
  exact ix_sub fr1'.rp fr2.rp e3 fun w f rw' m => q w H2 f2 f R2.unhold ⟨rw', m.nodup fr1'.nd, fun c hc => fr1'.nf c (m.subset hc), fun i cc ec c hc => fr1'.dj i cc ec c (m.subset hc)⟩ (k1.trans k2.unhold)
/-- name[e], e with effects; what is found is pure -/
def ixV (i : Nat) (g : Rh → Option (D × Rh)) : Rh → Option (D × Rh) := fun ρ => match getS i ρ with
  | some (.list ds) => match pureL ds, g ρ with
    | true, some (k, ρ1) => match getS i ρ1 with
      | some d => match ixD d k with
        | some z => (gd z).map fun z => (z, ρ1)
        | none => none
      | none => none
    | _, _ => none
  | some (.tuple ds) => match pureL ds, g ρ with
    | true, some (k, ρ1) => match getS i ρ1 with
      | some d => match ixD d k with
        | some z => (gd z).map fun z => (z, ρ1)
        | none => none
      | none => none
    | _, _ => none
  | _ => none
theorem ixV_some {i : Nat} {g : Rh → Option (D × Rh)} {ρ ρ' : Rh} {z : D} (h : ixV i g ρ = some (z, ρ')) : ∃ d0 k d, getS i ρ = some d0 ∧ g ρ = some (k, ρ') ∧ getS i ρ' = some d ∧ ixD d k = some z ∧ pureD z = true := by
  have go : ∀ {k : D} {ρ1 : Rh}, (match getS i ρ1 with
      | some d => match ixD d k with
        | some z => (gd z).map fun z => (z, ρ1)
        | none => none
      | none => none) = some (z, ρ') → ρ1 = ρ' ∧ ∃ d, getS i ρ1 = some d ∧ ixD d k = some z ∧ pureD z = true := by
    intro k ρ1 hh
    split at hh
    · rename_i d e1
      split at hh
      · rename_i w e2
        unfold gd at hh
        split at hh
        · rename_i hp; cases hh; exact ⟨rfl, d, e1, e2, hp⟩
        · cases hh
      · cases hh
    · cases hh
  unfold ixV at h
  split at h
  · rename_i ds e0
    split at h
    · rename_i k ρ1 _ e1
      obtain ⟨rfl, d, a, b, c⟩ := go h
      exact ⟨_, k, d, e0, e1, a, b, c⟩
    · cases h
  · rename_i ds e0
    split at h
    · rename_i k ρ1 _ e1
      obtain ⟨rfl, d, a, b, c⟩ := go h
      exact ⟨_, k, d, e0, e1, a, b, c⟩
    · cases h
  · cases h
theorem ev_ixV {i : Nat} (pa : PE X a (tVar i)) (hb : EV X b g2) (hs : PlainIx b) : EV X (.Subscript a b pos) (ixV i g2) := by
  obtain ⟨tb, pb, qb⟩ := hb
  refine ⟨_, pe_ix (ix_list.or ix_tup) pa pb hs, fun F L ρ σ H f z ρ' Q R h q => ?_⟩
  obtain ⟨d0, k, d, e0, e1, e2, e3, e4⟩ := ixV_some h
  obtain ⟨c, ec, _⟩ := getS_some e0
  obtain ⟨v, ev, _⟩ := R.rp i c ec
  refine ⟨v, ev, qb F L ρ σ H f k ρ' _ R e1 fun u H1 f1 fp R1 fr1 k1 => ?_⟩
  obtain ⟨c1, ec1, ed1⟩ := getS_some e2
  obtain ⟨v1, ev1, r1⟩ := R1.rp i c1 ec1
  rw [ev] at ev1; cases ev1
  rw [ed1] at r1
  refine ix_sub r1 fr1.rp e3 fun w fw rw' m => ?_
  have : fw = [] := Rp.pure _ _ _ rw' e4
  subst this
  exact q w H1 f1 [] R1 ⟨rw', List.nodup_nil, fun _ m => (nomatch m), fun _ _ _ _ m => (nomatch m)⟩ k1
end
/-! ### append, extend -/
section
variable {X : Cx} {pos apos : Pos} {o e : Expr} {i : Nat} {g : Rh → Option (D × Rh)}
def lstAt (i : Nat) (ρ : Rh) : Bool := match getS i ρ with
  | some (.list _) => true
  | _ => false
def appendV (i : Nat) (g : Rh → Option (D × Rh)) : Rh → Option (D × Rh) := fun ρ => match lstAt i ρ, g ρ with
  | true, some (d, ρ1) => match wr i ρ1 with
    | some (.list ds, o) => if ds.length + 1 < 1000000 then some (.none, ρ1.set i (some ⟨.list (ds ++ [d]), o⟩)) else none
    | _ => none
  | _, _ => none
def extendV (i : Nat) (g : Rh → Option (D × Rh)) : Rh → Option (D × Rh) := fun ρ => match lstAt i ρ, g ρ with
  | true, some (.list es, ρ1) => match wr i ρ1 with
    | some (.list ds, o) => if ds.length + es.length < 1000000 then some (.none, ρ1.set i (some ⟨.list (ds ++ es), o⟩)) else none
    | _ => none
  | _, _ => none
theorem lstAt_ok {K : PySem.W.Frag} {F : Fm} {L : Nat → Option V} {ρ : Rh} {σ : L2.St} {H : Hp} {f : Nat → List Addr} (R : Rho K F L ρ σ H f) (h : lstAt i ρ = true) : ∃ a xs, σ[i]? = some (some (.ref a)) ∧ H a = some (.lst xs) := by
  unfold lstAt at h
  split at h
  · rename_i ds e
    obtain ⟨c, ec, ed⟩ := getS_some e
    obtain ⟨v, ev, r⟩ := R.rp i c ec
    rw [ed] at r
    revert r
    generalize f i = fi
    intro r
    cases r with
    | lst h1 h2 h3 => exact ⟨_, _, ev, h1⟩
  · cases h
theorem Rp.lstInv {K : PySem.W.Frag} {H : Hp} {a : Addr} {ds : List D} {fp : List Addr} (r : Rp K H (.ref a) (.list ds) fp) : ∃ xs fs, H a = some (.lst xs) ∧ fp = a :: fs ∧ RpL K H xs ds fs := by
  cases r with
  | lst h1 h2 h3 => exact ⟨_, _, h1, rfl, h3⟩
/-- a list in a slot grows -/
theorem grow {K : PySem.W.Frag} {F : Fm} {L : Nat → Option V} {ρ : Rh} {σ : L2.St} {H : Hp} {f : Nat → List Addr} (R : Rho K F L ρ σ H f) {ds es : List D} {ow : Ow} {a : Addr} {ws : List V} {fp : List Addr} (e : wr i ρ = some (.list ds, ow)) (hv : σ[i]? = some (some (.ref a))) (hn : ds.length + es.length < 1000000)
    (rw' : RpL K H ws es fp) (nd : fp.Nodup) (nf : ∀ b ∈ fp, ¬ F.all b) (dj : ∀ j c, ρ[j]? = some (some c) → ∀ b ∈ fp, b ∉ f j) :
    ∃ xs, H a = some (.lst xs) ∧ xs.length = ds.length ∧ Rho K F L (ρ.set i (some ⟨.list (ds ++ es), ow⟩)) σ (upd H a (.lst (xs ++ ws))) (fun j => if j = i then f i ++ fp else f j) ∧ Keep F.all H (upd H a (.lst (xs ++ ws))) := by
  obtain ⟨ec, hw⟩ := wr_some e
  obtain ⟨v, ev, r⟩ := R.rp i _ ec
  rw [hv] at ev; cases ev
  obtain ⟨ndi, nfi⟩ := R.nd i _ ec hw
  obtain ⟨xs, fs, h1, hfi, h3⟩ := r.lstInv
  have hm : Mut (H a) := by rw [h1]; trivial
  have han : a ∉ fs := by rw [hfi] at ndi; exact (List.nodup_cons.mp ndi).1
  have hap : a ∉ fp := fun m => dj i _ ec a m (by rw [hfi]; exact List.mem_cons_self)
  have kp : Keep (fun b => b ≠ a) H (upd H a (.lst (xs ++ ws))) := keep_ne hm
  have r3 := RpL.keep kp _ _ _ h3 fun b m => fun z => han (by rw [← z]; exact m)
  have r4 := RpL.keep kp _ _ _ rw' fun b m => fun z => hap (by rw [← z]; exact m)
  have hl := h3.length
  have hl2 := rw'.length
  refine ⟨xs, h1, hl, ?_⟩
  have rn : Rp K (upd H a (.lst (xs ++ ws))) (.ref a) (.list (ds ++ es)) (f i ++ fp) := by
    rw [hfi]
    exact .lst upd_same (by rw [List.length_append, hl, hl2]; exact mil_line (by omega)) (RpL.append r3 r4)
  exact R.mutate ec hw hv rn (List.nodup_append.mpr ⟨ndi, nd, fun b m c m' z => by subst z; exact dj i _ ec b m' m⟩)
    (fun b m => (List.mem_append.mp m).imp id fun m => ⟨nf b m, fun j cj hj ej => dj j cj ej b m⟩) (keep_upd hm fun z => z (by rw [hfi]; exact List.mem_cons_self))
theorem ev_append (pa : PE X o (tVar i)) (he : EV X e g) (hbase : attributeBase o "append" X.env (eval o X.env) = eval o X.env := by rfl)
    (hfew : ((backTo pos (starEach [e] X.env)).all (fun x => !x.1) && (backToKw pos (keywordEach [] X.env)).all (fun x => x.1.isSome) && decide (([e] : List Expr).length + ([] : List Keyword).length + (if ([] : List Keyword).isEmpty then 0 else 1) < 30)) = true := by rfl)
    (hline : (apos.endLine == pos.line) = true := by rfl) (hs : starEach [e] X.env = (false, eval e X.env) :: starEach [] X.env := by rfl) (hplain : (backTo pos (starEach [] X.env)).any (·.1) = false := by rfl) : EV X (.Call (.Attribute o "append" apos) [e] [] pos) (appendV i g) := by
  obtain ⟨t, pe, hq⟩ := he
  refine ⟨_, pe_bm PySem.F.plainAttrs_list PySem.F.slot_list_append PySem.F.type_list_append mt_append pa (pa_cons pe pa_nil hs) hbase hfew hline hs hplain, fun F L ρ σ H f d ρ' Q R h q => ?_⟩
  unfold appendV at h
  split at h
  · rename_i d1 ρ1 e1 e2
    split at h
    · rename_i ds ow e3
      split at h
      · rename_i hn
        cases h
        obtain ⟨a, xs0, ev, h0⟩ := lstAt_ok R e1
        refine ⟨.ref a, ev, .inl ⟨rfl, xs0, .inl (.inl h0)⟩, hq F L ρ σ H f d1 ρ1 _ R e2 fun v H1 f1 fp R1 fr1 k1 => ?_⟩
        obtain ⟨xs, h1, hl, R2, k2⟩ := grow R1 (es := [d1]) (ws := [v]) e3 ev (by simpa using hn) (by have := RpL.cons fr1.rp (RpL.nil (K := X.K) (H := H1)); rw [List.append_nil] at this; exact this) fr1.nd fr1.nf fr1.dj
        exact ⟨a, xs, v, rfl, rfl, h1, by rw [hl]; have := mil_line (n := ds.length + 1) (by omega); omega, q .non _ _ [] R2 ⟨.non, List.nodup_nil, fun _ m => (nomatch m), fun _ _ _ _ m => (nomatch m)⟩ (k1.trans k2)⟩
      · cases h
    · cases h
  · cases h
theorem ev_extend (pa : PE X o (tVar i)) (he : EV X e g) (hbase : attributeBase o "extend" X.env (eval o X.env) = eval o X.env := by rfl)
    (hfew : ((backTo pos (starEach [e] X.env)).all (fun x => !x.1) && (backToKw pos (keywordEach [] X.env)).all (fun x => x.1.isSome) && decide (([e] : List Expr).length + ([] : List Keyword).length + (if ([] : List Keyword).isEmpty then 0 else 1) < 30)) = true := by rfl)
    (hline : (apos.endLine == pos.line) = true := by rfl) (hs : starEach [e] X.env = (false, eval e X.env) :: starEach [] X.env := by rfl) (hplain : (backTo pos (starEach [] X.env)).any (·.1) = false := by rfl) : EV X (.Call (.Attribute o "extend" apos) [e] [] pos) (extendV i g) := by
  obtain ⟨t, pe, hq⟩ := he
  refine ⟨_, pe_bm PySem.F.plainAttrs_list PySem.F.slot_list_extend PySem.F.type_list_extend mt_extend pa (pa_cons pe pa_nil hs) hbase hfew hline hs hplain, fun F L ρ σ H f d ρ' Q R h q => ?_⟩
  unfold extendV at h
  split at h
  · rename_i es ρ1 e1 e2
    split at h
    · rename_i ds ow e3
      split at h
      · rename_i hn
        cases h
        obtain ⟨a, xs0, ev, h0⟩ := lstAt_ok R e1
        refine ⟨.ref a, ev, .inl ⟨rfl, xs0, .inl (.inl h0)⟩, hq F L ρ σ H f _ ρ1 _ R e2 fun v H1 f1 fp R1 fr1 k1 => ?_⟩
        obtain ⟨r1, n1, nf1, dj1⟩ := fr1
        cases r1 with
        | lst g1 g2 g3 =>
          rename_i b zs fs
          have n1' := (List.nodup_cons.mp n1).2
          obtain ⟨xs, h1, hl, R2, k2⟩ := grow R1 (es := es) (ws := zs) e3 ev hn g3 n1' (fun c m => nf1 c (List.mem_cons_of_mem _ m)) (fun j c ec y m => dj1 j c ec y (List.mem_cons_of_mem _ m))
          exact ⟨a, b, xs, zs, rfl, rfl, h1, g1, by rw [hl, g3.length]; exact mil_line (by omega), q .non _ _ [] R2 ⟨.non, List.nodup_nil, fun _ m => (nomatch m), fun _ _ _ _ m => (nomatch m)⟩ (k1.trans k2)⟩
      · cases h
    · cases h
  · cases h
end
theorem call_lenA {X : Cx} : CallR X (.builtin "len") (fun xs H Q => ∃ p ys, xs = [.ref p] ∧ (SqL X.K H p ys ∨ SqT X.K H p ys) ∧ Q (.int ys.length) H) := call_len_seq
theorem rn_lenA {K : PySem.W.Frag} : RNok true K (fun xs H Q => ∃ p ys, xs = [.ref p] ∧ (SqL K H p ys ∨ SqT K H p ys) ∧ Q (.int ys.length) H) lenF := rn_len
end PV

set_option Elab.async false
set_option linter.all false
set_option maxRecDepth 100000
set_option maxHeartbeats 2000000
namespace PV
open PySem PySem.Spec PyProof.Rows L2

/-! ### dicts -/
def sKey : D → Option Key
  | .int i => some (.inl i)
  | .str x => some (.inr x)
  | _ => none
def sKeys : List D → Option (List Key)
  | [] => some []
  | d :: ds => match sKey d, sKeys ds with
    | some k, some ks => some (k :: ks)
    | _, _ => none
def tKey : D → Option (List Key)
  | .tuple ds => sKeys ds
  | _ => none
theorem sKey_kD (k : Key) : sKey (kD k) = some k := by cases k <;> rfl
theorem sKey_inv {d : D} {k : Key} (h : sKey d = some k) : d = kD k := by
  cases d <;> simp only [sKey, reduceCtorEq, Option.some.injEq] at h <;> subst h <;> rfl
theorem sKeys_kD (ks : List Key) : sKeys (ks.map kD) = some ks := by
  induction ks with
  | nil => rfl
  | cons k ks ih => simp [sKeys, sKey_kD, ih]
theorem sKeys_inv {ds : List D} {ks : List Key} (h : sKeys ds = some ks) : ds = ks.map kD := by
  induction ds generalizing ks with
  | nil => cases h; rfl
  | cons d ds ih =>
    unfold sKeys at h
    split at h
    · rename_i k ks' e1 e2
      cases h
      rw [List.map_cons, ← ih e2, ← sKey_inv e1]
    · cases h
def tD (ks : List Key) : D := .tuple (ks.map kD)
theorem tKey_tD (ks : List Key) : tKey (tD ks) = some ks := sKeys_kD ks
theorem tKey_inv {d : D} {ks : List Key} (h : tKey d = some ks) : d = tD ks := by
  cases d <;> simp only [tKey, reduceCtorEq] at h
  rw [sKeys_inv h]; rfl
section
variable {κ : Type} [DecidableEq κ]
def findG (kf : D → Option κ) (kvs : List (D × D)) (k : κ) : Option D := (kvs.find? fun p => decide (kf p.1 = some k)).map (·.2)
def putG (kf : D → Option κ) (kvs : List (D × D)) (k : κ) (kd d : D) : List (D × D) :=
  if (kvs.any fun p => decide (kf p.1 = some k)) = true then kvs.map fun p => if kf p.1 = some k then (p.1, d) else p else kvs ++ [(kd, d)]
theorem find_rel {K : PySem.W.Frag} {H : Hp} {c : κ → D} {kf : D → Option κ} (hc : ∀ k, kf (c k) = some k) (k : κ) : ∀ {hk : List (κ × V)} {kvs : List (D × D)} {fs : List Addr}, kvs.map (·.1) = hk.map (fun p => c p.1) → RpL K H (hk.map (·.2)) (kvs.map (·.2)) fs →
    match findG kf kvs k with
    | none => valV hk k = none
    | some z => ∃ u f, valV hk k = some u ∧ Rp K H u z f ∧ f.Sublist fs
  | [], [], _, _, _ => rfl
  | [], _ :: _, _, h, _ => by simp at h
  | _ :: _, [], _, h, _ => by simp at h
  | p :: hk, q :: kvs, fs, h, r => by
    simp only [List.map_cons, List.cons.injEq] at h
    simp only [List.map_cons] at r
    cases r with
    | cons r1 r2 =>
      rename_i f1 fs2
      have ih := find_rel (K := K) (H := H) hc k h.2 r2
      by_cases e : p.1 = k
      · have : findG kf (q :: kvs) k = some q.2 := by
          unfold findG
          rw [List.find?_cons, h.1, hc, e]; simp
        rw [this]
        exact ⟨p.2, f1, valV_pos e, r1, List.sublist_append_left ..⟩
      · have : findG kf (q :: kvs) k = findG kf kvs k := by
          unfold findG
          rw [List.find?_cons, h.1, hc]
          simp [e]
        rw [this, valV_neg e]
        cases e2 : findG kf kvs k with
        | none => rw [e2] at ih; exact ih
        | some z =>
          rw [e2] at ih
          obtain ⟨u, f, a, b, cc⟩ := ih
          exact ⟨u, f, a, b, cc.trans (List.sublist_append_right ..)⟩
theorem any_rel {c : κ → D} {kf : D → Option κ} (hc : ∀ k, kf (c k) = some k) (k : κ) : ∀ {hk : List (κ × V)} {kvs : List (D × D)}, kvs.map (·.1) = hk.map (fun p => c p.1) → (kvs.any fun p => decide (kf p.1 = some k)) = hk.any fun p => decide (p.1 = k)
  | [], [], _ => rfl
  | [], _ :: _, h => by simp at h
  | _ :: _, [], h => by simp at h
  | p :: hk, q :: kvs, h => by
    simp only [List.map_cons, List.cons.injEq] at h
    rw [List.any_cons, List.any_cons, any_rel hc k h.2, h.1, hc]
    simp
theorem repl_rel {K : PySem.W.Frag} {H : Hp} {c : κ → D} {kf : D → Option κ} (hc : ∀ k, kf (c k) = some k) (k : κ) {v : V} {d : D} (rv : Rp K H v d []) : ∀ {hk : List (κ × V)} {kvs : List (D × D)} {fs : List Addr}, kvs.map (·.1) = hk.map (fun p => c p.1) → RpL K H (hk.map (·.2)) (kvs.map (·.2)) fs →
    ∃ fs', fs'.Sublist fs ∧ (kvs.map fun p => if kf p.1 = some k then (p.1, d) else p).map (·.1) = (hk.map fun kv => if kv.1 = k then (kv.1, v) else kv).map (fun p => c p.1) ∧
      RpL K H ((hk.map fun kv => if kv.1 = k then (kv.1, v) else kv).map (·.2)) ((kvs.map fun p => if kf p.1 = some k then (p.1, d) else p).map (·.2)) fs'
  | [], [], fs, _, r => ⟨fs, List.Sublist.refl _, rfl, r⟩
  | [], _ :: _, _, h, _ => by simp at h
  | _ :: _, [], _, h, _ => by simp at h
  | p :: hk, q :: kvs, fs, h, r => by
    simp only [List.map_cons, List.cons.injEq] at h
    simp only [List.map_cons] at r
    cases r with
    | cons r1 r2 =>
      rename_i f1 fs2
      obtain ⟨fs', s, a, b⟩ := repl_rel hc k rv h.2 r2
      simp only [List.map_cons, h.1, hc, Option.some.injEq]
      by_cases e : p.1 = k
      · rw [if_pos e, if_pos e]
        exact ⟨[] ++ fs', s.trans (List.sublist_append_right ..), by rw [a], .cons rv b⟩
      · rw [if_neg e, if_neg e]
        exact ⟨f1 ++ fs', List.Sublist.append (List.Sublist.refl _) s, by rw [a, h.1], .cons r1 b⟩
theorem put_rel {K : PySem.W.Frag} {H : Hp} {c : κ → D} {kf : D → Option κ} (hc : ∀ k, kf (c k) = some k) (k : κ) {v : V} {d : D} (rv : Rp K H v d []) {hk : List (κ × V)} {kvs : List (D × D)} {fs : List Addr} (h : kvs.map (·.1) = hk.map (fun p => c p.1)) (r : RpL K H (hk.map (·.2)) (kvs.map (·.2)) fs) :
    ∃ fs', fs'.Sublist fs ∧ (putG kf kvs k (c k) d).map (·.1) = (putK hk k v).map (fun p => c p.1) ∧ RpL K H ((putK hk k v).map (·.2)) ((putG kf kvs k (c k) d).map (·.2)) fs' := by
  unfold putG putK
  rw [any_rel hc k h]
  by_cases e : (hk.any fun p => decide (p.1 = k)) = true
  · rw [if_pos e, if_pos e]
    exact repl_rel hc k rv h r
  · rw [if_neg e, if_neg e]
    refine ⟨fs, List.Sublist.refl _, by simp [h], ?_⟩
    rw [List.map_append, List.map_append]
    have := RpL.append r (RpL.cons rv (RpL.nil (K := K) (H := H)))
    simpa using this
end
def dlook (d k : D) : Option (Option D) := match d with
  | .dict ((.none, _) :: kvs) => match tKey k with
    | some ks => some (findG tKey kvs ks)
    | none => none
  | .dict ((.bool _, _) :: (.none, _) :: kvs) => match tKey k with
    | some ks => some (findG tKey kvs ks)
    | none => none
  | .dict ((.bool _, _) :: kvs) => match sKey k with
    | some s => some (findG sKey kvs s)
    | none => none
  | .dict kvs => match sKey k with
    | some s => some (findG sKey kvs s)
    | none => none
  | _ => none
theorem sKey_val {K : PySem.W.Frag} {H : Hp} {y : V} {d : D} {f : List Addr} {s : Key} (r : Rp K H y d f) (h : sKey d = some s) : y = kV s := by
  have := sKey_inv h
  subst this
  cases s <;> cases r <;> rfl
theorem keys_val {K : PySem.W.Frag} {H : Hp} : ∀ {ks : List Key} {xs : List V} {f : List Addr}, RpL K H xs (ks.map kD) f → xs = ks.map kV
  | [], _, _, h => by cases h; rfl
  | k :: ks, _, _, h => by
    cases h with
    | cons h1 h2 => rw [sKey_val h1 (sKey_kD k), List.map_cons, ← keys_val h2]
theorem tKey_val {K : PySem.W.Frag} {H : Hp} {y : V} {d : D} {f : List Addr} {ks : List Key} (r : Rp K H y d f) (h : tKey d = some ks) : ∃ b, y = .ref b ∧ H b = some (.tup (ks.map kV)) := by
  have := tKey_inv h
  subst this
  cases r with
  | tup h1 h2 h3 => rw [keys_val h3] at h1; exact ⟨_, rfl, h1⟩
def OkGet (K : PySem.W.Frag) (H : Hp) (ov : Option V) (o : Option D) (fs : List Addr) : Prop := match o with
  | none => ov = none
  | some z => ∃ u f, ov = some u ∧ Rp K H u z f ∧ f.Sublist fs
theorem not_none_kD {kvs : List (D × D)} {p : D} {hk : List (Key × V)} (h : ((PyData.none, p) :: kvs).map (·.1) = hk.map (fun q => kD q.1)) : False := by
  cases hk with
  | nil => simp at h
  | cons q hk =>
    simp only [List.map_cons, List.cons.injEq] at h
    obtain ⟨k, v⟩ := q
    cases k <;> simp [kD] at h
theorem not_bool_kD {kvs : List (D × D)} {b : Bool} {p : D} {hk : List (Key × V)} (h : ((PyData.bool b, p) :: kvs).map (·.1) = hk.map (fun q => kD q.1)) : False := by
  cases hk with
  | nil => simp at h
  | cons q hk =>
    simp only [List.map_cons, List.cons.injEq] at h
    obtain ⟨k, v⟩ := q
    cases k <;> simp [kD] at h
theorem look_s {K : PySem.W.Frag} {H : Hp} {a : Addr} {y : V} {k : D} {fy fs : List Addr} {s : Key} {hk : List (Key × V)} {kvs : List (D × D)} (g1 : Rd H a (.dK hk)) (g2 : kvs.map (·.1) = hk.map (fun p => kD p.1)) (h2 : RpL K H (hk.map (·.2)) (kvs.map (·.2)) fs) (ry : Rp K H y k fy) (ek : sKey k = some s) :
    DGet H a y (valV hk s) ∧ IsD H a ∧ OkGet K H (valV hk s) (findG sKey kvs s) fs := by
  have ey := sKey_val ry ek
  subst ey
  refine ⟨.inl ⟨hk, s, g1, rfl, rfl⟩, .inl ⟨hk, g1⟩, ?_⟩
  have := find_rel (c := kD) sKey_kD s g2 h2
  unfold OkGet
  split at this
  · exact this
  · exact this
theorem look_t {K : PySem.W.Frag} {H : Hp} {a : Addr} {y : V} {k : D} {fy fs : List Addr} {ks : List Key} {hk : List (List Key × V)} {kvs : List (D × D)} (g1 : Rd H a (.dT hk)) (g2 : kvs.map (·.1) = hk.map (fun p => tD p.1)) (h2 : RpL K H (hk.map (·.2)) (kvs.map (·.2)) fs) (ry : Rp K H y k fy) (ek : tKey k = some ks) :
    DGet H a y (valV hk ks) ∧ IsD H a ∧ OkGet K H (valV hk ks) (findG tKey kvs ks) fs := by
  obtain ⟨b, rfl, hb⟩ := tKey_val ry ek
  refine ⟨.inr ⟨hk, ks, b, g1, rfl, hb, rfl⟩, .inr ⟨hk, g1⟩, ?_⟩
  have := find_rel (c := tD) tKey_tD ks g2 h2
  unfold OkGet
  split at this
  · exact this
  · exact this
theorem OkGet.sub {K : PySem.W.Frag} {H : Hp} {ov : Option V} {o : Option D} {fs fs' : List Addr} (h : OkGet K H ov o fs) (s : fs.Sublist fs') : OkGet K H ov o fs' := by
  unfold OkGet at h ⊢
  split at h
  · exact h
  · obtain ⟨u, f, a, b, c⟩ := h
    exact ⟨u, f, a, b, c.trans s⟩
theorem dlook_ok {K : PySem.W.Frag} {H : Hp} {x y : V} {d k : D} {fx fy : List Addr} {o : Option D} (rx : Rp K H x d fx) (ry : Rp K H y k fy) (h : dlook d k = some o) : ∃ a ov, x = .ref a ∧ DGet H a y ov ∧ IsD H a ∧ OkGet K H ov o fx := by
  unfold dlook at h
  split at h
  · rename_i p kvs
    split at h
    · rename_i ks ek
      cases h
      cases rx with
      | dct h1 h2 =>
        rcases h1 with ⟨hk, g1, g2, g3⟩ | ⟨hk, g1, g2, g3⟩
        · exact (not_none_kD g2).elim
        · simp only [List.map_cons, List.cons.injEq] at g2
          subst g3
          simp only [List.map_cons] at h2
          cases h2 with
          | cons r1 r2 =>
            obtain ⟨a1, a2, a3⟩ := look_t (.inl g1) g2.2 r2 ry ek
            exact ⟨_, _, rfl, a1, a2, a3.sub ((List.sublist_append_right ..).trans (List.sublist_cons_self ..))⟩
      | dcf h1 h2 => have := not_frz h1; cases this
    · cases h
  · rename_i bb p1 p2 kvs
    split at h
    · rename_i ks ek
      cases h
      cases rx with
      | dct h1 h2 =>
        rcases h1 with ⟨hk, g1, g2, g3⟩ | ⟨hk, g1, g2, g3⟩
        · exact (not_bool_kD g2).elim
        · simp at g2
      | dcf h1 h2 =>
        rcases h1 with ⟨ob, hk, g1, g2, g3⟩ | ⟨ob, hk, g1, g2, g3⟩
        · simp only [List.map_cons, List.cons.injEq] at g2
          exact (not_none_kD (p := p2) (by simpa using g2.2)).elim
        · simp only [List.map_cons, List.cons.injEq] at g2
          subst g3
          simp only [List.map_cons] at h2
          cases h2 with
          | cons r1 r2 =>
            cases r2 with
            | cons r2 r3 =>
              obtain ⟨a1, a2, a3⟩ := look_t (.inr ⟨ob, g1⟩) g2.2.2 r3 ry ek
              exact ⟨_, _, rfl, a1, a2, a3.sub ((List.sublist_append_right ..).trans (List.sublist_append_right ..))⟩
    · cases h
  · rename_i bb p1 kvs hne
    split at h
    · rename_i s ek
      cases h
      cases rx with
      | dct h1 h2 =>
        rcases h1 with ⟨hk, g1, g2, g3⟩ | ⟨hk, g1, g2, g3⟩
        · exact (not_bool_kD g2).elim
        · simp at g2
      | dcf h1 h2 =>
        rcases h1 with ⟨ob, hk, g1, g2, g3⟩ | ⟨ob, hk, g1, g2, g3⟩
        · simp only [List.map_cons, List.cons.injEq] at g2
          subst g3
          simp only [List.map_cons] at h2
          cases h2 with
          | cons r1 r2 =>
            obtain ⟨a1, a2, a3⟩ := look_s (.inr ⟨ob, g1⟩) g2.2 r2 ry ek
            exact ⟨_, _, rfl, a1, a2, a3.sub (List.sublist_append_right ..)⟩
        · cases kvs with
          | nil => simp at g2
          | cons q kvs =>
            obtain ⟨q1, q2⟩ := q
            simp only [List.map_cons, List.cons.injEq] at g2
            obtain ⟨_, g2, _⟩ := g2
            subst g2
            exact (hne _ _ rfl).elim
    · cases h
  · rename_i kvs hne hb1 hnb
    split at h
    · rename_i s ek
      cases h
      cases rx with
      | dct h1 h2 =>
        rcases h1 with ⟨hk, g1, g2, g3⟩ | ⟨hk, g1, g2, g3⟩
        · subst g3
          obtain ⟨a1, a2, a3⟩ := look_s (.inl g1) g2 h2 ry ek
          exact ⟨_, _, rfl, a1, a2, a3.sub (List.sublist_cons_self ..)⟩
        · cases kvs with
          | nil => simp at g2
          | cons q kvs =>
            obtain ⟨q1, q2⟩ := q
            simp only [List.map_cons, List.cons.injEq] at g2
            obtain ⟨g2, _⟩ := g2
            subst g2
            exact (by first | exact (hne _ _ rfl).elim | exact (hnb _ _ rfl).elim | exact (hnb _ _ _ rfl).elim)
      | dcf h1 h2 =>
        cases kvs with
        | nil => have := not_frz h1; cases this
        | cons q kvs =>
          obtain ⟨q1, q2⟩ := q
          rcases h1 with ⟨ob, hk, g1, g2, g3⟩ | ⟨ob, hk, g1, g2, g3⟩ <;>
          · simp only [List.map_cons, List.cons.injEq] at g2
            obtain ⟨g2, _⟩ := g2
            subst g2
            exact (by first | exact (hnb _ _ _ rfl).elim | exact (hne _ _ _ rfl).elim | exact (hnb _ _ rfl).elim)
    · cases h
  · cases h
def dgetD (d k : D) : Option D := match dlook d k with
  | some (some z) => some z
  | _ => none
def dgt1D (d k : D) : Option D := match dlook d k with
  | some (some z) => some z
  | some none => some .none
  | none => none
def dinD (k d : D) : Option D := (dlook d k).map fun o => .bool o.isSome
def dninD (k d : D) : Option D := (dlook d k).map fun o => .bool (!o.isSome)
theorem OkGet.isSome {K : PySem.W.Frag} {H : Hp} {ov : Option V} {o : Option D} {fs : List Addr} (h : OkGet K H ov o fs) : ov.isSome = o.isSome := by
  unfold OkGet at h
  split at h
  · rw [h]; rfl
  · obtain ⟨u, f, e, _⟩ := h; rw [e]; rfl
section
variable {X : Cx} {pos apos : Pos} {k : Nat} {o i : Expr} {fa fb : Bool} {h1 h2 : Rh → Option D} {g : Rh → Option (D × Rh)} {e value : Expr}
theorem units1 (hr : Room k X.A) : X.A.units + 1 < cLine := by have := hr.un; omega
theorem ep_dget (hr : Room k X.A) (ha : EP fa X o h1) (hb : EP fb X i h2) (hs : NoSl i) : EP false X (.Subscript o i pos) (o2 dgetD h1 h2) := by
  obtain ⟨ta, pa, qa⟩ := ha
  obtain ⟨tb, pb, qb⟩ := hb
  refine ⟨_, pe_dget (units1 hr) pa pb hs, fun ρ σ H d Q R h q => ?_⟩
  obtain ⟨x, y, e1, e2, e3⟩ := o2_some h
  refine qa ρ σ H x _ R e1 fun v H1 fp s r1 _ => qb ρ σ H1 y _ (R.same s) e2 fun u H2 fq s2 r2 _ => ?_
  unfold dgetD at e3
  split at e3
  · rename_i z e4
    cases e3
    obtain ⟨a, ov, rfl, g1, _, w, f, rfl, r3, _⟩ := dlook_ok (r1.same s2) r2 e4
    exact ⟨a, w, rfl, g1, q w H2 f (same_trans s s2) r3 fun z => nomatch z⟩
  · cases e3
def dgt1 (h1 h2 : Rh → Option D) : Rh → Option D := o2 dgt1D h1 h2
theorem ep_dgt1 (hr : Room k X.A) (ha : EP fa X o h1) (hb : EP fb X e h2) (m : M1 X o "get" apos e pos := by exact ⟨rfl, rfl, rfl, rfl⟩) : EP false X (.Call (.Attribute o "get" apos) [e] [] pos) (dgt1 h1 h2) := by
  obtain ⟨ta, pa, qa⟩ := ha
  obtain ⟨tb, pb, qb⟩ := hb
  refine ⟨_, pe_dget1 (units1 hr) pa pb m, fun ρ σ H d Q R h q => ?_⟩
  obtain ⟨x, y, e1, e2, e3⟩ := o2_some h
  refine qa ρ σ H x _ R e1 fun v H1 fp s r1 _ => ?_
  unfold dgt1D at e3
  have isd : ∃ a, v = .ref a ∧ IsD H1 a := by
    have hd : ∃ kvs, x = .dict kvs := by
      cases x <;> first | exact ⟨_, rfl⟩ | (simp only [dlook, reduceCtorEq] at e3)
    obtain ⟨kvs, rfl⟩ := hd
    cases r1 with
    | dct g1 g2 =>
      rcases g1 with ⟨hk, g1, _⟩ | ⟨hk, g1, _⟩
      · exact ⟨_, rfl, .inl ⟨hk, .inl g1⟩⟩
      · exact ⟨_, rfl, .inr ⟨hk, .inl g1⟩⟩
    | dcf g1 g2 =>
      rcases g1 with ⟨ob, hk, g1, _⟩ | ⟨ob, hk, g1, _⟩
      · exact ⟨_, rfl, .inl ⟨hk, .inr ⟨ob, g1⟩⟩⟩
      · exact ⟨_, rfl, .inr ⟨hk, .inr ⟨ob, g1⟩⟩⟩
  obtain ⟨a0, rfl, isd⟩ := isd
  refine ⟨a0, rfl, isd, qb ρ σ H1 y _ (R.same s) e2 fun u H2 fq s2 r2 _ => ?_⟩
  split at e3
  · rename_i z e4
    cases e3
    obtain ⟨a, ov, ea, g1, _, w, f, rfl, r3, _⟩ := dlook_ok (r1.same s2) r2 e4
    cases ea
    exact ⟨some w, g1, q w H2 f (same_trans s s2) r3 fun z => nomatch z⟩
  · rename_i e4
    cases e3
    obtain ⟨a, ov, ea, g1, _, hn⟩ := dlook_ok (r1.same s2) r2 e4
    cases ea
    have : ov = none := hn
    subst this
    exact ⟨none, g1, q .non H2 [] (same_trans s s2) .non fun z => nomatch z⟩
  · cases e3
theorem ep_din (hr : Room k X.A) (ha : EP fa X i h1) (hb : EP fb X o h2) (hm : behindInMarks .In o = false := by first | exact nobehind _ (by decide) (by decide) | rfl) : EP true X (.Compare i [.In] [o] pos) (o2 dinD h1 h2) := by
  obtain ⟨ta, pa, qa⟩ := ha
  obtain ⟨tb, pb, qb⟩ := hb
  refine ⟨_, pe_cmp (pc_din (units1 hr) pa pb) hm, fun ρ σ H d Q R h q => ?_⟩
  obtain ⟨x, y, e1, e2, e3⟩ := o2_some h
  refine qa ρ σ H x _ R e1 fun v H1 fp s r1 _ => qb ρ σ H1 y _ (R.same s) e2 fun u H2 fq s2 r2 _ => ?_
  unfold dinD at e3
  cases e4 : dlook y x with
  | none => rw [e4] at e3; cases e3
  | some z =>
    rw [e4] at e3; cases e3
    obtain ⟨a, ov, rfl, g1, _, r3⟩ := dlook_ok r2 (r1.same s2) e4
    exact ⟨a, ov, rfl, g1, by rw [r3.isSome]; exact q _ H2 [] (same_trans s s2) (.bl _) fun _ => no_mem⟩
theorem ep_dnotin (hr : Room k X.A) (ha : EP fa X i h1) (hb : EP fb X o h2) (hm : behindInMarks .NotIn o = false := by first | exact nobehind _ (by decide) (by decide) | rfl) : EP true X (.Compare i [.NotIn] [o] pos) (o2 dninD h1 h2) := by
  obtain ⟨ta, pa, qa⟩ := ha
  obtain ⟨tb, pb, qb⟩ := hb
  refine ⟨_, pe_cmp (pc_dnotin (units1 hr) pa pb) hm, fun ρ σ H d Q R h q => ?_⟩
  obtain ⟨x, y, e1, e2, e3⟩ := o2_some h
  refine qa ρ σ H x _ R e1 fun v H1 fp s r1 _ => qb ρ σ H1 y _ (R.same s) e2 fun u H2 fq s2 r2 _ => ?_
  unfold dninD at e3
  cases e4 : dlook y x with
  | none => rw [e4] at e3; cases e3
  | some z =>
    rw [e4] at e3; cases e3
    obtain ⟨a, ov, rfl, g1, _, r3⟩ := dlook_ok r2 (r1.same s2) e4
    exact ⟨a, ov, rfl, g1, by rw [r3.isSome]; exact q _ H2 [] (same_trans s s2) (.bl _) fun _ => no_mem⟩
theorem tp_din (hr : Room k X.A) (ha : EP fa X i h1) (hb : EP fb X o h2) (hm : behindInMarks .In o = false := by first | exact nobehind _ (by decide) (by decide) | rfl) : TP X (.Compare i [.In] [o] pos) (qB (o2 dinD h1 h2)) := by
  obtain ⟨ta, pa, qa⟩ := ha
  obtain ⟨tb, pb, qb⟩ := hb
  refine ⟨_, pt_cmp (pc_din (units1 hr) pa pb) hm, fun ρ σ H b Q R hh q => ?_⟩
  unfold qB at hh
  cases e0 : o2 dinD h1 h2 ρ with
  | none => simp [e0] at hh
  | some z =>
    simp only [e0, Option.bind_some] at hh
    obtain ⟨x, y, e1, e2, e3⟩ := o2_some e0
    refine qa ρ σ H x _ R e1 fun v H1 fp s r1 _ => qb ρ σ H1 y _ (R.same s) e2 fun u H2 fq s2 r2 _ => ?_
    unfold dinD at e3
    cases e4 : dlook y x with
    | none => rw [e4] at e3; cases e3
    | some z =>
      rw [e4] at e3; cases e3; cases hh
      obtain ⟨a, ov, rfl, g1, _, r3⟩ := dlook_ok r2 (r1.same s2) e4
      exact ⟨a, ov, rfl, g1, _, rfl, by rw [r3.isSome]; exact q H2 (same_trans s s2)⟩
theorem tp_dnotin (hr : Room k X.A) (ha : EP fa X i h1) (hb : EP fb X o h2) (hm : behindInMarks .NotIn o = false := by first | exact nobehind _ (by decide) (by decide) | rfl) : TP X (.Compare i [.NotIn] [o] pos) (qB (o2 dninD h1 h2)) := by
  obtain ⟨ta, pa, qa⟩ := ha
  obtain ⟨tb, pb, qb⟩ := hb
  refine ⟨_, pt_cmp (pc_dnotin (units1 hr) pa pb) hm, fun ρ σ H b Q R hh q => ?_⟩
  unfold qB at hh
  cases e0 : o2 dninD h1 h2 ρ with
  | none => simp [e0] at hh
  | some z =>
    simp only [e0, Option.bind_some] at hh
    obtain ⟨x, y, e1, e2, e3⟩ := o2_some e0
    refine qa ρ σ H x _ R e1 fun v H1 fp s r1 _ => qb ρ σ H1 y _ (R.same s) e2 fun u H2 fq s2 r2 _ => ?_
    unfold dninD at e3
    cases e4 : dlook y x with
    | none => rw [e4] at e3; cases e3
    | some z =>
      rw [e4] at e3; cases e3; cases hh
      obtain ⟨a, ov, rfl, g1, _, r3⟩ := dlook_ok r2 (r1.same s2) e4
      exact ⟨a, ov, rfl, g1, _, rfl, by rw [r3.isSome]; exact q H2 (same_trans s s2)⟩
theorem ep_dnewK : EP true X (.Dict [] [] pos) (cst (.dict [])) := ⟨_, pe_dnewK, fun ρ σ H d Q R h q => by
  cases h
  intro p np
  exact q _ _ [p] (same_upd np) (.dct (vs := []) (.inl ⟨[], upd_same, rfl, rfl⟩) .nil) fun _ => one_new np⟩
theorem ep_dnewT : EP true X (.Dict [] [] pos) (cst (.dict [(.none, .none)])) := ⟨_, pe_dnewT, fun ρ σ H d Q R h q => by
  cases h
  intro p np
  exact q _ _ [p] (same_upd np) (.dct (vs := [.non]) (.inr ⟨[], upd_same, rfl, rfl⟩) (.cons .non .nil)) fun _ => one_new np⟩
/-- d[k] = e, the value pure -/
def dputD (kvs : List (D × D)) (k d : D) : Option (List (D × D)) := match kvs with
  | (.bool _, _) :: _ => none
  | (.none, n) :: kvs => match tKey k with
    | some ks => if pureD d = true ∧ kvs.length < 1000000 then some ((.none, n) :: putG tKey kvs ks (tD ks) d) else none
    | none => none
  | kvs => match sKey k with
    | some s => if pureD d = true ∧ kvs.length < 1000000 then some (putG sKey kvs s (kD s) d) else none
    | none => none
def sDput (i : Nat) (hk : Rh → Option D) (g : Rh → Option (D × Rh)) : Rh → Out := fun ρ => match g ρ with
  | some (d, ρ1) => match hk ρ1, wr i ρ1 with
    | some k, some (.dict kvs, ow) => match dputD kvs k d with
      | some kvs' => .nx (ρ1.set i (some ⟨.dict kvs', ow⟩))
      | none => .no
    | _, _ => .no
  | none => .no
theorem dput_free {kvs kvs' : List (D × D)} {k d : D} (h : dputD kvs k d = some kvs') : locked (.dict kvs) = false := by
  cases kvs with
  | nil => rfl
  | cons p kvs =>
    obtain ⟨p1, p2⟩ := p
    cases p1 <;> first | rfl | cases h
theorem Rp.dctInv {K : PySem.W.Frag} {H : Hp} {v : V} {kvs : List (D × D)} {fp : List Addr} (r : Rp K H v (.dict kvs) fp) (hl : locked (.dict kvs) = false) : ∃ a vs fs, v = .ref a ∧ fp = a :: fs ∧ IsDct H a (kvs.map (·.1)) vs ∧ RpL K H vs (kvs.map (·.2)) fs := by
  cases r with
  | dct h1 h2 => exact ⟨_, _, _, rfl, rfl, h1, h2⟩
  | dcf h1 h2 => rw [not_frz h1] at hl; cases hl
theorem dput_ok {K : PySem.W.Frag} {H : Hp} {a : Addr} {y v : V} {kvs kvs' : List (D × D)} {vs : List V} {k d : D} {fs fy fv : List Addr} (hd : IsDct H a (kvs.map (·.1)) vs) (rl : RpL K H vs (kvs.map (·.2)) fs) (ry : Rp K H y k fy) (rv : Rp K H v d fv) (ha : a ∉ fs) (h : dputD kvs k d = some kvs') :
    ∃ H' fs', DPut H a y v H' ∧ Keep (fun b => b ≠ a) H H' ∧ fs'.Sublist fs ∧ Rp K H' (.ref a) (.dict kvs') (a :: fs') := by
  have hm : Mut (H a) := isDct_mut hd
  have fin : ∀ {o : HO} {kvs2 : List (D × D)} {vs2 : List V} {fs' : List Addr}, IsDct (upd H a o) a (kvs2.map (·.1)) vs2 → RpL K H vs2 (kvs2.map (·.2)) fs' → fs'.Sublist fs → Keep (fun b => b ≠ a) H (upd H a o) ∧ Rp K (upd H a o) (.ref a) (.dict kvs2) (a :: fs') := by
    intro o kvs2 vs2 fs' h1 h2 h3
    have kp : Keep (fun b => b ≠ a) H (upd H a o) := keep_ne hm
    exact ⟨kp, .dct h1 (RpL.keep kp _ _ _ h2 fun b m z => ha (by rw [← z]; exact h3.subset m))⟩
  unfold dputD at h
  split at h
  · cases h
  · rename_i n kvs0
    split at h
    · rename_i ks ek
      split at h
      · rename_i hc
        cases h
        have : fv = [] := Rp.pure _ _ _ rv hc.1
        subst this
        rcases hd with ⟨hk, g1, g2, g3⟩ | ⟨hk, g1, g2, g3⟩
        · exact (not_none_kD g2).elim
        · simp only [List.map_cons, List.cons.injEq] at g2
          subst g3
          simp only [List.map_cons] at rl
          cases rl with
          | cons r1 r2 =>
            rename_i f1 fs0
            obtain ⟨b, rfl, hb⟩ := tKey_val ry ek
            obtain ⟨fs', s, e1, e2⟩ := put_rel (c := tD) tKey_tD ks rv g2.2 r2
            have hlen : hk.length = kvs0.length := by have := congrArg List.length g2.2; simpa using this.symm
            obtain ⟨k1, k2⟩ := fin (o := .dT (putK hk ks v)) (kvs2 := (.none, n) :: putG tKey kvs0 ks (tD ks) d) (vs2 := .non :: (putK hk ks v).map (·.2)) (fs' := f1 ++ fs') (.inr ⟨_, upd_same, by simp only [List.map_cons, e1]; rfl, rfl⟩) (.cons r1 e2) (List.Sublist.append (List.Sublist.refl _) s)
            exact ⟨_, _, DPut.t g1 hb (by rw [hlen]; have := mil_line (n := kvs0.length + 1) (by omega); omega), k1, List.Sublist.append (List.Sublist.refl _) s, k2⟩
      · cases h
    · cases h
  · rename_i kvs0 hnb hne
    split at h
    · rename_i s ek
      split at h
      · rename_i hc
        cases h
        have : fv = [] := Rp.pure _ _ _ rv hc.1
        subst this
        rcases hd with ⟨hk, g1, g2, g3⟩ | ⟨hk, g1, g2, g3⟩
        · subst g3
          have ey := sKey_val ry ek
          subst ey
          obtain ⟨fs', sl, e1, e2⟩ := put_rel (c := kD) sKey_kD s rv g2 rl
          have hlen : hk.length = kvs.length := by have := congrArg List.length g2; simpa using this.symm
          obtain ⟨k1, k2⟩ := fin (o := .dK (putK hk s v)) (kvs2 := putG sKey kvs s (kD s) d) (.inl ⟨_, upd_same, e1, rfl⟩) e2 sl
          exact ⟨_, _, DPut.k g1 (by rw [hlen]; have := mil_line (n := kvs.length + 1) (by omega); omega), k1, sl, k2⟩
        · cases kvs with
          | nil => simp at g2
          | cons q kvs =>
            obtain ⟨q1, q2⟩ := q
            simp only [List.map_cons, List.cons.injEq] at g2
            obtain ⟨g2, _⟩ := g2
            subst g2
            exact (hne _ _ rfl).elim
      · cases h
    · cases h
theorem ss_dput {x : Nat} {spos pos' : Pos} (hr : Room k X.A) (po : PE X o (tVar x)) (hi : EP fb X i h2) (hv : EV X value g) (hs : swapsWith value (some (.Subscript o i pos')) spos.line X.env = pure false := by rfl) : SS X (.Assign [.Subscript o i pos'] value spos) (sDput x h2 g) := by
  obtain ⟨tv, pv, qv⟩ := hv
  obtain ⟨ti, pi, qi⟩ := hi
  refine ⟨_, ps_dput (units1 hr) po pi pv hs, fun F L ρ σ H fo D0 R gd => ?_⟩
  unfold sDput at gd
  split at gd
  · rename_i d ρ1 e1
    split at gd
    · rename_i kd kvs ow e2 e3
      split at gd
      · rename_i kvs' e4
        refine qv F L ρ σ H fo d ρ1 _ R e1 fun v H1 f1 fp R1 fr1 k1 => ?_
        obtain ⟨ec, hw⟩ := wr_some e3
        obtain ⟨u, eu, ru⟩ := R1.rp x _ ec
        refine ⟨u, eu, qi ρ1 σ H1 kd _ R1.rd e2 fun y H2 fy s2 ry _ => ?_⟩
        have R2 := R1.same s2
        obtain ⟨a, vs, fs, rfl, hf, hd, rl⟩ := (ru.same s2).dctInv (dput_free e4)
        obtain ⟨ndx, nfx⟩ := R2.nd x _ ec hw
        rw [hf] at ndx
        obtain ⟨H4, fs', g1, kp, sl, r4⟩ := dput_ok hd rl ry (fr1.rp.same s2) (List.nodup_cons.mp ndx).1 e4
        obtain ⟨R4, k4⟩ := R2.mutate ec hw eu r4 (List.nodup_cons.mpr ⟨fun m => (List.nodup_cons.mp ndx).1 (sl.subset m), sl.nodup (List.nodup_cons.mp ndx).2⟩)
          (fun b m => .inl (by rw [hf]; rcases List.mem_cons.mp m with m | m; exact (by rw [m]; exact List.mem_cons_self); exact List.mem_cons_of_mem _ (sl.subset m)))
          (kp.mono fun b hb z => hb (by rw [hf, z]; exact List.mem_cons_self))
        exact ⟨a, H4, rfl, g1, gd σ H4 _ R4 (k1.trans ((Keep.of_same s2).trans k4))⟩
      · exact gd.elim
    · exact gd.elim
  · exact gd.elim
end
end PV

set_option Elab.async false
set_option linter.all false
set_option maxRecDepth 100000
set_option maxHeartbeats 2000000
namespace PV
open PySem PySem.Spec PyProof.Rows L2
section
variable {P : Program} {w : World} {K : PySem.W.Frag} {mg : Str → Option Value} {base : Heap}
theorem KnP.zero {x qual : Str} {st : Stmt} {f : Addr} {fd : FuncData} {ps : List Str} {k n : Nat} (F : FnD K x qual st f fd) (hm : mg x = some (.ref f)) (hb : Binds K fd ps []) (hn : ps.length = n) : KnP P w K mg base k x n fun _ => none := by
  subst hn
  exact ⟨⟨f, fd, ps, hm, F.kp, hb, rfl, fn_zero⟩, fun ds d e => nomatch e⟩
theorem KnM.zero {x qual : Str} {st : Stmt} {f : Addr} {fd : FuncData} {ps : List Str} {k n m : Nat} (F : FnD K x qual st f fd) (hm : mg x = some (.ref f)) (hb : Binds K fd ps []) (hn : ps.length = n) : KnM P w K mg base k x n m fun _ => none := by
  subst hn
  exact ⟨⟨f, fd, ps, hm, F.kp, hb, rfl, fn_zeroM⟩⟩
end
section
variable {X : Cx} {pos : Pos} {o i value : Expr} {x : Nat} {gi gv : Rh → Option (D × Rh)}
theorem ep_globI {y : Str} {i : Int} (hg : Gl X y) (h : ∃ t, X.mg y = some (.int i t)) (hd : (y == ("__debug__" : Str)) = false := by decide) : EP true X (.Name y pos) (cst (.int i)) :=
  let ⟨t, hm⟩ := h
  ep_glob hg hm (v := .int i) ⟨t, rfl⟩ (fun _ => .int i) hd
/-! ### xs[e] = value, e with effects -/
def sSetIx (x : Nat) (gi gv : Rh → Option (D × Rh)) : Rh → Out := fun ρ => match gv ρ with
  | some (d, ρ1) => match getS x ρ1, gi ρ1 with
    | some _, some (k, ρ2) => match wr x ρ2 with
      | some (.list ds, ow) => match ixSet ds k d with
        | some ds' => .nx (ρ2.set x (some ⟨.list ds', ow⟩))
        | none => .no
      | _ => .no
    | _, _ => .no
  | none => .no
theorem ixset_ok {K : PySem.W.Frag} {F : Fm} {L : Nat → Option V} {ρ : Rh} {σ : L2.St} {H1 : Hp} {f : Nat → List Addr} {v u iv : V} {d k : D} {ds ds' : List D} {ow : Ow} {fp fi : List Addr} (R1 : Rho K F L ρ σ H1 f) (fr : Fresh K F ρ f v d fp H1) (e2 : wr x ρ = some (.list ds, ow)) (e4 : ixSet ds k d = some ds') (ri : Rp K H1 iv k fi) (eu : σ[x]? = some (some u)) :
    ∃ a xs i0 j, u = .ref a ∧ iv = .int i0 ∧ H1 a = some (.lst xs) ∧ ixN xs.length i0 = some j ∧ ∃ f', Rho K F L (ρ.set x (some ⟨.list ds', ow⟩)) σ (upd H1 a (.lst (xs.set j v))) f' ∧ Keep F.all H1 (upd H1 a (.lst (xs.set j v))) := by
  obtain ⟨i0, j, rfl, e5, rfl⟩ := ixSet_some e4
  obtain ⟨ex, wx⟩ := wr_some e2
  obtain ⟨u', eu', ru⟩ := R1.rp x _ ex
  rw [eu] at eu'; cases eu'
  obtain ⟨ndx, nfx⟩ := R1.nd x _ ex wx
  cases ri
  have djx : ∀ b ∈ fp, b ∉ f x := fun b m => fr.dj x _ ex b m
  generalize hfx : f x = fx at *
  cases ru with
  | lst h1 h2 h3 =>
    rename_i a xs fs
    obtain ⟨na, ndf⟩ := List.nodup_cons.mp ndx
    obtain ⟨fs', r', n', s'⟩ := RpL.setAt fr.rp fr.nd j h3 ndf fun b m m' => djx b m (List.mem_cons_of_mem _ m')
    have na' : a ∉ fs' := fun m => (s' a m).elim na fun m' => djx a m' List.mem_cons_self
    have kne : Keep (fun b => b ≠ a) H1 (upd H1 a (.lst (xs.set j v))) := keep_ne (by rw [h1]; trivial)
    have := R1.mutate (H' := upd H1 a (.lst (xs.set j v))) (d' := .list (ds.set j d)) (fp' := a :: fs') ex wx eu
      (.lst upd_same (by rw [List.length_set]; exact h2) (RpL.keep kne _ _ _ r' fun b m e => by subst e; exact na' m)) (List.nodup_cons.mpr ⟨na', n'⟩)
      (fun b m => by
        rw [hfx]
        rcases List.mem_cons.mp m with m | m
        · rw [m]; exact .inl List.mem_cons_self
        · rcases s' b m with m | m
          · exact .inl (List.mem_cons_of_mem _ m)
          · exact .inr ⟨fr.nf b m, fun l c hl ec => fr.dj l c ec b m⟩)
      (kne.mono fun b hb e => by subst e; rw [hfx] at hb; exact hb List.mem_cons_self)
    exact ⟨a, xs, i0, j, rfl, rfl, h1, by rw [h3.length]; exact e5, _, this.1, this.2⟩
theorem ss_setIx {st : Stmt} (ps : ∀ {te : TE} {gg : TG}, PE X value te → PG X (.Subscript o i pos) gg → PS X st (tAsg te gg)) (ho : PE X o (tVar x)) (hi : EV X i gi) (hv : EV X value gv) (ha : ∀ v, assign (.Subscript o i pos) X.env v = (do
      let ov ← holding [v] (eval o X.env)
      let iv ← holding [v, ov] (eval i X.env)
      standAt pos
      holding [v, ov, iv] (setItem ov iv v)
      release [v, ov, iv] []) := by intro _; rfl) : SS X st (sSetIx x gi gv) := by
  obtain ⟨tv, pv, qv⟩ := hv
  obtain ⟨ti, pi, qi⟩ := hi
  refine ⟨_, ps pv (pg_sub ho pi set_list ha), fun F L ρ σ H fo D0 R gd => ?_⟩
  unfold sSetIx at gd
  split at gd
  · rename_i d ρ1 e1
    split at gd
    · rename_i d0 k ρ2 e0 e2
      split at gd
      · rename_i ds ow e3
        split at gd
        · rename_i ds' e4
          refine qv F L ρ σ H fo d ρ1 _ R e1 fun v H1 f1 fp R1 fr1 k1 => ?_
          obtain ⟨c0, ec0, _⟩ := getS_some e0
          obtain ⟨u, eu, _⟩ := R1.rp x _ ec0
          refine ⟨u, eu, qi (F.hold fp) L ρ1 σ H1 f1 k ρ2 _ (R1.hold fr1) e2 fun iv H2 f2 fi R2 fr2 k2 => ?_⟩
          have fr1' := fr1.over k2 R2
          obtain ⟨a, xs, i0, j, rfl, rfl, h1, h2, f3, R3, k3⟩ := ixset_ok R2.unhold fr1' e3 e4 fr2.rp eu
          exact ⟨a, xs, i0, j, rfl, rfl, h1, h2, gd σ _ f3 R3 (k1.trans (k2.unhold.trans k3))⟩
        · exact gd.elim
      · exact gd.elim
    · exact gd.elim
  · exact gd.elim
end
end PV

set_option Elab.async false
set_option linter.all false
set_option maxRecDepth 100000
set_option maxHeartbeats 2000000
namespace PV
open PySem PySem.Spec PyProof.Rows L2

/-! ### the law's script, and the box that is made of it -/
def intL (ns : List Int) : List D := ns.map .int
theorem RpL.ofInts {K : PySem.W.Frag} {H : Hp} : ∀ ns : List Int, RpL K H (ns.map V.int) (intL ns) []
  | [] => .nil
  | n :: ns => .cons (f := []) (fs := []) (.int n) (RpL.ofInts ns)
def boxD (ns : List Int) : D := .list [.list (intL ns), .int 0, .int (4711 + ns.length)]
def spBox (K : PySem.W.Frag) (d : List Int → D) : Sp := fun vs H Q _ => ∃ (a : Addr) (ns : List Int), vs = [.ref a] ∧ SqL K H a (ns.map V.int) ∧ ns.length ≤ 63 ∧ ∀ v H' fp, Same H H' → Rp K H' v (d ns) fp → fp.Nodup → (∀ b ∈ fp, H b = none) → Q v H'
theorem cut_all (ns : List Int) (c : Nat) (h : ns.length ≤ c) : cutV (ns.map V.int) none (some (c : Int)) = ns.map V.int := by
  unfold cutV
  rw [HT.sIx_none, HT.sIx_nat, List.length_map, Nat.min_eq_right h, List.drop_zero, Nat.sub_zero]
  exact List.take_of_length_le (by rw [List.length_map]; exact Nat.le_refl _)
theorem seq_keep {K : PySem.W.Frag} {H H' : Hp} {a : Addr} {xs : List V} (h : SqL K H a xs) (s : Same H H') : SqL K H' a xs := by
  rcases h with (h | ⟨o, h⟩) | h
  · exact .inl (.inl (s _ _ h))
  · exact .inl (.inr ⟨o, s _ _ h⟩)
  · exact .inr h
theorem box_run {K : PySem.W.Frag} {σ : L2.St} {H : Hp} {Q : VK} {a : Addr} {ns : List Int} (e : σ[0]? = some (some (.ref a))) (hs : SqL K H a (ns.map V.int)) (hl : ns.length ≤ 63)
    (q : ∀ v H' fp, Same H H' → Rp K H' v (boxD ns) fp → fp.Nodup → (∀ b ∈ fp, H b = none) → Q v H') :
    tLst (tCons (tCB (fun xs H Q => ∃ p ys, xs = [.ref p] ∧ (SqL K H p ys ∨ SqT K H p ys) ∧ ∀ l, H l = none → Q (.ref l) (upd H l (.lst ys))) (tCons (tSl (rSlL K) (tVar 0) tNoPart (tPart (tC (.int 63)))) tNil))
      (tCons (tC (.int 0)) (tCons (tOp (rI0 fun i j => .int (i + j)) (tC (.int 4711)) (tCB (fun xs H Q => ∃ p ys, xs = [.ref p] ∧ (SqL K H p ys ∨ SqT K H p ys) ∧ Q (.int ys.length) H) (tCons (tVar 0) tNil))) tNil))) σ H Q := by
  refine ⟨.ref a, e, 63, rfl, a, _, rfl, hs, fun p np => ?_⟩
  rw [show cutV (ns.map V.int) none (some 63) = ns.map V.int from cut_all ns 63 hl]
  refine ⟨p, ns.map V.int, rfl, .inl (.inl (.inl upd_same)), fun l nl => ?_⟩
  have s1 : Same H (upd H p (.lst (ns.map V.int))) := PV.same_upd np
  have s2 : Same (upd H p (.lst (ns.map V.int))) (upd (upd H p (.lst (ns.map V.int))) l (.lst (ns.map V.int))) := PV.same_upd nl
  have nl' : H l = none := Same.new s1 nl
  refine ⟨.ref a, e, ⟨a, _, rfl, .inl (seq_keep hs (same_trans s1 s2)), 4711, ((ns.map V.int).length : Int), rfl, rfl, ?_⟩⟩
  refine ⟨by show 3 ≤ sizeLine; decide, fun x nx => ?_⟩
  have s3 := PV.same_upd (o := .lst [V.ref l, V.int 0, V.int (4711 + ((ns.map V.int).length : Int))]) nx
  have hlx : l ≠ x := fun z => by rw [← z, upd_same] at nx; cases nx
  refine q _ _ [x, l] (same_trans s1 (same_trans s2 s3)) ?_ ?_ fun b m => ?_
  · have rl : Rp K (upd (upd (upd H p (.lst (ns.map V.int))) l (.lst (ns.map V.int))) x (.lst [V.ref l, V.int 0, V.int (4711 + ((ns.map V.int).length : Int))])) (.ref l) (.list (intL ns)) [l] :=
      .lst (by rw [upd_ne hlx]; exact upd_same) (by rw [List.length_map]; exact mil_line (by omega)) (RpL.ofInts ns)
    refine .lst upd_same (by show 3 ≤ sizeLine; decide) (.cons (f := [l]) (fs := []) rl (.cons (f := []) (fs := []) (.int 0) (.cons (f := []) (fs := []) ?_ .nil)))
    rw [List.length_map]; exact .int _
  · simp [Ne.symm hlx]
  · simp only [List.mem_cons, List.not_mem_nil, or_false] at m
    rcases m with m | m
    · rw [m]; exact Same.new (same_trans s1 s2) nx
    · rw [m]; exact nl'
def rhoL (n : Nat) (d : D) : Rh := none :: some ⟨d, .own⟩ :: List.replicate (n - 2) none
def BoxOk (K : PySem.W.Frag) (d : List Int → D) (t : TE) : Prop := ∀ (σ : L2.St) (H : Hp) (a : Addr) (ns : List Int) (Q : VK), σ[0]? = some (some (.ref a)) → SqL K H a (ns.map V.int) → ns.length ≤ 63 → (∀ v H' fp, Same H H' → Rp K H' v (d ns) fp → fp.Nodup → (∀ b ∈ fp, H b = none) → Q v H') → t σ H Q
theorem boxOk_call {K : PySem.W.Frag} {d : List Int → D} {E : XK} : BoxOk K d (tCall (spBox K d) [] E (tCons (tVar 0) tNil)) := by
  intro σ H a ns Q e hs hl q
  exact ⟨.ref a, e, a, ns, rfl, hs, hl, q⟩
def spLaw (K : PySem.W.Frag) : Sp := fun vs H Q _ => ∃ (a : Addr) (ns : List Int), vs = [.ref a] ∧ SqL K H a (ns.map V.int) ∧ ns.length ≤ 63 ∧ ∀ H', Q (.bl true) H'
section
variable {P : Program} {w : World} {K : PySem.W.Frag} {mg : Str → Option Value} {base : Heap}
theorem law_of {st : Stmt} {f : Addr} {fd : FuncData} {N : List Str} {k : Nat} {d : List Int → D} {B : Rh → Out} (F : FnD K "law" "law" st f fd) (S : FnScope N ["script"] (defScope st)) (hN : 2 ≤ N.length)
    (hb : ∀ (cdv : Value) (A : Around) (outer : List Env) (s : Shared) (H : Hp) (E : XK), Room k (A.deeper (envOfC "law" (defScope st) s.heap.objs.size f cdv)) →
      ∃ (st1 : Stmt) (rest : List Stmt) (t1 : TE), defBody st = st1 :: rest ∧ PS (cxOf CX0 P w K mg base N "law" (defScope st) f cdv A outer s H E).nox st1 (tAsg t1 (gName 1)) ∧ BoxOk K d t1 ∧ BS (cxOf CX0 P w K mg base N "law" (defScope st) f cdv A outer s H E).nox rest B)
    (hm : ∀ ns : List Int, ns.length ≤ 63 → ∃ ρ', B (rhoL N.length (d ns)) = .rt (.bool true) ρ') : FnOk P w K mg base CX0 (k + 1) f fd ["script"] (spLaw K) := by
  refine F.walk S (fun vs H Q E h => by obtain ⟨a, ns, rfl, _⟩ := h; rfl) fun cdv A outer s H vs Q E hr h => ?_
  obtain ⟨a, ns, rfl, hS, hlen, q⟩ := h
  obtain ⟨st1, rest, t1, hst, p1, b1, t2, p2, q2⟩ := hb cdv A outer s H E hr
  rw [hst]
  refine ⟨_, pss_cons p1 p2, ?_⟩
  have e0 : (start N [V.ref a])[0]? = some (some (.ref a)) := start_get rfl
  have hlenS : (start N [V.ref a]).length = N.length := by unfold L2.start; simp; omega
  refine b1 _ H a ns _ e0 hS hlen fun v H1 fp s1 r nd nw => ?_
  obtain ⟨ρ', hB⟩ := hm ns hlen
  have hl2 : (rhoL N.length (d ns)).length = N.length := by unfold rhoL; simp; omega
  have hg : ∀ (i : Nat) (c : Cl), (rhoL N.length (d ns))[i]? = some (some c) → i = 1 ∧ c = ⟨d ns, .own⟩ := fun i c e => by
    unfold rhoL at e
    match i, e with
    | 0, e => simp at e
    | 1, e => simp at e; exact ⟨rfl, e.symm⟩
    | i + 2, e =>
      simp only [List.getElem?_cons_succ] at e
      have := List.mem_of_getElem? e
      rw [List.mem_replicate] at this
      cases this.2
  have R : Rho K ⟨fun b => H b ≠ none, fun _ => False⟩ (fun _ => none) (rhoL N.length (d ns)) ((start N [V.ref a]).set 1 (some v)) H1 (fun _ => fp) := by
    refine ⟨by rw [List.length_set, hl2, hlenS], fun b h z => ?_, fun i c e => ?_, fun i c e wr => ?_, fun i c e b m z => z, fun i j c c' hij e wr e' => ?_, fun i v z => nomatch z⟩
    · rcases h with h | h
      · cases q : H b with
        | none => exact h q
        | some o => rw [s1 b o q] at z; cases z
      · exact h
    · obtain ⟨rfl, rfl⟩ := hg i c e
      exact ⟨v, by rw [List.getElem?_set_self (by omega)], r⟩
    · exact ⟨nd, fun b m z => z (nw b m)⟩
    · exact absurd ((hg i c e).1.trans (hg j c' e').1.symm) hij
  refine q2 _ _ _ _ H1 _ _ R ?_
  rw [hB]
  intro v2 σ2 H2 f2 fp2 R2 fr2 k2
  have hv : v2 = .bl true := by have := fr2.rp; cases this; rfl
  subst hv
  exact q H2
end
end PV

set_option Elab.async false
set_option linter.all false
set_option maxRecDepth 100000
set_option maxHeartbeats 2000000
namespace PV
open PySem PySem.Spec PyProof.Rows L2

/-! ### the next number of the script: a pop from a list within the box -/
def Ev (t : TE) (σ : L2.St) (H : Hp) (v : V) : Prop := ∀ Q : VK, Q v H → t σ H Q
abbrev tI (i : Int) : TE := tC (.int i)
abbrev tAddO (a b : TE) : TE := tOp (rI0 fun i j => .int (i + j)) a b
abbrev tSubO (a b : TE) : TE := tOp (rI0 fun i j => .int (i - j)) a b
abbrev tMulO (a b : TE) : TE := tOp (rI CMul fun i j => .int (i * j)) a b
abbrev tModO (a b : TE) : TE := tOp (rI (fun _ j => 0 < j) fun i j => .int (i % j)) a b
abbrev tIntO (a : TE) : TE := tCB (fun xs H Q => (∃ i, xs = [.int i] ∧ Q (.int i) H) ∨ ∃ k, xs = [.bl k] ∧ Q (.int (if k then 1 else 0)) H) (tCons a tNil)
abbrev tBox (K : PySem.W.Frag) (i : Int) : TE := tOp (rIxL K) (tVar 0) (tI i)
section
variable {σ : L2.St} {H : Hp} {ta tb : TE} {i j : Int}
theorem Ev.c {v : V} : Ev (tC v) σ H v := fun Q q => q
theorem Ev.var {n : Nat} {v : V} (h : σ[n]? = some (some v)) : Ev (tVar n) σ H v := fun Q q => ⟨v, h, q⟩
theorem Ev.add (ha : Ev ta σ H (.int i)) (hb : Ev tb σ H (.int j)) : Ev (tAddO ta tb) σ H (.int (i + j)) := fun Q q => ha _ (hb _ ⟨i, j, rfl, rfl, q⟩)
theorem Ev.sub (ha : Ev ta σ H (.int i)) (hb : Ev tb σ H (.int j)) : Ev (tSubO ta tb) σ H (.int (i - j)) := fun Q q => ha _ (hb _ ⟨i, j, rfl, rfl, q⟩)
theorem Ev.mul (ha : Ev ta σ H (.int i)) (hb : Ev tb σ H (.int j)) (hc : CMul i j) : Ev (tMulO ta tb) σ H (.int (i * j)) := fun Q q => ha _ (hb _ ⟨i, j, rfl, rfl, hc, q⟩)
theorem Ev.mod (ha : Ev ta σ H (.int i)) (hb : Ev tb σ H (.int j)) (hc : 0 < j) : Ev (tModO ta tb) σ H (.int (i % j)) := fun Q q => ha _ (hb _ ⟨i, j, rfl, rfl, hc, q⟩)
theorem Ev.toInt (ha : Ev ta σ H (.int i)) : Ev (tIntO ta) σ H (.int i) := fun Q q => ha _ (.inl ⟨i, rfl, q⟩)
theorem Ev.box {K : PySem.W.Frag} {a : Addr} {xs : List V} {v : V} (h0 : σ[0]? = some (some (.ref a))) (hH : H a = some (.lst xs)) (hv : atI xs i = some v) : Ev (tBox K i) σ H v := fun Q q => ⟨.ref a, h0, a, xs, i, v, rfl, rfl, .inl (.inl hH), hv, q⟩
end
def ldFst (h : Int) : Int := (h * 48271 + 17) % 2147483629
def ldSnd (h : Int) : Int := (ldFst h * 69621 + 5) % 2147483587
def ldThd (h : Int) : Int := (ldSnd h * 40692 + 3) % 2147483563
def ldOut (h : Int) : Int := ldFst h * 4611686014132420609 + ldSnd h * 2147483647 + ldThd h
def ldSize (c : Int) : Int := if 0 ≤ c then 2 * c else -2 * c - 1
def ldMix (h s : Int) : Int := (h * 69621 + s * 48271 + 11) % 2147483647
def boxOf (cs : List Int) (z h : Int) : D := .list [.list (intL cs), .int z, .int h]
def ldI (cs : List Int) (z h : Int) : Int × D := match cs with
  | [] => (ldOut h, boxOf [] z (ldThd h))
  | c :: r => if 1000000000000000000 ≤ ldSize c then (ldSize c, boxOf r z h) else (ldOut (ldMix h (ldSize c)), boxOf r z (ldThd (ldMix h (ldSize c))))
def F__law_load : List D → Option (D × D)
  | [.list [.list ds, .int z, .int h]] => match intsOf ds with
    | some cs => some (.int (ldI cs z h).1, (ldI cs z h).2)
    | none => none
  | _ => none
abbrev tEnd (K : PySem.W.Frag) : TS :=
  tSeq (tAsg (tModO (tIntO (tAddO (tMulO (tBox K 2) (tI 48271)) (tI 17))) (tI 2147483629)) (gName 4))
  (tSeq (tAsg (tModO (tIntO (tAddO (tMulO (tVar 4) (tI 69621)) (tI 5))) (tI 2147483587)) (gName 5))
  (tSeq (tAsg (tModO (tIntO (tAddO (tMulO (tVar 5) (tI 40692)) (tI 3))) (tI 2147483563)) (gSub (tVar 0) (tI 2) rSetL))
    (tRet (tAddO (tAddO (tMulO (tVar 4) (tI 4611686014132420609)) (tMulO (tVar 5) (tI 2147483647))) (tBox K 2)))))
theorem cm {i j : Int} (h1 : -(2 ^ 64) < j := by decide) (h2 : j < 2 ^ 64 := by decide) : CMul i j := .inr ⟨h1, h2⟩
theorem set6 {σ : L2.St} {n : Nat} {v : Option V} (hl : n < σ.length) : (σ.set n v)[n]? = some v := List.getElem?_set_self hl
theorem load_end {K : PySem.W.Frag} {σ : L2.St} {H : Hp} {a b : Addr} {z h : Int} {Q : VK} {nx : L2.St → Hp → Prop} (hl : σ.length = 6) (h0 : σ[0]? = some (some (.ref a))) (hH : H a = some (.lst [.ref b, .int z, .int h]))
    (q : Q (.int (ldOut h)) (upd H a (.lst [.ref b, .int z, .int (ldThd h)]))) : tEnd K { nx := nx, rt := Q } σ H := by
  have e1 : Ev (tModO (tIntO (tAddO (tMulO (tBox K 2) (tI 48271)) (tI 17))) (tI 2147483629)) σ H (.int (ldFst h)) :=
    .mod (.toInt (.add (.mul (.box h0 hH rfl) .c cm) .c)) .c (by decide)
  refine e1 _ ?_
  have l1 : (σ.set 4 (some (V.int (ldFst h)))).length = 6 := by rw [List.length_set]; exact hl
  have g4 : (σ.set 4 (some (V.int (ldFst h))))[4]? = some (some (.int (ldFst h))) := set6 (by omega)
  have e2 : Ev (tModO (tIntO (tAddO (tMulO (tVar 4) (tI 69621)) (tI 5))) (tI 2147483587)) (σ.set 4 (some (V.int (ldFst h)))) H (.int (ldSnd h)) :=
    .mod (.toInt (.add (.mul (.var g4) .c cm) .c)) .c (by decide)
  refine e2 _ ?_
  have g5 : ((σ.set 4 (some (V.int (ldFst h)))).set 5 (some (V.int (ldSnd h))))[5]? = some (some (.int (ldSnd h))) := set6 (by omega)
  have g4' : ((σ.set 4 (some (V.int (ldFst h)))).set 5 (some (V.int (ldSnd h))))[4]? = some (some (.int (ldFst h))) := by rw [get_set_ne (by decide)]; exact g4
  have g0' : ((σ.set 4 (some (V.int (ldFst h)))).set 5 (some (V.int (ldSnd h))))[0]? = some (some (.ref a)) := by rw [get_set_ne (by decide), get_set_ne (by decide)]; exact h0
  have e3 : Ev (tModO (tIntO (tAddO (tMulO (tVar 5) (tI 40692)) (tI 3))) (tI 2147483563)) ((σ.set 4 (some (V.int (ldFst h)))).set 5 (some (V.int (ldSnd h)))) H (.int (ldThd h)) :=
    .mod (.toInt (.add (.mul (.var g5) .c cm) .c)) .c (by decide)
  refine e3 _ ⟨.ref a, g0', a, _, 2, 2, rfl, rfl, hH, rfl, ?_⟩
  have e4 : Ev (tAddO (tAddO (tMulO (tVar 4) (tI 4611686014132420609)) (tMulO (tVar 5) (tI 2147483647))) (tBox K 2)) ((σ.set 4 (some (V.int (ldFst h)))).set 5 (some (V.int (ldSnd h)))) (upd H a (.lst [.ref b, .int z, .int (ldThd h)])) (.int (ldOut h)) :=
    .add (.add (.mul (.var g4') .c cm) (.mul (.var g5) .c cm)) (.box g0' upd_same rfl)
  exact e4 _ q
abbrev tLoad (K : PySem.W.Frag) : TS :=
  tSeq (tAsg (tOp (rIxL K) (tVar 0) (tI 0)) (gName 1))
  (tSeq (tIfS (tTest (tOp (rI0 fun i j => .bl (decide (j < i))) (tCB (fun xs H Q => ∃ p ys, xs = [.ref p] ∧ (SqL K H p ys ∨ SqT K H p ys) ∧ Q (.int ys.length) H) (tCons (tVar 1) tNil)) (tI 0)))
      (tSeq (tAsg (tIntO (tBM K "list" rPopAt (tVar 1) (tCons (tI 0) tNil))) (gName 2))
      (tSeq (tAsg (tIf (tTest (tOp (rI0 fun i j => .bl (decide (j ≤ i))) (tVar 2) (tI 0))) (tMulO (tI 2) (tVar 2)) (tSubO (tMulO (tUn (rU fun i => .int (-i)) (tI 2)) (tVar 2)) (tI 1))) (gName 3))
      (tSeq (tIfS (tTest (tOp (rI0 fun i j => .bl (decide (j ≤ i))) (tVar 3) (tI 1000000000000000000))) (tRet (tVar 3)) tNext)
        (tAsg (tModO (tIntO (tAddO (tAddO (tMulO (tBox K 2) (tI 69621)) (tMulO (tVar 3) (tI 48271))) (tI 11))) (tI 2147483647)) (gSub (tVar 0) (tI 2) rSetL))))) tNext)
    (tEnd K))
theorem ite_eq {p : Prop} [Decidable p] {A B : Prop} (h1 : p → A) (h2 : ¬ p → B) : if decide p = true then A else B := by
  by_cases h : p
  · rw [if_pos (decide_eq_true h)]; exact h1 h
  · rw [if_neg (by simpa using h)]; exact h2 h
theorem load_run {K : PySem.W.Frag} {H : Hp} {a b : Addr} {cs : List Int} {z h : Int} {Q : VK} {nx : L2.St → Hp → Prop} {N : List Str} (hN : N.length = 6) (hab : a ≠ b) (hH : H a = some (.lst [.ref b, .int z, .int h])) (hB : H b = some (.lst (cs.map V.int)))
    (q : ∀ v H' cs' z' h', (ldI cs z h).1 = v → (ldI cs z h).2 = boxOf cs' z' h' → cs'.length ≤ cs.length → H' a = some (.lst [.ref b, .int z', .int h']) → H' b = some (.lst (cs'.map V.int)) → (∀ x, x ≠ a → x ≠ b → H' x = H x) → Q (.int v) H') :
    tLoad K { nx := nx, rt := Q } (start N [.ref a]) H := by
  have hs : start N [V.ref a] = [some (.ref a), none, none, none, none, none] := by unfold L2.start; rw [hN]; rfl
  rw [hs]
  refine ⟨.ref a, rfl, a, _, 0, .ref b, rfl, rfl, .inl (.inl hH), rfl, ?_⟩
  refine ⟨.ref b, rfl, b, _, rfl, .inl (.inl (.inl hB)), ((cs.map V.int).length : Int), 0, rfl, rfl, _, rfl, ?_⟩
  refine ite_eq (fun hl => ?_) fun hl => ?_
  · cases cs with
    | nil => simp at hl
    | cons c r =>
      refine ⟨.ref b, rfl, .inl ⟨rfl, _, .inl (.inl hB)⟩, b, _, 0, 0, .int c, rfl, rfl, hB, by decide, by decide, ?_, rfl, .inl ⟨c, rfl, ?_⟩⟩
      · unfold seqIndex?; simp
      have hH1 : (upd H b (.lst ((List.map V.int (c :: r)).eraseIdx 0))) a = some (.lst [.ref b, .int z, .int h]) := by rw [upd_ne hab]; exact hH
      generalize hHe : upd H b (.lst ((List.map V.int (c :: r)).eraseIdx 0)) = H1 at *
      have hB1 : H1 b = some (.lst (r.map V.int)) := by rw [← hHe, upd_same]; rfl
      have hO1 : ∀ x, x ≠ b → H1 x = H x := fun x hx => by rw [← hHe, upd_ne hx]
      -- size
      have hsz : Ev (tIf (tTest (tOp (rI0 fun i j => .bl (decide (j ≤ i))) (tVar 2) (tI 0))) (tMulO (tI 2) (tVar 2)) (tSubO (tMulO (tUn (rU fun i => .int (-i)) (tI 2)) (tVar 2)) (tI 1))) [some (.ref a), some (.ref b), some (.int c), none, none, none] H1 (.int (ldSize c)) := fun Q' q' => by
        refine ⟨.int c, rfl, c, 0, rfl, rfl, _, rfl, ite_eq (fun h1 => ?_) fun h1 => ?_⟩
        · have : ldSize c = 2 * c := if_pos h1
          rw [this] at q'
          exact ⟨.int c, rfl, 2, c, rfl, rfl, .inl ⟨by decide, by decide⟩, q'⟩
        · have : ldSize c = -2 * c - 1 := if_neg h1
          rw [this] at q'
          exact ⟨2, rfl, .int c, rfl, -2, c, rfl, rfl, .inl ⟨by decide, by decide⟩, _, _, rfl, rfl, q'⟩
      refine hsz _ ?_
      refine ⟨.int (ldSize c), rfl, _, _, rfl, rfl, _, rfl, ite_eq (fun h1 => ?_) fun h1 => ?_⟩
      · refine ⟨.int (ldSize c), rfl, ?_⟩
        refine q (ldSize c) H1 r z h ?_ ?_ (by simp) hH1 hB1 fun x h1 h2 => hO1 x h2
        · simp only [ldI, if_pos h1]
        · simp only [ldI, if_pos h1]
      · have hmx : Ev (tModO (tIntO (tAddO (tAddO (tMulO (tBox K 2) (tI 69621)) (tMulO (tVar 3) (tI 48271))) (tI 11))) (tI 2147483647)) [some (.ref a), some (.ref b), some (.int c), some (.int (ldSize c)), none, none] H1 (.int (ldMix h (ldSize c))) :=
          .mod (.toInt (.add (.add (.mul (.box rfl hH1 rfl) .c cm) (.mul (.var rfl) .c cm)) .c)) .c (by decide)
        refine hmx _ ⟨.ref a, rfl, a, _, 2, 2, rfl, rfl, hH1, rfl, ?_⟩
        refine load_end (a := a) (b := b) (z := z) (h := ldMix h (ldSize c)) rfl rfl upd_same ?_
        refine q _ _ r z _ ?_ ?_ (by simp) upd_same ?_ fun x h1 h2 => ?_
        · simp only [ldI, if_neg h1]
        · simp only [ldI, if_neg h1]
        · rw [upd_ne (Ne.symm hab), upd_ne (Ne.symm hab)]; exact hB1
        · rw [upd_ne h1, upd_ne h1]; exact hO1 x h2
  · have hc : cs = [] := by
      cases cs with
      | nil => rfl
      | cons c r => exact absurd (by simp <;> omega) hl
    subst hc
    refine load_end (a := a) (b := b) (z := z) (h := h) rfl rfl hH ?_
    refine q _ _ [] z _ rfl rfl (by simp) upd_same ?_ fun x h1 h2 => ?_
    · rw [upd_ne (Ne.symm hab)]; exact hB
    · rw [upd_ne h1]
theorem pureL_ints (cs : List Int) : pureL (cs.map PyData.int) = true := pureL_iff.mpr fun d m => by
  obtain ⟨c, _, rfl⟩ := List.mem_map.mp m; rfl
theorem load_sp {K : PySem.W.Frag} {vs : List V} {H : Hp} {Q : VK} {E : XK} {nx : L2.St → Hp → Prop} {N : List Str} (hN : N.length = 6) (hp : spM K 1 0 F__law_load vs H Q E) : tLoad K { nx := nx, rt := Q } (start N vs) H := by
  obtain ⟨hl, ds, f, r, d', vm, hld, hvm, hf, nd, dj, hF, q⟩ := hp
  unfold F__law_load at hF
  split at hF
  · rename_i dcs z h
    split at hF
    · rename_i cs ei
      cases hF
      have ecs := intsOf_map ei
      subst ecs
      obtain ⟨v, hv, rv⟩ := hf 0 _ rfl
      have hvs : vs = [v] := by
        cases vs with
        | nil => simp at hl
        | cons x xs =>
          cases xs with
          | nil => simp at hv; rw [hv]
          | cons y ys => simp at hl
      subst hvs
      simp at hvm; subst hvm
      generalize f 0 = f0 at *
      cases rv with
      | lst h1 h2 h3 =>
        rename_i a xs fs
        cases h3 with
        | cons r1 r2 =>
          rename_i v1 vs1 f1 fs1
          cases r2 with
          | cons r2 r3 =>
            cases r2
            cases r3 with
            | cons r3 r4 =>
              cases r3
              cases r4
              cases r1 with
              | lst g1 g2 g3 =>
                rename_i b ys fs2
                have hys := g3.ints
                subst hys
                have hfs2 : fs2 = [] := RpL.pure _ _ _ g3 (pureL_ints cs)
                subst hfs2
                simp only [List.append_nil, List.nil_append, List.nodup_cons, List.mem_cons, List.not_mem_nil, or_false, not_false_eq_true, List.nodup_nil, and_true] at nd
                refine load_run hN nd h1 g1 fun v H' cs' z' h' e1 e2 el hA hB' hO => ?_
                subst e1
                refine q (.int _) H' [a, b] [] (fun x o ex hx => ?_) ?_ (by simp [nd]) (fun x m => .inl (by simpa using m)) (.int _) List.nodup_nil fun x m => nomatch m
                · by_cases hxa : x = a
                  · subst hxa
                    rcases hx with hx | hx
                    · exact absurd (by simp) hx.2
                    · rw [h1] at ex; cases ex; exact absurd trivial hx
                  · by_cases hxb : x = b
                    · subst hxb
                      rcases hx with hx | hx
                      · exact absurd (by simp) hx.2
                      · rw [g1] at ex; cases ex; exact absurd trivial hx
                    · rw [hO x hxa hxb]; exact ex
                · rw [e2]
                  have hlen : (cs'.map V.int).length ≤ sizeLine := by
                    rw [List.length_map] at g2 ⊢; omega
                  exact .lst hA (by show 3 ≤ sizeLine; decide) (.cons (f := [b]) (fs := []) (.lst hB' hlen (RpL.ofInts cs')) (.cons (f := []) (fs := []) (.int _) (.cons (f := []) (fs := []) (.int _) .nil)))
    · cases hF
  · cases hF
end PV

set_option Elab.async false
set_option linter.all false
set_option maxRecDepth 100000
set_option maxHeartbeats 2000000
namespace PV
open PySem PySem.Spec PyProof.Rows L2

/-! ### [.. for k in d]: the dict is locked meanwhile -/
def shortK (kvs : List (D × D)) : Bool := kvs.all fun p => match p.1 with
  | .tuple ds => decide (ds.length ≤ 1000000)
  | _ => true
def keysL : D → Option (List D)
  | .dict ((.bool _, _) :: (.none, _) :: kvs) => if shortK kvs = true then some (kvs.map (·.1)) else none
  | .dict ((.bool _, _) :: kvs) => if shortK kvs = true then some (kvs.map (·.1)) else none
  | _ => none
def lockR (i : Nat) (kvs : List (D × D)) (ρ : Rh) : Rh := ρ.mapIdx fun j c => if j = i then some ⟨.dict ((.bool true, .none) :: kvs), .ro⟩ else match c with
  | some c => if pureD c.d = true then some c else none
  | none => none
def eLcD (i : Nat) (p : Pat) (vs : List Nat) (t : Rh → Option Bool) (e : Rh → Option D) : Rh → Option D := fun ρ => match getS i ρ with
  | some (.dict kvs) => if locked (.dict kvs) = false ∧ pureL (kvs.map (·.2)) = true then match eLc p vs (fun ρ => (getS i ρ).bind keysL) t e (lockR i kvs ρ) with
      | some (.list r) => if pureL r = true then some (.list r) else none
      | _ => none
    else none
  | _ => none
theorem kD_rp {K : PySem.W.Frag} {H : Hp} (k : Key) : Rp K H (kV k) (kD k) [] := by
  cases k with
  | inl i => exact .int i
  | inr x => exact .str x
theorem kDs_rp {K : PySem.W.Frag} {H : Hp} : ∀ ks : List Key, RpL K H (ks.map kV) (ks.map kD) []
  | [] => .nil
  | k :: ks => .cons (f := []) (fs := []) (kD_rp k) (kDs_rp ks)
theorem wkOk_keys {K : PySem.W.Frag} {H : Hp} {d : Addr} {o : Obj} {hk : List (Key × V)} (h : H d = some (.frz o (.dK hk))) : WkOk K H (Itk d o hk) (hk.map fun p => kD p.1) [] := by
  refine ⟨⟨_, _, by rw [List.length_map]; exact walk_keys, h, fun H2 k => k _ _ h (.inr id), fun i H2 x H3 hi k y => ?_⟩, fun b m => nomatch m⟩
  obtain ⟨rfl, k0, v, e, rfl⟩ := y
  exact ⟨Same.refl, kD k0, [], by rw [List.getElem?_map, e]; rfl, kD_rp k0, fun a m => nomatch m⟩
theorem wkOk_keysT {K : PySem.W.Frag} {H : Hp} {d : Addr} {o : Obj} {hk : List (List Key × V)} (h : H d = some (.frz o (.dT hk))) (hs : ∀ p ∈ hk, p.1.length ≤ 1000000) : WkOk K H (Itkt d o hk) (hk.map fun p => tD p.1) [] := by
  refine ⟨⟨_, _, by rw [List.length_map]; exact walk_keysT, h, fun H2 k => k _ _ h (.inr id), fun i H2 x H3 hi k y => ?_⟩, fun b m => nomatch m⟩
  obtain ⟨rfl, k0, v, q, e, rfl, hq⟩ := y
  exact ⟨Same.refl, tD k0, [], by rw [List.getElem?_map, e]; rfl, .tup hq (by rw [List.length_map]; exact mil_line (hs _ (List.mem_of_getElem? e))) (kDs_rp k0), fun a m => nomatch m⟩
theorem shortK_t {hk : List (List Key × V)} {kvs : List (D × D)} (h : kvs.map (·.1) = hk.map (fun p => tD p.1)) (hs : shortK kvs = true) : ∀ p ∈ hk, p.1.length ≤ 1000000 := by
  intro p hp
  have : tD p.1 ∈ kvs.map (·.1) := by rw [h]; exact List.mem_map.mpr ⟨p, hp, rfl⟩
  obtain ⟨q, hq, e⟩ := List.mem_map.mp this
  have := List.all_eq_true.mp hs q hq
  rw [e] at this
  simpa [tD] using this
section
variable {X : Cx} {tg it elt : Expr} {ifs : List Expr} {scope : Scope} {own : List (Str × Nat)} {pos : Pos} {i : Nat}
theorem ip_keys (pe : PE X it (tVar i)) : IP X tg it [] (fun ρ => (getS i ρ).bind keysL) := by
  refine ⟨_, pi_keys pe, fun ρ σ H f ds R Rf hd q => ?_⟩
  cases e1 : getS i ρ with
  | none => simp [e1] at hd
  | some d =>
    simp only [e1, Option.bind_some] at hd
    obtain ⟨c, ec, rfl⟩ := getS_some e1
    obtain ⟨v, ev, r⟩ := Rf.rp i c ec
    refine ⟨v, ev, ?_⟩
    unfold keysL at hd
    split at hd
    · rename_i b x y kvs ed
      split at hd
      · rename_i hs
        cases hd
        rw [ed] at r
        generalize f i = fi at r
        cases r with
        | dct h1 h2 =>
          rcases h1 with ⟨hk, g1, g2, g3⟩ | ⟨hk, g1, g2, g3⟩
          · exact (not_bool_kD g2).elim
          · simp at g2
        | dcf h1 h2 =>
          rcases h1 with ⟨ob, hk, g1, g2, g3⟩ | ⟨ob, hk, g1, g2, g3⟩
          · simp only [List.map_cons, List.cons.injEq] at g2
            exact (not_none_kD (p := y) (by simpa using g2.2)).elim
          · simp only [List.map_cons, List.cons.injEq] at g2
            have g4 : kvs.map (·.1) = hk.map (fun p => tD p.1) := g2.2.2
            refine ⟨_, ob, rfl, .inr ⟨hk, g1, ?_⟩⟩
            rw [g4] at q
            exact q _ H [] Same.refl (wkOk_keysT g1 (shortK_t g4 hs)) fun a m => nomatch m
      · cases hd
    · rename_i b x kvs hne ed
      split at hd
      · cases hd
        rw [ed] at r
        generalize f i = fi at r
        cases r with
        | dct h1 h2 =>
          rcases h1 with ⟨hk, g1, g2, g3⟩ | ⟨hk, g1, g2, g3⟩
          · exact (not_bool_kD g2).elim
          · simp at g2
        | dcf h1 h2 =>
          rcases h1 with ⟨ob, hk, g1, g2, g3⟩ | ⟨ob, hk, g1, g2, g3⟩
          · simp only [List.map_cons, List.cons.injEq] at g2
            have g4 := g2.2
            refine ⟨_, ob, rfl, .inl ⟨hk, g1, ?_⟩⟩
            rw [g4] at q
            exact q _ H [] Same.refl (wkOk_keys g1) fun a m => nomatch m
          · cases kvs with
            | nil => simp at g2
            | cons q0 kvs =>
              obtain ⟨q1, q2⟩ := q0
              simp only [List.map_cons, List.cons.injEq] at g2
              obtain ⟨_, g2, _⟩ := g2
              subst g2
              exact (hne _ _ rfl).elim
      · cases hd
    · cases hd
/-! what is pure needs tuples alone -/
mutual
theorem Rp.move {K : PySem.W.Frag} {H H' : Hp} (h : ∀ a xs, H a = some (.tup xs) → H' a = some (.tup xs)) : ∀ (d : D) (v : V) (fp : List Addr), Rp K H v d fp → pureD d = true → Rp K H' v d []
  | .none, _, _, r, _ => by cases r; exact .non
  | .bool b, _, _, r, _ => by cases r; exact .bl b
  | .int b, _, _, r, _ => by cases r; exact .int b
  | .str b, _, _, r, _ => by cases r; exact .str b
  | .list ds, _, _, r, p => by cases p
  | .dict ds, _, _, r, p => by cases p
  | .tuple ds, _, _, r, p => by
    cases r with
    | tup h1 h2 h3 => exact .tup (h _ _ h1) h2 (RpL.move h ds _ _ h3 (by simpa [pureD] using p))
theorem RpL.move {K : PySem.W.Frag} {H H' : Hp} (h : ∀ a xs, H a = some (.tup xs) → H' a = some (.tup xs)) : ∀ (ds : List D) (vs : List V) (fp : List Addr), RpL K H vs ds fp → pureL ds = true → RpL K H' vs ds []
  | [], _, _, r, _ => by cases r; exact .nil
  | d :: ds, _, _, r, p => by
    cases r with
    | cons h1 h2 =>
      simp only [pureL, Bool.and_eq_true] at p
      exact .cons (f := []) (fs := []) (Rp.move h d _ _ h1 p.1) (RpL.move h ds _ _ h2 p.2)
end
theorem ep_lcD {p : Pat} {t : Rh → Option Bool} {e : Rh → Option D} (hc : X.calm = true) (hN : X.N.Nodup) (pi : PE X it (tVar i)) (ok : BlkOk X.N X.env.scope scope own)
    (hg : ∀ (s : Shared) (H : Hp) (C : Addr) (cl : List (Str × Addr)) (fp : List Addr), PatC (X.blk s H scope (compEnvC scope cl C X.env) fp) tg p (own.map (·.2)))
    (ht : ∀ (s : Shared) (H : Hp) (C : Addr) (cl : List (Str × Addr)) (fp : List Addr), TPs (X.blk s H scope (compEnvC scope cl C X.env) fp) ifs t)
    (he : ∀ (s : Shared) (H : Hp) (C : Addr) (cl : List (Str × Addr)) (fp : List Addr), EP true (X.blk s H scope (compEnvC scope cl C X.env) fp) elt e) (hs : ∀ x, foldedSetIterable it X.env x = pure x := by intro _; rfl) :
    EP true X (.ListComp elt [⟨tg, it, ifs, 0⟩] scope pos) (eLcD i p (own.map (·.2)) t e) := by
  obtain ⟨wi, pi2, hiq⟩ := ip_keys (tg := tg) pi
  refine ⟨_, pe_lock (pe_lc (g := cP X.K p (own.map (·.2))) (tt := cT X.K t) (te := cE X.K e) hc hN pi2 ok (fun s H C cl fp => (hg s H C cl fp).canon) (fun s H C cl fp => (ht s H C cl fp).canon) (fun s H C cl fp => (he s H C cl fp).canon) hs), fun ρ σ H d Q R h q => ?_⟩
  unfold eLcD at h
  split at h
  · rename_i kvs e1
    split at h
    · rename_i hcond
      split at h
      · rename_i r e2
        split at h
        · rename_i hpure
          cases h
          obtain ⟨c, ec, ed⟩ := getS_some e1
          obtain ⟨v, fv, ev, rv⟩ := R.rp i c ec
          rw [ed] at rv
          obtain ⟨a, vs, fs, rfl, rfl, hd, rl⟩ := rv.dctInv hcond.1
          have hfs : fs = [] := RpL.pure _ _ _ rl hcond.2
          subst hfs
          -- what stands there
          obtain ⟨u, hu, mu, hfz⟩ : ∃ u, H a = some u ∧ Mut (some u) ∧ ∀ o, IsFrz (upd H a (.frz o u)) a (.bool true :: kvs.map (·.1)) (.non :: vs) := by
            rcases hd with ⟨hk, g1, g2, g3⟩ | ⟨hk, g1, g2, g3⟩
            · exact ⟨_, g1, trivial, fun o => .inl ⟨o, hk, upd_same, by rw [g2], by rw [g3]⟩⟩
            · exact ⟨_, g1, trivial, fun o => .inr ⟨o, hk, upd_same, by rw [g2], by rw [g3]⟩⟩
          refine ⟨a, u, hu, mu, fun od => ?_⟩
          have tupL : ∀ b xs, H b = some (.tup xs) → (upd H a (.frz od u)) b = some (.tup xs) := fun b xs hb => by
            rw [upd_ne (fun z => by subst z; rw [hu] at hb; cases hb; exact mu)]; exact hb
          have RL : RhR X.K (lockR i kvs ρ) σ (upd H a (.frz od u)) := by
            refine ⟨by rw [R.len]; simp [lockR], fun j c2 e3 => ?_⟩
            unfold lockR at e3
            rw [List.getElem?_mapIdx] at e3
            cases e4 : ρ[j]? with
            | none => rw [e4] at e3; cases e3
            | some c3 =>
              rw [e4] at e3
              simp only [Option.map_some, Option.some.injEq] at e3
              by_cases hj : j = i
              · subst hj
                rw [if_pos rfl] at e3
                cases e3
                exact ⟨.ref a, [], ev, .dcf (vs := .non :: vs) (hfz od) (.cons (f := []) (fs := []) .non (RpL.move tupL _ _ _ rl hcond.2))⟩
              · rw [if_neg hj] at e3
                cases c3 with
                | none => cases e3
                | some c4 =>
                  simp only at e3
                  split at e3
                  · rename_i hp
                    cases e3
                    obtain ⟨v4, f4, ev4, r4⟩ := R.rp j c2 e4
                    exact ⟨v4, [], ev4, Rp.move tupL _ _ _ r4 hp⟩
                  · cases e3
          refine lc_sound (elt := elt) (tg := tg) (iter := it) hiq (lockR i kvs ρ) σ (upd H a (.frz od u)) (.list r) _ RL e2 fun v2 H2 fp2 s2 r2 n2 => ?_
          have hz : H2 a = some (.frz od u) := s2 _ _ upd_same
          refine ⟨hz, ?_⟩
          cases r2 with
          | lst k1 k2 k3 =>
            rename_i l xs fs2
            have hf2 : fs2 = [] := RpL.pure _ _ _ k3 hpure
            subst hf2
            have hla : l ≠ a := fun z => by rw [z, hz] at k1; cases k1
            have hl0 : H l = none := by have := n2.2 l (by simp); rw [upd_ne hla] at this; exact this
            refine q (.ref l) _ [l] (fun b o hb => ?_) (.lst (by rw [upd_ne hla]; exact k1) k2 (RpL.move (fun b ys hb => ?_) _ _ _ k3 hpure)) fun _ => ⟨by simp, fun b m => by rw [List.mem_singleton] at m; rw [m]; exact hl0⟩
            · by_cases hba : b = a
              · subst hba; rw [upd_same, ← hu, hb]
              · rw [upd_ne hba]; exact s2 b o (by rw [upd_ne hba]; exact hb)
            · rw [upd_ne (fun z => by rw [z, hz] at hb; cases hb)]; exact hb
        · cases h
      · cases h
    · cases h
  · cases h
end
end PV

set_option Elab.async false
set_option linter.all false
set_option maxRecDepth 100000
set_option maxHeartbeats 4000000
/-! what the readings compute, for simp -/
namespace PV
open PySem PySem.Spec PyProof.Rows L2
@[simp] theorem sRet_e (g : Rh → Option (D × Rh)) (ρ : Rh) : sRet g ρ = (fun ρ => match g ρ with
  | some (d, ρ1) => .rt d ρ1
  | none => .no : Rh → Out) ρ := rfl
@[simp] theorem sSeq_e (f g : Rh → Out) (ρ : Rh) : sSeq f g ρ = (fun ρ => match f ρ with
  | .nx ρ' => g ρ'
  | o => o : Rh → Out) ρ := rfl
@[simp] theorem sIf_e (t : Rh → Option (Bool × Rh)) (f g : Rh → Out) (ρ : Rh) : sIf t f g ρ = (fun ρ => match t ρ with
  | some (true, ρ1) => f ρ1
  | some (false, ρ1) => g ρ1
  | none => .no : Rh → Out) ρ := rfl
@[simp] theorem sSet_e (p : Pat) (g : Rh → Option (D × Rh)) (ρ : Rh) : sSet p g ρ = (fun ρ => match g ρ with
  | some (d, ρ1) => match patS .own p d ρ1 with
    | some ρ2 => .nx ρ2
    | none => .no
  | none => .no : Rh → Out) ρ := rfl
@[simp] theorem sNil_e  (ρ : Rh) : sNil ρ = (.nx : Rh → Out) ρ := rfl
@[simp] theorem sDrop_e (g : Rh → Option (D × Rh)) (ρ : Rh) : sDrop g ρ = (fun ρ => match g ρ with
  | some (_, ρ1) => .nx ρ1
  | none => .no : Rh → Out) ρ := rfl
@[simp] theorem lift_e {α : Type} (h : Rh → Option α) (ρ : Rh) : lift h ρ = (fun ρ => (h ρ).map fun d => (d, ρ) : Rh → Option (α × Rh)) ρ := rfl
@[simp] theorem eand_e (h1 h2 : Rh → Option D) (ρ : Rh) : eand h1 h2 ρ = (fun ρ => match h1 ρ with
  | some (.bool true) => h2 ρ
  | some (.bool false) => some (.bool false)
  | _ => none : Rh → Option D) ρ := rfl
@[simp] theorem eor_e (h1 h2 : Rh → Option D) (ρ : Rh) : eor h1 h2 ρ = (fun ρ => match h1 ρ with
  | some (.bool false) => h2 ρ
  | some (.bool true) => some (.bool true)
  | _ => none : Rh → Option D) ρ := rfl
@[simp] theorem u1_e (fn : D → Option D) (h : Rh → Option D) (ρ : Rh) : u1 fn h ρ = (fun ρ => (h ρ).bind fn : Rh → Option D) ρ := rfl
@[simp] theorem w1_e (fn : D → Option D) (g : Rh → Option (D × Rh)) (ρ : Rh) : w1 fn g ρ = (fun ρ => match g ρ with
  | some (d, ρ') => (fn d).map fun z => (z, ρ')
  | none => none : Rh → Option (D × Rh)) ρ := rfl
@[simp] theorem cst_e (d : D) (ρ : Rh) : cst d ρ = (fun _ => some d : Rh → Option D) ρ := rfl
@[simp] theorem o2_e (fn : D → D → Option D) (h1 h2 : Rh → Option D) (ρ : Rh) : o2 fn h1 h2 ρ = (fun ρ => match h1 ρ, h2 ρ with
  | some x, some y => fn x y
  | _, _ => none : Rh → Option D) ρ := rfl
@[simp] theorem v2_e (fn : D → D → Option D) (g1 g2 : Rh → Option (D × Rh)) (ρ : Rh) : v2 fn g1 g2 ρ = (fun ρ => match g1 ρ with
  | some (x, ρ1) => match g2 ρ1 with
    | some (y, ρ2) => (fn x y).map fun z => (z, ρ2)
    | none => none
  | none => none : Rh → Option (D × Rh)) ρ := rfl
@[simp] theorem aCons_e (h : Rh → Option D) (hs : Rh → Option (List D)) (ρ : Rh) : aCons h hs ρ = (fun ρ => match h ρ, hs ρ with
  | some d, some ds => some (d :: ds)
  | _, _ => none : Rh → Option (List D)) ρ := rfl
@[simp] theorem aNil_e  (ρ : Rh) : aNil ρ = (fun _ => some [] : Rh → Option (List D)) ρ := rfl
@[simp] theorem bCons_e (g : Rh → Option (D × Rh)) (gs : Rh → Option (List D × Rh)) (ρ : Rh) : bCons g gs ρ = (fun ρ => match g ρ with
  | some (d, ρ1) => match gs ρ1 with
    | some (ds, ρ2) => some (d :: ds, ρ2)
    | none => none
  | none => none : Rh → Option (List D × Rh)) ρ := rfl
@[simp] theorem bNil_e  (ρ : Rh) : bNil ρ = (fun ρ => some ([], ρ) : Rh → Option (List D × Rh)) ρ := rfl
@[simp] theorem qB_e (h : Rh → Option D) (ρ : Rh) : qB h ρ = (fun ρ => (h ρ).bind asB : Rh → Option Bool) ρ := rfl
@[simp] theorem qT_e (h : Rh → Option D) (ρ : Rh) : qT h ρ = (fun ρ => (h ρ).bind truD : Rh → Option Bool) ρ := rfl
@[simp] theorem wB_e (g : Rh → Option (D × Rh)) (ρ : Rh) : wB g ρ = (fun ρ => match g ρ with | some (.bool b, ρ') => some (b, ρ') | _ => none : Rh → Option (Bool × Rh)) ρ := rfl
@[simp] theorem pnot_e (h : Rh → Option Bool) (ρ : Rh) : pnot h ρ = (fun ρ => (h ρ).map fun b => !b : Rh → Option Bool) ρ := rfl
@[simp] theorem por_e (g1 g2 : Rh → Option Bool) (ρ : Rh) : por g1 g2 ρ = (fun ρ => match g1 ρ with
  | some false => g2 ρ
  | o => o : Rh → Option Bool) ρ := rfl
@[simp] theorem pand_e (g1 g2 : Rh → Option Bool) (ρ : Rh) : pand g1 g2 ρ = (fun ρ => match g1 ρ with
  | some true => g2 ρ
  | o => o : Rh → Option Bool) ρ := rfl
@[simp] theorem tnot_e (h : Rh → Option (Bool × Rh)) (ρ : Rh) : tnot h ρ = (fun ρ => (h ρ).map fun p => (!p.1, p.2) : Rh → Option (Bool × Rh)) ρ := rfl
@[simp] theorem tor_e (g1 g2 : Rh → Option (Bool × Rh)) (ρ : Rh) : tor g1 g2 ρ = (fun ρ => match g1 ρ with
  | some (false, ρ1) => g2 ρ1
  | o => o : Rh → Option (Bool × Rh)) ρ := rfl
@[simp] theorem tand_e (g1 g2 : Rh → Option (Bool × Rh)) (ρ : Rh) : tand g1 g2 ρ = (fun ρ => match g1 ρ with
  | some (true, ρ1) => g2 ρ1
  | o => o : Rh → Option (Bool × Rh)) ρ := rfl
@[simp] theorem eif_e (t : Rh → Option Bool) (h1 h2 : Rh → Option D) (ρ : Rh) : eif t h1 h2 ρ = (fun ρ => match t ρ with
  | some true => h1 ρ
  | some false => h2 ρ
  | none => none : Rh → Option D) ρ := rfl
@[simp] theorem vif_e (t : Rh → Option (Bool × Rh)) (h1 h2 : Rh → Option (D × Rh)) (ρ : Rh) : vif t h1 h2 ρ = (fun ρ => match t ρ with
  | some (true, ρ1) => h1 ρ1
  | some (false, ρ1) => h2 ρ1
  | none => none : Rh → Option (D × Rh)) ρ := rfl
@[simp] theorem fnE_e (fn : List D → Option D) (h : Rh → Option (List D)) (ρ : Rh) : fnE fn h ρ = (fun ρ => match h ρ with
  | some ds => fn ds
  | none => none : Rh → Option D) ρ := rfl
@[simp] theorem fnV_e (fn : List D → Option D) (g : Rh → Option (List D × Rh)) (ρ : Rh) : fnV fn g ρ = (fun ρ => match g ρ with
  | some (ds, ρ') => (fn ds).map fun d => (d, ρ')
  | none => none : Rh → Option (D × Rh)) ρ := rfl
@[simp] theorem gE_e (h : Rh → Option D) (ρ : Rh) : gE h ρ = (fun ρ => (h ρ).bind gd : Rh → Option D) ρ := rfl
@[simp] theorem gd_e (d : D) : gd d = (if pureD d = true then some d else none : Option D) := rfl
@[simp] theorem mkT_e (h : Rh → Option (List D)) (ρ : Rh) : mkT h ρ = (fun ρ => match h ρ with
  | some ds => if ds.length ≤ 1000000 then some (.tuple ds) else none
  | none => none : Rh → Option D) ρ := rfl
@[simp] theorem mkL_e (h : Rh → Option (List D)) (ρ : Rh) : mkL h ρ = (fun ρ => match h ρ with
  | some ds => if ds.length ≤ 1000000 then some (.list ds) else none
  | none => none : Rh → Option D) ρ := rfl
@[simp] theorem nkT_e (g : Rh → Option (List D × Rh)) (ρ : Rh) : nkT g ρ = (fun ρ => match g ρ with
  | some (ds, ρ') => if ds.length ≤ 1000000 then some (.tuple ds, ρ') else none
  | none => none : Rh → Option (D × Rh)) ρ := rfl
@[simp] theorem nkL_e (g : Rh → Option (List D × Rh)) (ρ : Rh) : nkL g ρ = (fun ρ => match g ρ with
  | some (ds, ρ') => if ds.length ≤ 1000000 then some (.list ds, ρ') else none
  | none => none : Rh → Option (D × Rh)) ρ := rfl
@[simp] theorem notT_e (d : D) : notT d = ((truD d).map fun b => .bool !b : Option D) := rfl
@[simp] theorem chn_e (fn fn' : D → D → Option D) (h1 h2 h3 : Rh → Option D) (ρ : Rh) : chn fn fn' h1 h2 h3 ρ = (fun ρ => match h1 ρ, h2 ρ with
  | some x, some y => match fn x y with
    | some (.bool true) => match h3 ρ with
      | some z => fn' y z
      | none => none
    | some (.bool false) => some (.bool false)
    | _ => none
  | _, _ => none : Rh → Option D) ρ := rfl
@[simp] theorem runF_e (np n : Nat) (B : Rh → Out) (ds : List D) : runF np n B ds = (if ds.length = np then runP n B ds else none : Option D) := rfl
@[simp] theorem iS_e (h : Rh → Option D) (ρ : Rh) : iS h ρ = (fun ρ => (h ρ).bind seqD : Rh → Option (List D)) ρ := rfl
@[simp] theorem iE_e (h : Rh → Option D) (ρ : Rh) : iE h ρ = (fun ρ => ((h ρ).bind seqD).map enumD : Rh → Option (List D)) ρ := rfl
@[simp] theorem iR1_e (h : Rh → Option (List D)) (ρ : Rh) : iR1 h ρ = (fun ρ => (h ρ).bind rng1 : Rh → Option (List D)) ρ := rfl
@[simp] theorem iR2_e (h : Rh → Option (List D)) (ρ : Rh) : iR2 h ρ = (fun ρ => (h ρ).bind rng2 : Rh → Option (List D)) ρ := rfl
@[simp] theorem eLc_e (p : Pat) (vs : List Nat) (hi : Rh → Option (List D)) (t : Rh → Option Bool) (e : Rh → Option D) (ρ : Rh) : eLc p vs hi t e ρ = (fun ρ => match hi ρ with
  | none => none
  | some ds => if ds.length ≤ 1000000 then (match lcS (stepE p t e (wipR ρ vs)) ds with
    | none => none
    | some r => some (.list r)) else none : Rh → Option D) ρ := rfl
@[simp] theorem tAll_e  (ρ : Rh) : tAll ρ = (fun _ => some true : Rh → Option Bool) ρ := rfl
@[simp] theorem stepE_e (p : Pat) (t : Rh → Option Bool) (e : Rh → Option D) (ρ : Rh) (d : D) : stepE p t e ρ d = (match patS .ro p d ρ with
  | none => none
  | some ρ1 => match t ρ1 with
    | none => none
    | some false => some none
    | some true => match e ρ1 with
      | none => none
      | some x => some (some x) : Option (Option D)) := rfl
@[simp] theorem mvS_e (i : Nat) (ρ : Rh) : mvS i ρ = (match ρ[i]? with
  | some (some ⟨d, o⟩) => if pureD d = true then some (d, ρ) else match o with
    | .own => some (d, ρ.set i none)
    | _ => none
  | _ => none : Option (D × Rh)) := rfl
@[simp] theorem opn_e  (ρ : Rh) : opn ρ = (fun _ => some none : Rh → Option (Option Int)) ρ := rfl
@[simp] theorem ops_e (h : Rh → Option D) (ρ : Rh) : ops h ρ = (fun ρ => match h ρ with
  | some (.int i) => some (some i)
  | _ => none : Rh → Option (Option Int)) ρ := rfl
@[simp] theorem slE_e (h : Rh → Option D) (lo hi : Rh → Option (Option Int)) (ρ : Rh) : slE h lo hi ρ = (fun ρ => match h ρ, lo ρ, hi ρ with
  | some d, some l, some u => cutS d l u
  | _, _, _ => none : Rh → Option D) ρ := rfl
@[simp] theorem sPar_e (i j : Nat) (g : Rh → Option (List D × Rh)) (ρ : Rh) : sPar i j g ρ = (fun ρ => match g ρ with
  | some ([d, d'], ρ1) => match setS i ⟨d, .own⟩ ρ1 with
    | some ρ2 => match setS j ⟨d', .own⟩ ρ2 with
      | some ρ3 => .nx ρ3
      | none => .no
    | none => .no
  | _ => .no : Rh → Out) ρ := rfl
@[simp] theorem sFor_e (bs : List Nat) (p : Pat) (g : Rh → Option (List D × Rh)) (b : Rh → Out) (ρ : Rh) : sFor bs p g b ρ = (fun ρ => match g ρ with
  | none => .no
  | some (ds, ρ1) => match demS bs ρ1 with
    | none => .no
    | some ρ2 => forS p b ds ρ2 : Rh → Out) ρ := rfl
@[simp] theorem ivf_e (fn : List D → Option (List D)) (g : Rh → Option (List D × Rh)) (ρ : Rh) : ivf fn g ρ = (fun ρ => match g ρ with
  | some (ds, ρ') => (fn ds).map fun r => (r, ρ')
  | none => none : Rh → Option (List D × Rh)) ρ := rfl
@[simp] theorem appendV_e (i : Nat) (g : Rh → Option (D × Rh)) (ρ : Rh) : appendV i g ρ = (fun ρ => match lstAt i ρ, g ρ with
  | true, some (d, ρ1) => match wr i ρ1 with
    | some (.list ds, o) => if ds.length + 1 < 1000000 then some (.none, ρ1.set i (some ⟨.list (ds ++ [d]), o⟩)) else none
    | _ => none
  | _, _ => none : Rh → Option (D × Rh)) ρ := rfl
@[simp] theorem extendV_e (i : Nat) (g : Rh → Option (D × Rh)) (ρ : Rh) : extendV i g ρ = (fun ρ => match lstAt i ρ, g ρ with
  | true, some (.list es, ρ1) => match wr i ρ1 with
    | some (.list ds, o) => if ds.length + es.length < 1000000 then some (.none, ρ1.set i (some ⟨.list (ds ++ es), o⟩)) else none
    | _ => none
  | _, _ => none : Rh → Option (D × Rh)) ρ := rfl
@[simp] theorem dgt1_e (h1 h2 : Rh → Option D) (ρ : Rh) : dgt1 h1 h2 ρ = (o2 dgt1D h1 h2 : Rh → Option D) ρ := rfl
@[simp] theorem eLcD_e (i : Nat) (p : Pat) (vs : List Nat) (t : Rh → Option Bool) (e : Rh → Option D) (ρ : Rh) : eLcD i p vs t e ρ = (fun ρ => match getS i ρ with
  | some (.dict kvs) => if locked (.dict kvs) = false ∧ pureL (kvs.map (·.2)) = true then match eLc p vs (fun ρ => (getS i ρ).bind keysL) t e (lockR i kvs ρ) with
      | some (.list r) => if pureL r = true then some (.list r) else none
      | _ => none
    else none
  | _ => none : Rh → Option D) ρ := rfl
@[simp] theorem vLc_e (bs : List Nat) (p : Pat) (vs : List Nat) (gi : Rh → Option (List D × Rh)) (t : Rh → Option (Bool × Rh)) (e : Rh → Option (D × Rh)) (ρ : Rh) : vLc bs p vs gi t e ρ = (fun ρ => match gi ρ with
  | none => none
  | some (ds, ρ1) => if ds.length ≤ 1000000 ∧ noPin ρ1 vs = true then (match demS bs ρ1 with
    | none => none
    | some ρ2 => match lcV p t e vs ds (wipR ρ2 vs) with
      | none => none
      | some (r, ρ3) => some (.list r, ρ3)) else none : Rh → Option (D × Rh)) ρ := rfl
@[simp] theorem callM_e (i : Nat) (as : List Ag) (F : List D → Option (D × D)) (ρ : Rh) : callM i as F ρ = (fun ρ => match runAg as ρ with
  | none => none
  | some (xs, ρ1) => match wr i ρ1 with
    | none => none
    | some (_, o) => match valAgs ρ1 xs with
      | none => none
      | some ds => match F ds with
        | some (r, d') => some (r, ρ1.set i (some ⟨d', o⟩))
        | none => none : Rh → Option (D × Rh)) ρ := rfl
@[simp] theorem ixV_e (i : Nat) (g : Rh → Option (D × Rh)) (ρ : Rh) : ixV i g ρ = (fun ρ => match getS i ρ with
  | some (.list ds) => match pureL ds, g ρ with
    | true, some (k, ρ1) => match getS i ρ1 with
      | some d => match ixD d k with
        | some z => (gd z).map fun z => (z, ρ1)
        | none => none
      | none => none
    | _, _ => none
  | some (.tuple ds) => match pureL ds, g ρ with
    | true, some (k, ρ1) => match getS i ρ1 with
      | some d => match ixD d k with
        | some z => (gd z).map fun z => (z, ρ1)
        | none => none
      | none => none
    | _, _ => none
  | _ => none : Rh → Option (D × Rh)) ρ := rfl
@[simp] theorem sDput_e (i : Nat) (hk : Rh → Option D) (g : Rh → Option (D × Rh)) (ρ : Rh) : sDput i hk g ρ = (fun ρ => match g ρ with
  | some (d, ρ1) => match hk ρ1, wr i ρ1 with
    | some k, some (.dict kvs, ow) => match dputD kvs k d with
      | some kvs' => .nx (ρ1.set i (some ⟨.dict kvs', ow⟩))
      | none => .no
    | _, _ => .no
  | none => .no : Rh → Out) ρ := rfl
@[simp] theorem sSetIx_e (x : Nat) (gi gv : Rh → Option (D × Rh)) (ρ : Rh) : sSetIx x gi gv ρ = (fun ρ => match gv ρ with
  | some (d, ρ1) => match getS x ρ1, gi ρ1 with
    | some _, some (k, ρ2) => match wr x ρ2 with
      | some (.list ds, ow) => match ixSet ds k d with
        | some ds' => .nx (ρ2.set x (some ⟨.list ds', ow⟩))
        | none => .no
      | _ => .no
    | _, _ => .no
  | none => .no : Rh → Out) ρ := rfl
@[simp] theorem asB_bool (b : Bool) : asB (.bool b) = some b := rfl
@[simp] theorem truD_bool (b : Bool) : truD (.bool b) = some b := rfl
@[simp] theorem truD_none : truD .none = some false := rfl
@[simp] theorem truD_int (i : Int) : truD (.int i) = some (i != 0) := rfl
@[simp] theorem truD_tup (ds : List D) : truD (.tuple ds) = some (!ds.isEmpty) := rfl
@[simp] theorem truD_lst (ds : List D) : truD (.list ds) = some (!ds.isEmpty) := rfl
@[simp] theorem seqD_lst (ds : List D) : seqD (.list ds) = some ds := rfl
@[simp] theorem seqD_tup (ds : List D) : seqD (.tuple ds) = some ds := rfl
@[simp] theorem lenF_lst (ds : List D) : lenF [.list ds] = some (.int ds.length) := rfl
@[simp] theorem lenF_tup (ds : List D) : lenF [.tuple ds] = some (.int ds.length) := rfl
@[simp] theorem subD_int (i j : Int) : subD (.int i) (.int j) = some (.int (i - j)) := rfl
@[simp] theorem gtI_int (i j : Int) : gtI (.int i) (.int j) = some (.bool (decide (j < i))) := rfl
@[simp] theorem geI_int (i j : Int) : geI (.int i) (.int j) = some (.bool (decide (j ≤ i))) := rfl
@[simp] theorem isiD_int_none  : isiD "int" (.none ) = some (.bool false) := isi_int _ rfl
@[simp] theorem isiD_int_bool (b : Bool) : isiD "int" (.bool b) = some (.bool true) := isi_int _ rfl
@[simp] theorem isiD_int_int (i : Int) : isiD "int" (.int i) = some (.bool true) := isi_int _ rfl
@[simp] theorem isiD_int_str (s : Str) : isiD "int" (.str s) = some (.bool false) := isi_int _ rfl
@[simp] theorem isiD_int_tuple (ds : List D) : isiD "int" (.tuple ds) = some (.bool false) := isi_int _ rfl
@[simp] theorem isiD_int_list (ds : List D) : isiD "int" (.list ds) = some (.bool false) := isi_int _ rfl
@[simp] theorem isiD_bool_none  : isiD "bool" (.none ) = some (.bool false) := isi_bool _ rfl
@[simp] theorem isiD_bool_bool (b : Bool) : isiD "bool" (.bool b) = some (.bool true) := isi_bool _ rfl
@[simp] theorem isiD_bool_int (i : Int) : isiD "bool" (.int i) = some (.bool false) := isi_bool _ rfl
@[simp] theorem isiD_bool_str (s : Str) : isiD "bool" (.str s) = some (.bool false) := isi_bool _ rfl
@[simp] theorem isiD_bool_tuple (ds : List D) : isiD "bool" (.tuple ds) = some (.bool false) := isi_bool _ rfl
@[simp] theorem isiD_bool_list (ds : List D) : isiD "bool" (.list ds) = some (.bool false) := isi_bool _ rfl
@[simp] theorem isiD_str_none  : isiD "str" (.none ) = some (.bool false) := isi_str _ rfl
@[simp] theorem isiD_str_bool (b : Bool) : isiD "str" (.bool b) = some (.bool false) := isi_str _ rfl
@[simp] theorem isiD_str_int (i : Int) : isiD "str" (.int i) = some (.bool false) := isi_str _ rfl
@[simp] theorem isiD_str_str (s : Str) : isiD "str" (.str s) = some (.bool true) := isi_str _ rfl
@[simp] theorem isiD_str_tuple (ds : List D) : isiD "str" (.tuple ds) = some (.bool false) := isi_str _ rfl
@[simp] theorem isiD_str_list (ds : List D) : isiD "str" (.list ds) = some (.bool false) := isi_str _ rfl
@[simp] theorem isiD_tuple_none  : isiD "tuple" (.none ) = some (.bool false) := isi_tuple _ rfl
@[simp] theorem isiD_tuple_bool (b : Bool) : isiD "tuple" (.bool b) = some (.bool false) := isi_tuple _ rfl
@[simp] theorem isiD_tuple_int (i : Int) : isiD "tuple" (.int i) = some (.bool false) := isi_tuple _ rfl
@[simp] theorem isiD_tuple_str (s : Str) : isiD "tuple" (.str s) = some (.bool false) := isi_tuple _ rfl
@[simp] theorem isiD_tuple_tuple (ds : List D) : isiD "tuple" (.tuple ds) = some (.bool true) := isi_tuple _ rfl
@[simp] theorem isiD_tuple_list (ds : List D) : isiD "tuple" (.list ds) = some (.bool false) := isi_tuple _ rfl
@[simp] theorem isiD_list_none  : isiD "list" (.none ) = some (.bool false) := isi_list _ rfl
@[simp] theorem isiD_list_bool (b : Bool) : isiD "list" (.bool b) = some (.bool false) := isi_list _ rfl
@[simp] theorem isiD_list_int (i : Int) : isiD "list" (.int i) = some (.bool false) := isi_list _ rfl
@[simp] theorem isiD_list_str (s : Str) : isiD "list" (.str s) = some (.bool false) := isi_list _ rfl
@[simp] theorem isiD_list_tuple (ds : List D) : isiD "list" (.tuple ds) = some (.bool false) := isi_list _ rfl
@[simp] theorem isiD_list_list (ds : List D) : isiD "list" (.list ds) = some (.bool true) := isi_list _ rfl
@[simp] theorem isiD_dict_none  : isiD "dict" (.none ) = some (.bool false) := isi_dict _ rfl
@[simp] theorem isiD_dict_bool (b : Bool) : isiD "dict" (.bool b) = some (.bool false) := isi_dict _ rfl
@[simp] theorem isiD_dict_int (i : Int) : isiD "dict" (.int i) = some (.bool false) := isi_dict _ rfl
@[simp] theorem isiD_dict_str (s : Str) : isiD "dict" (.str s) = some (.bool false) := isi_dict _ rfl
@[simp] theorem isiD_dict_tuple (ds : List D) : isiD "dict" (.tuple ds) = some (.bool false) := isi_dict _ rfl
@[simp] theorem isiD_dict_list (ds : List D) : isiD "dict" (.list ds) = some (.bool false) := isi_dict _ rfl
@[simp] theorem locked_none : locked .none = false := rfl
@[simp] theorem locked_bool (b : Bool) : locked (.bool b) = false := rfl
@[simp] theorem locked_int (b : Int) : locked (.int b) = false := rfl
@[simp] theorem locked_str (b : Str) : locked (.str b) = false := rfl
@[simp] theorem locked_tup (b : List D) : locked (.tuple b) = false := rfl
@[simp] theorem locked_lst (b : List D) : locked (.list b) = false := rfl
@[simp] theorem pureD_none : pureD .none = true := rfl
@[simp] theorem pureD_bool (b : Bool) : pureD (.bool b) = true := rfl
@[simp] theorem pureD_int (b : Int) : pureD (.int b) = true := rfl
@[simp] theorem pureD_str (b : Str) : pureD (.str b) = true := rfl
@[simp] theorem pureD_tup (b : List D) : pureD (.tuple b) = pureL b := by simp [pureD]
@[simp] theorem pureD_lst (b : List D) : pureD (.list b) = false := rfl
@[simp] theorem pureD_dct (b : List (D × D)) : pureD (.dict b) = false := rfl
@[simp] theorem pureL_nil : pureL [] = true := rfl
@[simp] theorem pureL_cons (d : D) (ds : List D) : pureL (d :: ds) = (pureD d && pureL ds) := by simp [pureL]
@[simp] theorem noPin_nil (ρ : Rh) : noPin ρ [] = true := rfl
@[simp] theorem getS_z (c : Cl) (ρ : Rh) : getS 0 (some c :: ρ) = some c.d := rfl
@[simp] theorem getS_s (i : Nat) (c : Option Cl) (ρ : Rh) : getS (i + 1) (c :: ρ) = getS i ρ := rfl
@[simp] theorem wr_s (i : Nat) (c : Option Cl) (ρ : Rh) : wr (i + 1) (c :: ρ) = wr i ρ := rfl
@[simp] theorem wr_own (d : D) (ρ : Rh) : wr 0 (some ⟨d, .own⟩ :: ρ) = some (d, .own) := rfl
@[simp] theorem wr_pin (d : D) (ρ : Rh) : wr 0 (some ⟨d, .pin⟩ :: ρ) = some (d, .pin) := rfl
@[simp] theorem setS_none (c : Cl) (ρ : Rh) : setS 0 c (none :: ρ) = some (some c :: ρ) := rfl
@[simp] theorem setS_own (c : Cl) (d : D) (ρ : Rh) : setS 0 c (some ⟨d, .own⟩ :: ρ) = some (some c :: ρ) := rfl
@[simp] theorem setS_ro (c : Cl) (d : D) (ρ : Rh) : setS 0 c (some ⟨d, .ro⟩ :: ρ) = some (some c :: ρ) := rfl
@[simp] theorem setS_s (i : Nat) (c : Cl) (c' : Option Cl) (ρ : Rh) : setS (i + 1) c (c' :: ρ) = (setS i c ρ).map (c' :: ·) := by
  unfold setS
  simp only [List.getElem?_cons_succ, List.set_cons_succ]
  generalize ρ[i]? = x
  rcases x with _ | _ | ⟨d, o⟩
  · rfl
  · rfl
  · cases o <;> rfl
@[simp] theorem patS_nm (o : Ow) (i : Nat) (d : D) (ρ : Rh) : patS o (.nm i) d ρ = setS i ⟨d, o⟩ ρ := by simp [patS]
@[simp] theorem patS_tp (o : Ow) (ps : List Pat) (ds : List D) (ρ : Rh) : patS o (.tp ps) (.tuple ds) ρ = patsS o ps ds ρ := by simp [patS]
@[simp] theorem patsS_nil (o : Ow) (ρ : Rh) : patsS o [] [] ρ = some ρ := by simp [patsS]
@[simp] theorem patsS_cons (o : Ow) (p : Pat) (ps : List Pat) (d : D) (ds : List D) (ρ : Rh) : patsS o (p :: ps) (d :: ds) ρ = match patS o p d ρ with
  | some ρ1 => patsS o ps ds ρ1
  | none => none := by
  first
    | (rw [patsS]; done)
    | (rw [patsS]; cases patS o p d ρ <;> rfl)
@[simp] theorem wipR_nil (ρ : Rh) : wipR ρ [] = ρ := rfl
@[simp] theorem eqD_int (i j : Int) : eqD (.int i) (.int j) = some (.bool (i == j)) := rfl
@[simp] theorem neD_int (i j : Int) : neD (.int i) (.int j) = some (.bool (!(i == j))) := rfl
@[simp] theorem eqD_bool (i j : Bool) : eqD (.bool i) (.bool j) = some (.bool (i == j)) := rfl
theorem pure_nd {d : D} (h : pureD d = true) : locked d = false := by cases d <;> first | rfl | cases h
@[simp] theorem ltD_tup (a b c d : Int) : ltD (.tuple [.int a, .int b]) (.tuple [.int c, .int d]) = some (.bool (HT.lexLt [a, b] [c, d])) := rfl
theorem ixT {ds : List D} {k : Nat} {d : D} (h : ds[k]? = some d) : ixD (.tuple ds) (.int (k : Int)) = some d := atI_nat h
theorem ixL {ds : List D} {k : Nat} {d : D} (h : ds[k]? = some d) : ixD (.list ds) (.int (k : Int)) = some d := atI_nat h
@[simp] theorem ixT0 (d : D) (ds : List D) : ixD (.tuple (d :: ds)) (.int 0) = some d := ixT (k := 0) rfl
@[simp] theorem ixT1 (c d : D) (ds : List D) : ixD (.tuple (c :: d :: ds)) (.int 1) = some d := ixT (k := 1) rfl
@[simp] theorem ixT2 (b c d : D) (ds : List D) : ixD (.tuple (b :: c :: d :: ds)) (.int 2) = some d := ixT (k := 2) rfl
@[simp] theorem ixT3 (a b c d : D) (ds : List D) : ixD (.tuple (a :: b :: c :: d :: ds)) (.int 3) = some d := ixT (k := 3) rfl
@[simp] theorem ixL0 (d : D) (ds : List D) : ixD (.list (d :: ds)) (.int 0) = some d := ixL (k := 0) rfl
@[simp] theorem ixL1 (c d : D) (ds : List D) : ixD (.list (c :: d :: ds)) (.int 1) = some d := ixL (k := 1) rfl
@[simp] theorem ixL2 (b c d : D) (ds : List D) : ixD (.list (b :: c :: d :: ds)) (.int 2) = some d := ixL (k := 2) rfl
/-- comprehensions, item by item -/
theorem lcS_map {step : D → Option (Option D)} {g : D → D} : ∀ {ds : List D}, (∀ d ∈ ds, step d = some (some (g d))) → lcS step ds = some (ds.map g)
  | [], _ => rfl
  | d :: ds, h => by
    unfold lcS
    rw [h d (List.mem_cons_self), lcS_map fun e m => h e (List.mem_cons_of_mem _ m)]
    rfl
theorem lcS_mapM {α : Type} {step : D → Option (Option D)} {f : α → D} {g : α → D} : ∀ {ds : List α}, (∀ d ∈ ds, step (f d) = some (some (g d))) → lcS step (ds.map f) = some (ds.map g)
  | [], _ => rfl
  | d :: ds, h => by
    rw [List.map_cons]
    unfold lcS
    rw [h d (List.mem_cons_self), lcS_mapM fun e m => h e (List.mem_cons_of_mem _ m)]
    rfl
theorem boolsOf_eq {α : Type} {ds : List α} {g : α → Bool} : boolsOf (ds.map fun d => .bool (g d)) = some (ds.map g) := by
  rw [show (ds.map fun d => PyData.bool (g d)) = (ds.map g).map PyData.bool from by rw [List.map_map]; rfl]
  exact boolsOf_bools _
theorem allF_map {α : Type} {ds : List α} {g : α → Bool} : allF [.list (ds.map fun d => .bool (g d))] = some (.bool (ds.all g)) := by
  simp only [allF, boolsOf_eq]
  simp
theorem rng1_nat (n : Nat) (h : n ≤ 1000000) : rng1 [.int (n : Int)] = some (rangeD 0 n) := by
  simp only [rng1]
  rw [if_pos (by rw [Int.natAbs_natCast]; exact h)]
  rfl
theorem rng1_int {k : Int} (h0 : 0 ≤ k) (h1 : k ≤ 1000000) : rng1 [.int k] = some (rangeD 0 k.toNat) := by
  simp only [rng1]
  rw [if_pos (by omega)]
end PV

set_option Elab.async false
set_option linter.all false
set_option maxRecDepth 100000
set_option maxHeartbeats 4000000
/-! the box; comprehensions with a state -/
namespace PV
open PySem PySem.Spec PyProof.Rows L2
def IsBox (d : D) : Prop := ∃ cs z h, d = boxOf cs z h
theorem isBox_box (ns : List Int) : IsBox (boxD ns) := ⟨ns, 0, 4711 + ns.length, rfl⟩
theorem load_ok (cs : List Int) (z h : Int) : ∃ i cs' h', F__law_load [boxOf cs z h] = some (.int i, boxOf cs' z h') := by
  unfold boxOf F__law_load
  simp only [intL, intsOf_ints]
  cases cs with
  | nil => exact ⟨_, _, _, rfl⟩
  | cons c r =>
    simp only [ldI]
    by_cases h1 : 1000000000000000000 ≤ ldSize c
    · rw [if_pos h1]; exact ⟨_, _, _, rfl⟩
    · rw [if_neg h1]; exact ⟨_, _, _, rfl⟩
/-- the reading of _law_draw -/
def drawB : Rh → Out :=
  sSeq (sIf (lift (qB (o2 ltD (o2 ixD (getS 0) (cst (.int 1))) (getS 1)))) (sSet (.ix 0 (cst (.int 1))) (callM 0 [.rd 0] F__law_load)) (sNil))
    (sSeq (sSet (.nm 2) (lift (o2 modI (fnE intF (aCons (o2 ixD (getS 0) (cst (.int 1))) aNil)) (getS 1))))
    (sSeq (sSet (.ix 0 (cst (.int 1))) (lift (o2 fdivD (o2 ixD (getS 0) (cst (.int 1))) (getS 1))))
    (sRet (mvS 2))))
theorem ixSet_one (a b c d : D) : ixSet [a, b, c] (.int 1) d = some [a, d, c] := rfl
theorem draw_end (cs : List Int) (z h n : Int) (o : Option Cl) (h0 : 0 < n) (h1 : n.natAbs.log2 < 9000) :
    (sSeq (sSet (.nm 2) (lift (o2 modI (fnE intF (aCons (o2 ixD (getS 0) (cst (.int 1))) aNil)) (getS 1)))) (sSeq (sSet (.ix 0 (cst (.int 1))) (lift (o2 fdivD (o2 ixD (getS 0) (cst (.int 1))) (getS 1)))) (sRet (mvS 2)))) [some ⟨boxOf cs z h, .pin⟩, some ⟨.int n, .ro⟩, none]
      = .rt (.int (z % n)) [some ⟨boxOf cs (z / n) h, .pin⟩, some ⟨.int n, .ro⟩, some ⟨.int (z % n), .own⟩] := by
  simp [boxOf, intF, modI, h0, fdivD, h1, patS, wr, ixSet_one]
theorem log_ok {n : Int} (h0 : 0 < n) (h1 : n < 2 ^ 64) : n.natAbs.log2 < 9000 := by
  have : n.natAbs < 2 ^ 64 := by omega
  have h2 : n.natAbs.log2 < 64 := (Nat.log2_lt (by omega)).mpr this
  omega
theorem drawB_ok {b : D} (hb : IsBox b) {n : Int} (h0 : 0 < n) (h1 : n < 2 ^ 64) : ∃ k b', runN 2 3 0 drawB [b, .int n] = some (.int k, b') ∧ IsBox b' ∧ 0 ≤ k ∧ k < n := by
  obtain ⟨cs, z, h, rfl⟩ := hb
  have hl := log_ok h0 h1
  by_cases hz : z < n
  · obtain ⟨i, cs', h', e⟩ := load_ok cs z h
    refine ⟨i % n, boxOf cs' (i / n) h', ?_, ⟨_, _, _, rfl⟩, Int.emod_nonneg _ (by omega), Int.emod_lt_of_pos _ h0⟩
    have e1 : sIf (lift (qB (o2 ltD (o2 ixD (getS 0) (cst (.int 1))) (getS 1)))) (sSet (.ix 0 (cst (.int 1))) (callM 0 [.rd 0] F__law_load)) (sNil) [some ⟨boxOf cs z h, .pin⟩, some ⟨.int n, .ro⟩, none] = .nx [some ⟨boxOf cs' i h', .pin⟩, some ⟨.int n, .ro⟩, none] := by
      have e' := e
      unfold boxOf at e'
      simp [boxOf, hz, runAg, valAgs, valAg, e', patS, wr, ixSet_one]
    have e2 := draw_end cs' i h' n none h0 hl
    unfold runN
    rw [if_pos (by rfl : [boxOf cs z h, PyData.int n].length = 2)]
    unfold runM
    have er : rhoM 3 0 [boxOf cs z h, .int n] = [some ⟨boxOf cs z h, .pin⟩, some ⟨.int n, .ro⟩, none] := rfl
    rw [er]
    unfold drawB
    rw [sSeq_e]
    simp only [e1, e2]
    rfl
  · refine ⟨z % n, boxOf cs (z / n) h, ?_, ⟨_, _, _, rfl⟩, Int.emod_nonneg _ (by omega), Int.emod_lt_of_pos _ h0⟩
    have e1 : sIf (lift (qB (o2 ltD (o2 ixD (getS 0) (cst (.int 1))) (getS 1)))) (sSet (.ix 0 (cst (.int 1))) (callM 0 [.rd 0] F__law_load)) (sNil) [some ⟨boxOf cs z h, .pin⟩, some ⟨.int n, .ro⟩, none] = .nx [some ⟨boxOf cs z h, .pin⟩, some ⟨.int n, .ro⟩, none] := by
      simp [boxOf, hz]
    have e2 := draw_end cs z h n none h0 hl
    unfold runN
    rw [if_pos (by rfl : [boxOf cs z h, PyData.int n].length = 2)]
    unfold runM
    have er : rhoM 3 0 [boxOf cs z h, .int n] = [some ⟨boxOf cs z h, .pin⟩, some ⟨.int n, .ro⟩, none] := rfl
    rw [er]
    unfold drawB
    rw [sSeq_e]
    simp only [e1, e2]
    rfl
/-- what a comprehension with tests makes of its items -/
inductive LcR (Pr : D → D → Prop) : List D → List D → Prop
  | nil : LcR Pr [] []
  | skip {d : D} {ds r : List D} : LcR Pr ds r → LcR Pr (d :: ds) r
  | take {d x : D} {ds r : List D} : Pr d x → LcR Pr ds r → LcR Pr (d :: ds) (x :: r)
theorem lcV_inv {p : Pat} {t : Rh → Option (Bool × Rh)} {e : Rh → Option (D × Rh)} {vs : List Nat} (I : Rh → Prop) (Pd : D → Prop) (Pr : D → D → Prop)
    (hstep : ∀ d ρ, Pd d → I ρ → ∃ ρ1 b ρ2, patS .ro p d ρ = some ρ1 ∧ t ρ1 = some (b, ρ2) ∧ ((b = false ∧ noPin ρ2 vs = true ∧ I (wipR ρ2 vs)) ∨ (b = true ∧ ∃ x ρ3, e ρ2 = some (x, ρ3) ∧ Pr d x ∧ noPin ρ3 vs = true ∧ I (wipR ρ3 vs)))) :
    ∀ (ds : List D) (ρ : Rh), (∀ d ∈ ds, Pd d) → I ρ → ∃ r ρ', lcV p t e vs ds ρ = some (r, ρ') ∧ I ρ' ∧ LcR Pr ds r
  | [], ρ, _, hi => ⟨[], ρ, by rw [lcV], hi, .nil⟩
  | d :: ds, ρ, hd, hi => by
    obtain ⟨ρ1, b, ρ2, e1, e2, h⟩ := hstep d ρ (hd d List.mem_cons_self) hi
    have hd' : ∀ d ∈ ds, Pd d := fun d m => hd d (List.mem_cons_of_mem _ m)
    rcases h with ⟨rfl, hp, hI⟩ | ⟨rfl, x, ρ3, e3, hx, hp, hI⟩
    · obtain ⟨r, ρ', e4, i4, l4⟩ := lcV_inv I Pd Pr hstep ds _ hd' hI
      refine ⟨r, ρ', ?_, i4, .skip l4⟩
      rw [lcV, e1]
      simp only [e2]
      rw [if_pos hp]; exact e4
    · obtain ⟨r, ρ', e4, i4, l4⟩ := lcV_inv I Pd Pr hstep ds _ hd' hI
      refine ⟨x :: r, ρ', ?_, i4, .take hx l4⟩
      rw [lcV, e1]
      simp only [e2, e3]
      rw [if_pos hp]
      simp only [e4]
/-- without tests -/
theorem lcV_all {p : Pat} {e : Rh → Option (D × Rh)} {vs : List Nat} (I : Rh → Prop) (Pd : D → Prop) (Pr : D → D → Prop)
    (hstep : ∀ d ρ, Pd d → I ρ → ∃ ρ1 x ρ3, patS .ro p d ρ = some ρ1 ∧ e ρ1 = some (x, ρ3) ∧ Pr d x ∧ noPin ρ3 vs = true ∧ I (wipR ρ3 vs)) :
    ∀ (ds : List D) (ρ : Rh), (∀ d ∈ ds, Pd d) → I ρ → ∃ r ρ', lcV p (lift tAll) e vs ds ρ = some (r, ρ') ∧ I ρ' ∧ r.length = ds.length ∧ (∀ x ∈ r, ∃ d ∈ ds, Pr d x)
  | [], ρ, _, hi => ⟨[], ρ, by rw [lcV], hi, rfl, fun x m => nomatch m⟩
  | d :: ds, ρ, hd, hi => by
    obtain ⟨ρ1, x, ρ3, e1, e2, hx, hp, hI⟩ := hstep d ρ (hd d List.mem_cons_self) hi
    obtain ⟨r, ρ', e4, i4, l4, a4⟩ := lcV_all I Pd Pr hstep ds _ (fun d m => hd d (List.mem_cons_of_mem _ m)) hI
    refine ⟨x :: r, ρ', ?_, i4, by simp [l4], fun y m => ?_⟩
    · rw [lcV, e1]
      simp only [lift_e, tAll_e, Option.map_some, e2]
      rw [if_pos hp]
      simp only [e4]
    · rcases List.mem_cons.mp m with m | m
      · exact ⟨d, List.mem_cons_self, by rw [m]; exact hx⟩
      · obtain ⟨d', m', q⟩ := a4 y m
        exact ⟨d', List.mem_cons_of_mem _ m', q⟩
end PV
namespace PV
open PySem PySem.Spec PyProof.Rows L2
/-! ### runs: what follows from a statement -/
def Nxs (o : Out) (Po : Rh → Prop) : Prop := ∃ ρ, o = .nx ρ ∧ Po ρ
def Rts (o : Out) (Po : D → Rh → Prop) : Prop := ∃ d ρ, o = .rt d ρ ∧ Po d ρ
theorem Nxs.seqR {f g : Rh → Out} {ρ : Rh} {P1 : Rh → Prop} {Po : D → Rh → Prop} (h : Nxs (f ρ) P1) (k : ∀ ρ', P1 ρ' → Rts (g ρ') Po) : Rts (sSeq f g ρ) Po := by
  obtain ⟨ρ', e, p⟩ := h
  rw [sSeq_e]; simp only [e]; exact k ρ' p
theorem Nxs.seq {f g : Rh → Out} {ρ : Rh} {P1 : Rh → Prop} {Po : Rh → Prop} (h : Nxs (f ρ) P1) (k : ∀ ρ', P1 ρ' → Nxs (g ρ') Po) : Nxs (sSeq f g ρ) Po := by
  obtain ⟨ρ', e, p⟩ := h
  rw [sSeq_e]; simp only [e]; exact k ρ' p
theorem seqR1 {f g : Rh → Out} {ρ ρ' : Rh} {Po : D → Rh → Prop} (h : f ρ = .nx ρ') (k : Rts (g ρ') Po) : Rts (sSeq f g ρ) Po := by
  rw [sSeq_e]; simp only [h]; exact k
theorem seqN1 {f g : Rh → Out} {ρ ρ' : Rh} {Po : Rh → Prop} (h : f ρ = .nx ρ') (k : Nxs (g ρ') Po) : Nxs (sSeq f g ρ) Po := by
  rw [sSeq_e]; simp only [h]; exact k
theorem forS_inv {p : Pat} {b : Rh → Out} (I : Rh → Prop) : ∀ (ds : List D) (ρ : Rh), (∀ d ∈ ds, ∀ ρ, I ρ → ∃ ρ1, patS .ro p d ρ = some ρ1 ∧ Nxs (b ρ1) I) → I ρ → Nxs (forS p b ds ρ) I
  | [], ρ, _, hi => ⟨ρ, by rw [forS], hi⟩
  | d :: ds, ρ, h, hi => by
    obtain ⟨ρ1, e1, ρ2, e2, i2⟩ := h d List.mem_cons_self ρ hi
    obtain ⟨ρ3, e3, i3⟩ := forS_inv I ds ρ2 (fun d m => h d (List.mem_cons_of_mem _ m)) i2
    exact ⟨ρ3, by rw [forS]; simp only [e1, e2]; exact e3, i3⟩
theorem forS_pre {p : Pat} {b : Rh → Out} (I : List D → Rh → Prop) : ∀ (ds don : List D) (ρ : Rh), (∀ don d ρ, I don ρ → ∃ ρ1, patS .ro p d ρ = some ρ1 ∧ Nxs (b ρ1) (I (don ++ [d]))) → I don ρ → Nxs (forS p b ds ρ) (I (don ++ ds))
  | [], don, ρ, _, hi => ⟨ρ, by rw [forS], by rw [List.append_nil]; exact hi⟩
  | d :: ds, don, ρ, h, hi => by
    obtain ⟨ρ1, e1, ρ2, e2, i2⟩ := h don d ρ hi
    obtain ⟨ρ3, e3, i3⟩ := forS_pre I ds (don ++ [d]) ρ2 h i2
    exact ⟨ρ3, by rw [forS]; simp only [e1, e2]; exact e3, by simpa using i3⟩
theorem runN_of {np n m : Nat} {B : Rh → Out} {ds : List D} {Po : D → D → Prop} (hl : ds.length = np) (h : Rts (B (rhoM n m ds)) fun d ρ => ∃ c, ρ[m]? = some (some c) ∧ Po d c.d) : ∃ d b, runN np n m B ds = some (d, b) ∧ Po d b := by
  obtain ⟨d, ρ, e, c, ec, p⟩ := h
  refine ⟨d, c.d, ?_, p⟩
  unfold runN
  rw [if_pos hl]
  unfold runM
  rw [e]
  simp only [ec]
theorem runF_of {np n : Nat} {B : Rh → Out} {ds : List D} {Po : D → Prop} (hl : ds.length = np) (h : Rts (B (rho0 n ds)) fun d _ => Po d) : ∃ d, runF np n B ds = some d ∧ Po d := by
  obtain ⟨d, ρ, e, p⟩ := h
  refine ⟨d, ?_, p⟩
  unfold runF
  rw [if_pos hl]
  unfold runP
  rw [e]
end PV
namespace PV
open PySem PySem.Spec PyProof.Rows L2
theorem sRet_of {g : Rh → Option (D × Rh)} {ρ ρ1 : Rh} {d : D} (h : g ρ = some (d, ρ1)) : sRet g ρ = .rt d ρ1 := by rw [sRet_e]; simp only [h]
theorem w1_of {fn : D → Option D} {g : Rh → Option (D × Rh)} {ρ ρ1 : Rh} {d z : D} (h : g ρ = some (d, ρ1)) (h2 : fn d = some z) : w1 fn g ρ = some (z, ρ1) := by rw [w1_e]; simp only [h, h2, Option.map_some]
theorem vLc_of {bs : List Nat} {p : Pat} {vs : List Nat} {gi : Rh → Option (List D × Rh)} {t : Rh → Option (Bool × Rh)} {e : Rh → Option (D × Rh)} {ρ ρ1 ρ2 ρ3 : Rh} {ds r : List D} (hg : gi ρ = some (ds, ρ1)) (hl : ds.length ≤ 1000000) (hp : noPin ρ1 vs = true) (hd : demS bs ρ1 = some ρ2) (h : lcV p t e vs ds (wipR ρ2 vs) = some (r, ρ3)) :
    vLc bs p vs gi t e ρ = some (.list r, ρ3) := by
  rw [vLc_e]
  simp only [hg, hd, h]
  rw [if_pos ⟨hl, hp⟩]
theorem eLc_of {p : Pat} {vs : List Nat} {hi : Rh → Option (List D)} {t : Rh → Option Bool} {e : Rh → Option D} {ρ : Rh} {ds r : List D} (hg : hi ρ = some ds) (hl : ds.length ≤ 1000000) (h : lcS (stepE p t e (wipR ρ vs)) ds = some r) : eLc p vs hi t e ρ = some (.list r) := by
  rw [eLc_e]
  simp only [hg, h]
  rw [if_pos hl]
theorem sFor_of {bs : List Nat} {p : Pat} {g : Rh → Option (List D × Rh)} {b : Rh → Out} {ρ ρ1 ρ2 : Rh} {ds : List D} {Po : Rh → Prop} (hg : g ρ = some (ds, ρ1)) (hd : demS bs ρ1 = some ρ2) (h : Nxs (forS p b ds ρ2) Po) : Nxs (sFor bs p g b ρ) Po := by
  rw [sFor_e]
  simp only [hg, hd]
  exact h
theorem sSet_of {p : Pat} {g : Rh → Option (D × Rh)} {ρ ρ1 ρ2 : Rh} {d : D} (h : g ρ = some (d, ρ1)) (h2 : patS .own p d ρ1 = some ρ2) : sSet p g ρ = .nx ρ2 := by
  rw [sSet_e]
  simp only [h, h2]
theorem sIf_t {t : Rh → Option (Bool × Rh)} {f g : Rh → Out} {ρ ρ1 : Rh} (h : t ρ = some (true, ρ1)) : sIf t f g ρ = f ρ1 := by rw [sIf_e]; simp only [h]
theorem sIf_f {t : Rh → Option (Bool × Rh)} {f g : Rh → Out} {ρ ρ1 : Rh} (h : t ρ = some (false, ρ1)) : sIf t f g ρ = g ρ1 := by rw [sIf_e]; simp only [h]
theorem lcS_pred {step : D → Option (Option D)} {Pr : D → Prop} : ∀ {ds : List D}, (∀ d ∈ ds, ∃ x, step d = some (some x) ∧ Pr x) → ∃ r, lcS step ds = some r ∧ r.length = ds.length ∧ ∀ x ∈ r, Pr x
  | [], _ => ⟨[], rfl, rfl, fun x m => nomatch m⟩
  | d :: ds, h => by
    obtain ⟨x, e, p⟩ := h d List.mem_cons_self
    obtain ⟨r, e2, l2, p2⟩ := lcS_pred fun d m => h d (List.mem_cons_of_mem _ m)
    refine ⟨x :: r, by rw [lcS, e]; simp only [e2]; rfl, by simp [l2], fun y m => ?_⟩
    rcases List.mem_cons.mp m with m | m
    · rw [m]; exact p
    · exact p2 y m
end PV
namespace PV
open PySem PySem.Spec PyProof.Rows L2
theorem runF_rt {np n : Nat} {B : Rh → Out} {ds : List D} {d : D} {ρ0 ρ : Rh} (hl : ds.length = np) (hr : rho0 n ds = ρ0) (h : B ρ0 = .rt d ρ) : runF np n B ds = some d := by
  unfold runF
  rw [if_pos hl]
  unfold runP
  rw [hr, h]
end PV
namespace PV
open PySem PySem.Spec PyProof.Rows L2
/-- a slot that may be set -/
def NP (x : Option Cl) : Prop := ∀ c, x = some c → c.o ≠ .pin
theorem NP.none : NP none := fun c h => nomatch h
theorem NP.ro {d : D} : NP (some ⟨d, .ro⟩) := fun c h => by cases h; exact fun z => nomatch z
theorem NP.own {d : D} : NP (some ⟨d, .own⟩) := fun c h => by cases h; exact fun z => nomatch z
theorem setS_np {c : Cl} {x : Option Cl} {ρ : Rh} (h : NP x) : setS 0 c (x :: ρ) = some (some c :: ρ) := by
  rcases x with _ | ⟨d, o⟩
  · rfl
  · cases o
    · rfl
    · rfl
    · exact absurd rfl (h _ rfl)
theorem forS_rng {p : Pat} {b : Rh → Out} (I : Nat → Rh → Prop) (n : Nat) (ρ : Rh) (h0 : I 0 ρ) (h : ∀ k ρ, k < n → I k ρ → ∃ ρ1, patS .ro p (.int (k : Int)) ρ = some ρ1 ∧ Nxs (b ρ1) (I (k + 1))) : Nxs (forS p b (rangeD 0 n) ρ) (I n) := by
  have go : ∀ m s ρ, s + m = n → I s ρ → Nxs (forS p b ((List.range' s m).map fun (k : Nat) => PyData.int (0 + (k : Int))) ρ) (I n) := by
    intro m
    induction m with
    | zero =>
      intro s ρ hs hi
      have hsn : s = n := by omega
      subst hsn
      exact ⟨ρ, by simp [forS], hi⟩
    | succ m ih =>
      intro s ρ hs hi
      obtain ⟨ρ1, e1, ρ2, e2, i2⟩ := h s ρ (by omega) hi
      obtain ⟨ρ3, e3, i3⟩ := ih (s + 1) ρ2 (by omega) i2
      refine ⟨ρ3, ?_, i3⟩
      rw [List.range'_succ, List.map_cons, forS, Int.zero_add]
      simp only [e1, e2]
      exact e3
  have := go n 0 ρ (by omega) h0
  unfold rangeD
  rw [List.range_eq_range']
  exact this
theorem callM_of {i : Nat} {as : List Ag} {F : List D → Option (D × D)} {ρ ρ1 : Rh} {xs : List (D ⊕ Nat)} {d r d' : D} {o : Ow} {ds : List D} (h1 : runAg as ρ = some (xs, ρ1)) (h2 : wr i ρ1 = some (d, o)) (h3 : valAgs ρ1 xs = some ds) (h4 : F ds = some (r, d')) : callM i as F ρ = some (r, ρ1.set i (some ⟨d', o⟩)) := by
  rw [callM_e]
  simp only [h1, h2, h3, h4]
end PV
namespace PV
open PySem PySem.Spec PyProof.Rows L2
/-! ### what == takes -/
def Sh (k : Nat) (d : D) : Prop := noDct d = true ∧ PyData.canLay0 d = true ∧ PyData.depth d ≤ k
theorem Sh.mono {k l : Nat} {d : D} (h : Sh k d) (hl : k ≤ l) : Sh l d := ⟨h.1, h.2.1, Nat.le_trans h.2.2 hl⟩
theorem Sh.int {i : Int} : Sh 0 (.int i) := ⟨rfl, by simp [PyData.canLay0], by simp [PyData.depth]⟩
theorem Sh.bool {i : Bool} : Sh 0 (.bool i) := ⟨rfl, by simp [PyData.canLay0], by simp [PyData.depth]⟩
theorem Sh.none : Sh 0 .none := ⟨rfl, by simp [PyData.canLay0], by simp [PyData.depth]⟩
theorem Sh.all {k : Nat} : ∀ {ds : List D}, (∀ x ∈ ds, Sh k x) → noDctL ds = true ∧ PyData.canLayAll0 ds = true ∧ PyData.depthAll ds ≤ k
  | [], _ => ⟨rfl, by simp [PyData.canLayAll0], by simp [PyData.depthAll]⟩
  | d :: ds, h => by
    obtain ⟨a, b, c⟩ := Sh.all fun x m => h x (List.mem_cons_of_mem _ m)
    obtain ⟨a', b', c'⟩ := h d List.mem_cons_self
    exact ⟨by simp [noDctL, a, a'], by simp [PyData.canLayAll0, b, b'], by simp only [PyData.depthAll]; omega⟩
theorem Sh.list {k : Nat} {ds : List D} (h : ∀ x ∈ ds, Sh k x) : Sh (k + 1) (.list ds) := by
  obtain ⟨a, b, c⟩ := Sh.all h
  exact ⟨by simpa [noDct] using a, by simpa [PyData.canLay0] using b, by simp only [PyData.depth]; omega⟩
theorem Sh.tup {k : Nat} {ds : List D} (h : ∀ x ∈ ds, Sh k x) : Sh (k + 1) (.tuple ds) := by
  obtain ⟨a, b, c⟩ := Sh.all h
  exact ⟨by simpa [noDct] using a, by simpa [PyData.canLay0] using b, by simp only [PyData.depth]; omega⟩
theorem Sh.ok {k : Nat} {d : D} (h : Sh k d) (hk : k ≤ 64) : okEq d = true := by
  unfold okEq SeqAt.shaped
  simp only [h.1, h.2.1, Bool.true_and, decide_eq_true_eq]
  exact Nat.le_trans h.2.2 hk
theorem eqD_of {k l : Nat} {d e : D} (h : Sh k d) (hk : k ≤ 64) (h2 : Sh l e) (hl : l ≤ 64) : eqD d e = some (.bool (PyData.eqv d e)) := by
  unfold eqD
  rw [if_pos ⟨h.ok hk, h2.ok hl⟩]
theorem neD_of {k l : Nat} {d e : D} (h : Sh k d) (hk : k ≤ 64) (h2 : Sh l e) (hl : l ≤ 64) : neD d e = some (.bool (!PyData.eqv d e)) := by
  unfold neD
  rw [if_pos ⟨h.ok hk, h2.ok hl⟩]
theorem eqv_nil_l {ds : List D} : PyData.eqv (.list ds) (.list []) = ds.isEmpty := by
  cases ds <;> simp [PyData.eqv, PyData.eqvAll]
theorem eqv_nil_t {ds : List D} : PyData.eqv (.tuple ds) (.tuple []) = ds.isEmpty := by
  cases ds <;> simp [PyData.eqv, PyData.eqvAll]
theorem ixSet_nat {ds : List D} {k : Nat} (d : D) (h : k < ds.length) : ixSet ds (.int (k : Int)) d = some (ds.set k d) := by
  unfold ixSet ixN
  simp [h]
end PV
namespace PV
open PySem PySem.Spec PyProof.Rows L2
theorem addT_ok {X Y : List D} (hX : pureL X = true) (hY : pureL Y = true) (hl : X.length + Y.length ≤ 1000000) : addD (.tuple X) (.tuple Y) = some (.tuple (X ++ Y)) := by
  rw [addD_tup, if_pos ⟨hX, hY, hl⟩]
theorem addL_ok {X Y : List D} (hX : pureL X = true) (hY : pureL Y = true) (hl : X.length + Y.length ≤ 1000000) : addD (.list X) (.list Y) = some (.list (X ++ Y)) := by
  rw [addD_lst, if_pos ⟨hX, hY, hl⟩]
theorem cutT_ok {X : List D} (hX : pureL X = true) (lo hi : Option Int) : PV.cutS (.tuple X) lo hi = some (.tuple (PV.cutD X lo hi)) := by simp [PV.cutS, hX]
theorem cutL_ok {X : List D} (hX : pureL X = true) (lo hi : Option Int) : PV.cutS (.list X) lo hi = some (.list (PV.cutD X lo hi)) := by simp [PV.cutS, hX]
theorem pure_cut {X : List D} (hX : pureL X = true) (lo hi : Option Int) : pureL (PV.cutD X lo hi) = true := by
  rw [pureL_iff] at hX ⊢
  intro d hd
  unfold PV.cutD at hd
  exact hX d (List.mem_of_mem_drop (List.mem_of_mem_take hd))
theorem pure_app {X Y : List D} (hX : pureL X = true) (hY : pureL Y = true) : pureL (X ++ Y) = true := by
  rw [pureL_iff] at *
  intro d hd
  rcases List.mem_append.mp hd with h | h
  · exact hX d h
  · exact hY d h
theorem ixV_of {i : Nat} {g : Rh → Option (D × Rh)} {ρ ρ1 : Rh} {ds : List D} {j : Nat} {z : D} (h1 : getS i ρ = some (.list ds)) (hp : pureL ds = true) (hg : g ρ = some (.int (j : Int), ρ1)) (h2 : getS i ρ1 = some (.list ds)) (hj : ds[j]? = some z) : ixV i g ρ = some (z, ρ1) := by
  have hz : pureD z = true := pureL_iff.mp hp z (List.mem_of_getElem? hj)
  have hx := ixL hj
  unfold ixV
  simp only [h1, hp, hg, h2, hx, gd, hz, if_true, Option.map_some]
end PV
namespace PV
open PySem PySem.Spec PyProof.Rows L2
theorem cutD_len (ds : List D) (lo hi : Option Int) : (PV.cutD ds lo hi).length ≤ ds.length := by
  unfold PV.cutD
  rw [List.length_take, List.length_drop]
  omega
theorem sIx_m1 (n d : Nat) : HT.sIx n d (some (-1)) = n - 1 := by
  unfold HT.sIx
  simp
  omega
theorem cutD_init (ds : List D) : PV.cutD ds none (some (-1)) = ds.dropLast := by
  unfold PV.cutD
  rw [HT.sIx_none, sIx_m1, List.drop_zero, Nat.sub_zero, List.dropLast_eq_take]
theorem cutD_last (ds : List D) (d : D) : PV.cutD (ds ++ [d]) (some (-1)) none = [d] := by
  unfold PV.cutD
  rw [HT.sIx_none, sIx_m1]
  simp
theorem cutD_tail (d : D) (ds : List D) : PV.cutD (d :: ds) (some 1) none = ds := by
  unfold PV.cutD
  rw [HT.sIx_none, show (some 1 : Option Int) = some ((1 : Nat) : Int) from rfl, HT.sIx_nat]
  simp
end PV
namespace PV
open PySem PySem.Spec PyProof.Rows L2
theorem bCons_of {g : Rh → Option (D × Rh)} {gs : Rh → Option (List D × Rh)} {ρ ρ1 ρ2 : Rh} {d : D} {ds : List D} (h : g ρ = some (d, ρ1)) (h2 : gs ρ1 = some (ds, ρ2)) : bCons g gs ρ = some (d :: ds, ρ2) := by
  rw [bCons_e]; simp only [h, h2]
theorem bNil_of {ρ : Rh} : bNil ρ = some ([], ρ) := rfl
theorem nkL_of {g : Rh → Option (List D × Rh)} {ρ ρ1 : Rh} {ds : List D} (h : g ρ = some (ds, ρ1)) (hl : ds.length ≤ 1000000) : nkL g ρ = some (.list ds, ρ1) := by
  rw [nkL_e]; simp only [h]; rw [if_pos hl]
theorem nkT_of {g : Rh → Option (List D × Rh)} {ρ ρ1 : Rh} {ds : List D} (h : g ρ = some (ds, ρ1)) (hl : ds.length ≤ 1000000) : nkT g ρ = some (.tuple ds, ρ1) := by
  rw [nkT_e]; simp only [h]; rw [if_pos hl]
theorem lift_of {α : Type} {h : Rh → Option α} {ρ : Rh} {d : α} (e : h ρ = some d) : lift h ρ = some (d, ρ) := by rw [lift_e]; simp only [e, Option.map_some]
theorem v2_of {fn : D → D → Option D} {g1 g2 : Rh → Option (D × Rh)} {ρ ρ1 ρ2 : Rh} {x y z : D} (h1 : g1 ρ = some (x, ρ1)) (h2 : g2 ρ1 = some (y, ρ2)) (h3 : fn x y = some z) : v2 fn g1 g2 ρ = some (z, ρ2) := by
  rw [v2_e]; simp only [h1, h2, h3, Option.map_some]
end PV
namespace PV
open PySem PySem.Spec PyProof.Rows L2
theorem Sh.str {x : Str} (h : PySem.PyData.strOk x = true) : Sh 0 (.str x) := ⟨rfl, by simpa [PyData.canLay0] using h, by simp [PyData.depth]⟩
theorem eqD_str {a b : Str} {r : Bool} (h1 : PySem.PyData.strOk a = true) (h2 : PySem.PyData.strOk b = true) (e : (a == b) = r) : eqD (.str a) (.str b) = some (.bool r) := by
  rw [eqD_of (Sh.str h1) (by decide) (Sh.str h2) (by decide)]
  simp [PyData.eqv, e]
theorem neD_str {a b : Str} {r : Bool} (h1 : PySem.PyData.strOk a = true) (h2 : PySem.PyData.strOk b = true) (e : (a == b) = !r) : neD (.str a) (.str b) = some (.bool r) := by
  rw [neD_of (Sh.str h1) (by decide) (Sh.str h2) (by decide)]
  simp [PyData.eqv, e]
end PV
namespace PV
open PySem PySem.Spec PyProof.Rows L2
/-! ### loops by place; dicts of ints to True -/
theorem forS_lst {p : Pat} {b : Rh → Out} (I : Nat → Rh → Prop) (L : List D) (ρ : Rh) (h0 : I 0 ρ) (h : ∀ k (hk : k < L.length) ρ, I k ρ → ∃ ρ1, patS .ro p L[k] ρ = some ρ1 ∧ Nxs (b ρ1) (I (k + 1))) : Nxs (forS p b L ρ) (I L.length) := by
  have go : ∀ (m s : Nat) (ρ : Rh), s + m = L.length → I s ρ → Nxs (forS p b (L.drop s) ρ) (I L.length) := by
    intro m
    induction m with
    | zero =>
      intro s ρ hs hi
      rw [List.drop_of_length_le (by omega)]
      exact ⟨ρ, by simp [forS], by rw [show L.length = s by omega]; exact hi⟩
    | succ m ih =>
      intro s ρ hs hi
      have hlt : s < L.length := by omega
      obtain ⟨ρ1, e1, ρ2, e2, i2⟩ := h s hlt ρ hi
      obtain ⟨ρ3, e3, i3⟩ := ih (s + 1) ρ2 (by omega) i2
      refine ⟨ρ3, ?_, i3⟩
      rw [List.drop_eq_getElem_cons hlt, forS]
      simp only [e1, e2]
      exact e3
  have := go L.length 0 ρ (by omega) h0
  rw [List.drop_zero] at this
  exact this
theorem lcS_fm {α : Type} {step : D → Option (Option D)} {f : α → D} {g : α → Option D} : ∀ {ds : List α}, (∀ d ∈ ds, step (f d) = some (g d)) → lcS step (ds.map f) = some (ds.filterMap g)
  | [], _ => rfl
  | d :: ds, h => by
    rw [List.map_cons, lcS, h d List.mem_cons_self]
    simp only [lcS_fm fun e m => h e (List.mem_cons_of_mem _ m)]
    rw [List.filterMap_cons]
    cases g d <;> rfl
theorem enumD_range (ds : List D) : enumD ds = (List.range ds.length).map fun k => .tuple [.int k, ds.getD k .none] := by
  apply List.ext_getElem?
  intro i
  unfold enumD
  rw [List.getElem?_mapIdx, List.getElem?_map]
  by_cases h : i < ds.length
  · rw [List.getElem?_eq_getElem h, List.getElem?_range h]
    simp [List.getD_eq_getElem?_getD, List.getElem?_eq_getElem h]
  · rw [List.getElem?_eq_none (by omega), List.getElem?_eq_none (by simp; omega)]; rfl
def setD (ks : List Nat) : D := .dict (ks.map fun (k : Nat) => (PyData.int (k : Int), PyData.bool true))
theorem findG_set (ks : List Nat) (k : Nat) : findG sKey (ks.map fun (k : Nat) => (PyData.int (k : Int), PyData.bool true)) (.inl (k : Int)) = if k ∈ ks then some (.bool true) else none := by
  induction ks with
  | nil => rfl
  | cons a ks ih =>
    unfold findG at ih ⊢
    rw [List.map_cons, List.find?_cons]
    by_cases h : a = k
    · subst h
      have : decide (sKey (PyData.int (a : Int)) = some (Sum.inl (a : Int))) = true := decide_eq_true rfl
      simp only [this]
      simp
    · have : decide (sKey (PyData.int (a : Int)) = some (Sum.inl (k : Int))) = false := decide_eq_false (by simp [sKey]; omega)
      simp only [this]
      rw [ih]
      simp [List.mem_cons, Ne.symm h]
theorem dlook_set (ks : List Nat) (k : Nat) : dlook (setD ks) (.int (k : Int)) = some (if k ∈ ks then some (.bool true) else none) := by
  have := findG_set ks k
  unfold setD
  cases ks with
  | nil => rfl
  | cons a ks =>
    simp only [List.map_cons] at this ⊢
    simp only [dlook, sKey, this]
theorem dnin_set (ks : List Nat) (k : Nat) : dninD (.int (k : Int)) (setD ks) = some (.bool (!decide (k ∈ ks))) := by
  unfold dninD
  rw [dlook_set]
  by_cases h : k ∈ ks <;> simp [h]
theorem dput_set {ks : List Nat} {k : Nat} (h : k ∉ ks) (hl : ks.length < 1000000) : dputD (ks.map fun (k : Nat) => (PyData.int (k : Int), PyData.bool true)) (.int (k : Int)) (.bool true) = some ((ks ++ [k]).map fun (k : Nat) => (PyData.int (k : Int), PyData.bool true)) := by
  have hany : (ks.map fun (k : Nat) => (PyData.int (k : Int), PyData.bool true)).any (fun p => decide (sKey p.1 = some (Sum.inl (k : Int)))) = false := by
    rw [List.any_eq_false]
    intro p hp
    obtain ⟨a, ha, rfl⟩ := List.mem_map.mp hp
    have : a ≠ k := fun e => h (e ▸ ha)
    simp [sKey]
    omega
  have hput : putG sKey (ks.map fun (k : Nat) => (PyData.int (k : Int), PyData.bool true)) (.inl (k : Int)) (kD (.inl (k : Int))) (.bool true) = (ks ++ [k]).map fun (k : Nat) => (PyData.int (k : Int), PyData.bool true) := by
    unfold putG
    rw [hany]
    simp [kD]
  cases ks with
  | nil => rw [List.map_nil] at hput ⊢; simp only [dputD, sKey]; rw [if_pos ⟨rfl, by simp⟩, hput]
  | cons a ks =>
    simp only [List.map_cons] at hput ⊢
    simp only [dputD, sKey]
    rw [if_pos ⟨rfl, by simpa using hl⟩, hput]
end PV

set_option Elab.async false
set_option linter.all false
set_option maxRecDepth 100000
set_option maxHeartbeats 4000000
/-! dicts of tuple keys to ints -/
namespace PV
open PySem PySem.Spec PyProof.Rows L2
abbrev TK := List (List Key × Int)
def toldKV (T : TK) : List (D × D) := (.none, .none) :: T.map fun p => (tD p.1, .int p.2)
def tgt (T : TK) (k : List Key) : Option Int := (T.find? fun p => decide (p.1 = k)).map (·.2)
theorem findG_told (T : TK) (k : List Key) : findG tKey (T.map fun p => (tD p.1, PyData.int p.2)) k = (tgt T k).map .int := by
  induction T with
  | nil => rfl
  | cons a T ih =>
    unfold findG tgt at ih ⊢
    rw [List.map_cons, List.find?_cons, List.find?_cons]
    by_cases h : a.1 = k
    · have e1 : decide (tKey (tD a.1, PyData.int a.2).1 = some k) = true := decide_eq_true (by rw [tKey_tD, h])
      have e2 : decide (a.1 = k) = true := decide_eq_true h
      simp only [e1, e2]
      rfl
    · have e1 : decide (tKey (tD a.1, PyData.int a.2).1 = some k) = false := decide_eq_false (by rw [tKey_tD]; simpa using h)
      have e2 : decide (a.1 = k) = false := decide_eq_false h
      simp only [e1, e2]
      exact ih
theorem dlook_told (T : TK) (k : List Key) : dlook (.dict (toldKV T)) (tD k) = some ((tgt T k).map .int) := by
  unfold toldKV
  simp only [dlook, tKey_tD, findG_told]
theorem dlook_lock (T : TK) (k : List Key) : dlook (.dict ((.bool true, .none) :: toldKV T)) (tD k) = some ((tgt T k).map .int) := by
  unfold toldKV
  simp only [dlook, tKey_tD, findG_told]
theorem tgt_none {T : TK} {k : List Key} : tgt T k = none ↔ k ∉ T.map (·.1) := by
  induction T with
  | nil => simp [tgt]
  | cons a T ih =>
    unfold tgt at ih ⊢
    rw [List.find?_cons]
    by_cases h : a.1 = k
    · have e2 : decide (a.1 = k) = true := decide_eq_true h
      simp only [e2]
      simp [h]
    · have e2 : decide (a.1 = k) = false := decide_eq_false h
      simp only [e2]
      rw [ih]
      simp [Ne.symm h]
theorem dput_told {T : TK} {k : List Key} {v : Int} (h : tgt T k = none) (hl : T.length < 1000000) : dputD (toldKV T) (tD k) (.int v) = some (toldKV (T ++ [(k, v)])) := by
  have hn := tgt_none.mp h
  have hany : (T.map fun p => (tD p.1, PyData.int p.2)).any (fun p => decide (tKey p.1 = some k)) = false := by
    rw [List.any_eq_false]
    intro p hp
    obtain ⟨a, ha, rfl⟩ := List.mem_map.mp hp
    have : a.1 ≠ k := fun e => hn (List.mem_map.mpr ⟨a, ha, e⟩)
    rw [tKey_tD]
    simpa using this
  unfold toldKV
  simp only [dputD, tKey_tD]
  rw [if_pos ⟨rfl, by simpa using hl⟩]
  unfold putG
  rw [hany]
  simp
theorem din_told (T : TK) (k : List Key) : dinD (tD k) (.dict (toldKV T)) = some (.bool (tgt T k).isSome) := by
  unfold dinD
  rw [dlook_told]
  cases tgt T k <;> rfl
theorem dgt1_told (T : TK) (k : List Key) : dgt1D (.dict (toldKV T)) (tD k) = some (match tgt T k with | some v => .int v | none => .none) := by
  unfold dgt1D
  rw [dlook_told]
  cases tgt T k <;> rfl
theorem dget_told {T : TK} {k : List Key} {v : Int} (h : tgt T k = some v) : dgetD (.dict (toldKV T)) (tD k) = some (.int v) := by
  unfold dgetD
  rw [dlook_told, h]; rfl
theorem dget_lock {T : TK} {k : List Key} {v : Int} (h : tgt T k = some v) : dgetD (.dict ((.bool true, .none) :: toldKV T)) (tD k) = some (.int v) := by
  unfold dgetD
  rw [dlook_lock, h]; rfl
end PV

set_option Elab.async false
set_option linter.all false
set_option maxRecDepth 100000
set_option maxHeartbeats 4000000
namespace T70
open PySem PySem.Spec PyProof.Rows L2 PV
def topS (i : Nat) : Stmt := PySem.Challenge.pw_toldbysums_k70_tellings_and_diaries.main.body.getD i (.Pass ⟨0, 0, 0, 0⟩)
structure Cs (mg : Str → Option Value) : Prop where
  MAX_SIDE : ∃ t, mg "MAX_SIDE" = some (.int 16 t)
  MAX_ENTRIES : ∃ t, mg "MAX_ENTRIES" = some (.int 200 t)
section
variable {P : Program} {w : World} {K : PySem.W.Frag} {mg : Str → Option Value} {base : Heap}
/-! ### is_count -/
abbrev s_is_count : Stmt := topS 2
abbrev N_is_count : List Str := ["value", "least", "most"]
theorem sc_is_count : FnScope N_is_count ["value", "least", "most"] (defScope s_is_count) := ⟨rfl, rfl, rfl, by decide +kernel, rfl, by decide +kernel, by decide +kernel⟩
noncomputable def B_is_count : Rh → Out :=
  sRet (lift (eand (u1 (isiD "int") (getS 0)) (eand (u1 notT (u1 (isiD "bool") (getS 0))) (chn leD leD (getS 1) (getS 0) (getS 2)))))
noncomputable def F_is_count : List D → Option D := runF 3 3 B_is_count
theorem ok_is_count {f : Addr} {fd : FuncData} (F : FnD K "is_count" "is_count" s_is_count f fd) (hm : mg "is_count" = some (.ref f)) (hb : Binds K fd ["value", "least", "most"] []) (B : Bl mg) (C : Cs mg) :
    KnP P w K mg base 1 "is_count" 3 F_is_count := by
  have sc := sc_is_count
  refine KnP.of F sc hm hb (k := 0) (B := B_is_count) fun cdv A outer s H E hr => ?_
  unfold B_is_count
  exact bs_one (ss_ret (EV.of (ep_and (ep_isi "int" (by rfl) B.isinstance (by rfl) B.int (by decide +kernel) (ep_var (pv 0))) (ep_and (ep_notT (ep_isi "bool" (by rfl) B.isinstance (by rfl) B.bool (by decide +kernel) (ep_var (pv 0)))) (ep_one (ep_chain (op_leA hr) (op_leA hr) r2_leA r2_leA (ep_var (pv 1)) (ep_var (pv 0)) (ep_var (pv 2))))))))
/-! ### are_told_sums -/
abbrev s_are_told_sums : Stmt := topS 4
abbrev N_are_told_sums : List Str := ["value", "count", "most", "told"]
theorem sc_are_told_sums : FnScope N_are_told_sums ["value", "count", "most"] (defScope s_are_told_sums) := ⟨rfl, rfl, rfl, by decide +kernel, rfl, by decide +kernel, by decide +kernel⟩
noncomputable def B_are_told_sums : Rh → Out :=
  sSeq (sIf (lift (por (pnot (qT (u1 (isiD "tuple") (getS 0)))) (qB (o2 neD (fnE lenF (aCons (getS 0) aNil)) (getS 1))))) (sRet (lift (cst (.bool false)))) (sNil))
    (sRet (lift (fnE allF (aCons (eLc (.nm 3) [3] (iS (getS 0)) tAll (eor (o2 isD (getS 3) (cst .none)) (fnE F_is_count (aCons (getS 3) (aCons (cst (.int 0)) (aCons (getS 2) aNil)))))) aNil))))
noncomputable def F_are_told_sums : List D → Option D := runF 3 4 B_are_told_sums
theorem ok_are_told_sums {f : Addr} {fd : FuncData} (F : FnD K "are_told_sums" "are_told_sums" s_are_told_sums f fd) (hm : mg "are_told_sums" = some (.ref f)) (hb : Binds K fd ["value", "count", "most"] []) (K_is_count : KnP P w K mg base 1 "is_count" 3 F_is_count) (B : Bl mg) (C : Cs mg) :
    KnP P w K mg base 2 "are_told_sums" 3 F_are_told_sums := by
  have sc := sc_are_told_sums
  refine KnP.of F sc hm hb (k := 1) (B := B_are_told_sums) fun cdv A outer s H E hr => ?_
  unfold B_are_told_sums
  exact bs_cons (ss_if (TV.of (WP.tp (wp_or (tp_not (tp_t (ep_isi "tuple" (by rfl) B.isinstance (by rfl) B.tuple (by decide +kernel) (ep_var (pv 0))))) (wp_or1 (tp_cmp (op_neD (hr.units)) r2_neD (ep_cb (fun pa => pe_callB call_lenA (by rfl) B.len PySem.boot_len pa) rn_lenA (ap_cons (ep_var (pv 0)) ap_nil)) (ep_var (pv 1)) (nomark _)))))) (bs_one (ss_ret (EV.of ep_bl))) (bs_nil))
          (bs_one (ss_ret (EV.of (ep_cb (fun pa => pe_callB (cr_all rfl) (by rfl) B.all (by decide +kernel) pa) rn_all (ap_cons (ep_lc (own := [("told", 3)]) (bs := [0]) rfl sc.nd (ip_seq (epb_var (pv 0))) (blkOk_by (N := N_are_told_sums) (sc := defScope s_are_told_sums) (by decide +kernel)) (fun _ _ _ _ _ => patc_nm (pg_name (i := 3) sc.nd rfl (by first | exact Or.inl rfl | exact Or.inr rfl) (by first | exact Or.inl rfl | exact Or.inr rfl)) (by decide)) (fun _ _ _ _ _ => tps_nil) (fun _ _ _ _ _ => ep_or (ep_cmp (op_isA) r2_isA (ep_var (pv 3)) ep_non (nomark _)) (ep_one (ep_callK K_is_count (hr.mono (by decide)) (by rfl) (ap_cons (ep_var (pv 3)) (ap_cons (EP.weak ep_int) (ap_cons (ep_var (pv 2)) ap_nil))))))) ap_nil)))))
/-! ### is_told_cell -/
abbrev s_is_told_cell : Stmt := topS 5
abbrev N_is_told_cell : List Str := ["value", "m", "n"]
theorem sc_is_told_cell : FnScope N_is_told_cell ["value", "m", "n"] (defScope s_is_told_cell) := ⟨rfl, rfl, rfl, by decide +kernel, rfl, by decide +kernel, by decide +kernel⟩
noncomputable def B_is_told_cell : Rh → Out :=
  sSeq (sIf (lift (por (pnot (qT (u1 (isiD "tuple") (getS 0)))) (qB (o2 neD (fnE lenF (aCons (getS 0) aNil)) (cst (.int 3)))))) (sRet (lift (cst (.bool false)))) (sNil))
    (sRet (lift (eand (fnE F_is_count (aCons (o2 ixD (getS 0) (cst (.int 0))) (aCons (cst (.int 0)) (aCons (o2 subD (getS 1) (cst (.int 1))) aNil)))) (eand (fnE F_is_count (aCons (o2 ixD (getS 0) (cst (.int 1))) (aCons (cst (.int 0)) (aCons (o2 subD (getS 2) (cst (.int 1))) aNil)))) (fnE F_is_count (aCons (o2 ixD (getS 0) (cst (.int 2))) (aCons (cst (.int 0)) (aCons (cst (.int 1)) aNil))))))))
noncomputable def F_is_told_cell : List D → Option D := runF 3 3 B_is_told_cell
theorem ok_is_told_cell {f : Addr} {fd : FuncData} (F : FnD K "is_told_cell" "is_told_cell" s_is_told_cell f fd) (hm : mg "is_told_cell" = some (.ref f)) (hb : Binds K fd ["value", "m", "n"] []) (K_is_count : KnP P w K mg base 1 "is_count" 3 F_is_count) (B : Bl mg) (C : Cs mg) :
    KnP P w K mg base 2 "is_told_cell" 3 F_is_told_cell := by
  have sc := sc_is_told_cell
  refine KnP.of F sc hm hb (k := 1) (B := B_is_told_cell) fun cdv A outer s H E hr => ?_
  unfold B_is_told_cell
  exact bs_cons (ss_if (TV.of (WP.tp (wp_or (tp_not (tp_t (ep_isi "tuple" (by rfl) B.isinstance (by rfl) B.tuple (by decide +kernel) (ep_var (pv 0))))) (wp_or1 (tp_cmp (op_neD (hr.units)) r2_neD (ep_cb (fun pa => pe_callB call_lenA (by rfl) B.len PySem.boot_len pa) rn_lenA (ap_cons (ep_var (pv 0)) ap_nil)) ep_int (nomark _)))))) (bs_one (ss_ret (EV.of ep_bl))) (bs_nil))
          (bs_one (ss_ret (EV.of (ep_and (ep_callK K_is_count (hr.mono (by decide)) (by rfl) (ap_cons (ep_ix (ep_var (pv 0)) ep_int (fun _ _ => rfl)) (ap_cons (EP.weak ep_int) (ap_cons (EP.weak (ep_bin (op_sub) r2_sub (ep_var (pv 1)) ep_int)) ap_nil)))) (ep_and (ep_callK K_is_count (hr.mono (by decide)) (by rfl) (ap_cons (ep_ix (ep_var (pv 0)) ep_int (fun _ _ => rfl)) (ap_cons (EP.weak ep_int) (ap_cons (EP.weak (ep_bin (op_sub) r2_sub (ep_var (pv 2)) ep_int)) ap_nil)))) (ep_one (ep_callK K_is_count (hr.mono (by decide)) (by rfl) (ap_cons (ep_ix (ep_var (pv 0)) ep_int (fun _ _ => rfl)) (ap_cons (EP.weak ep_int) (ap_cons (EP.weak ep_int) ap_nil))))))))))
/-! ### are_told_cells -/
abbrev s_are_told_cells : Stmt := topS 6
abbrev N_are_told_cells : List Str := ["value", "m", "n", "k", "cell"]
theorem sc_are_told_cells : FnScope N_are_told_cells ["value", "m", "n"] (defScope s_are_told_cells) := ⟨rfl, rfl, rfl, by decide +kernel, rfl, by decide +kernel, by decide +kernel⟩
noncomputable def B_are_told_cells : Rh → Out :=
  sSeq (sIf (lift (por (pnot (qT (u1 (isiD "tuple") (getS 0)))) (pnot (qT (fnE allF (aCons (eLc (.nm 4) [4] (iS (getS 0)) tAll (fnE F_is_told_cell (aCons (getS 4) (aCons (getS 1) (aCons (getS 2) aNil))))) aNil)))))) (sRet (lift (cst (.bool false)))) (sNil))
    (sRet (lift (fnE allF (aCons (eLc (.nm 3) [3] (iR1 (aCons (o2 subD (fnE lenF (aCons (getS 0) aNil)) (cst (.int 1))) aNil)) tAll (o2 ltD (slE (o2 ixD (getS 0) (getS 3)) opn (ops (cst (.int 2)))) (slE (o2 ixD (getS 0) (o2 addD (getS 3) (cst (.int 1)))) opn (ops (cst (.int 2)))))) aNil))))
noncomputable def F_are_told_cells : List D → Option D := runF 3 5 B_are_told_cells
theorem ok_are_told_cells {f : Addr} {fd : FuncData} (F : FnD K "are_told_cells" "are_told_cells" s_are_told_cells f fd) (hm : mg "are_told_cells" = some (.ref f)) (hb : Binds K fd ["value", "m", "n"] []) (K_is_told_cell : KnP P w K mg base 2 "is_told_cell" 3 F_is_told_cell) (B : Bl mg) (C : Cs mg) :
    KnP P w K mg base 3 "are_told_cells" 3 F_are_told_cells := by
  have sc := sc_are_told_cells
  refine KnP.of F sc hm hb (k := 2) (B := B_are_told_cells) fun cdv A outer s H E hr => ?_
  unfold B_are_told_cells
  exact bs_cons (ss_if (TV.of (WP.tp (wp_or (tp_not (tp_t (ep_isi "tuple" (by rfl) B.isinstance (by rfl) B.tuple (by decide +kernel) (ep_var (pv 0))))) (wp_or1 (tp_not (tp_t (ep_cb (fun pa => pe_callB (cr_all rfl) (by rfl) B.all (by decide +kernel) pa) rn_all (ap_cons (ep_lc (own := [("cell", 4)]) (bs := [0]) rfl sc.nd (ip_seq (epb_var (pv 0))) (blkOk_by (N := N_are_told_cells) (sc := defScope s_are_told_cells) (by decide +kernel)) (fun _ _ _ _ _ => patc_nm (pg_name (i := 4) sc.nd rfl (by first | exact Or.inl rfl | exact Or.inr rfl) (by first | exact Or.inl rfl | exact Or.inr rfl)) (by decide)) (fun _ _ _ _ _ => tps_nil) (fun _ _ _ _ _ => ep_callK K_is_told_cell (hr.mono (by decide)) (by rfl) (ap_cons (ep_var (pv 4)) (ap_cons (ep_var (pv 1)) (ap_cons (ep_var (pv 2)) ap_nil))))) ap_nil)))))))) (bs_one (ss_ret (EV.of ep_bl))) (bs_nil))
          (bs_one (ss_ret (EV.of (ep_cb (fun pa => pe_callB (cr_all rfl) (by rfl) B.all (by decide +kernel) pa) rn_all (ap_cons (ep_lc (own := [("k", 3)]) (bs := []) rfl sc.nd (ip_range1 (by rfl) B.range (ap_cons (ep_bin (op_sub) r2_sub (ep_cb (fun pa => pe_callB call_lenA (by rfl) B.len PySem.boot_len pa) rn_lenA (ap_cons (ep_var (pv 0)) ap_nil)) ep_int) ap_nil)) (blkOk_by (N := N_are_told_cells) (sc := defScope s_are_told_cells) (by decide +kernel)) (fun _ _ _ _ _ => patc_nm (pg_name (i := 3) sc.nd rfl (by first | exact Or.inl rfl | exact Or.inr rfl) (by first | exact Or.inl rfl | exact Or.inr rfl)) (by decide)) (fun _ _ _ _ _ => tps_nil) (fun _ _ _ _ _ => ep_cmp (op_ltA hr) r2_ltA (ep_slice (ep_ix (ep_var (pv 0)) (ep_var (pv 3)) (fun _ _ => rfl)) po_n (po_s ep_int)) (ep_slice (ep_ix (ep_var (pv 0)) (ep_bin (op_addA) r2_addA (ep_var (pv 3)) ep_int) (fun _ _ => rfl)) po_n (po_s ep_int)) (nomark _))) ap_nil)))))
/-! ### is_telling -/
abbrev s_is_telling : Stmt := topS 7
abbrev N_is_telling : List Str := ["value", "m", "n", "rows", "columns", "cells"]
theorem sc_is_telling : FnScope N_is_telling ["value"] (defScope s_is_telling) := ⟨rfl, rfl, rfl, by decide +kernel, rfl, by decide +kernel, by decide +kernel⟩
noncomputable def B_is_telling : Rh → Out :=
  sSeq (sIf (lift (por (pnot (qT (u1 (isiD "tuple") (getS 0)))) (qB (o2 neD (fnE lenF (aCons (getS 0) aNil)) (cst (.int 5)))))) (sRet (lift (cst (.bool false)))) (sNil))
    (sSeq (sSet (.tp [.nm 1, .nm 2, .nm 3, .nm 4, .nm 5]) (lift (gE (getS 0))))
    (sSeq (sIf (lift (por (pnot (qT (fnE F_is_count (aCons (getS 1) (aCons (cst (.int 1)) (aCons (cst (.int 16)) aNil)))))) (pnot (qT (fnE F_is_count (aCons (getS 2) (aCons (cst (.int 1)) (aCons (cst (.int 16)) aNil)))))))) (sRet (lift (cst (.bool false)))) (sNil))
    (sRet (lift (eand (fnE F_are_told_sums (aCons (getS 3) (aCons (getS 1) (aCons (getS 2) aNil)))) (eand (fnE F_are_told_sums (aCons (getS 4) (aCons (getS 2) (aCons (getS 1) aNil)))) (fnE F_are_told_cells (aCons (getS 5) (aCons (getS 1) (aCons (getS 2) aNil))))))))))
noncomputable def F_is_telling : List D → Option D := runF 1 6 B_is_telling
theorem ok_is_telling {f : Addr} {fd : FuncData} (F : FnD K "is_telling" "is_telling" s_is_telling f fd) (hm : mg "is_telling" = some (.ref f)) (hb : Binds K fd ["value"] []) (K_is_count : KnP P w K mg base 1 "is_count" 3 F_is_count) (K_are_told_sums : KnP P w K mg base 2 "are_told_sums" 3 F_are_told_sums) (K_are_told_cells : KnP P w K mg base 3 "are_told_cells" 3 F_are_told_cells) (B : Bl mg) (C : Cs mg) :
    KnP P w K mg base 4 "is_telling" 1 F_is_telling := by
  have sc := sc_is_telling
  refine KnP.of F sc hm hb (k := 3) (B := B_is_telling) fun cdv A outer s H E hr => ?_
  unfold B_is_telling
  exact bs_cons (ss_if (TV.of (WP.tp (wp_or (tp_not (tp_t (ep_isi "tuple" (by rfl) B.isinstance (by rfl) B.tuple (by decide +kernel) (ep_var (pv 0))))) (wp_or1 (tp_cmp (op_neD (hr.units)) r2_neD (ep_cb (fun pa => pe_callB call_lenA (by rfl) B.len PySem.boot_len pa) rn_lenA (ap_cons (ep_var (pv 0)) ap_nil)) ep_int (nomark _)))))) (bs_one (ss_ret (EV.of ep_bl))) (bs_nil))
          (bs_cons (ss_asg (fun pe pg => ps_asg pe pg) (EV.of (ep_g (ep_var (pv 0)))) (pat_tp rfl (pats_cons (pat_nm (pg_name (i := 1) sc.nd rfl (by first | exact Or.inl rfl | exact Or.inr rfl))) (pats_cons (pat_nm (pg_name (i := 2) sc.nd rfl (by first | exact Or.inl rfl | exact Or.inr rfl))) (pats_cons (pat_nm (pg_name (i := 3) sc.nd rfl (by first | exact Or.inl rfl | exact Or.inr rfl))) (pats_cons (pat_nm (pg_name (i := 4) sc.nd rfl (by first | exact Or.inl rfl | exact Or.inr rfl))) (pats_cons (pat_nm (pg_name (i := 5) sc.nd rfl (by first | exact Or.inl rfl | exact Or.inr rfl))) (pats_nil)))))) rfl))
          (bs_cons (ss_if (TV.of (WP.tp (wp_or (tp_not (tp_t (ep_callK K_is_count (hr.mono (by decide)) (by rfl) (ap_cons (ep_var (pv 1)) (ap_cons (EP.weak ep_int) (ap_cons (EP.weak (ep_globI (by rfl) C.MAX_SIDE)) ap_nil)))))) (wp_or1 (tp_not (tp_t (ep_callK K_is_count (hr.mono (by decide)) (by rfl) (ap_cons (ep_var (pv 2)) (ap_cons (EP.weak ep_int) (ap_cons (EP.weak (ep_globI (by rfl) C.MAX_SIDE)) ap_nil)))))))))) (bs_one (ss_ret (EV.of ep_bl))) (bs_nil))
          (bs_one (ss_ret (EV.of (ep_and (ep_callK K_are_told_sums (hr.mono (by decide)) (by rfl) (ap_cons (ep_var (pv 3)) (ap_cons (ep_var (pv 1)) (ap_cons (ep_var (pv 2)) ap_nil)))) (ep_and (ep_callK K_are_told_sums (hr.mono (by decide)) (by rfl) (ap_cons (ep_var (pv 4)) (ap_cons (ep_var (pv 2)) (ap_cons (ep_var (pv 1)) ap_nil)))) (ep_one (ep_callK K_are_told_cells (hr.mono (by decide)) (by rfl) (ap_cons (ep_var (pv 5)) (ap_cons (ep_var (pv 1)) (ap_cons (ep_var (pv 2)) ap_nil))))))))))))
/-! ### is_entry -/
abbrev s_is_entry : Stmt := topS 10
abbrev N_is_entry : List Str := ["m", "n", "value"]
theorem sc_is_entry : FnScope N_is_entry ["m", "n", "value"] (defScope s_is_entry) := ⟨rfl, rfl, rfl, by decide +kernel, rfl, by decide +kernel, by decide +kernel⟩
noncomputable def B_is_entry : Rh → Out :=
  sSeq (sIf (lift (por (pnot (qT (u1 (isiD "tuple") (getS 2)))) (por (qB (o2 eqD (getS 2) (mkT aNil))) (pnot (qT (u1 (isiD "str") (o2 ixD (getS 2) (cst (.int 0))))))))) (sRet (lift (cst (.bool false)))) (sNil))
    (sSeq (sIf (lift (pand (qB (o2 eqD (o2 ixD (getS 2) (cst (.int 0))) (cst (.str "row")))) (qB (o2 eqD (fnE lenF (aCons (getS 2) aNil)) (cst (.int 3)))))) (sRet (lift (eand (fnE F_is_count (aCons (o2 ixD (getS 2) (cst (.int 1))) (aCons (cst (.int 0)) (aCons (o2 subD (getS 0) (cst (.int 1))) aNil)))) (fnE F_is_count (aCons (o2 ixD (getS 2) (cst (.int 2))) (aCons (cst (.int 0)) (aCons (getS 1) aNil))))))) (sNil))
    (sSeq (sIf (lift (pand (qB (o2 eqD (o2 ixD (getS 2) (cst (.int 0))) (cst (.str "column")))) (qB (o2 eqD (fnE lenF (aCons (getS 2) aNil)) (cst (.int 3)))))) (sRet (lift (eand (fnE F_is_count (aCons (o2 ixD (getS 2) (cst (.int 1))) (aCons (cst (.int 0)) (aCons (o2 subD (getS 1) (cst (.int 1))) aNil)))) (fnE F_is_count (aCons (o2 ixD (getS 2) (cst (.int 2))) (aCons (cst (.int 0)) (aCons (getS 0) aNil))))))) (sNil))
    (sSeq (sIf (lift (pand (qB (o2 eqD (o2 ixD (getS 2) (cst (.int 0))) (cst (.str "cell")))) (qB (o2 eqD (fnE lenF (aCons (getS 2) aNil)) (cst (.int 4)))))) (sRet (lift (eand (fnE F_is_count (aCons (o2 ixD (getS 2) (cst (.int 1))) (aCons (cst (.int 0)) (aCons (o2 subD (getS 0) (cst (.int 1))) aNil)))) (eand (fnE F_is_count (aCons (o2 ixD (getS 2) (cst (.int 2))) (aCons (cst (.int 0)) (aCons (o2 subD (getS 1) (cst (.int 1))) aNil)))) (fnE F_is_count (aCons (o2 ixD (getS 2) (cst (.int 3))) (aCons (cst (.int 0)) (aCons (cst (.int 1)) aNil)))))))) (sNil))
    (sSeq (sIf (lift (por (qB (o2 neD (o2 ixD (getS 2) (cst (.int 0))) (cst (.str "wrong")))) (qB (o2 neD (fnE lenF (aCons (getS 2) aNil)) (cst (.int 2)))))) (sRet (lift (cst (.bool false)))) (sNil))
    (sRet (lift (eand (u1 (isiD "int") (o2 ixD (getS 2) (cst (.int 1)))) (eand (u1 notT (u1 (isiD "bool") (o2 ixD (getS 2) (cst (.int 1))))) (o2 geI (o2 ixD (getS 2) (cst (.int 1))) (cst (.int 0)))))))))))
noncomputable def F_is_entry : List D → Option D := runF 3 3 B_is_entry
theorem ok_is_entry {f : Addr} {fd : FuncData} (F : FnD K "is_entry" "is_entry" s_is_entry f fd) (hm : mg "is_entry" = some (.ref f)) (hb : Binds K fd ["m", "n", "value"] []) (K_is_count : KnP P w K mg base 1 "is_count" 3 F_is_count) (B : Bl mg) (C : Cs mg) :
    KnP P w K mg base 2 "is_entry" 3 F_is_entry := by
  have sc := sc_is_entry
  refine KnP.of F sc hm hb (k := 1) (B := B_is_entry) fun cdv A outer s H E hr => ?_
  unfold B_is_entry
  exact bs_cons (ss_if (TV.of (WP.tp (wp_or (tp_not (tp_t (ep_isi "tuple" (by rfl) B.isinstance (by rfl) B.tuple (by decide +kernel) (ep_var (pv 2))))) (wp_or (tp_cmp (op_eqD (hr.units)) r2_eqD (ep_var (pv 2)) (ep_tup ((ap_nil (fr := true)))) (nomark _)) (wp_or1 (tp_not (tp_t (ep_isi "str" (by rfl) B.isinstance (by rfl) B.str (by decide +kernel) (ep_ix (ep_var (pv 2)) ep_int (fun _ _ => rfl)))))))))) (bs_one (ss_ret (EV.of ep_bl))) (bs_nil))
          (bs_cons (ss_if (TV.of (WP.tp (wp_and (tp_cmp (op_eqD (hr.units)) r2_eqD (ep_ix (ep_var (pv 2)) ep_int (fun _ _ => rfl)) ep_str (nomark _)) (wp_and1 (tp_cmp (op_eqD (hr.units)) r2_eqD (ep_cb (fun pa => pe_callB call_lenA (by rfl) B.len PySem.boot_len pa) rn_lenA (ap_cons (ep_var (pv 2)) ap_nil)) ep_int (nomark _)))))) (bs_one (ss_ret (EV.of (ep_and (ep_callK K_is_count (hr.mono (by decide)) (by rfl) (ap_cons (ep_ix (ep_var (pv 2)) ep_int (fun _ _ => rfl)) (ap_cons (EP.weak ep_int) (ap_cons (EP.weak (ep_bin (op_sub) r2_sub (ep_var (pv 0)) ep_int)) ap_nil)))) (ep_one (ep_callK K_is_count (hr.mono (by decide)) (by rfl) (ap_cons (ep_ix (ep_var (pv 2)) ep_int (fun _ _ => rfl)) (ap_cons (EP.weak ep_int) (ap_cons (ep_var (pv 1)) ap_nil))))))))) (bs_nil))
          (bs_cons (ss_if (TV.of (WP.tp (wp_and (tp_cmp (op_eqD (hr.units)) r2_eqD (ep_ix (ep_var (pv 2)) ep_int (fun _ _ => rfl)) ep_str (nomark _)) (wp_and1 (tp_cmp (op_eqD (hr.units)) r2_eqD (ep_cb (fun pa => pe_callB call_lenA (by rfl) B.len PySem.boot_len pa) rn_lenA (ap_cons (ep_var (pv 2)) ap_nil)) ep_int (nomark _)))))) (bs_one (ss_ret (EV.of (ep_and (ep_callK K_is_count (hr.mono (by decide)) (by rfl) (ap_cons (ep_ix (ep_var (pv 2)) ep_int (fun _ _ => rfl)) (ap_cons (EP.weak ep_int) (ap_cons (EP.weak (ep_bin (op_sub) r2_sub (ep_var (pv 1)) ep_int)) ap_nil)))) (ep_one (ep_callK K_is_count (hr.mono (by decide)) (by rfl) (ap_cons (ep_ix (ep_var (pv 2)) ep_int (fun _ _ => rfl)) (ap_cons (EP.weak ep_int) (ap_cons (ep_var (pv 0)) ap_nil))))))))) (bs_nil))
          (bs_cons (ss_if (TV.of (WP.tp (wp_and (tp_cmp (op_eqD (hr.units)) r2_eqD (ep_ix (ep_var (pv 2)) ep_int (fun _ _ => rfl)) ep_str (nomark _)) (wp_and1 (tp_cmp (op_eqD (hr.units)) r2_eqD (ep_cb (fun pa => pe_callB call_lenA (by rfl) B.len PySem.boot_len pa) rn_lenA (ap_cons (ep_var (pv 2)) ap_nil)) ep_int (nomark _)))))) (bs_one (ss_ret (EV.of (ep_and (ep_callK K_is_count (hr.mono (by decide)) (by rfl) (ap_cons (ep_ix (ep_var (pv 2)) ep_int (fun _ _ => rfl)) (ap_cons (EP.weak ep_int) (ap_cons (EP.weak (ep_bin (op_sub) r2_sub (ep_var (pv 0)) ep_int)) ap_nil)))) (ep_and (ep_callK K_is_count (hr.mono (by decide)) (by rfl) (ap_cons (ep_ix (ep_var (pv 2)) ep_int (fun _ _ => rfl)) (ap_cons (EP.weak ep_int) (ap_cons (EP.weak (ep_bin (op_sub) r2_sub (ep_var (pv 1)) ep_int)) ap_nil)))) (ep_one (ep_callK K_is_count (hr.mono (by decide)) (by rfl) (ap_cons (ep_ix (ep_var (pv 2)) ep_int (fun _ _ => rfl)) (ap_cons (EP.weak ep_int) (ap_cons (EP.weak ep_int) ap_nil)))))))))) (bs_nil))
          (bs_cons (ss_if (TV.of (WP.tp (wp_or (tp_cmp (op_neD (hr.units)) r2_neD (ep_ix (ep_var (pv 2)) ep_int (fun _ _ => rfl)) ep_str (nomark _)) (wp_or1 (tp_cmp (op_neD (hr.units)) r2_neD (ep_cb (fun pa => pe_callB call_lenA (by rfl) B.len PySem.boot_len pa) rn_lenA (ap_cons (ep_var (pv 2)) ap_nil)) ep_int (nomark _)))))) (bs_one (ss_ret (EV.of ep_bl))) (bs_nil))
          (bs_one (ss_ret (EV.of (ep_and (ep_isi "int" (by rfl) B.isinstance (by rfl) B.int (by decide +kernel) (ep_ix (ep_var (pv 2)) ep_int (fun _ _ => rfl))) (ep_and (ep_notT (ep_isi "bool" (by rfl) B.isinstance (by rfl) B.bool (by decide +kernel) (ep_ix (ep_var (pv 2)) ep_int (fun _ _ => rfl)))) (ep_one (ep_cmp (op_ge) r2_geI (ep_ix (ep_var (pv 2)) ep_int (fun _ _ => rfl)) ep_int (nomark _))))))))))))
/-! ### is_diary -/
abbrev s_is_diary : Stmt := topS 11
abbrev N_is_diary : List Str := ["value", "m", "n", "entries", "entry"]
theorem sc_is_diary : FnScope N_is_diary ["value"] (defScope s_is_diary) := ⟨rfl, rfl, rfl, by decide +kernel, rfl, by decide +kernel, by decide +kernel⟩
noncomputable def B_is_diary : Rh → Out :=
  sSeq (sIf (lift (por (pnot (qT (u1 (isiD "tuple") (getS 0)))) (por (qB (o2 neD (fnE lenF (aCons (getS 0) aNil)) (cst (.int 3)))) (pnot (qT (u1 (isiD "tuple") (o2 ixD (getS 0) (cst (.int 2))))))))) (sRet (lift (cst (.bool false)))) (sNil))
    (sSeq (sSet (.tp [.nm 1, .nm 2, .nm 3]) (lift (gE (getS 0))))
    (sSeq (sIf (lift (por (pnot (qT (fnE F_is_count (aCons (getS 1) (aCons (cst (.int 1)) (aCons (cst (.int 16)) aNil)))))) (por (pnot (qT (fnE F_is_count (aCons (getS 2) (aCons (cst (.int 1)) (aCons (cst (.int 16)) aNil)))))) (qB (o2 gtI (fnE lenF (aCons (getS 3) aNil)) (cst (.int 200))))))) (sRet (lift (cst (.bool false)))) (sNil))
    (sRet (lift (fnE allF (aCons (eLc (.nm 4) [4] (iS (getS 3)) tAll (fnE F_is_entry (aCons (getS 1) (aCons (getS 2) (aCons (getS 4) aNil))))) aNil))))))
noncomputable def F_is_diary : List D → Option D := runF 1 5 B_is_diary
theorem ok_is_diary {f : Addr} {fd : FuncData} (F : FnD K "is_diary" "is_diary" s_is_diary f fd) (hm : mg "is_diary" = some (.ref f)) (hb : Binds K fd ["value"] []) (K_is_count : KnP P w K mg base 1 "is_count" 3 F_is_count) (K_is_entry : KnP P w K mg base 2 "is_entry" 3 F_is_entry) (B : Bl mg) (C : Cs mg) :
    KnP P w K mg base 3 "is_diary" 1 F_is_diary := by
  have sc := sc_is_diary
  refine KnP.of F sc hm hb (k := 2) (B := B_is_diary) fun cdv A outer s H E hr => ?_
  unfold B_is_diary
  exact bs_cons (ss_if (TV.of (WP.tp (wp_or (tp_not (tp_t (ep_isi "tuple" (by rfl) B.isinstance (by rfl) B.tuple (by decide +kernel) (ep_var (pv 0))))) (wp_or (tp_cmp (op_neD (hr.units)) r2_neD (ep_cb (fun pa => pe_callB call_lenA (by rfl) B.len PySem.boot_len pa) rn_lenA (ap_cons (ep_var (pv 0)) ap_nil)) ep_int (nomark _)) (wp_or1 (tp_not (tp_t (ep_isi "tuple" (by rfl) B.isinstance (by rfl) B.tuple (by decide +kernel) (ep_ix (ep_var (pv 0)) ep_int (fun _ _ => rfl)))))))))) (bs_one (ss_ret (EV.of ep_bl))) (bs_nil))
          (bs_cons (ss_asg (fun pe pg => ps_asg pe pg) (EV.of (ep_g (ep_var (pv 0)))) (pat_tp rfl (pats_cons (pat_nm (pg_name (i := 1) sc.nd rfl (by first | exact Or.inl rfl | exact Or.inr rfl))) (pats_cons (pat_nm (pg_name (i := 2) sc.nd rfl (by first | exact Or.inl rfl | exact Or.inr rfl))) (pats_cons (pat_nm (pg_name (i := 3) sc.nd rfl (by first | exact Or.inl rfl | exact Or.inr rfl))) (pats_nil)))) rfl))
          (bs_cons (ss_if (TV.of (WP.tp (wp_or (tp_not (tp_t (ep_callK K_is_count (hr.mono (by decide)) (by rfl) (ap_cons (ep_var (pv 1)) (ap_cons (EP.weak ep_int) (ap_cons (EP.weak (ep_globI (by rfl) C.MAX_SIDE)) ap_nil)))))) (wp_or (tp_not (tp_t (ep_callK K_is_count (hr.mono (by decide)) (by rfl) (ap_cons (ep_var (pv 2)) (ap_cons (EP.weak ep_int) (ap_cons (EP.weak (ep_globI (by rfl) C.MAX_SIDE)) ap_nil)))))) (wp_or1 (tp_cmp (op_gt) r2_gtI (ep_cb (fun pa => pe_callB call_lenA (by rfl) B.len PySem.boot_len pa) rn_lenA (ap_cons (ep_var (pv 3)) ap_nil)) (ep_globI (by rfl) C.MAX_ENTRIES) (nomark _))))))) (bs_one (ss_ret (EV.of ep_bl))) (bs_nil))
          (bs_one (ss_ret (EV.of (ep_cb (fun pa => pe_callB (cr_all rfl) (by rfl) B.all (by decide +kernel) pa) rn_all (ap_cons (ep_lc (own := [("entry", 4)]) (bs := [3]) rfl sc.nd (ip_seq (epb_var (pv 3))) (blkOk_by (N := N_is_diary) (sc := defScope s_is_diary) (by decide +kernel)) (fun _ _ _ _ _ => patc_nm (pg_name (i := 4) sc.nd rfl (by first | exact Or.inl rfl | exact Or.inr rfl) (by first | exact Or.inl rfl | exact Or.inr rfl)) (by decide)) (fun _ _ _ _ _ => tps_nil) (fun _ _ _ _ _ => ep_callK K_is_entry (hr.mono (by decide)) (by rfl) (ap_cons (ep_var (pv 1)) (ap_cons (ep_var (pv 2)) (ap_cons (ep_var (pv 4)) ap_nil))))) ap_nil)))))))
/-! ### withdrawn -/
abbrev s_withdrawn : Stmt := topS 12
abbrev N_withdrawn : List Str := ["entries", "right", "named", "number", "entry"]
theorem sc_withdrawn : FnScope N_withdrawn ["entries"] (defScope s_withdrawn) := ⟨rfl, rfl, rfl, by decide +kernel, rfl, by decide +kernel, by decide +kernel⟩
noncomputable def B_withdrawn : Rh → Out :=
  sSeq (sSet (.nm 1) (lift (cst (.dict []))))
    (sSeq (sSet (.nm 2) (lift (cst (.dict []))))
    (sSeq (sFor [0] (.tp [.nm 3, .nm 4]) (lift (iE (getS 0))) (sIf (lift (pand (qB (o2 eqD (o2 ixD (getS 4) (cst (.int 0))) (cst (.str "wrong")))) (pand (qB (o2 ltD (o2 ixD (getS 4) (cst (.int 1))) (getS 3))) (pand (qB (o2 neD (o2 ixD (o2 ixD (getS 0) (o2 ixD (getS 4) (cst (.int 1)))) (cst (.int 0))) (cst (.str "wrong")))) (qB (o2 dninD (o2 ixD (getS 4) (cst (.int 1))) (getS 2))))))) (sSeq (sDput 1 (gE (getS 3)) (lift (cst (.bool true))))
    (sDput 2 (gE (o2 ixD (getS 4) (cst (.int 1)))) (lift (cst (.bool true))))) (sNil)))
    (sRet (nkT (bCons (mvS 1) (bCons (mvS 2) bNil))))))
noncomputable def F_withdrawn : List D → Option D := runF 1 5 B_withdrawn
theorem ok_withdrawn {f : Addr} {fd : FuncData} (F : FnD K "withdrawn" "withdrawn" s_withdrawn f fd) (hm : mg "withdrawn" = some (.ref f)) (hb : Binds K fd ["entries"] []) (B : Bl mg) (C : Cs mg) :
    KnP P w K mg base 1 "withdrawn" 1 F_withdrawn := by
  have sc := sc_withdrawn
  refine KnP.of F sc hm hb (k := 0) (B := B_withdrawn) fun cdv A outer s H E hr => ?_
  unfold B_withdrawn
  exact bs_cons (ss_set (fun pe => ps_set (i := 1) sc.nd rfl (by first | exact Or.inl rfl | exact Or.inr rfl) pe) (EV.of ep_dnewK))
          (bs_cons (ss_set (fun pe => ps_set (i := 2) sc.nd rfl (by first | exact Or.inl rfl | exact Or.inr rfl) pe) (EV.of ep_dnewK))
          (bs_cons (ss_for (bs := [0]) PassesOwn.never rfl (IV.of (ip_enum (by rfl) B.enumerate (epb_var (pv 0)))) (pat_tp rfl (pats_cons (pat_nm (pg_name (i := 3) sc.nd rfl (by first | exact Or.inl rfl | exact Or.inr rfl))) (pats_cons (pat_nm (pg_name (i := 4) sc.nd rfl (by first | exact Or.inl rfl | exact Or.inr rfl))) (pats_nil))) rfl) (bs_one (ss_if (TV.of (WP.tp (wp_and (tp_cmp (op_eqD (hr.units)) r2_eqD (ep_ix (ep_var (pv 4)) ep_int (fun _ _ => rfl)) ep_str (nomark _)) (wp_and (tp_cmp (op_ltA hr) r2_ltA (ep_ix (ep_var (pv 4)) ep_int (fun _ _ => rfl)) (ep_var (pv 3)) (nomark _)) (wp_and (tp_cmp (op_neD (hr.units)) r2_neD (ep_ix (ep_ix (ep_var (pv 0)) (ep_ix (ep_var (pv 4)) ep_int (fun _ _ => rfl)) (fun _ _ => rfl)) ep_int (fun _ _ => rfl)) ep_str (nomark _)) (wp_and1 (tp_dnotin hr (ep_ix (ep_var (pv 4)) ep_int (fun _ _ => rfl)) (ep_var (pv 2))))))))) (bs_cons (ss_dput hr (pv 1) (ep_g (ep_var (pv 3))) (EV.of ep_bl))
          (bs_one (ss_dput hr (pv 2) (ep_g (ep_ix (ep_var (pv 4)) ep_int (fun _ _ => rfl))) (EV.of ep_bl)))) (bs_nil))))
          (bs_one (ss_ret (ev_tup (av_cons (ev_mv (pv 1)) (av_cons (ev_mv (pv 2)) av_nil)))))))
/-! ### story -/
abbrev s_story : Stmt := topS 13
abbrev N_story : List Str := ["diary", "entries", "named", "k", "entry"]
theorem sc_story : FnScope N_story ["diary"] (defScope s_story) := ⟨rfl, rfl, rfl, by decide +kernel, rfl, by decide +kernel, by decide +kernel⟩
noncomputable def B_story : Rh → Out :=
  sSeq (sSet (.nm 1) (lift (gE (o2 ixD (getS 0) (cst (.int 2))))))
    (sSeq (sSet (.nm 2) (lift (o2 ixD (fnE F_withdrawn (aCons (getS 1) aNil)) (cst (.int 1)))))
    (sRet (lift (u1 tupD (eLc (.tp [.nm 3, .nm 4]) [3, 4] (iE (getS 1)) (pand (qB (o2 neD (o2 ixD (getS 4) (cst (.int 0))) (cst (.str "wrong")))) (qB (o2 dninD (getS 3) (getS 2)))) (gE (getS 3)))))))
noncomputable def F_story : List D → Option D := runF 1 5 B_story
theorem ok_story {f : Addr} {fd : FuncData} (F : FnD K "story" "story" s_story f fd) (hm : mg "story" = some (.ref f)) (hb : Binds K fd ["diary"] []) (K_withdrawn : KnP P w K mg base 1 "withdrawn" 1 F_withdrawn) (B : Bl mg) (C : Cs mg) :
    KnP P w K mg base 2 "story" 1 F_story := by
  have sc := sc_story
  refine KnP.of F sc hm hb (k := 1) (B := B_story) fun cdv A outer s H E hr => ?_
  unfold B_story
  exact bs_cons (ss_set (fun pe => ps_set (i := 1) sc.nd rfl (by first | exact Or.inl rfl | exact Or.inr rfl) pe) (EV.of (ep_g (ep_ix (ep_var (pv 0)) ep_int (fun _ _ => rfl)))))
          (bs_cons (ss_set (fun pe => ps_set (i := 2) sc.nd rfl (by first | exact Or.inl rfl | exact Or.inr rfl) pe) (EV.of (ep_ixF (ep_callK K_withdrawn (hr.mono (by decide)) (by rfl) (ap_cons (ep_var (pv 1)) ap_nil)) ep_int (fun _ _ => rfl))))
          (bs_one (ss_ret (EV.of (ep_tuple (by rfl) B.tuple (ep_lc (own := [("k", 3), ("entry", 4)]) (bs := [1]) rfl sc.nd (ip_enum (by rfl) B.enumerate (epb_var (pv 1))) (blkOk_by (N := N_story) (sc := defScope s_story) (by decide +kernel)) (fun _ _ _ _ _ => patc_tp rfl (patsc_cons (patc_nm (pg_name (i := 3) sc.nd rfl (by first | exact Or.inl rfl | exact Or.inr rfl) (by first | exact Or.inl rfl | exact Or.inr rfl)) (by decide)) (patsc_cons (patc_nm (pg_name (i := 4) sc.nd rfl (by first | exact Or.inl rfl | exact Or.inr rfl) (by first | exact Or.inl rfl | exact Or.inr rfl)) (by decide)) (patsc_nil))) rfl) (fun _ _ _ _ _ => tps_one (WP.tp (wp_and (tp_cmp (op_neD (hr.units)) r2_neD (ep_ix (ep_var (pv 4)) ep_int (fun _ _ => rfl)) ep_str (nomark _)) (wp_and1 (tp_dnotin hr (ep_var (pv 3)) (ep_var (pv 2))))))) (fun _ _ _ _ _ => ep_g (ep_var (pv 3)))))))))
/-! ### told_by -/
abbrev s_told_by : Stmt := topS 14
abbrev N_told_by : List Str := ["entries", "numbers", "told", "double", "k", "about"]
theorem sc_told_by : FnScope N_told_by ["entries", "numbers"] (defScope s_told_by) := ⟨rfl, rfl, rfl, by decide +kernel, rfl, by decide +kernel, by decide +kernel⟩
noncomputable def B_told_by : Rh → Out :=
  sSeq (sSet (.nm 2) (lift (cst (.dict [(.none, .none)]))))
    (sSeq (sSet (.nm 3) (lift (mkL aNil)))
    (sSeq (sFor [1] (.nm 4) (lift (iS (getS 1))) (sSeq (sSet (.nm 5) (lift (slE (o2 ixD (getS 0) (getS 4)) opn (ops (u1 negI (cst (.int 1)))))))
    (sIf (lift (qB (o2 dinD (getS 5) (getS 2)))) (sDrop (appendV 3 (lift (gE (getS 4))))) (sDput 2 (gE (getS 5)) (lift (gE (o2 ixD (o2 ixD (getS 0) (getS 4)) (u1 negI (cst (.int 1))))))))))
    (sRet (nkT (bCons (mvS 2) (bCons (mvS 3) bNil))))))
noncomputable def F_told_by : List D → Option D := runF 2 6 B_told_by
theorem ok_told_by {f : Addr} {fd : FuncData} (F : FnD K "told_by" "told_by" s_told_by f fd) (hm : mg "told_by" = some (.ref f)) (hb : Binds K fd ["entries", "numbers"] []) (B : Bl mg) (C : Cs mg) :
    KnP P w K mg base 1 "told_by" 2 F_told_by := by
  have sc := sc_told_by
  refine KnP.of F sc hm hb (k := 0) (B := B_told_by) fun cdv A outer s H E hr => ?_
  unfold B_told_by
  exact bs_cons (ss_set (fun pe => ps_set (i := 2) sc.nd rfl (by first | exact Or.inl rfl | exact Or.inr rfl) pe) (EV.of ep_dnewT))
          (bs_cons (ss_set (fun pe => ps_set (i := 3) sc.nd rfl (by first | exact Or.inl rfl | exact Or.inr rfl) pe) (EV.of (ep_lst ((ap_nil (fr := true))))))
          (bs_cons (ss_for (bs := [1]) PassesOwn.never rfl (IV.of (ip_seq (epb_var (pv 1)))) (pat_nm (pg_name (i := 4) sc.nd rfl (by first | exact Or.inl rfl | exact Or.inr rfl))) (bs_cons (ss_set (fun pe => ps_set (i := 5) sc.nd rfl (by first | exact Or.inl rfl | exact Or.inr rfl) pe) (EV.of (ep_slice (ep_ix (ep_var (pv 0)) (ep_var (pv 4)) (fun _ _ => rfl)) po_n (po_s (ep_neg ep_int)))))
          (bs_one (ss_if (TV.of (tp_din hr (ep_var (pv 5)) (ep_var (pv 2)))) (bs_one (ss_expr (ev_append (pv 3) (EV.of (ep_g (ep_var (pv 4))))))) (bs_one (ss_dput hr (pv 2) (ep_g (ep_var (pv 5))) (EV.of (ep_g (ep_ix (ep_ix (ep_var (pv 0)) (ep_var (pv 4)) (fun _ _ => rfl)) (ep_neg ep_int) (fun _ _ => rfl))))))))))
          (bs_one (ss_ret (ev_tup (av_cons (ev_mv (pv 2)) (av_cons (ev_mv (pv 3)) av_nil)))))))
/-! ### faults -/
abbrev s_faults : Stmt := topS 15
abbrev N_faults : List Str := ["diary", "entries", "right", "found", "k", "entry"]
theorem sc_faults : FnScope N_faults ["diary"] (defScope s_faults) := ⟨rfl, rfl, rfl, by decide +kernel, rfl, by decide +kernel, by decide +kernel⟩
noncomputable def B_faults : Rh → Out :=
  sSeq (sSet (.nm 1) (lift (gE (o2 ixD (getS 0) (cst (.int 2))))))
    (sSeq (sSet (.nm 2) (lift (o2 ixD (fnE F_withdrawn (aCons (getS 1) aNil)) (cst (.int 0)))))
    (sSeq (sSet (.nm 3) (lift (o2 ixD (fnE F_told_by (aCons (getS 1) (aCons (fnE F_story (aCons (getS 0) aNil)) aNil))) (cst (.int 1)))))
    (sSeq (sDrop (extendV 3 (lift (eLc (.tp [.nm 4, .nm 5]) [4, 5] (iE (getS 1)) (pand (qB (o2 eqD (o2 ixD (getS 5) (cst (.int 0))) (cst (.str "wrong")))) (qB (o2 dninD (getS 4) (getS 2)))) (gE (getS 4))))))
    (sRet (lift (u1 tupD (fnE (sortF false) (aCons (getS 3) aNil))))))))
noncomputable def F_faults : List D → Option D := runF 1 6 B_faults
theorem ok_faults {f : Addr} {fd : FuncData} (F : FnD K "faults" "faults" s_faults f fd) (hm : mg "faults" = some (.ref f)) (hb : Binds K fd ["diary"] []) (K_withdrawn : KnP P w K mg base 1 "withdrawn" 1 F_withdrawn) (K_told_by : KnP P w K mg base 1 "told_by" 2 F_told_by) (K_story : KnP P w K mg base 2 "story" 1 F_story) (B : Bl mg) (C : Cs mg) :
    KnP P w K mg base 3 "faults" 1 F_faults := by
  have sc := sc_faults
  refine KnP.of F sc hm hb (k := 2) (B := B_faults) fun cdv A outer s H E hr => ?_
  unfold B_faults
  exact bs_cons (ss_set (fun pe => ps_set (i := 1) sc.nd rfl (by first | exact Or.inl rfl | exact Or.inr rfl) pe) (EV.of (ep_g (ep_ix (ep_var (pv 0)) ep_int (fun _ _ => rfl)))))
          (bs_cons (ss_set (fun pe => ps_set (i := 2) sc.nd rfl (by first | exact Or.inl rfl | exact Or.inr rfl) pe) (EV.of (ep_ixF (ep_callK K_withdrawn (hr.mono (by decide)) (by rfl) (ap_cons (ep_var (pv 1)) ap_nil)) ep_int (fun _ _ => rfl))))
          (bs_cons (ss_set (fun pe => ps_set (i := 3) sc.nd rfl (by first | exact Or.inl rfl | exact Or.inr rfl) pe) (EV.of (ep_ixF (ep_callK K_told_by (hr.mono (by decide)) (by rfl) (ap_cons (ep_var (pv 1)) (ap_cons (EP.weak (ep_callK K_story (hr.mono (by decide)) (by rfl) (ap_cons (ep_var (pv 0)) ap_nil))) ap_nil))) ep_int (fun _ _ => rfl))))
          (bs_cons (ss_expr (ev_extend (pv 3) (EV.of (ep_lc (own := [("k", 4), ("entry", 5)]) (bs := [1]) rfl sc.nd (ip_enum (by rfl) B.enumerate (epb_var (pv 1))) (blkOk_by (N := N_faults) (sc := defScope s_faults) (by decide +kernel)) (fun _ _ _ _ _ => patc_tp rfl (patsc_cons (patc_nm (pg_name (i := 4) sc.nd rfl (by first | exact Or.inl rfl | exact Or.inr rfl) (by first | exact Or.inl rfl | exact Or.inr rfl)) (by decide)) (patsc_cons (patc_nm (pg_name (i := 5) sc.nd rfl (by first | exact Or.inl rfl | exact Or.inr rfl) (by first | exact Or.inl rfl | exact Or.inr rfl)) (by decide)) (patsc_nil))) rfl) (fun _ _ _ _ _ => tps_one (WP.tp (wp_and (tp_cmp (op_eqD (hr.units)) r2_eqD (ep_ix (ep_var (pv 5)) ep_int (fun _ _ => rfl)) ep_str (nomark _)) (wp_and1 (tp_dnotin hr (ep_var (pv 4)) (ep_var (pv 2))))))) (fun _ _ _ _ _ => ep_g (ep_var (pv 4)))))))
          (bs_one (ss_ret (EV.of (ep_tuple (by rfl) B.tuple (ep_cb (fun pa => pe_callB (cr_sortA hr) (by rfl) B.sorted (by decide +kernel) pa) rn_sortA (ap_cons (ep_var (pv 3)) ap_nil)))))))))
/-! ### is_sound -/
abbrev s_is_sound : Stmt := topS 16
abbrev N_is_sound : List Str := ["diary"]
theorem sc_is_sound : FnScope N_is_sound ["diary"] (defScope s_is_sound) := ⟨rfl, rfl, rfl, by decide +kernel, rfl, by decide +kernel, by decide +kernel⟩
noncomputable def B_is_sound : Rh → Out :=
  sRet (lift (o2 eqD (fnE F_faults (aCons (getS 0) aNil)) (mkT aNil)))
noncomputable def F_is_sound : List D → Option D := runF 1 1 B_is_sound
theorem ok_is_sound {f : Addr} {fd : FuncData} (F : FnD K "is_sound" "is_sound" s_is_sound f fd) (hm : mg "is_sound" = some (.ref f)) (hb : Binds K fd ["diary"] []) (K_faults : KnP P w K mg base 3 "faults" 1 F_faults) (B : Bl mg) (C : Cs mg) :
    KnP P w K mg base 4 "is_sound" 1 F_is_sound := by
  have sc := sc_is_sound
  refine KnP.of F sc hm hb (k := 3) (B := B_is_sound) fun cdv A outer s H E hr => ?_
  unfold B_is_sound
  exact bs_one (ss_ret (EV.of (ep_cmp (op_eqD (hr.units)) r2_eqD (ep_callK K_faults (hr.mono (by decide)) (by rfl) (ap_cons (ep_var (pv 0)) ap_nil)) (ep_tup ((ap_nil (fr := true)))) (nomark _))))
/-! ### telling_by -/
abbrev s_telling_by : Stmt := topS 17
abbrev N_telling_by : List Str := ["diary", "numbers", "m", "n", "entries", "told", "rows", "columns", "cells", "i", "j", "about"]
theorem sc_telling_by : FnScope N_telling_by ["diary", "numbers"] (defScope s_telling_by) := ⟨rfl, rfl, rfl, by decide +kernel, rfl, by decide +kernel, by decide +kernel⟩
noncomputable def B_telling_by : Rh → Out :=
  sSeq (sSet (.tp [.nm 2, .nm 3, .nm 4]) (lift (gE (getS 0))))
    (sSeq (sSet (.nm 5) (lift (o2 ixD (fnE F_told_by (aCons (getS 4) (aCons (getS 1) aNil))) (cst (.int 0)))))
    (sSeq (sSet (.nm 6) (lift (u1 tupD (eLc (.nm 9) [9] (iR1 (aCons (getS 2) aNil)) tAll (gE (dgt1 (getS 5) (mkT (aCons (cst (.str "row")) (aCons (gE (getS 9)) aNil)))))))))
    (sSeq (sSet (.nm 7) (lift (u1 tupD (eLc (.nm 10) [10] (iR1 (aCons (getS 3) aNil)) tAll (gE (dgt1 (getS 5) (mkT (aCons (cst (.str "column")) (aCons (gE (getS 10)) aNil)))))))))
    (sSeq (sSet (.nm 8) (lift (u1 tupD (fnE (sortF false) (aCons (eLcD 5 (.nm 11) [11] (qB (o2 eqD (o2 ixD (getS 11) (cst (.int 0))) (cst (.str "cell")))) (o2 addD (slE (getS 11) (ops (cst (.int 1))) opn) (mkT (aCons (gE (o2 dgetD (getS 5) (getS 11))) aNil)))) aNil)))))
    (sRet (nkT (bCons (mvS 2) (bCons (mvS 3) (bCons (mvS 6) (bCons (mvS 7) (bCons (mvS 8) bNil)))))))))))
noncomputable def F_telling_by : List D → Option D := runF 2 12 B_telling_by
theorem ok_telling_by {f : Addr} {fd : FuncData} (F : FnD K "telling_by" "telling_by" s_telling_by f fd) (hm : mg "telling_by" = some (.ref f)) (hb : Binds K fd ["diary", "numbers"] []) (K_told_by : KnP P w K mg base 1 "told_by" 2 F_told_by) (B : Bl mg) (C : Cs mg) :
    KnP P w K mg base 2 "telling_by" 2 F_telling_by := by
  have sc := sc_telling_by
  refine KnP.of F sc hm hb (k := 1) (B := B_telling_by) fun cdv A outer s H E hr => ?_
  unfold B_telling_by
  exact bs_cons (ss_asg (fun pe pg => ps_asg pe pg) (EV.of (ep_g (ep_var (pv 0)))) (pat_tp rfl (pats_cons (pat_nm (pg_name (i := 2) sc.nd rfl (by first | exact Or.inl rfl | exact Or.inr rfl))) (pats_cons (pat_nm (pg_name (i := 3) sc.nd rfl (by first | exact Or.inl rfl | exact Or.inr rfl))) (pats_cons (pat_nm (pg_name (i := 4) sc.nd rfl (by first | exact Or.inl rfl | exact Or.inr rfl))) (pats_nil)))) rfl))
          (bs_cons (ss_set (fun pe => ps_set (i := 5) sc.nd rfl (by first | exact Or.inl rfl | exact Or.inr rfl) pe) (EV.of (ep_ixF (ep_callK K_told_by (hr.mono (by decide)) (by rfl) (ap_cons (ep_var (pv 4)) (ap_cons (ep_var (pv 1)) ap_nil))) ep_int (fun _ _ => rfl))))
          (bs_cons (ss_set (fun pe => ps_set (i := 6) sc.nd rfl (by first | exact Or.inl rfl | exact Or.inr rfl) pe) (EV.of (ep_tuple (by rfl) B.tuple (ep_lc (own := [("i", 9)]) (bs := []) rfl sc.nd (ip_range1 (by rfl) B.range (ap_cons (ep_var (pv 2)) ap_nil)) (blkOk_by (N := N_telling_by) (sc := defScope s_telling_by) (by decide +kernel)) (fun _ _ _ _ _ => patc_nm (pg_name (i := 9) sc.nd rfl (by first | exact Or.inl rfl | exact Or.inr rfl) (by first | exact Or.inl rfl | exact Or.inr rfl)) (by decide)) (fun _ _ _ _ _ => tps_nil) (fun _ _ _ _ _ => ep_g (ep_dgt1 hr (ep_var (pv 5)) (ep_tup (ap_cons ep_str (ap_cons (ep_g (ep_var (pv 9))) ap_nil)))))))))
          (bs_cons (ss_set (fun pe => ps_set (i := 7) sc.nd rfl (by first | exact Or.inl rfl | exact Or.inr rfl) pe) (EV.of (ep_tuple (by rfl) B.tuple (ep_lc (own := [("j", 10)]) (bs := []) rfl sc.nd (ip_range1 (by rfl) B.range (ap_cons (ep_var (pv 3)) ap_nil)) (blkOk_by (N := N_telling_by) (sc := defScope s_telling_by) (by decide +kernel)) (fun _ _ _ _ _ => patc_nm (pg_name (i := 10) sc.nd rfl (by first | exact Or.inl rfl | exact Or.inr rfl) (by first | exact Or.inl rfl | exact Or.inr rfl)) (by decide)) (fun _ _ _ _ _ => tps_nil) (fun _ _ _ _ _ => ep_g (ep_dgt1 hr (ep_var (pv 5)) (ep_tup (ap_cons ep_str (ap_cons (ep_g (ep_var (pv 10))) ap_nil)))))))))
          (bs_cons (ss_set (fun pe => ps_set (i := 8) sc.nd rfl (by first | exact Or.inl rfl | exact Or.inr rfl) pe) (EV.of (ep_tuple (by rfl) B.tuple (ep_cb (fun pa => pe_callB (cr_sortA hr) (by rfl) B.sorted (by decide +kernel) pa) rn_sortA (ap_cons (ep_lcD (own := [("about", 11)]) rfl sc.nd (pv 5) (blkOk_by (N := N_telling_by) (sc := defScope s_telling_by) (by decide +kernel)) (fun _ _ _ _ _ => patc_nm (pg_name (i := 11) sc.nd rfl (by first | exact Or.inl rfl | exact Or.inr rfl) (by first | exact Or.inl rfl | exact Or.inr rfl)) (by decide)) (fun _ _ _ _ _ => tps_one (tp_cmp (op_eqD (hr.units)) r2_eqD (ep_ix (ep_var (pv 11)) ep_int (fun _ _ => rfl)) ep_str (nomark _))) (fun _ _ _ _ _ => ep_bin (op_addA) r2_addA (ep_slice (ep_var (pv 11)) (po_s ep_int) po_n) (ep_tup (ap_cons (ep_g (ep_dget hr (ep_var (pv 5)) (ep_var (pv 11)) (fun _ _ => rfl))) ap_nil)))) ap_nil)))))
          (bs_one (ss_ret (ev_tup (av_cons (ev_mv (pv 2)) (av_cons (ev_mv (pv 3)) (av_cons (ev_mv (pv 6)) (av_cons (ev_mv (pv 7)) (av_cons (ev_mv (pv 8)) av_nil))))))))))))
/-! ### telling_of -/
abbrev s_telling_of : Stmt := topS 18
abbrev N_telling_of : List Str := ["diary"]
theorem sc_telling_of : FnScope N_telling_of ["diary"] (defScope s_telling_of) := ⟨rfl, rfl, rfl, by decide +kernel, rfl, by decide +kernel, by decide +kernel⟩
noncomputable def B_telling_of : Rh → Out :=
  sRet (lift (fnE F_telling_by (aCons (getS 0) (aCons (fnE F_story (aCons (getS 0) aNil)) aNil))))
noncomputable def F_telling_of : List D → Option D := runF 1 1 B_telling_of
theorem ok_telling_of {f : Addr} {fd : FuncData} (F : FnD K "telling_of" "telling_of" s_telling_of f fd) (hm : mg "telling_of" = some (.ref f)) (hb : Binds K fd ["diary"] []) (K_telling_by : KnP P w K mg base 2 "telling_by" 2 F_telling_by) (K_story : KnP P w K mg base 2 "story" 1 F_story) (B : Bl mg) (C : Cs mg) :
    KnP P w K mg base 3 "telling_of" 1 F_telling_of := by
  have sc := sc_telling_of
  refine KnP.of F sc hm hb (k := 2) (B := B_telling_of) fun cdv A outer s H E hr => ?_
  unfold B_telling_of
  exact bs_one (ss_ret (EV.of (ep_callK K_telling_by (hr.mono (by decide)) (by rfl) (ap_cons (ep_var (pv 0)) (ap_cons (EP.weak (ep_callK K_story (hr.mono (by decide)) (by rfl) (ap_cons (ep_var (pv 0)) ap_nil))) ap_nil)))))
/-! ### _law_box -/
abbrev s__law_box : Stmt := topS 20
theorem sc__law_box : FnScope ["script"] ["script"] (defScope s__law_box) := ⟨rfl, rfl, rfl, by decide +kernel, rfl, by decide +kernel, by decide +kernel⟩
theorem ok__law_box {f : Addr} {fd : FuncData} (F : FnD K "_law_box" "_law_box" s__law_box f fd) (B : Bl mg) : FnOk P w K mg base CX0 1 f fd ["script"] (spBox K boxD) := by
  refine F.walk sc__law_box (fun vs H Q E h => by obtain ⟨a, ns, rfl, _⟩ := h; rfl) fun cdv A outer s H vs Q E hr h => ?_
  obtain ⟨a, ns, rfl, hS, hlen, q⟩ := h
  exact ⟨_, pss_one (ps_ret (pe_lst (pa_cons (pe_callTy call_list_of (by rfl) B.list (by decide +kernel) (pa_cons (pe_slice sl_list (pv 0) po_none (po_some pe_int)) pa_nil)) (pa_cons pe_int (pa_cons (pe_op op_add pe_int (pe_callB call_len_seq (by rfl) B.len PySem.boot_len (pa_cons (pv 0) pa_nil))) pa_nil))))), box_run rfl hS hlen q⟩
/-! ### _law_load -/
abbrev s__law_load : Stmt := topS 21
theorem sc__law_load : FnScope ["box", "cells", "cell", "size", "first", "second"] ["box"] (defScope s__law_load) := ⟨rfl, rfl, rfl, by decide +kernel, rfl, by decide +kernel, by decide +kernel⟩
theorem ok__law_load {f : Addr} {fd : FuncData} (F : FnD K "_law_load" "_law_load" s__law_load f fd) (hm : mg "_law_load" = some (.ref f)) (hb : Binds K fd ["box"] []) (B : Bl mg) (C : Cs mg) : KnM P w K mg base 1 "_law_load" 1 0 F__law_load := by
  have sc := sc__law_load
  refine ⟨⟨f, fd, ["box"], hm, F.kp, hb, rfl, F.walk sc (fun vs H Q E h => h.1) fun cdv A outer s H vs Q E hr h => ⟨_, ?_, load_sp rfl h⟩⟩⟩
  exact pss_cons (ps_set (i := 1) sc.nd rfl (.inl rfl) (pe_ix ix_list (pv 0) pe_int (fun _ _ => rfl)))
    (pss_cons (ps_if (pt_cmpR op_gt (pe_callB call_len_seq (by rfl) B.len PySem.boot_len (pa_cons (pv 1) pa_nil)) pe_int (nomark _))
      (pss_cons (ps_set (i := 2) sc.nd rfl (.inl rfl) (pe_callTy call_int1 (by rfl) B.int (by decide +kernel) (pa_cons (pe_bm PySem.F.plainAttrs_list PySem.F.slot_list_pop PySem.F.type_list_pop mt_popAt (pv 1) (pa_cons pe_int pa_nil)) pa_nil)))
      (pss_cons (ps_set (i := 3) sc.nd rfl (.inl rfl) (pe_ifExp (pt_cmpR op_ge (pv 2) pe_int (nomark _)) (pe_op op_mul pe_int (pv 2)) (pe_op op_sub (pe_op op_mul (pe_un un_neg pe_int) (pv 2)) pe_int)))
      (pss_cons (ps_if (pt_cmpR op_ge (pv 3) pe_int (nomark _)) (pss_one (ps_ret (pv 3))) pss_nil)
      (pss_one (ps_asg (pe_op op_mod (pe_callTy call_int1 (by rfl) B.int (by decide +kernel) (pa_cons (pe_op op_add (pe_op op_add (pe_op op_mul (pe_ix ix_list (pv 0) pe_int (fun _ _ => rfl)) pe_int) (pe_op op_mul (pv 3) pe_int)) pe_int) pa_nil)) pe_int) (pg_sub (pv 0) pe_int set_list)))))) pss_nil)
    (pss_cons (ps_set (i := 4) sc.nd rfl (.inl rfl) (pe_op op_mod (pe_callTy call_int1 (by rfl) B.int (by decide +kernel) (pa_cons (pe_op op_add (pe_op op_mul (pe_ix ix_list (pv 0) pe_int (fun _ _ => rfl)) pe_int) pe_int) pa_nil)) pe_int))
    (pss_cons (ps_set (i := 5) sc.nd rfl (.inl rfl) (pe_op op_mod (pe_callTy call_int1 (by rfl) B.int (by decide +kernel) (pa_cons (pe_op op_add (pe_op op_mul (pv 4) pe_int) pe_int) pa_nil)) pe_int))
    (pss_cons (ps_asg (pe_op op_mod (pe_callTy call_int1 (by rfl) B.int (by decide +kernel) (pa_cons (pe_op op_add (pe_op op_mul (pv 5) pe_int) pe_int) pa_nil)) pe_int) (pg_sub (pv 0) pe_int set_list))
    (pss_one (ps_ret (pe_op op_add (pe_op op_add (pe_op op_mul (pv 4) pe_int) (pe_op op_mul (pv 5) pe_int)) (pe_ix ix_list (pv 0) pe_int (fun _ _ => rfl)))))))))
/-! ### _law_draw -/
abbrev s__law_draw : Stmt := topS 22
abbrev N__law_draw : List Str := ["box", "many", "digit"]
theorem sc__law_draw : FnScope N__law_draw ["box", "many"] (defScope s__law_draw) := ⟨rfl, rfl, rfl, by decide +kernel, rfl, by decide +kernel, by decide +kernel⟩
noncomputable def B__law_draw : Rh → Out :=
  sSeq (sIf (lift (qB (o2 ltD (o2 ixD (getS 0) (cst (.int 1))) (getS 1)))) (sSet (.ix 0 (cst (.int 1))) (callM 0 [.rd 0] F__law_load)) (sNil))
    (sSeq (sSet (.nm 2) (lift (o2 modI (fnE intF (aCons (o2 ixD (getS 0) (cst (.int 1))) aNil)) (getS 1))))
    (sSeq (sSet (.ix 0 (cst (.int 1))) (lift (o2 fdivD (o2 ixD (getS 0) (cst (.int 1))) (getS 1))))
    (sRet (mvS 2))))
noncomputable def F__law_draw : List D → Option (D × D) := runN 2 3 0 B__law_draw
theorem ok__law_draw {f : Addr} {fd : FuncData} (F : FnD K "_law_draw" "_law_draw" s__law_draw f fd) (hm : mg "_law_draw" = some (.ref f)) (hb : Binds K fd ["box", "many"] []) (K__law_load : KnM P w K mg base 1 "_law_load" 1 0 F__law_load) (B : Bl mg) (C : Cs mg) :
    KnM P w K mg base 2 "_law_draw" 2 0 F__law_draw := by
  have sc := sc__law_draw
  refine KnM.of F sc hm hb (by decide) (k := 1) (B := B__law_draw) fun cdv A outer s H E hr => ?_
  unfold B__law_draw
  exact bs_cons (ss_if (TV.of (tp_cmp (op_ltA hr) r2_ltA (ep_ix (ep_var (pv 0)) ep_int (fun _ _ => rfl)) (ep_var (pv 1)) (nomark _))) (bs_one (ss_asg (fun pe pg => ps_asg pe pg) (ev_callN K__law_load (hr.mono (by decide)) (by rfl) (ag_rd (pv 0) ag_nil) rfl rfl) (pat_ix (pv 0) ep_int))) (bs_nil))
          (bs_cons (ss_set (fun pe => ps_set (i := 2) sc.nd rfl (by first | exact Or.inl rfl | exact Or.inr rfl) pe) (EV.of (ep_bin (op_mod) r2_modI (ep_cb (fun pa => pe_callTy call_int1 (by rfl) B.int (by decide +kernel) pa) rn_int (ap_cons (ep_ix (ep_var (pv 0)) ep_int (fun _ _ => rfl)) ap_nil)) (ep_var (pv 1)))))
          (bs_cons (ss_asg (fun pe pg => ps_asg pe pg) (EV.of (ep_bin (op_fdivW) r2_fdivW (ep_ix (ep_var (pv 0)) ep_int (fun _ _ => rfl)) (ep_var (pv 1)))) (pat_ix (pv 0) ep_int))
          (bs_one (ss_ret (ev_mv (pv 2))))))
/-! ### _law_same -/
abbrev s__law_same : Stmt := topS 23
abbrev N__law_same : List Str := ["a", "b", "k"]
theorem sc__law_same : FnScope N__law_same ["a", "b"] (defScope s__law_same) := ⟨rfl, rfl, rfl, by decide +kernel, rfl, by decide +kernel, by decide +kernel⟩
noncomputable def B__law_same (F__law_same : List D → Option D) : Rh → Out :=
  sSeq (sIf (lift (por (pand (qT (u1 (isiD "tuple") (getS 0))) (qT (u1 (isiD "tuple") (getS 1)))) (pand (qT (u1 (isiD "list") (getS 0))) (qT (u1 (isiD "list") (getS 1)))))) (sRet (lift (eand (o2 eqD (fnE lenF (aCons (getS 0) aNil)) (fnE lenF (aCons (getS 1) aNil))) (fnE allF (aCons (eLc (.nm 2) [2] (iR1 (aCons (fnE lenF (aCons (getS 0) aNil)) aNil)) tAll (fnE F__law_same (aCons (o2 ixD (getS 0) (getS 2)) (aCons (o2 ixD (getS 1) (getS 2)) aNil)))) aNil))))) (sNil))
    (sSeq (sIf (lift (por (qT (u1 (isiD "bool") (getS 0))) (qT (u1 (isiD "bool") (getS 1))))) (sRet (lift (eand (u1 (isiD "bool") (getS 0)) (eand (u1 (isiD "bool") (getS 1)) (o2 eqD (getS 0) (getS 1)))))) (sNil))
    (sSeq (sIf (lift (por (pand (qT (u1 (isiD "int") (getS 0))) (qT (u1 (isiD "int") (getS 1)))) (pand (qT (u1 (isiD "str") (getS 0))) (qT (u1 (isiD "str") (getS 1)))))) (sRet (lift (o2 eqD (getS 0) (getS 1)))) (sNil))
    (sRet (lift (eand (o2 isD (getS 0) (cst .none)) (o2 isD (getS 1) (cst .none)))))))
noncomputable def R__law_same : Nat → List D → Option D
  | 0 => fun _ => none
  | j + 1 => runF 2 3 (B__law_same (R__law_same j))
noncomputable def F__law_same : List D → Option D := R__law_same 6
theorem ok__law_same {f : Addr} {fd : FuncData} (F : FnD K "_law_same" "_law_same" s__law_same f fd) (hm : mg "_law_same" = some (.ref f)) (hb : Binds K fd ["a", "b"] []) (B : Bl mg) (C : Cs mg) :
    KnP P w K mg base 6 "_law_same" 2 F__law_same := by
  have go : ∀ j : Nat, KnP P w K mg base (0 + j) "_law_same" 2 (R__law_same j) := by
    intro j
    induction j with
    | zero => exact KnP.zero F hm hb rfl
    | succ j K__law_same =>
      have sc := sc__law_same
      refine KnP.of F sc hm hb (k := 0 + j) (B := B__law_same (R__law_same j)) fun cdv A outer s H E hr => ?_
      unfold B__law_same
      exact bs_cons (ss_if (TV.of (WP.tp (wp_or (WP.tp (wp_and (tp_t (ep_isi "tuple" (by rfl) B.isinstance (by rfl) B.tuple (by decide +kernel) (ep_var (pv 0)))) (wp_and1 (tp_t (ep_isi "tuple" (by rfl) B.isinstance (by rfl) B.tuple (by decide +kernel) (ep_var (pv 1))))))) (wp_or1 (WP.tp (wp_and (tp_t (ep_isi "list" (by rfl) B.isinstance (by rfl) B.list (by decide +kernel) (ep_var (pv 0)))) (wp_and1 (tp_t (ep_isi "list" (by rfl) B.isinstance (by rfl) B.list (by decide +kernel) (ep_var (pv 1))))))))))) (bs_one (ss_ret (EV.of (ep_and (ep_cmp (op_eqD (hr.units)) r2_eqD (ep_cb (fun pa => pe_callB call_lenA (by rfl) B.len PySem.boot_len pa) rn_lenA (ap_cons (ep_var (pv 0)) ap_nil)) (ep_cb (fun pa => pe_callB call_lenA (by rfl) B.len PySem.boot_len pa) rn_lenA (ap_cons (ep_var (pv 1)) ap_nil)) (nomark _)) (ep_one (ep_cb (fun pa => pe_callB (cr_all rfl) (by rfl) B.all (by decide +kernel) pa) rn_all (ap_cons (ep_lc (own := [("k", 2)]) (bs := []) rfl sc.nd (ip_range1 (by rfl) B.range (ap_cons (ep_cb (fun pa => pe_callB call_lenA (by rfl) B.len PySem.boot_len pa) rn_lenA (ap_cons (ep_var (pv 0)) ap_nil)) ap_nil)) (blkOk_by (N := N__law_same) (sc := defScope s__law_same) (by decide +kernel)) (fun _ _ _ _ _ => patc_nm (pg_name (i := 2) sc.nd rfl (by first | exact Or.inl rfl | exact Or.inr rfl) (by first | exact Or.inl rfl | exact Or.inr rfl)) (by decide)) (fun _ _ _ _ _ => tps_nil) (fun _ _ _ _ _ => ep_callK K__law_same (hr.mono (by omega)) (by rfl) (ap_cons (ep_ix (ep_var (pv 0)) (ep_var (pv 2)) (fun _ _ => rfl)) (ap_cons (ep_ix (ep_var (pv 1)) (ep_var (pv 2)) (fun _ _ => rfl)) ap_nil)))) ap_nil))))))) (bs_nil))
          (bs_cons (ss_if (TV.of (WP.tp (wp_or (tp_t (ep_isi "bool" (by rfl) B.isinstance (by rfl) B.bool (by decide +kernel) (ep_var (pv 0)))) (wp_or1 (tp_t (ep_isi "bool" (by rfl) B.isinstance (by rfl) B.bool (by decide +kernel) (ep_var (pv 1)))))))) (bs_one (ss_ret (EV.of (ep_and (ep_isi "bool" (by rfl) B.isinstance (by rfl) B.bool (by decide +kernel) (ep_var (pv 0))) (ep_and (ep_isi "bool" (by rfl) B.isinstance (by rfl) B.bool (by decide +kernel) (ep_var (pv 1))) (ep_one (ep_cmp (op_eqD (hr.units)) r2_eqD (ep_var (pv 0)) (ep_var (pv 1)) (nomark _)))))))) (bs_nil))
          (bs_cons (ss_if (TV.of (WP.tp (wp_or (WP.tp (wp_and (tp_t (ep_isi "int" (by rfl) B.isinstance (by rfl) B.int (by decide +kernel) (ep_var (pv 0)))) (wp_and1 (tp_t (ep_isi "int" (by rfl) B.isinstance (by rfl) B.int (by decide +kernel) (ep_var (pv 1))))))) (wp_or1 (WP.tp (wp_and (tp_t (ep_isi "str" (by rfl) B.isinstance (by rfl) B.str (by decide +kernel) (ep_var (pv 0)))) (wp_and1 (tp_t (ep_isi "str" (by rfl) B.isinstance (by rfl) B.str (by decide +kernel) (ep_var (pv 1))))))))))) (bs_one (ss_ret (EV.of (ep_cmp (op_eqD (hr.units)) r2_eqD (ep_var (pv 0)) (ep_var (pv 1)) (nomark _))))) (bs_nil))
          (bs_one (ss_ret (EV.of (ep_and (ep_cmp (op_isA) r2_isA (ep_var (pv 0)) ep_non (nomark _)) (ep_one (ep_cmp (op_isA) r2_isA (ep_var (pv 1)) ep_non (nomark _)))))))))
  exact go 6
/-! ### _law_table -/
abbrev s__law_table : Stmt := topS 24
abbrev N__law_table : List Str := ["box", "most", "m", "n", "share", "i", "j"]
theorem sc__law_table : FnScope N__law_table ["box", "most"] (defScope s__law_table) := ⟨rfl, rfl, rfl, by decide +kernel, rfl, by decide +kernel, by decide +kernel⟩
noncomputable def B__law_table : Rh → Out :=
  sSeq (sSet (.tp [.nm 2, .nm 3]) (nkT (bCons (v2 addD (lift (cst (.int 1))) (callM 0 [.rd 0, .ev (lift (gE (getS 1)))] F__law_draw)) (bCons (v2 addD (lift (cst (.int 1))) (callM 0 [.rd 0, .ev (lift (gE (getS 1)))] F__law_draw)) bNil))))
    (sSeq (sSet (.nm 4) (v2 addD (lift (cst (.int 1))) (callM 0 [.rd 0, .ev (lift (cst (.int 5)))] F__law_draw)))
    (sRet (w1 tupD (vLc [] (.nm 5) [5] (lift (iR1 (aCons (getS 2) aNil))) (lift tAll) (w1 tupD (vLc [] (.nm 6) [6] (lift (iR1 (aCons (getS 3) aNil))) (lift tAll) (fnV intF (bCons (v2 ltD (callM 0 [.rd 0, .ev (lift (cst (.int 6)))] F__law_draw) (lift (gE (getS 4)))) bNil))))))))
noncomputable def F__law_table : List D → Option (D × D) := runN 2 7 0 B__law_table
theorem ok__law_table {f : Addr} {fd : FuncData} (F : FnD K "_law_table" "_law_table" s__law_table f fd) (hm : mg "_law_table" = some (.ref f)) (hb : Binds K fd ["box", "most"] []) (K__law_draw : KnM P w K mg base 2 "_law_draw" 2 0 F__law_draw) (B : Bl mg) (C : Cs mg) :
    KnM P w K mg base 3 "_law_table" 2 0 F__law_table := by
  have sc := sc__law_table
  refine KnM.of F sc hm hb (by decide) (k := 2) (B := B__law_table) fun cdv A outer s H E hr => ?_
  unfold B__law_table
  exact bs_cons (ss_asg (fun pe pg => ps_asg pe pg) (ev_tup (av_cons (ev_bin (op_addA) r2_addA (EV.of ep_int) (ev_callN K__law_draw (hr.mono (by decide)) (by rfl) (ag_rd (pv 0) (ag_ev (EV.of (ep_g (ep_var (pv 1)))) ag_nil)) rfl rfl)) (av_cons (ev_bin (op_addA) r2_addA (EV.of ep_int) (ev_callN K__law_draw (hr.mono (by decide)) (by rfl) (ag_rd (pv 0) (ag_ev (EV.of (ep_g (ep_var (pv 1)))) ag_nil)) rfl rfl)) av_nil))) (pat_tp rfl (pats_cons (pat_nm (pg_name (i := 2) sc.nd rfl (by first | exact Or.inl rfl | exact Or.inr rfl))) (pats_cons (pat_nm (pg_name (i := 3) sc.nd rfl (by first | exact Or.inl rfl | exact Or.inr rfl))) (pats_nil))) rfl))
          (bs_cons (ss_set (fun pe => ps_set (i := 4) sc.nd rfl (by first | exact Or.inl rfl | exact Or.inr rfl) pe) (ev_bin (op_addA) r2_addA (EV.of ep_int) (ev_callN K__law_draw (hr.mono (by decide)) (by rfl) (ag_rd (pv 0) (ag_ev (EV.of ep_int) ag_nil)) rfl rfl)))
          (bs_one (ss_ret (ev_tuple (by rfl) B.tuple (ev_lc (own := [("i", 5)]) (bs := []) rfl sc.nd (IV.of (ip_range1 (by rfl) B.range (ap_cons (ep_var (pv 2)) ap_nil))) (blkOk_by (N := N__law_table) (sc := defScope s__law_table) (by decide +kernel)) (fun _ _ _ _ _ => patc_nm (pg_name (i := 5) sc.nd rfl (by first | exact Or.inl rfl | exact Or.inr rfl) (by first | exact Or.inl rfl | exact Or.inr rfl)) (by decide)) (fun _ _ _ _ _ => TVs.of tps_nil) (fun _ _ _ _ _ => ev_tuple (by rfl) B.tuple (ev_lc (own := [("j", 6)]) (bs := []) rfl sc.nd (IV.of (ip_range1 (by rfl) B.range (ap_cons (ep_var (pv 3)) ap_nil))) (blkOk_by (by kernel_rfl)) (fun _ _ _ _ _ => patc_nm (pg_name (i := 6) sc.nd rfl (by first | exact Or.inl rfl | exact Or.inr rfl) (by first | exact Or.inl rfl | exact Or.inr rfl)) (by decide)) (fun _ _ _ _ _ => TVs.of tps_nil) (fun _ _ _ _ _ => ev_cb (fun pa => pe_callTy call_int1 (by rfl) B.int (by decide +kernel) pa) rn_int (av_cons (ev_cmp (op_ltA hr) r2_ltA (ev_callN K__law_draw (hr.mono (by decide)) (by rfl) (ag_rd (pv 0) (ag_ev (EV.of ep_int) ag_nil)) rfl rfl) (EV.of (ep_g (ep_var (pv 4)))) (nomark _)) av_nil)))))))))
/-! ### _law_sums -/
abbrev s__law_sums : Stmt := topS 25
abbrev N__law_sums : List Str := ["table", "row", "j"]
theorem sc__law_sums : FnScope N__law_sums ["table"] (defScope s__law_sums) := ⟨rfl, rfl, rfl, by decide +kernel, rfl, by decide +kernel, by decide +kernel⟩
noncomputable def B__law_sums : Rh → Out :=
  sRet (nkT (bCons (lift (u1 tupD (eLc (.nm 1) [1] (iS (getS 0)) tAll (fnE sumF (aCons (getS 1) aNil))))) (bCons (lift (u1 tupD (eLc (.nm 2) [2] (iR1 (aCons (fnE lenF (aCons (o2 ixD (getS 0) (cst (.int 0))) aNil)) aNil)) tAll (fnE sumF (aCons (eLc (.nm 1) [1] (iS (getS 0)) tAll (gE (o2 ixD (getS 1) (getS 2)))) aNil))))) bNil)))
noncomputable def F__law_sums : List D → Option D := runF 1 3 B__law_sums
theorem ok__law_sums {f : Addr} {fd : FuncData} (F : FnD K "_law_sums" "_law_sums" s__law_sums f fd) (hm : mg "_law_sums" = some (.ref f)) (hb : Binds K fd ["table"] []) (B : Bl mg) (C : Cs mg) :
    KnP P w K mg base 1 "_law_sums" 1 F__law_sums := by
  have sc := sc__law_sums
  refine KnP.of F sc hm hb (k := 0) (B := B__law_sums) fun cdv A outer s H E hr => ?_
  unfold B__law_sums
  exact bs_one (ss_ret (ev_tup (av_cons (EV.of (ep_tuple (by rfl) B.tuple (ep_lc (own := [("row", 1)]) (bs := [0]) rfl sc.nd (ip_seq (epb_var (pv 0))) (blkOk_by (N := N__law_sums) (sc := defScope s__law_sums) (by decide +kernel)) (fun _ _ _ _ _ => patc_nm (pg_name (i := 1) sc.nd rfl (by first | exact Or.inl rfl | exact Or.inr rfl) (by first | exact Or.inl rfl | exact Or.inr rfl)) (by decide)) (fun _ _ _ _ _ => tps_nil) (fun _ _ _ _ _ => ep_cb (fun pa => pe_callB (cr_sumA rfl) (by rfl) B.sum (by decide +kernel) pa) rn_sum (ap_cons (ep_var (pv 1)) ap_nil))))) (av_cons (EV.of (ep_tuple (by rfl) B.tuple (ep_lc (own := [("j", 2)]) (bs := []) rfl sc.nd (ip_range1 (by rfl) B.range (ap_cons (ep_cb (fun pa => pe_callB call_lenA (by rfl) B.len PySem.boot_len pa) rn_lenA (ap_cons (ep_ix (ep_var (pv 0)) ep_int (fun _ _ => rfl)) ap_nil)) ap_nil)) (blkOk_by (N := N__law_sums) (sc := defScope s__law_sums) (by decide +kernel)) (fun _ _ _ _ _ => patc_nm (pg_name (i := 2) sc.nd rfl (by first | exact Or.inl rfl | exact Or.inr rfl) (by first | exact Or.inl rfl | exact Or.inr rfl)) (by decide)) (fun _ _ _ _ _ => tps_nil) (fun _ _ _ _ _ => ep_cb (fun pa => pe_callB (cr_sumA rfl) (by rfl) B.sum (by decide +kernel) pa) rn_sum (ap_cons (ep_lc (own := [("row", 1)]) (bs := [0]) rfl sc.nd (ip_seq (epb_var (pv 0))) (blkOk_by (by kernel_rfl)) (fun _ _ _ _ _ => patc_nm (pg_name (i := 1) sc.nd rfl (by first | exact Or.inl rfl | exact Or.inr rfl) (by first | exact Or.inl rfl | exact Or.inr rfl)) (by decide)) (fun _ _ _ _ _ => tps_nil) (fun _ _ _ _ _ => ep_g (ep_ix (ep_var (pv 1)) (ep_var (pv 2)) (fun _ _ => rfl)))) ap_nil))))) av_nil))))
/-! ### _law_telling -/
abbrev s__law_telling : Stmt := topS 26
abbrev N__law_telling : List Str := ["box", "most", "table", "m", "n", "rows", "columns", "cells", "i", "turn", "pick", "at", "count", "j"]
theorem sc__law_telling : FnScope N__law_telling ["box", "most"] (defScope s__law_telling) := ⟨rfl, rfl, rfl, by decide +kernel, rfl, by decide +kernel, by decide +kernel⟩
noncomputable def B__law_telling : Rh → Out :=
  sSeq (sSet (.nm 2) (callM 0 [.rd 0, .ev (lift (gE (getS 1)))] F__law_table))
    (sSeq (sPar 3 4 (bCons (lift (fnE lenF (aCons (getS 2) aNil))) (bCons (lift (fnE lenF (aCons (o2 ixD (getS 2) (cst (.int 0))) aNil))) bNil)))
    (sSeq (sSet (.tp [.nm 5, .nm 6]) (lift (fnE F__law_sums (aCons (getS 2) aNil))))
    (sSeq (sSet (.nm 5) (vLc [5] (.nm 12) [12] (lift (iS (getS 5))) (lift tAll) (vif (wB (v2 gtI (callM 0 [.rd 0, .ev (lift (cst (.int 3)))] F__law_draw) (lift (cst (.int 0))))) (lift (gE (getS 12))) (lift (cst .none)))))
    (sSeq (sSet (.nm 6) (vLc [6] (.nm 12) [12] (lift (iS (getS 6))) (lift tAll) (vif (wB (v2 gtI (callM 0 [.rd 0, .ev (lift (cst (.int 3)))] F__law_draw) (lift (cst (.int 0))))) (lift (gE (getS 12))) (lift (cst .none)))))
    (sSeq (sSet (.nm 7) (lift (mkL aNil)))
    (sSeq (sFor [] (.nm 8) (lift (iR1 (aCons (getS 3) aNil))) (sDrop (extendV 7 (vLc [] (.nm 13) [13] (lift (iR1 (aCons (getS 4) aNil))) (wB (v2 eqD (callM 0 [.rd 0, .ev (lift (cst (.int 5)))] F__law_draw) (lift (cst (.int 0))))) (lift (mkT (aCons (gE (getS 8)) (aCons (gE (getS 13)) (aCons (gE (o2 ixD (o2 ixD (getS 2) (getS 8)) (getS 13))) aNil)))))))))
    (sSeq (sFor [] (.nm 9) (ivf rng1 (bCons (callM 0 [.rd 0, .ev (lift (cst (.int 3)))] F__law_draw) bNil)) (sSeq (sSet (.nm 10) (callM 0 [.rd 0, .ev (lift (cst (.int 3)))] F__law_draw))
    (sIf (lift (qB (o2 eqD (getS 10) (cst (.int 0))))) (sSetIx 5 (callM 0 [.rd 0, .ev (lift (gE (getS 3)))] F__law_draw) (callM 0 [.rd 0, .ev (lift (o2 addD (getS 4) (cst (.int 1))))] F__law_draw)) (sIf (lift (qB (o2 eqD (getS 10) (cst (.int 1))))) (sSetIx 6 (callM 0 [.rd 0, .ev (lift (gE (getS 4)))] F__law_draw) (callM 0 [.rd 0, .ev (lift (o2 addD (getS 3) (cst (.int 1))))] F__law_draw)) (sIf (lift (qB (o2 neD (getS 7) (mkL aNil)))) (sSeq (sSet (.nm 11) (callM 0 [.rd 0, .ev (lift (fnE lenF (aCons (getS 7) aNil)))] F__law_draw))
    (sSet (.ix 7 (gE (getS 11))) (lift (o2 addD (slE (o2 ixD (getS 7) (getS 11)) opn (ops (cst (.int 2)))) (mkT (aCons (o2 subD (cst (.int 1)) (o2 ixD (o2 ixD (getS 7) (getS 11)) (cst (.int 2)))) aNil)))))) (sNil))))))
    (sRet (nkT (bCons (mvS 3) (bCons (mvS 4) (bCons (lift (u1 tupD (getS 5))) (bCons (lift (u1 tupD (getS 6))) (bCons (lift (u1 tupD (getS 7))) bNil))))))))))))))
noncomputable def F__law_telling : List D → Option (D × D) := runN 2 14 0 B__law_telling
theorem ok__law_telling {f : Addr} {fd : FuncData} (F : FnD K "_law_telling" "_law_telling" s__law_telling f fd) (hm : mg "_law_telling" = some (.ref f)) (hb : Binds K fd ["box", "most"] []) (K__law_table : KnM P w K mg base 3 "_law_table" 2 0 F__law_table) (K__law_sums : KnP P w K mg base 1 "_law_sums" 1 F__law_sums) (K__law_draw : KnM P w K mg base 2 "_law_draw" 2 0 F__law_draw) (B : Bl mg) (C : Cs mg) :
    KnM P w K mg base 4 "_law_telling" 2 0 F__law_telling := by
  have sc := sc__law_telling
  refine KnM.of F sc hm hb (by decide) (k := 3) (B := B__law_telling) fun cdv A outer s H E hr => ?_
  unfold B__law_telling
  exact bs_cons (ss_set (fun pe => ps_set (i := 2) sc.nd rfl (by first | exact Or.inl rfl | exact Or.inr rfl) pe) (ev_callN K__law_table (hr.mono (by decide)) (by rfl) (ag_rd (pv 0) (ag_ev (EV.of (ep_g (ep_var (pv 1)))) ag_nil)) rfl rfl))
          (bs_cons (ss_par (fun pa => ps_par rfl sc.nd rfl rfl (by decide) rfl rfl pa rfl) (av_cons (EV.of (ep_cb (fun pa => pe_callB call_lenA (by rfl) B.len PySem.boot_len pa) rn_lenA (ap_cons (ep_var (pv 2)) ap_nil))) (av_cons (EV.of (ep_cb (fun pa => pe_callB call_lenA (by rfl) B.len PySem.boot_len pa) rn_lenA (ap_cons (ep_ix (ep_var (pv 2)) ep_int (fun _ _ => rfl)) ap_nil))) av_nil)))
          (bs_cons (ss_asg (fun pe pg => ps_asg pe pg) (EV.of (ep_callK K__law_sums (hr.mono (by decide)) (by rfl) (ap_cons (ep_var (pv 2)) ap_nil))) (pat_tp rfl (pats_cons (pat_nm (pg_name (i := 5) sc.nd rfl (by first | exact Or.inl rfl | exact Or.inr rfl))) (pats_cons (pat_nm (pg_name (i := 6) sc.nd rfl (by first | exact Or.inl rfl | exact Or.inr rfl))) (pats_nil))) rfl))
          (bs_cons (ss_setLcV (i := 5) (own := [("count", 12)]) (bs := [5]) rfl sc.nd rfl rfl (sw_true rfl rfl rfl (by decide +kernel)) (IV.of (ip_seq (epb_var (pv 5)))) (blkOk_by (N := N__law_telling) (sc := defScope s__law_telling) (by decide +kernel)) (fun _ _ _ _ _ => patc_nm (pg_name (i := 12) sc.nd rfl (by first | exact Or.inl rfl | exact Or.inr rfl) (by first | exact Or.inl rfl | exact Or.inr rfl)) (by decide)) (fun _ _ _ _ _ => TVs.of tps_nil) (fun _ _ _ _ _ => ev_if (tv_cmp (op_gt) r2_gtI (ev_callN K__law_draw (hr.mono (by decide)) (by rfl) (ag_rd (pv 0) (ag_ev (EV.of ep_int) ag_nil)) rfl rfl) (EV.of ep_int) (nomark _)) (EV.of (ep_g (ep_var (pv 12)))) (EV.of ep_non)))
          (bs_cons (ss_setLcV (i := 6) (own := [("count", 12)]) (bs := [6]) rfl sc.nd rfl rfl (sw_true rfl rfl rfl (by decide +kernel)) (IV.of (ip_seq (epb_var (pv 6)))) (blkOk_by (N := N__law_telling) (sc := defScope s__law_telling) (by decide +kernel)) (fun _ _ _ _ _ => patc_nm (pg_name (i := 12) sc.nd rfl (by first | exact Or.inl rfl | exact Or.inr rfl) (by first | exact Or.inl rfl | exact Or.inr rfl)) (by decide)) (fun _ _ _ _ _ => TVs.of tps_nil) (fun _ _ _ _ _ => ev_if (tv_cmp (op_gt) r2_gtI (ev_callN K__law_draw (hr.mono (by decide)) (by rfl) (ag_rd (pv 0) (ag_ev (EV.of ep_int) ag_nil)) rfl rfl) (EV.of ep_int) (nomark _)) (EV.of (ep_g (ep_var (pv 12)))) (EV.of ep_non)))
          (bs_cons (ss_set (fun pe => ps_set (i := 7) sc.nd rfl (by first | exact Or.inl rfl | exact Or.inr rfl) pe) (EV.of (ep_lst ((ap_nil (fr := true))))))
          (bs_cons (ss_for (bs := []) PassesOwn.never rfl (IV.of (ip_range1 (by rfl) B.range (ap_cons (ep_var (pv 3)) ap_nil))) (pat_nm (pg_name (i := 8) sc.nd rfl (by first | exact Or.inl rfl | exact Or.inr rfl))) (bs_one (ss_expr (ev_extend (pv 7) (ev_lc (own := [("j", 13)]) (bs := []) rfl sc.nd (IV.of (ip_range1 (by rfl) B.range (ap_cons (ep_var (pv 4)) ap_nil))) (blkOk_by (N := N__law_telling) (sc := defScope s__law_telling) (by decide +kernel)) (fun _ _ _ _ _ => patc_nm (pg_name (i := 13) sc.nd rfl (by first | exact Or.inl rfl | exact Or.inr rfl) (by first | exact Or.inl rfl | exact Or.inr rfl)) (by decide)) (fun _ _ _ _ _ => tvs_one (tv_cmp (op_eqD (hr.units)) r2_eqD (ev_callN K__law_draw (hr.mono (by decide)) (by rfl) (ag_rd (pv 0) (ag_ev (EV.of ep_int) ag_nil)) rfl rfl) (EV.of ep_int) (nomark _))) (fun _ _ _ _ _ => EV.of (ep_tup (ap_cons (ep_g (ep_var (pv 8))) (ap_cons (ep_g (ep_var (pv 13))) (ap_cons (ep_g (ep_ix (ep_ix (ep_var (pv 2)) (ep_var (pv 8)) (fun _ _ => rfl)) (ep_var (pv 13)) (fun _ _ => rfl))) ap_nil))))))))))
          (bs_cons (ss_for (bs := []) PassesOwn.never rfl (iv_range1 (by rfl) B.range (av_cons (ev_callN K__law_draw (hr.mono (by decide)) (by rfl) (ag_rd (pv 0) (ag_ev (EV.of ep_int) ag_nil)) rfl rfl) av_nil)) (pat_nm (pg_name (i := 9) sc.nd rfl (by first | exact Or.inl rfl | exact Or.inr rfl))) (bs_cons (ss_set (fun pe => ps_set (i := 10) sc.nd rfl (by first | exact Or.inl rfl | exact Or.inr rfl) pe) (ev_callN K__law_draw (hr.mono (by decide)) (by rfl) (ag_rd (pv 0) (ag_ev (EV.of ep_int) ag_nil)) rfl rfl))
          (bs_one (ss_if (TV.of (tp_cmp (op_eqD (hr.units)) r2_eqD (ep_var (pv 10)) ep_int (nomark _))) (bs_one (ss_setIx (fun pe pg => ps_asg pe pg) (pv 5) (ev_callN K__law_draw (hr.mono (by decide)) (by rfl) (ag_rd (pv 0) (ag_ev (EV.of (ep_g (ep_var (pv 3)))) ag_nil)) rfl rfl) (ev_callN K__law_draw (hr.mono (by decide)) (by rfl) (ag_rd (pv 0) (ag_ev (EV.of (ep_bin (op_addA) r2_addA (ep_var (pv 4)) ep_int)) ag_nil)) rfl rfl))) (bs_one (ss_if (TV.of (tp_cmp (op_eqD (hr.units)) r2_eqD (ep_var (pv 10)) ep_int (nomark _))) (bs_one (ss_setIx (fun pe pg => ps_asg pe pg) (pv 6) (ev_callN K__law_draw (hr.mono (by decide)) (by rfl) (ag_rd (pv 0) (ag_ev (EV.of (ep_g (ep_var (pv 4)))) ag_nil)) rfl rfl) (ev_callN K__law_draw (hr.mono (by decide)) (by rfl) (ag_rd (pv 0) (ag_ev (EV.of (ep_bin (op_addA) r2_addA (ep_var (pv 3)) ep_int)) ag_nil)) rfl rfl))) (bs_one (ss_if (TV.of (tp_cmp (op_neD (hr.units)) r2_neD (ep_var (pv 7)) (ep_lst ((ap_nil (fr := true)))) (nomark _))) (bs_cons (ss_set (fun pe => ps_set (i := 11) sc.nd rfl (by first | exact Or.inl rfl | exact Or.inr rfl) pe) (ev_callN K__law_draw (hr.mono (by decide)) (by rfl) (ag_rd (pv 0) (ag_ev (EV.of (ep_cb (fun pa => pe_callB call_lenA (by rfl) B.len PySem.boot_len pa) rn_lenA (ap_cons (ep_var (pv 7)) ap_nil))) ag_nil)) rfl rfl))
          (bs_one (ss_asg (fun pe pg => ps_asg pe pg) (EV.of (ep_bin (op_addA) r2_addA (ep_slice (ep_ix (ep_var (pv 7)) (ep_var (pv 11)) (fun _ _ => rfl)) po_n (po_s ep_int)) (ep_tup (ap_cons (ep_bin (op_sub) r2_sub ep_int (ep_ix (ep_ix (ep_var (pv 7)) (ep_var (pv 11)) (fun _ _ => rfl)) ep_int (fun _ _ => rfl))) ap_nil)))) (pat_ix (pv 7) (ep_g (ep_var (pv 11))))))) (bs_nil)))))))))
          (bs_one (ss_ret (ev_tup (av_cons (ev_mv (pv 3)) (av_cons (ev_mv (pv 4)) (av_cons (EV.of (ep_tuple (by rfl) B.tuple (ep_var (pv 5)))) (av_cons (EV.of (ep_tuple (by rfl) B.tuple (ep_var (pv 6)))) (av_cons (EV.of (ep_tuple (by rfl) B.tuple (ep_var (pv 7)))) av_nil)))))))))))))))
/-! ### _law_bad_telling -/
abbrev s__law_bad_telling : Stmt := topS 27
abbrev N__law_bad_telling : List Str := ["box", "telling", "m", "n", "rows", "columns", "cells", "i", "j", "sums", "odd", "some"]
theorem sc__law_bad_telling : FnScope N__law_bad_telling ["box", "telling"] (defScope s__law_bad_telling) := ⟨rfl, rfl, rfl, by decide +kernel, rfl, by decide +kernel, by decide +kernel⟩
noncomputable def B__law_bad_telling : Rh → Out :=
  sSeq (sSet (.tp [.nm 2, .nm 3, .nm 4, .nm 5, .nm 6]) (lift (gE (getS 1))))
    (sSeq (sPar 7 8 (bCons (callM 0 [.rd 0, .ev (lift (gE (getS 2)))] F__law_draw) (bCons (callM 0 [.rd 0, .ev (lift (gE (getS 3)))] F__law_draw) bNil)))
    (sSeq (sSet (.nm 9) (lift (mkL (aCons (o2 addD (getS 3) (cst (.int 1))) (aCons (u1 negI (cst (.int 1))) (aCons (cst (.bool true)) (aCons (cst (.str "1")) (aCons (mkT (aCons (cst (.int 1)) aNil)) aNil))))))))
    (sSeq (sSet (.nm 10) (lift (mkL (aCons (mkT (aCons (gE (getS 7)) (aCons (gE (getS 8)) aNil))) (aCons (mkT (aCons (gE (getS 7)) (aCons (gE (getS 8)) (aCons (cst (.int 2)) aNil)))) (aCons (mkT (aCons (gE (getS 2)) (aCons (gE (getS 8)) (aCons (cst (.int 0)) aNil)))) (aCons (mkT (aCons (gE (getS 7)) (aCons (gE (getS 3)) (aCons (cst (.int 0)) aNil)))) (aCons (mkT (aCons (gE (getS 7)) (aCons (gE (getS 8)) (aCons (cst (.bool true)) aNil)))) (aCons (mkT (aCons (gE (getS 7)) (aCons (gE (getS 8)) (aCons (cst .none) aNil)))) (aCons (cst .none) (aCons (mkT (aCons (gE (getS 7)) (aCons (gE (getS 8)) (aCons (cst (.int 0)) (aCons (cst (.int 0)) aNil))))) (aCons (mkT (aCons (u1 negI (cst (.int 1))) (aCons (gE (getS 8)) (aCons (cst (.int 0)) aNil)))) aNil))))))))))))
    (sSeq (sSet (.nm 11) (nkL (bCons (nkT (bCons (lift (gE (getS 2))) (bCons (lift (gE (getS 3))) (bCons (v2 addD (v2 addD (lift (slE (getS 4) opn (ops (getS 7)))) (nkT (bCons (ixV 9 (callM 0 [.rd 0, .ev (lift (cst (.int 5)))] F__law_draw)) bNil))) (lift (slE (getS 4) (ops (o2 addD (getS 7) (cst (.int 1)))) opn))) (bCons (lift (gE (getS 5))) (bCons (lift (gE (getS 6))) bNil)))))) (bCons (nkT (bCons (lift (gE (getS 2))) (bCons (lift (gE (getS 3))) (bCons (lift (gE (getS 4))) (bCons (v2 addD (v2 addD (lift (slE (getS 5) opn (ops (getS 8)))) (nkT (bCons (v2 ixD (lift (mkL (aCons (o2 addD (getS 2) (cst (.int 1))) (aCons (u1 negI (cst (.int 1))) (aCons (cst (.bool false)) (aCons (cst (.str "0")) (aCons (mkT aNil) aNil))))))) (callM 0 [.rd 0, .ev (lift (cst (.int 5)))] F__law_draw)) bNil))) (lift (slE (getS 5) (ops (o2 addD (getS 8) (cst (.int 1)))) opn))) (bCons (lift (gE (getS 6))) bNil)))))) (bCons (nkT (bCons (lift (gE (getS 2))) (bCons (lift (gE (getS 3))) (bCons (lift (gE (getS 4))) (bCons (lift (gE (getS 5))) (bCons (v2 addD (lift (gE (getS 6))) (nkT (bCons (ixV 10 (callM 0 [.rd 0, .ev (lift (cst (.int 9)))] F__law_draw)) bNil))) bNil)))))) (bCons (nkT (bCons (lift (gE (getS 2))) (bCons (lift (gE (getS 3))) (bCons (lift (gE (getS 4))) (bCons (lift (gE (getS 5))) (bCons (nkT (bCons (ixV 10 (callM 0 [.rd 0, .ev (lift (cst (.int 9)))] F__law_draw)) bNil)) bNil)))))) (bCons (lift (mkT (aCons (gE (getS 2)) (aCons (gE (getS 3)) (aCons (o2 addD (getS 4) (mkT (aCons (cst (.int 0)) aNil))) (aCons (gE (getS 5)) (aCons (gE (getS 6)) aNil))))))) (bCons (lift (mkT (aCons (gE (getS 2)) (aCons (gE (getS 3)) (aCons (gE (getS 4)) (aCons (slE (getS 5) opn (ops (u1 negI (cst (.int 1))))) (aCons (gE (getS 6)) aNil))))))) (bCons (lift (mkT (aCons (gE (getS 2)) (aCons (gE (getS 3)) (aCons (gE (getS 4)) (aCons (gE (getS 5)) (aCons (eif (qB (o2 neD (getS 6) (mkT aNil))) (o2 addD (getS 6) (slE (getS 6) (ops (u1 negI (cst (.int 1)))) opn)) (cst .none)) aNil))))))) (bCons (lift (o2 addD (mkT (aCons (cst (.int 17)) (aCons (gE (getS 3)) aNil))) (slE (getS 1) (ops (cst (.int 2))) opn))) (bCons (lift (o2 addD (mkT (aCons (gE (getS 2)) (aCons (cst (.int 0)) aNil))) (slE (getS 1) (ops (cst (.int 2))) opn))) (bCons (lift (slE (getS 1) opn (ops (cst (.int 4))))) (bCons (lift (cst .none)) (bCons (lift (mkT (aCons (gE (getS 2)) (aCons (gE (getS 3)) (aCons (gE (getS 4)) (aCons (gE (getS 5)) (aCons (mkT (aCons (mkT (aCons (gE (getS 7)) (aCons (gE (getS 8)) (aCons (cst (.int 0)) aNil)))) (aCons (mkT (aCons (gE (getS 7)) (aCons (gE (getS 8)) (aCons (cst (.int 1)) aNil)))) aNil))) aNil))))))) (bCons (lift (o2 addD (getS 1) (mkT (aCons (mkT aNil) aNil)))) (bCons (lift (cst (.str "telling"))) (bCons (lift (mkT (aCons (gE (getS 2)) (aCons (gE (getS 3)) (aCons (cst .none) (aCons (gE (getS 5)) (aCons (gE (getS 6)) aNil))))))) (bCons (lift (mkT (aCons (gE (getS 2)) (aCons (gE (getS 3)) (aCons (gE (getS 4)) (aCons (cst .none) (aCons (gE (getS 6)) aNil))))))) bNil))))))))))))))))))
    (sRet (ixV 11 (callM 0 [.rd 0, .ev (lift (fnE lenF (aCons (getS 11) aNil)))] F__law_draw)))))))
noncomputable def F__law_bad_telling : List D → Option (D × D) := runN 2 12 0 B__law_bad_telling
theorem ok__law_bad_telling {f : Addr} {fd : FuncData} (F : FnD K "_law_bad_telling" "_law_bad_telling" s__law_bad_telling f fd) (hm : mg "_law_bad_telling" = some (.ref f)) (hb : Binds K fd ["box", "telling"] []) (K__law_draw : KnM P w K mg base 2 "_law_draw" 2 0 F__law_draw) (B : Bl mg) (C : Cs mg) :
    KnM P w K mg base 3 "_law_bad_telling" 2 0 F__law_bad_telling := by
  have sc := sc__law_bad_telling
  refine KnM.of F sc hm hb (by decide) (k := 2) (B := B__law_bad_telling) fun cdv A outer s H E hr => ?_
  unfold B__law_bad_telling
  exact bs_cons (ss_asg (fun pe pg => ps_asg pe pg) (EV.of (ep_g (ep_var (pv 1)))) (pat_tp rfl (pats_cons (pat_nm (pg_name (i := 2) sc.nd rfl (by first | exact Or.inl rfl | exact Or.inr rfl))) (pats_cons (pat_nm (pg_name (i := 3) sc.nd rfl (by first | exact Or.inl rfl | exact Or.inr rfl))) (pats_cons (pat_nm (pg_name (i := 4) sc.nd rfl (by first | exact Or.inl rfl | exact Or.inr rfl))) (pats_cons (pat_nm (pg_name (i := 5) sc.nd rfl (by first | exact Or.inl rfl | exact Or.inr rfl))) (pats_cons (pat_nm (pg_name (i := 6) sc.nd rfl (by first | exact Or.inl rfl | exact Or.inr rfl))) (pats_nil)))))) rfl))
          (bs_cons (ss_par (fun pa => ps_par rfl sc.nd rfl rfl (by decide) rfl rfl pa rfl) (av_cons (ev_callN K__law_draw (hr.mono (by decide)) (by rfl) (ag_rd (pv 0) (ag_ev (EV.of (ep_g (ep_var (pv 2)))) ag_nil)) rfl rfl) (av_cons (ev_callN K__law_draw (hr.mono (by decide)) (by rfl) (ag_rd (pv 0) (ag_ev (EV.of (ep_g (ep_var (pv 3)))) ag_nil)) rfl rfl) av_nil)))
          (bs_cons (ss_set (fun pe => ps_set (i := 9) sc.nd rfl (by first | exact Or.inl rfl | exact Or.inr rfl) pe) (EV.of (ep_lst (ap_cons (ep_bin (op_addA) r2_addA (ep_var (pv 3)) ep_int) (ap_cons (ep_neg ep_int) (ap_cons ep_bl (ap_cons ep_str (ap_cons (ep_tup (ap_cons ep_int ap_nil)) ap_nil))))))))
          (bs_cons (ss_set (fun pe => ps_set (i := 10) sc.nd rfl (by first | exact Or.inl rfl | exact Or.inr rfl) pe) (EV.of (ep_lst (ap_cons (ep_tup (ap_cons (ep_g (ep_var (pv 7))) (ap_cons (ep_g (ep_var (pv 8))) ap_nil))) (ap_cons (ep_tup (ap_cons (ep_g (ep_var (pv 7))) (ap_cons (ep_g (ep_var (pv 8))) (ap_cons ep_int ap_nil)))) (ap_cons (ep_tup (ap_cons (ep_g (ep_var (pv 2))) (ap_cons (ep_g (ep_var (pv 8))) (ap_cons ep_int ap_nil)))) (ap_cons (ep_tup (ap_cons (ep_g (ep_var (pv 7))) (ap_cons (ep_g (ep_var (pv 3))) (ap_cons ep_int ap_nil)))) (ap_cons (ep_tup (ap_cons (ep_g (ep_var (pv 7))) (ap_cons (ep_g (ep_var (pv 8))) (ap_cons ep_bl ap_nil)))) (ap_cons (ep_tup (ap_cons (ep_g (ep_var (pv 7))) (ap_cons (ep_g (ep_var (pv 8))) (ap_cons ep_non ap_nil)))) (ap_cons ep_non (ap_cons (ep_tup (ap_cons (ep_g (ep_var (pv 7))) (ap_cons (ep_g (ep_var (pv 8))) (ap_cons ep_int (ap_cons ep_int ap_nil))))) (ap_cons (ep_tup (ap_cons (ep_neg ep_int) (ap_cons (ep_g (ep_var (pv 8))) (ap_cons ep_int ap_nil)))) ap_nil))))))))))))
          (bs_cons (ss_set (fun pe => ps_set (i := 11) sc.nd rfl (by first | exact Or.inl rfl | exact Or.inr rfl) pe) (ev_lst (av_cons (ev_tup (av_cons (EV.of (ep_g (ep_var (pv 2)))) (av_cons (EV.of (ep_g (ep_var (pv 3)))) (av_cons (ev_bin (op_addA) r2_addA (ev_bin (op_addA) r2_addA (EV.of (ep_slice (ep_var (pv 4)) po_n (po_s (ep_var (pv 7))))) (ev_tup (av_cons (ev_ixV (pv 9) (ev_callN K__law_draw (hr.mono (by decide)) (by rfl) (ag_rd (pv 0) (ag_ev (EV.of ep_int) ag_nil)) rfl rfl) (fun _ _ => rfl)) av_nil))) (EV.of (ep_slice (ep_var (pv 4)) (po_s (ep_bin (op_addA) r2_addA (ep_var (pv 7)) ep_int)) po_n))) (av_cons (EV.of (ep_g (ep_var (pv 5)))) (av_cons (EV.of (ep_g (ep_var (pv 6)))) av_nil)))))) (av_cons (ev_tup (av_cons (EV.of (ep_g (ep_var (pv 2)))) (av_cons (EV.of (ep_g (ep_var (pv 3)))) (av_cons (EV.of (ep_g (ep_var (pv 4)))) (av_cons (ev_bin (op_addA) r2_addA (ev_bin (op_addA) r2_addA (EV.of (ep_slice (ep_var (pv 5)) po_n (po_s (ep_var (pv 8))))) (ev_tup (av_cons (ev_ix (EV.of (ep_lst (ap_cons (ep_bin (op_addA) r2_addA (ep_var (pv 2)) ep_int) (ap_cons (ep_neg ep_int) (ap_cons ep_bl (ap_cons ep_str (ap_cons (ep_tup ((ap_nil (fr := true)))) ap_nil))))))) (ev_callN K__law_draw (hr.mono (by decide)) (by rfl) (ag_rd (pv 0) (ag_ev (EV.of ep_int) ag_nil)) rfl rfl) (fun _ _ => rfl)) av_nil))) (EV.of (ep_slice (ep_var (pv 5)) (po_s (ep_bin (op_addA) r2_addA (ep_var (pv 8)) ep_int)) po_n))) (av_cons (EV.of (ep_g (ep_var (pv 6)))) av_nil)))))) (av_cons (ev_tup (av_cons (EV.of (ep_g (ep_var (pv 2)))) (av_cons (EV.of (ep_g (ep_var (pv 3)))) (av_cons (EV.of (ep_g (ep_var (pv 4)))) (av_cons (EV.of (ep_g (ep_var (pv 5)))) (av_cons (ev_bin (op_addA) r2_addA (EV.of (ep_g (ep_var (pv 6)))) (ev_tup (av_cons (ev_ixV (pv 10) (ev_callN K__law_draw (hr.mono (by decide)) (by rfl) (ag_rd (pv 0) (ag_ev (EV.of ep_int) ag_nil)) rfl rfl) (fun _ _ => rfl)) av_nil))) av_nil)))))) (av_cons (ev_tup (av_cons (EV.of (ep_g (ep_var (pv 2)))) (av_cons (EV.of (ep_g (ep_var (pv 3)))) (av_cons (EV.of (ep_g (ep_var (pv 4)))) (av_cons (EV.of (ep_g (ep_var (pv 5)))) (av_cons (ev_tup (av_cons (ev_ixV (pv 10) (ev_callN K__law_draw (hr.mono (by decide)) (by rfl) (ag_rd (pv 0) (ag_ev (EV.of ep_int) ag_nil)) rfl rfl) (fun _ _ => rfl)) av_nil)) av_nil)))))) (av_cons (EV.of (ep_tup (ap_cons (ep_g (ep_var (pv 2))) (ap_cons (ep_g (ep_var (pv 3))) (ap_cons (ep_bin (op_addA) r2_addA (ep_var (pv 4)) (ep_tup (ap_cons ep_int ap_nil))) (ap_cons (ep_g (ep_var (pv 5))) (ap_cons (ep_g (ep_var (pv 6))) ap_nil))))))) (av_cons (EV.of (ep_tup (ap_cons (ep_g (ep_var (pv 2))) (ap_cons (ep_g (ep_var (pv 3))) (ap_cons (ep_g (ep_var (pv 4))) (ap_cons (ep_slice (ep_var (pv 5)) po_n (po_s (ep_neg ep_int))) (ap_cons (ep_g (ep_var (pv 6))) ap_nil))))))) (av_cons (EV.of (ep_tup (ap_cons (ep_g (ep_var (pv 2))) (ap_cons (ep_g (ep_var (pv 3))) (ap_cons (ep_g (ep_var (pv 4))) (ap_cons (ep_g (ep_var (pv 5))) (ap_cons (ep_if (tp_cmp (op_neD (hr.units)) r2_neD (ep_var (pv 6)) (ep_tup ((ap_nil (fr := true)))) (nomark _)) (ep_bin (op_addA) r2_addA (ep_var (pv 6)) (ep_slice (ep_var (pv 6)) (po_s (ep_neg ep_int)) po_n)) ep_non) ap_nil))))))) (av_cons (EV.of (ep_bin (op_addA) r2_addA (ep_tup (ap_cons ep_int (ap_cons (ep_g (ep_var (pv 3))) ap_nil))) (ep_slice (ep_var (pv 1)) (po_s ep_int) po_n))) (av_cons (EV.of (ep_bin (op_addA) r2_addA (ep_tup (ap_cons (ep_g (ep_var (pv 2))) (ap_cons ep_int ap_nil))) (ep_slice (ep_var (pv 1)) (po_s ep_int) po_n))) (av_cons (EV.of (ep_slice (ep_var (pv 1)) po_n (po_s ep_int))) (av_cons (EV.of ep_non) (av_cons (EV.of (ep_tup (ap_cons (ep_g (ep_var (pv 2))) (ap_cons (ep_g (ep_var (pv 3))) (ap_cons (ep_g (ep_var (pv 4))) (ap_cons (ep_g (ep_var (pv 5))) (ap_cons (ep_tup (ap_cons (ep_tup (ap_cons (ep_g (ep_var (pv 7))) (ap_cons (ep_g (ep_var (pv 8))) (ap_cons ep_int ap_nil)))) (ap_cons (ep_tup (ap_cons (ep_g (ep_var (pv 7))) (ap_cons (ep_g (ep_var (pv 8))) (ap_cons ep_int ap_nil)))) ap_nil))) ap_nil))))))) (av_cons (EV.of (ep_bin (op_addA) r2_addA (ep_var (pv 1)) (ep_tup (ap_cons (ep_tup ((ap_nil (fr := true)))) ap_nil)))) (av_cons (EV.of ep_str) (av_cons (EV.of (ep_tup (ap_cons (ep_g (ep_var (pv 2))) (ap_cons (ep_g (ep_var (pv 3))) (ap_cons ep_non (ap_cons (ep_g (ep_var (pv 5))) (ap_cons (ep_g (ep_var (pv 6))) ap_nil))))))) (av_cons (EV.of (ep_tup (ap_cons (ep_g (ep_var (pv 2))) (ap_cons (ep_g (ep_var (pv 3))) (ap_cons (ep_g (ep_var (pv 4))) (ap_cons ep_non (ap_cons (ep_g (ep_var (pv 6))) ap_nil))))))) av_nil))))))))))))))))))
          (bs_one (ss_ret (ev_ixV (pv 11) (ev_callN K__law_draw (hr.mono (by decide)) (by rfl) (ag_rd (pv 0) (ag_ev (EV.of (ep_cb (fun pa => pe_callB call_lenA (by rfl) B.len PySem.boot_len pa) rn_lenA (ap_cons (ep_var (pv 11)) ap_nil))) ag_nil)) rfl rfl) (fun _ _ => rfl))))))))
/-! ### _law_entry -/
abbrev s__law_entry : Stmt := topS 28
abbrev N__law_entry : List Str := ["box", "m", "n", "count", "rows"]
theorem sc__law_entry : FnScope N__law_entry ["box", "m", "n", "count"] (defScope s__law_entry) := ⟨rfl, rfl, rfl, by decide +kernel, rfl, by decide +kernel, by decide +kernel⟩
noncomputable def B__law_entry : Rh → Out :=
  sSeq (sSet (.nm 4) (nkL (bCons (nkT (bCons (lift (cst (.str "row"))) (bCons (callM 0 [.rd 0, .ev (lift (gE (getS 1)))] F__law_draw) (bCons (callM 0 [.rd 0, .ev (lift (o2 addD (getS 2) (cst (.int 1))))] F__law_draw) bNil)))) (bCons (nkT (bCons (lift (cst (.str "column"))) (bCons (callM 0 [.rd 0, .ev (lift (gE (getS 2)))] F__law_draw) (bCons (callM 0 [.rd 0, .ev (lift (o2 addD (getS 1) (cst (.int 1))))] F__law_draw) bNil)))) (bCons (nkT (bCons (lift (cst (.str "cell"))) (bCons (callM 0 [.rd 0, .ev (lift (gE (getS 1)))] F__law_draw) (bCons (callM 0 [.rd 0, .ev (lift (gE (getS 2)))] F__law_draw) (bCons (callM 0 [.rd 0, .ev (lift (cst (.int 2)))] F__law_draw) bNil))))) (bCons (nkT (bCons (lift (cst (.str "wrong"))) (bCons (callM 0 [.rd 0, .ev (lift (o2 addD (getS 3) (cst (.int 2))))] F__law_draw) bNil))) bNil))))))
    (sRet (ixV 4 (callM 0 [.rd 0, .ev (lift (cst (.int 4)))] F__law_draw)))
noncomputable def F__law_entry : List D → Option (D × D) := runN 4 5 0 B__law_entry
theorem ok__law_entry {f : Addr} {fd : FuncData} (F : FnD K "_law_entry" "_law_entry" s__law_entry f fd) (hm : mg "_law_entry" = some (.ref f)) (hb : Binds K fd ["box", "m", "n", "count"] []) (K__law_draw : KnM P w K mg base 2 "_law_draw" 2 0 F__law_draw) (B : Bl mg) (C : Cs mg) :
    KnM P w K mg base 3 "_law_entry" 4 0 F__law_entry := by
  have sc := sc__law_entry
  refine KnM.of F sc hm hb (by decide) (k := 2) (B := B__law_entry) fun cdv A outer s H E hr => ?_
  unfold B__law_entry
  exact bs_cons (ss_set (fun pe => ps_set (i := 4) sc.nd rfl (by first | exact Or.inl rfl | exact Or.inr rfl) pe) (ev_lst (av_cons (ev_tup (av_cons (EV.of ep_str) (av_cons (ev_callN K__law_draw (hr.mono (by decide)) (by rfl) (ag_rd (pv 0) (ag_ev (EV.of (ep_g (ep_var (pv 1)))) ag_nil)) rfl rfl) (av_cons (ev_callN K__law_draw (hr.mono (by decide)) (by rfl) (ag_rd (pv 0) (ag_ev (EV.of (ep_bin (op_addA) r2_addA (ep_var (pv 2)) ep_int)) ag_nil)) rfl rfl) av_nil)))) (av_cons (ev_tup (av_cons (EV.of ep_str) (av_cons (ev_callN K__law_draw (hr.mono (by decide)) (by rfl) (ag_rd (pv 0) (ag_ev (EV.of (ep_g (ep_var (pv 2)))) ag_nil)) rfl rfl) (av_cons (ev_callN K__law_draw (hr.mono (by decide)) (by rfl) (ag_rd (pv 0) (ag_ev (EV.of (ep_bin (op_addA) r2_addA (ep_var (pv 1)) ep_int)) ag_nil)) rfl rfl) av_nil)))) (av_cons (ev_tup (av_cons (EV.of ep_str) (av_cons (ev_callN K__law_draw (hr.mono (by decide)) (by rfl) (ag_rd (pv 0) (ag_ev (EV.of (ep_g (ep_var (pv 1)))) ag_nil)) rfl rfl) (av_cons (ev_callN K__law_draw (hr.mono (by decide)) (by rfl) (ag_rd (pv 0) (ag_ev (EV.of (ep_g (ep_var (pv 2)))) ag_nil)) rfl rfl) (av_cons (ev_callN K__law_draw (hr.mono (by decide)) (by rfl) (ag_rd (pv 0) (ag_ev (EV.of ep_int) ag_nil)) rfl rfl) av_nil))))) (av_cons (ev_tup (av_cons (EV.of ep_str) (av_cons (ev_callN K__law_draw (hr.mono (by decide)) (by rfl) (ag_rd (pv 0) (ag_ev (EV.of (ep_bin (op_addA) r2_addA (ep_var (pv 3)) ep_int)) ag_nil)) rfl rfl) av_nil))) av_nil))))))
          (bs_one (ss_ret (ev_ixV (pv 4) (ev_callN K__law_draw (hr.mono (by decide)) (by rfl) (ag_rd (pv 0) (ag_ev (EV.of ep_int) ag_nil)) rfl rfl) (fun _ _ => rfl))))
/-! ### _law_bad_entry -/
abbrev s__law_bad_entry : Stmt := topS 29
abbrev N__law_bad_entry : List Str := ["box", "m", "n", "rows"]
theorem sc__law_bad_entry : FnScope N__law_bad_entry ["box", "m", "n"] (defScope s__law_bad_entry) := ⟨rfl, rfl, rfl, by decide +kernel, rfl, by decide +kernel, by decide +kernel⟩
noncomputable def B__law_bad_entry : Rh → Out :=
  sSeq (sSet (.nm 3) (lift (mkL (aCons (mkT (aCons (cst (.str "row")) (aCons (gE (getS 1)) (aCons (cst (.int 0)) aNil)))) (aCons (mkT (aCons (cst (.str "row")) (aCons (cst (.int 0)) (aCons (o2 addD (getS 2) (cst (.int 1))) aNil)))) (aCons (mkT (aCons (cst (.str "row")) (aCons (cst (.int 0)) aNil))) (aCons (mkT (aCons (cst (.str "row")) (aCons (cst (.int 0)) (aCons (cst .none) aNil)))) (aCons (mkT (aCons (cst (.str "row")) (aCons (cst (.bool true)) (aCons (cst (.int 0)) aNil)))) (aCons (mkT (aCons (cst (.str "column")) (aCons (gE (getS 2)) (aCons (cst (.int 0)) aNil)))) (aCons (mkT (aCons (cst (.str "column")) (aCons (cst (.int 0)) (aCons (o2 addD (getS 1) (cst (.int 1))) aNil)))) (aCons (mkT (aCons (cst (.str "column")) (aCons (cst (.int 0)) (aCons (cst (.int 0)) (aCons (cst (.int 0)) aNil))))) (aCons (mkT (aCons (cst (.str "cell")) (aCons (gE (getS 1)) (aCons (cst (.int 0)) (aCons (cst (.int 0)) aNil))))) (aCons (mkT (aCons (cst (.str "cell")) (aCons (cst (.int 0)) (aCons (gE (getS 2)) (aCons (cst (.int 1)) aNil))))) (aCons (mkT (aCons (cst (.str "cell")) (aCons (cst (.int 0)) (aCons (cst (.int 0)) (aCons (cst (.int 2)) aNil))))) (aCons (mkT (aCons (cst (.str "cell")) (aCons (cst (.int 0)) (aCons (cst (.int 0)) (aCons (cst (.bool true)) aNil))))) (aCons (mkT (aCons (cst (.str "cell")) (aCons (cst (.int 0)) (aCons (cst (.int 0)) aNil)))) (aCons (mkT (aCons (cst (.str "wrong")) (aCons (u1 negI (cst (.int 1))) aNil))) (aCons (mkT (aCons (cst (.str "wrong")) (aCons (cst (.bool true)) aNil))) (aCons (mkT (aCons (cst (.str "wrong")) aNil)) (aCons (mkT (aCons (cst (.str "wrong")) (aCons (cst (.int 0)) (aCons (cst (.int 0)) aNil)))) (aCons (mkT (aCons (cst (.str "sum")) (aCons (cst (.int 0)) (aCons (cst (.int 0)) aNil)))) (aCons (mkT (aCons (cst .none) (aCons (cst (.int 0)) (aCons (cst (.int 0)) aNil)))) (aCons (cst .none) (aCons (mkT aNil) (aCons (cst (.str "row")) (aCons (mkT (aCons (cst (.str "row")) (aCons (u1 negI (cst (.int 1))) (aCons (cst (.int 0)) aNil)))) aNil))))))))))))))))))))))))))
    (sRet (ixV 3 (callM 0 [.rd 0, .ev (lift (fnE lenF (aCons (getS 3) aNil)))] F__law_draw)))
noncomputable def F__law_bad_entry : List D → Option (D × D) := runN 3 4 0 B__law_bad_entry
theorem ok__law_bad_entry {f : Addr} {fd : FuncData} (F : FnD K "_law_bad_entry" "_law_bad_entry" s__law_bad_entry f fd) (hm : mg "_law_bad_entry" = some (.ref f)) (hb : Binds K fd ["box", "m", "n"] []) (K__law_draw : KnM P w K mg base 2 "_law_draw" 2 0 F__law_draw) (B : Bl mg) (C : Cs mg) :
    KnM P w K mg base 3 "_law_bad_entry" 3 0 F__law_bad_entry := by
  have sc := sc__law_bad_entry
  refine KnM.of F sc hm hb (by decide) (k := 2) (B := B__law_bad_entry) fun cdv A outer s H E hr => ?_
  unfold B__law_bad_entry
  exact bs_cons (ss_set (fun pe => ps_set (i := 3) sc.nd rfl (by first | exact Or.inl rfl | exact Or.inr rfl) pe) (EV.of (ep_lst (ap_cons (ep_tup (ap_cons ep_str (ap_cons (ep_g (ep_var (pv 1))) (ap_cons ep_int ap_nil)))) (ap_cons (ep_tup (ap_cons ep_str (ap_cons ep_int (ap_cons (ep_bin (op_addA) r2_addA (ep_var (pv 2)) ep_int) ap_nil)))) (ap_cons (ep_tup (ap_cons ep_str (ap_cons ep_int ap_nil))) (ap_cons (ep_tup (ap_cons ep_str (ap_cons ep_int (ap_cons ep_non ap_nil)))) (ap_cons (ep_tup (ap_cons ep_str (ap_cons ep_bl (ap_cons ep_int ap_nil)))) (ap_cons (ep_tup (ap_cons ep_str (ap_cons (ep_g (ep_var (pv 2))) (ap_cons ep_int ap_nil)))) (ap_cons (ep_tup (ap_cons ep_str (ap_cons ep_int (ap_cons (ep_bin (op_addA) r2_addA (ep_var (pv 1)) ep_int) ap_nil)))) (ap_cons (ep_tup (ap_cons ep_str (ap_cons ep_int (ap_cons ep_int (ap_cons ep_int ap_nil))))) (ap_cons (ep_tup (ap_cons ep_str (ap_cons (ep_g (ep_var (pv 1))) (ap_cons ep_int (ap_cons ep_int ap_nil))))) (ap_cons (ep_tup (ap_cons ep_str (ap_cons ep_int (ap_cons (ep_g (ep_var (pv 2))) (ap_cons ep_int ap_nil))))) (ap_cons (ep_tup (ap_cons ep_str (ap_cons ep_int (ap_cons ep_int (ap_cons ep_int ap_nil))))) (ap_cons (ep_tup (ap_cons ep_str (ap_cons ep_int (ap_cons ep_int (ap_cons ep_bl ap_nil))))) (ap_cons (ep_tup (ap_cons ep_str (ap_cons ep_int (ap_cons ep_int ap_nil)))) (ap_cons (ep_tup (ap_cons ep_str (ap_cons (ep_neg ep_int) ap_nil))) (ap_cons (ep_tup (ap_cons ep_str (ap_cons ep_bl ap_nil))) (ap_cons (ep_tup (ap_cons ep_str ap_nil)) (ap_cons (ep_tup (ap_cons ep_str (ap_cons ep_int (ap_cons ep_int ap_nil)))) (ap_cons (ep_tup (ap_cons ep_str (ap_cons ep_int (ap_cons ep_int ap_nil)))) (ap_cons (ep_tup (ap_cons ep_non (ap_cons ep_int (ap_cons ep_int ap_nil)))) (ap_cons ep_non (ap_cons (ep_tup ((ap_nil (fr := true)))) (ap_cons ep_str (ap_cons (ep_tup (ap_cons ep_str (ap_cons (ep_neg ep_int) (ap_cons ep_int ap_nil)))) ap_nil))))))))))))))))))))))))))
          (bs_one (ss_ret (ev_ixV (pv 3) (ev_callN K__law_draw (hr.mono (by decide)) (by rfl) (ag_rd (pv 0) (ag_ev (EV.of (ep_cb (fun pa => pe_callB call_lenA (by rfl) B.len PySem.boot_len pa) rn_lenA (ap_cons (ep_var (pv 3)) ap_nil))) ag_nil)) rfl rfl) (fun _ _ => rfl))))
/-! ### law -/
abbrev s_law : Stmt := topS 30
abbrev N_law : List Str := ["script", "box", "telling", "turn", "m", "n", "entries", "diary", "at", "bad", "named", "wrong", "number", "k", "numbers", "told", "double", "i", "rows", "columns", "cells", "j"]
theorem sc_law : FnScope N_law ["script"] (defScope s_law) := ⟨rfl, rfl, rfl, by decide +kernel, rfl, by decide +kernel, by decide +kernel⟩
noncomputable def B_law : Rh → Out :=
  sSeq (sSet (.nm 2) (callM 1 [.rd 1, .ev (lift (cst (.int 16)))] F__law_telling))
    (sSeq (sIf (tor (lift (qB (o2 isNotD (fnE F_is_telling (aCons (getS 2) aNil)) (cst (.bool true))))) (tnot (wB (fnV allF (bCons (vLc [] (.nm 3) [3] (lift (iR1 (aCons (cst (.int 4)) aNil))) (lift tAll) (v2 isD (fnV F_is_telling (bCons (callM 1 [.rd 1, .ev (lift (gE (getS 2)))] F__law_bad_telling) bNil)) (lift (cst (.bool false))))) bNil))))) (sRet (lift (cst (.bool false)))) (sNil))
    (sSeq (sPar 4 5 (bCons (v2 addD (lift (cst (.int 1))) (callM 1 [.rd 1, .ev (lift (cst (.int 4)))] F__law_draw)) (bCons (v2 addD (lift (cst (.int 1))) (callM 1 [.rd 1, .ev (lift (cst (.int 4)))] F__law_draw)) bNil)))
    (sSeq (sSet (.nm 6) (lift (mkL aNil)))
    (sSeq (sFor [] (.nm 3) (ivf rng1 (bCons (callM 1 [.rd 1, .ev (lift (cst (.int 30)))] F__law_draw) bNil)) (sDrop (appendV 6 (callM 1 [.rd 1, .ev (lift (gE (getS 4))), .ev (lift (gE (getS 5))), .ev (lift (fnE lenF (aCons (getS 6) aNil)))] F__law_entry))))
    (sSeq (sSet (.nm 7) (lift (mkT (aCons (gE (getS 4)) (aCons (gE (getS 5)) (aCons (u1 tupD (getS 6)) aNil))))))
    (sSeq (sSet (.nm 8) (callM 1 [.rd 1, .ev (lift (o2 addD (fnE lenF (aCons (getS 6) aNil)) (cst (.int 1))))] F__law_draw))
    (sSeq (sSet (.nm 9) (nkL (bCons (nkT (bCons (lift (gE (getS 4))) (bCons (lift (gE (getS 5))) (bCons (w1 tupD (v2 addD (v2 addD (lift (slE (getS 6) opn (ops (getS 8)))) (nkL (bCons (callM 1 [.rd 1, .ev (lift (gE (getS 4))), .ev (lift (gE (getS 5)))] F__law_bad_entry) bNil))) (lift (slE (getS 6) (ops (getS 8)) opn)))) bNil)))) (bCons (nkT (bCons (lift (gE (getS 4))) (bCons (lift (gE (getS 5))) (bCons (w1 tupD (v2 addD (v2 addD (lift (slE (getS 6) opn (ops (getS 8)))) (nkL (bCons (callM 1 [.rd 1, .ev (lift (gE (getS 4))), .ev (lift (gE (getS 5)))] F__law_bad_entry) bNil))) (lift (slE (getS 6) (ops (getS 8)) opn)))) bNil)))) (bCons (lift (mkT (aCons (gE (getS 4)) (aCons (gE (getS 5)) aNil)))) (bCons (lift (mkT (aCons (cst (.int 0)) (aCons (gE (getS 5)) (aCons (mkT aNil) aNil))))) (bCons (lift (mkT (aCons (gE (getS 4)) (aCons (cst (.int 17)) (aCons (mkT aNil) aNil))))) (bCons (lift (cst .none)) (bCons (lift (mkT (aCons (gE (getS 4)) (aCons (gE (getS 5)) (aCons (cst .none) aNil))))) (bCons (lift (mkT (aCons (cst (.bool true)) (aCons (gE (getS 5)) (aCons (mkT aNil) aNil))))) bNil))))))))))
    (sSeq (sIf (tor (lift (qB (o2 neD (cst (.int 200)) (cst (.int 200))))) (tor (lift (qB (o2 isNotD (fnE F_is_diary (aCons (getS 7) aNil)) (cst (.bool true))))) (wB (v2 isNotD (fnV F_is_diary (bCons (ixV 9 (callM 1 [.rd 1, .ev (lift (cst (.int 8)))] F__law_draw)) bNil)) (lift (cst (.bool false))))))) (sRet (lift (cst (.bool false)))) (sNil))
    (sSeq (sIf (lift (por (qB (o2 isNotD (fnE F_is_diary (aCons (mkT (aCons (gE (getS 4)) (aCons (gE (getS 5)) (aCons (o2 mulD (mkT (aCons (mkT (aCons (cst (.str "wrong")) (aCons (o2 powI (cst (.int 10)) (cst (.int 30))) aNil))) aNil)) (cst (.int 200))) aNil)))) aNil)) (cst (.bool true)))) (qB (o2 isNotD (fnE F_is_diary (aCons (mkT (aCons (gE (getS 4)) (aCons (gE (getS 5)) (aCons (o2 mulD (mkT (aCons (mkT (aCons (cst (.str "wrong")) (aCons (cst (.int 0)) aNil))) aNil)) (cst (.int 201))) aNil)))) aNil)) (cst (.bool false)))))) (sRet (lift (cst (.bool false)))) (sNil))
    (sSeq (sSet (.tp [.nm 10, .nm 11]) (nkT (bCons (lift (mkL aNil)) (bCons (lift (mkL aNil)) bNil))))
    (sSeq (sFor [] (.nm 12) (lift (iR1 (aCons (fnE lenF (aCons (getS 6) aNil)) aNil))) (sIf (lift (qB (o2 eqD (o2 ixD (o2 ixD (getS 6) (getS 12)) (cst (.int 0))) (cst (.str "wrong"))))) (sSeq (sSet (.nm 13) (lift (gE (o2 ixD (o2 ixD (getS 6) (getS 12)) (cst (.int 1))))))
    (sIf (lift (pand (qB (o2 ltD (getS 13) (getS 12))) (pand (qB (o2 neD (o2 ixD (o2 ixD (getS 6) (getS 13)) (cst (.int 0))) (cst (.str "wrong")))) (qB (o2 notInD (getS 13) (getS 10)))))) (sDrop (appendV 10 (lift (gE (getS 13))))) (sDrop (appendV 11 (lift (gE (getS 12))))))) (sNil)))
    (sSeq (sSet (.nm 14) (lift (eLc (.nm 13) [13] (iR1 (aCons (fnE lenF (aCons (getS 6) aNil)) aNil)) (pand (qB (o2 neD (o2 ixD (o2 ixD (getS 6) (getS 13)) (cst (.int 0))) (cst (.str "wrong")))) (qB (o2 notInD (getS 13) (getS 10)))) (gE (getS 13)))))
    (sSeq (sSet (.tp [.nm 15, .nm 16]) (nkT (bCons (lift (cst (.dict [(.none, .none)]))) (bCons (lift (mkL aNil)) bNil))))
    (sSeq (sFor [14] (.nm 13) (lift (iS (getS 14))) (sIf (lift (qB (o2 dinD (slE (o2 ixD (getS 6) (getS 13)) opn (ops (u1 negI (cst (.int 1))))) (getS 15)))) (sDrop (appendV 16 (lift (gE (getS 13))))) (sDput 15 (slE (o2 ixD (getS 6) (getS 13)) opn (ops (u1 negI (cst (.int 1))))) (lift (gE (o2 ixD (o2 ixD (getS 6) (getS 13)) (u1 negI (cst (.int 1)))))))))
    (sSeq (sIf (lift (por (pnot (qT (fnE F__law_same (aCons (fnE F_story (aCons (getS 7) aNil)) (aCons (u1 tupD (getS 14)) aNil))))) (por (pnot (qT (fnE F__law_same (aCons (fnE F_faults (aCons (getS 7) aNil)) (aCons (u1 tupD (fnE (sortF false) (aCons (o2 addD (getS 16) (getS 11)) aNil))) aNil))))) (pnot (qT (fnE F__law_same (aCons (fnE F_is_sound (aCons (getS 7) aNil)) (aCons (o2 eqD (o2 addD (getS 16) (getS 11)) (mkL aNil)) aNil)))))))) (sRet (lift (cst (.bool false)))) (sNil))
    (sSeq (sSet (.nm 18) (lift (u1 tupD (eLc (.nm 17) [17] (iR1 (aCons (getS 4) aNil)) tAll (gE (dgt1 (getS 15) (mkT (aCons (cst (.str "row")) (aCons (gE (getS 17)) aNil)))))))))
    (sSeq (sSet (.nm 19) (lift (u1 tupD (eLc (.nm 21) [21] (iR1 (aCons (getS 5) aNil)) tAll (gE (dgt1 (getS 15) (mkT (aCons (cst (.str "column")) (aCons (gE (getS 21)) aNil)))))))))
    (sSeq (sSet (.nm 20) (lift (mkL aNil)))
    (sSeq (sFor [] (.nm 17) (lift (iR1 (aCons (getS 4) aNil))) (sDrop (extendV 20 (lift (eLc (.nm 21) [21] (iR1 (aCons (getS 5) aNil)) (qB (o2 dinD (mkT (aCons (cst (.str "cell")) (aCons (gE (getS 17)) (aCons (gE (getS 21)) aNil)))) (getS 15))) (mkT (aCons (gE (getS 17)) (aCons (gE (getS 21)) (aCons (gE (o2 dgetD (getS 15) (mkT (aCons (cst (.str "cell")) (aCons (gE (getS 17)) (aCons (gE (getS 21)) aNil)))))) aNil)))))))))
    (sRet (lift (fnE F__law_same (aCons (fnE F_telling_of (aCons (getS 7) aNil)) (aCons (mkT (aCons (gE (getS 4)) (aCons (gE (getS 5)) (aCons (gE (getS 18)) (aCons (gE (getS 19)) (aCons (u1 tupD (getS 20)) aNil)))))) aNil))))))))))))))))))))))))
noncomputable def F_law : List D → Option D := runF 1 22 B_law
theorem ok_law {f fB : Addr} {fd fdB : FuncData} (F : FnD K "law" "law" s_law f fd) (GB : FnOk P w K mg base CX0 1 fB fdB ["script"] (spBox K boxD)) (mB : mg "_law_box" = some (.ref fB)) (kB : PySem.W.keepIn K (.ref fB) = true) (bB : Binds K fdB ["script"] []) (K__law_telling : KnM P w K mg base 4 "_law_telling" 2 0 F__law_telling) (K_is_telling : KnP P w K mg base 4 "is_telling" 1 F_is_telling) (K__law_bad_telling : KnM P w K mg base 3 "_law_bad_telling" 2 0 F__law_bad_telling) (K__law_draw : KnM P w K mg base 2 "_law_draw" 2 0 F__law_draw) (K__law_entry : KnM P w K mg base 3 "_law_entry" 4 0 F__law_entry) (K__law_bad_entry : KnM P w K mg base 3 "_law_bad_entry" 3 0 F__law_bad_entry) (K_is_diary : KnP P w K mg base 3 "is_diary" 1 F_is_diary) (K__law_same : KnP P w K mg base 6 "_law_same" 2 F__law_same) (K_story : KnP P w K mg base 2 "story" 1 F_story) (K_faults : KnP P w K mg base 3 "faults" 1 F_faults) (K_is_sound : KnP P w K mg base 4 "is_sound" 1 F_is_sound) (K_telling_of : KnP P w K mg base 3 "telling_of" 1 F_telling_of) (B : Bl mg) (C : Cs mg)
    (hM : ∀ ns : List Int, ns.length ≤ 63 → ∃ ρ', B_law (rhoL 22 (boxD ns)) = .rt (.bool true) ρ') : FnOk P w K mg base CX0 7 f fd ["script"] (spLaw K) := by
  have sc := sc_law
  refine law_of F sc (by decide) (k := 6) (B := B_law) (fun cdv A outer s H E hr => ⟨_, _, _, rfl, ps_set (i := 1) sc.nd rfl (by first | exact Or.inl rfl | exact Or.inr rfl) (pe_call GB (hr.mono (by decide)) (by rfl) mB kB bB .nil pass0 (pa_cons (pv 0) pa_nil)), boxOk_call, ?_⟩) hM
  unfold B_law
  exact bs_cons (ss_set (fun pe => ps_set (i := 2) sc.nd rfl (by first | exact Or.inl rfl | exact Or.inr rfl) pe) (ev_callN K__law_telling (hr.mono (by decide)) (by rfl) (ag_rd (pv 1) (ag_ev (EV.of ep_int) ag_nil)) rfl rfl))
          (bs_cons (ss_if (WV.tv (wv_or (TV.of (tp_cmp (op_isNotA) r2_isNotA (ep_callK K_is_telling (hr.mono (by decide)) (by rfl) (ap_cons (ep_var (pv 2)) ap_nil)) ep_bl (nomark _))) (wv_or1 (tv_not (tv_b (ev_cb (fun pa => pe_callB (cr_all rfl) (by rfl) B.all (by decide +kernel) pa) rn_all (av_cons (ev_lc (own := [("turn", 3)]) (bs := []) rfl sc.nd (IV.of (ip_range1 (by rfl) B.range (ap_cons ep_int ap_nil))) (blkOk_by (N := N_law) (sc := defScope s_law) (by decide +kernel)) (fun _ _ _ _ _ => patc_nm (pg_name (i := 3) sc.nd rfl (by first | exact Or.inl rfl | exact Or.inr rfl) (by first | exact Or.inl rfl | exact Or.inr rfl)) (by decide)) (fun _ _ _ _ _ => TVs.of tps_nil) (fun _ _ _ _ _ => ev_cmp (op_isA) r2_isA (ev_callK K_is_telling (hr.mono (by decide)) (by rfl) (av_cons (ev_callN K__law_bad_telling (hr.mono (by decide)) (by rfl) (ag_rd (pv 1) (ag_ev (EV.of (ep_g (ep_var (pv 2)))) ag_nil)) rfl rfl) av_nil)) (EV.of ep_bl) (nomark _))) av_nil))))))) (bs_one (ss_ret (EV.of ep_bl))) (bs_nil))
          (bs_cons (ss_par (fun pa => ps_par rfl sc.nd rfl rfl (by decide) rfl rfl pa rfl) (av_cons (ev_bin (op_addA) r2_addA (EV.of ep_int) (ev_callN K__law_draw (hr.mono (by decide)) (by rfl) (ag_rd (pv 1) (ag_ev (EV.of ep_int) ag_nil)) rfl rfl)) (av_cons (ev_bin (op_addA) r2_addA (EV.of ep_int) (ev_callN K__law_draw (hr.mono (by decide)) (by rfl) (ag_rd (pv 1) (ag_ev (EV.of ep_int) ag_nil)) rfl rfl)) av_nil)))
          (bs_cons (ss_set (fun pe => ps_set (i := 6) sc.nd rfl (by first | exact Or.inl rfl | exact Or.inr rfl) pe) (EV.of (ep_lst ((ap_nil (fr := true))))))
          (bs_cons (ss_for (bs := []) PassesOwn.never rfl (iv_range1 (by rfl) B.range (av_cons (ev_callN K__law_draw (hr.mono (by decide)) (by rfl) (ag_rd (pv 1) (ag_ev (EV.of ep_int) ag_nil)) rfl rfl) av_nil)) (pat_nm (pg_name (i := 3) sc.nd rfl (by first | exact Or.inl rfl | exact Or.inr rfl))) (bs_one (ss_expr (ev_append (pv 6) (ev_callN K__law_entry (hr.mono (by decide)) (by rfl) (ag_rd (pv 1) (ag_ev (EV.of (ep_g (ep_var (pv 4)))) (ag_ev (EV.of (ep_g (ep_var (pv 5)))) (ag_ev (EV.of (ep_cb (fun pa => pe_callB call_lenA (by rfl) B.len PySem.boot_len pa) rn_lenA (ap_cons (ep_var (pv 6)) ap_nil))) ag_nil)))) rfl rfl)))))
          (bs_cons (ss_set (fun pe => ps_set (i := 7) sc.nd rfl (by first | exact Or.inl rfl | exact Or.inr rfl) pe) (EV.of (ep_tup (ap_cons (ep_g (ep_var (pv 4))) (ap_cons (ep_g (ep_var (pv 5))) (ap_cons (ep_tuple (by rfl) B.tuple (ep_var (pv 6))) ap_nil))))))
          (bs_cons (ss_set (fun pe => ps_set (i := 8) sc.nd rfl (by first | exact Or.inl rfl | exact Or.inr rfl) pe) (ev_callN K__law_draw (hr.mono (by decide)) (by rfl) (ag_rd (pv 1) (ag_ev (EV.of (ep_bin (op_addA) r2_addA (ep_cb (fun pa => pe_callB call_lenA (by rfl) B.len PySem.boot_len pa) rn_lenA (ap_cons (ep_var (pv 6)) ap_nil)) ep_int)) ag_nil)) rfl rfl))
          (bs_cons (ss_set (fun pe => ps_set (i := 9) sc.nd rfl (by first | exact Or.inl rfl | exact Or.inr rfl) pe) (ev_lst (av_cons (ev_tup (av_cons (EV.of (ep_g (ep_var (pv 4)))) (av_cons (EV.of (ep_g (ep_var (pv 5)))) (av_cons (ev_tuple (by rfl) B.tuple (ev_bin (op_addA) r2_addA (ev_bin (op_addA) r2_addA (EV.of (ep_slice (ep_var (pv 6)) po_n (po_s (ep_var (pv 8))))) (ev_lst (av_cons (ev_callN K__law_bad_entry (hr.mono (by decide)) (by rfl) (ag_rd (pv 1) (ag_ev (EV.of (ep_g (ep_var (pv 4)))) (ag_ev (EV.of (ep_g (ep_var (pv 5)))) ag_nil))) rfl rfl) av_nil))) (EV.of (ep_slice (ep_var (pv 6)) (po_s (ep_var (pv 8))) po_n)))) av_nil)))) (av_cons (ev_tup (av_cons (EV.of (ep_g (ep_var (pv 4)))) (av_cons (EV.of (ep_g (ep_var (pv 5)))) (av_cons (ev_tuple (by rfl) B.tuple (ev_bin (op_addA) r2_addA (ev_bin (op_addA) r2_addA (EV.of (ep_slice (ep_var (pv 6)) po_n (po_s (ep_var (pv 8))))) (ev_lst (av_cons (ev_callN K__law_bad_entry (hr.mono (by decide)) (by rfl) (ag_rd (pv 1) (ag_ev (EV.of (ep_g (ep_var (pv 4)))) (ag_ev (EV.of (ep_g (ep_var (pv 5)))) ag_nil))) rfl rfl) av_nil))) (EV.of (ep_slice (ep_var (pv 6)) (po_s (ep_var (pv 8))) po_n)))) av_nil)))) (av_cons (EV.of (ep_tup (ap_cons (ep_g (ep_var (pv 4))) (ap_cons (ep_g (ep_var (pv 5))) ap_nil)))) (av_cons (EV.of (ep_tup (ap_cons ep_int (ap_cons (ep_g (ep_var (pv 5))) (ap_cons (ep_tup ((ap_nil (fr := true)))) ap_nil))))) (av_cons (EV.of (ep_tup (ap_cons (ep_g (ep_var (pv 4))) (ap_cons ep_int (ap_cons (ep_tup ((ap_nil (fr := true)))) ap_nil))))) (av_cons (EV.of ep_non) (av_cons (EV.of (ep_tup (ap_cons (ep_g (ep_var (pv 4))) (ap_cons (ep_g (ep_var (pv 5))) (ap_cons ep_non ap_nil))))) (av_cons (EV.of (ep_tup (ap_cons ep_bl (ap_cons (ep_g (ep_var (pv 5))) (ap_cons (ep_tup ((ap_nil (fr := true)))) ap_nil))))) av_nil))))))))))
          (bs_cons (ss_if (WV.tv (wv_or (TV.of (tp_cmp (op_neD (hr.units)) r2_neD (ep_globI (by rfl) C.MAX_ENTRIES) ep_int (nomark _))) (wv_or (TV.of (tp_cmp (op_isNotA) r2_isNotA (ep_callK K_is_diary (hr.mono (by decide)) (by rfl) (ap_cons (ep_var (pv 7)) ap_nil)) ep_bl (nomark _))) (wv_or1 (tv_cmp (op_isNotA) r2_isNotA (ev_callK K_is_diary (hr.mono (by decide)) (by rfl) (av_cons (ev_ixV (pv 9) (ev_callN K__law_draw (hr.mono (by decide)) (by rfl) (ag_rd (pv 1) (ag_ev (EV.of ep_int) ag_nil)) rfl rfl) (fun _ _ => rfl)) av_nil)) (EV.of ep_bl) (nomark _)))))) (bs_one (ss_ret (EV.of ep_bl))) (bs_nil))
          (bs_cons (ss_if (TV.of (WP.tp (wp_or (tp_cmp (op_isNotA) r2_isNotA (ep_callK K_is_diary (hr.mono (by decide)) (by rfl) (ap_cons (ep_tup (ap_cons (ep_g (ep_var (pv 4))) (ap_cons (ep_g (ep_var (pv 5))) (ap_cons (ep_bin (op_mulA) r2_mulA (ep_tup (ap_cons (ep_tup (ap_cons ep_str (ap_cons (ep_bin (op_pow) r2_pow ep_int ep_int) ap_nil))) ap_nil)) ep_int) ap_nil)))) ap_nil)) ep_bl (nomark _)) (wp_or1 (tp_cmp (op_isNotA) r2_isNotA (ep_callK K_is_diary (hr.mono (by decide)) (by rfl) (ap_cons (ep_tup (ap_cons (ep_g (ep_var (pv 4))) (ap_cons (ep_g (ep_var (pv 5))) (ap_cons (ep_bin (op_mulA) r2_mulA (ep_tup (ap_cons (ep_tup (ap_cons ep_str (ap_cons ep_int ap_nil))) ap_nil)) ep_int) ap_nil)))) ap_nil)) ep_bl (nomark _)))))) (bs_one (ss_ret (EV.of ep_bl))) (bs_nil))
          (bs_cons (ss_asg (fun pe pg => ps_asg pe pg) (ev_tup (av_cons (EV.of (ep_lst ((ap_nil (fr := true))))) (av_cons (EV.of (ep_lst ((ap_nil (fr := true))))) av_nil))) (pat_tp rfl (pats_cons (pat_nm (pg_name (i := 10) sc.nd rfl (by first | exact Or.inl rfl | exact Or.inr rfl))) (pats_cons (pat_nm (pg_name (i := 11) sc.nd rfl (by first | exact Or.inl rfl | exact Or.inr rfl))) (pats_nil))) rfl))
          (bs_cons (ss_for (bs := []) PassesOwn.never rfl (IV.of (ip_range1 (by rfl) B.range (ap_cons (ep_cb (fun pa => pe_callB call_lenA (by rfl) B.len PySem.boot_len pa) rn_lenA (ap_cons (ep_var (pv 6)) ap_nil)) ap_nil))) (pat_nm (pg_name (i := 12) sc.nd rfl (by first | exact Or.inl rfl | exact Or.inr rfl))) (bs_one (ss_if (TV.of (tp_cmp (op_eqD (hr.units)) r2_eqD (ep_ix (ep_ix (ep_var (pv 6)) (ep_var (pv 12)) (fun _ _ => rfl)) ep_int (fun _ _ => rfl)) ep_str (nomark _))) (bs_cons (ss_set (fun pe => ps_set (i := 13) sc.nd rfl (by first | exact Or.inl rfl | exact Or.inr rfl) pe) (EV.of (ep_g (ep_ix (ep_ix (ep_var (pv 6)) (ep_var (pv 12)) (fun _ _ => rfl)) ep_int (fun _ _ => rfl)))))
          (bs_one (ss_if (TV.of (WP.tp (wp_and (tp_cmp (op_ltA hr) r2_ltA (ep_var (pv 13)) (ep_var (pv 12)) (nomark _)) (wp_and (tp_cmp (op_neD (hr.units)) r2_neD (ep_ix (ep_ix (ep_var (pv 6)) (ep_var (pv 13)) (fun _ _ => rfl)) ep_int (fun _ _ => rfl)) ep_str (nomark _)) (wp_and1 (tp_cmp (op_notInA hr) r2_notInA (ep_var (pv 13)) (ep_var (pv 10)) (by rfl))))))) (bs_one (ss_expr (ev_append (pv 10) (EV.of (ep_g (ep_var (pv 13))))))) (bs_one (ss_expr (ev_append (pv 11) (EV.of (ep_g (ep_var (pv 12)))))))))) (bs_nil))))
          (bs_cons (ss_setLc (i := 14) (own := [("k", 13)]) (bs := []) rfl sc.nd rfl rfl (sw_true rfl rfl rfl (by decide +kernel)) (ip_range1 (by rfl) B.range (ap_cons (ep_cb (fun pa => pe_callB call_lenA (by rfl) B.len PySem.boot_len pa) rn_lenA (ap_cons (ep_var (pv 6)) ap_nil)) ap_nil)) (blkOk_by (N := N_law) (sc := defScope s_law) (by decide +kernel)) (fun _ _ _ _ _ => patc_nm (pg_name (i := 13) sc.nd rfl (by first | exact Or.inl rfl | exact Or.inr rfl) (by first | exact Or.inl rfl | exact Or.inr rfl)) (by decide)) (fun _ _ _ _ _ => tps_one (WP.tp (wp_and (tp_cmp (op_neD (hr.units)) r2_neD (ep_ix (ep_ix (ep_var (pv 6)) (ep_var (pv 13)) (fun _ _ => rfl)) ep_int (fun _ _ => rfl)) ep_str (nomark _)) (wp_and1 (tp_cmp (op_notInA hr) r2_notInA (ep_var (pv 13)) (ep_var (pv 10)) (by rfl)))))) (fun _ _ _ _ _ => ep_g (ep_var (pv 13))))
          (bs_cons (ss_asg (fun pe pg => ps_asg pe pg) (ev_tup (av_cons (EV.of ep_dnewT) (av_cons (EV.of (ep_lst ((ap_nil (fr := true))))) av_nil))) (pat_tp rfl (pats_cons (pat_nm (pg_name (i := 15) sc.nd rfl (by first | exact Or.inl rfl | exact Or.inr rfl))) (pats_cons (pat_nm (pg_name (i := 16) sc.nd rfl (by first | exact Or.inl rfl | exact Or.inr rfl))) (pats_nil))) rfl))
          (bs_cons (ss_for (bs := [14]) PassesOwn.never rfl (IV.of (ip_seq (epb_var (pv 14)))) (pat_nm (pg_name (i := 13) sc.nd rfl (by first | exact Or.inl rfl | exact Or.inr rfl))) (bs_one (ss_if (TV.of (tp_din hr (ep_slice (ep_ix (ep_var (pv 6)) (ep_var (pv 13)) (fun _ _ => rfl)) po_n (po_s (ep_neg ep_int))) (ep_var (pv 15)))) (bs_one (ss_expr (ev_append (pv 16) (EV.of (ep_g (ep_var (pv 13))))))) (bs_one (ss_dput hr (pv 15) (ep_slice (ep_ix (ep_var (pv 6)) (ep_var (pv 13)) (fun _ _ => rfl)) po_n (po_s (ep_neg ep_int))) (EV.of (ep_g (ep_ix (ep_ix (ep_var (pv 6)) (ep_var (pv 13)) (fun _ _ => rfl)) (ep_neg ep_int) (fun _ _ => rfl)))))))))
          (bs_cons (ss_if (TV.of (WP.tp (wp_or (tp_not (tp_t (ep_callK K__law_same (hr.mono (by decide)) (by rfl) (ap_cons (ep_callK K_story (hr.mono (by decide)) (by rfl) (ap_cons (ep_var (pv 7)) ap_nil)) (ap_cons (ep_tuple (by rfl) B.tuple (ep_var (pv 14))) ap_nil))))) (wp_or (tp_not (tp_t (ep_callK K__law_same (hr.mono (by decide)) (by rfl) (ap_cons (ep_callK K_faults (hr.mono (by decide)) (by rfl) (ap_cons (ep_var (pv 7)) ap_nil)) (ap_cons (ep_tuple (by rfl) B.tuple (ep_cb (fun pa => pe_callB (cr_sortA hr) (by rfl) B.sorted (by decide +kernel) pa) rn_sortA (ap_cons (ep_bin (op_addA) r2_addA (ep_var (pv 16)) (ep_var (pv 11))) ap_nil))) ap_nil))))) (wp_or1 (tp_not (tp_t (ep_callK K__law_same (hr.mono (by decide)) (by rfl) (ap_cons (ep_callK K_is_sound (hr.mono (by decide)) (by rfl) (ap_cons (ep_var (pv 7)) ap_nil)) (ap_cons (ep_cmp (op_eqD (hr.units)) r2_eqD (ep_bin (op_addA) r2_addA (ep_var (pv 16)) (ep_var (pv 11))) (ep_lst ((ap_nil (fr := true)))) (nomark _)) ap_nil)))))))))) (bs_one (ss_ret (EV.of ep_bl))) (bs_nil))
          (bs_cons (ss_set (fun pe => ps_set (i := 18) sc.nd rfl (by first | exact Or.inl rfl | exact Or.inr rfl) pe) (EV.of (ep_tuple (by rfl) B.tuple (ep_lc (own := [("i", 17)]) (bs := []) rfl sc.nd (ip_range1 (by rfl) B.range (ap_cons (ep_var (pv 4)) ap_nil)) (blkOk_by (N := N_law) (sc := defScope s_law) (by decide +kernel)) (fun _ _ _ _ _ => patc_nm (pg_name (i := 17) sc.nd rfl (by first | exact Or.inl rfl | exact Or.inr rfl) (by first | exact Or.inl rfl | exact Or.inr rfl)) (by decide)) (fun _ _ _ _ _ => tps_nil) (fun _ _ _ _ _ => ep_g (ep_dgt1 hr (ep_var (pv 15)) (ep_tup (ap_cons ep_str (ap_cons (ep_g (ep_var (pv 17))) ap_nil)))))))))
          (bs_cons (ss_set (fun pe => ps_set (i := 19) sc.nd rfl (by first | exact Or.inl rfl | exact Or.inr rfl) pe) (EV.of (ep_tuple (by rfl) B.tuple (ep_lc (own := [("j", 21)]) (bs := []) rfl sc.nd (ip_range1 (by rfl) B.range (ap_cons (ep_var (pv 5)) ap_nil)) (blkOk_by (N := N_law) (sc := defScope s_law) (by decide +kernel)) (fun _ _ _ _ _ => patc_nm (pg_name (i := 21) sc.nd rfl (by first | exact Or.inl rfl | exact Or.inr rfl) (by first | exact Or.inl rfl | exact Or.inr rfl)) (by decide)) (fun _ _ _ _ _ => tps_nil) (fun _ _ _ _ _ => ep_g (ep_dgt1 hr (ep_var (pv 15)) (ep_tup (ap_cons ep_str (ap_cons (ep_g (ep_var (pv 21))) ap_nil)))))))))
          (bs_cons (ss_set (fun pe => ps_set (i := 20) sc.nd rfl (by first | exact Or.inl rfl | exact Or.inr rfl) pe) (EV.of (ep_lst ((ap_nil (fr := true))))))
          (bs_cons (ss_for (bs := []) PassesOwn.never rfl (IV.of (ip_range1 (by rfl) B.range (ap_cons (ep_var (pv 4)) ap_nil))) (pat_nm (pg_name (i := 17) sc.nd rfl (by first | exact Or.inl rfl | exact Or.inr rfl))) (bs_one (ss_expr (ev_extend (pv 20) (EV.of (ep_lc (own := [("j", 21)]) (bs := []) rfl sc.nd (ip_range1 (by rfl) B.range (ap_cons (ep_var (pv 5)) ap_nil)) (blkOk_by (N := N_law) (sc := defScope s_law) (by decide +kernel)) (fun _ _ _ _ _ => patc_nm (pg_name (i := 21) sc.nd rfl (by first | exact Or.inl rfl | exact Or.inr rfl) (by first | exact Or.inl rfl | exact Or.inr rfl)) (by decide)) (fun _ _ _ _ _ => tps_one (tp_din hr (ep_tup (ap_cons ep_str (ap_cons (ep_g (ep_var (pv 17))) (ap_cons (ep_g (ep_var (pv 21))) ap_nil)))) (ep_var (pv 15)))) (fun _ _ _ _ _ => ep_tup (ap_cons (ep_g (ep_var (pv 17))) (ap_cons (ep_g (ep_var (pv 21))) (ap_cons (ep_g (ep_dget hr (ep_var (pv 15)) (ep_tup (ap_cons ep_str (ap_cons (ep_g (ep_var (pv 17))) (ap_cons (ep_g (ep_var (pv 21))) ap_nil)))) (fun _ _ => rfl))) ap_nil))))))))))
          (bs_one (ss_ret (EV.of (ep_callK K__law_same (hr.mono (by decide)) (by rfl) (ap_cons (ep_callK K_telling_of (hr.mono (by decide)) (by rfl) (ap_cons (ep_var (pv 7)) ap_nil)) (ap_cons (ep_tup (ap_cons (ep_g (ep_var (pv 4))) (ap_cons (ep_g (ep_var (pv 5))) (ap_cons (ep_g (ep_var (pv 18))) (ap_cons (ep_g (ep_var (pv 19))) (ap_cons (ep_tuple (by rfl) B.tuple (ep_var (pv 20))) ap_nil)))))) ap_nil)))))))))))))))))))))))))
end
end T70

set_option Elab.async false
set_option linter.all false
set_option maxRecDepth 100000
set_option maxHeartbeats 4000000
namespace T70
open PySem PySem.Spec PyProof.Rows L2 PV
def isCnt (v : D) (a b : Int) : Bool := match v with
  | .int i => decide (a ≤ i) && decide (i ≤ b)
  | _ => false
theorem count_eq (v : D) (a b : Int) (h : pureD v = true) : F_is_count [v, .int a, .int b] = some (.bool (isCnt v a b)) := by
  cases v with
  | int i => simp [F_is_count, B_is_count, runP, rho0, isCnt]; by_cases h : a ≤ i <;> simp [h]
  | dict kvs => cases h
  | _ => simp [F_is_count, B_is_count, runP, rho0, isCnt]
def toldSums (v : D) (c m : Int) : Bool := match v with
  | .tuple ds => decide ((ds.length : Int) = c) && ds.all fun d => PV.isNon d || isCnt d 0 m
  | _ => false
theorem sums_eq (v : D) (c m : Int) (h : pureD v = true) (hs : ∀ ds, v = .tuple ds → ds.length ≤ 1000000) : F_are_told_sums [v, .int c, .int m] = some (.bool (toldSums v c m)) := by
  cases v with
  | tuple ds =>
    have hl := hs ds rfl
    have hp : ∀ d ∈ ds, pureD d = true := pureL_iff.mp (by simpa [pureD] using h)
    by_cases hc : (ds.length : Int) = c
    · have key : lcS (stepE (.nm 3) tAll (eor (o2 isD (getS 3) (cst .none)) (fnE F_is_count (aCons (getS 3) (aCons (cst (.int 0)) (aCons (getS 2) aNil))))) (wipR [some ⟨.tuple ds, .ro⟩, some ⟨.int c, .ro⟩, some ⟨.int m, .ro⟩, none] [3])) ds = some (ds.map fun d => .bool (PV.isNon d || isCnt d 0 m)) := by
        refine lcS_map fun d hd => ?_
        simp [wipR, count_eq d 0 m (hp d hd)]
        cases d <;> simp [PV.isNon]
      simp [F_are_told_sums, B_are_told_sums, runP, rho0, toldSums, hc, hl, key, allF_map]
    · have hb : ((ds.length : Int) == c) = false := by simpa using hc
      simp [F_are_told_sums, B_are_told_sums, runP, rho0, toldSums, hc, hb]
  | dict kvs => cases h
  | list ds => cases h
  | _ => simp [F_are_told_sums, B_are_told_sums, runP, rho0, toldSums]
def cellOk (v : D) (m n : Int) : Bool := match v with
  | .tuple [a, b, c] => isCnt a 0 (m - 1) && (isCnt b 0 (n - 1) && isCnt c 0 1)
  | _ => false
theorem cell_eq (v : D) (m n : Int) (h : pureD v = true) : F_is_told_cell [v, .int m, .int n] = some (.bool (cellOk v m n)) := by
  cases v with
  | tuple ds =>
    have hp : ∀ d ∈ ds, pureD d = true := pureL_iff.mp (by simpa [pureD] using h)
    match ds, hp with
    | [a, b, c], hp =>
      have e1 := count_eq a 0 (m - 1) (hp a (by simp))
      have e2 := count_eq b 0 (n - 1) (hp b (by simp))
      have e3 := count_eq c 0 1 (hp c (by simp))
      simp [F_is_told_cell, B_is_told_cell, runP, rho0, cellOk, e1, e2, e3]
      cases isCnt a 0 (m - 1) <;> cases isCnt b 0 (n - 1) <;> simp
    | [], hp => simp [F_is_told_cell, B_is_told_cell, runP, rho0, cellOk]
    | [a], hp => simp [F_is_told_cell, B_is_told_cell, runP, rho0, cellOk]
    | [a, b], hp => simp [F_is_told_cell, B_is_told_cell, runP, rho0, cellOk]
    | a :: b :: c :: d :: r, hp =>
      have : ((r.length : Int) + 1 + 1 + 1 + 1 == 3) = false := by simp; omega
      simp [F_is_told_cell, B_is_told_cell, runP, rho0, cellOk, this]
  | dict kvs => cases h
  | list ds => cases h
  | _ => simp [F_is_told_cell, B_is_told_cell, runP, rho0, cellOk]
/-! cells, told in order -/
abbrev Ce := Int × Int × Int
def ceD (c : Ce) : D := .tuple [.int c.1, .int c.2.1, .int c.2.2]
def ltC (a b : Ce) : Bool := HT.lexLt [a.1, a.2.1] [b.1, b.2.1]
def chn2 (cs : List Ce) : Bool := (List.range (cs.length - 1)).all fun k => ltC (cs.getD k (0, 0, 0)) (cs.getD (k + 1) (0, 0, 0))
theorem cells_bad (ds : List D) (m n : Int) (h : pureL ds = true) (hl : ds.length ≤ 1000000) (hb : ds.all (fun d => cellOk d m n) = false) : F_are_told_cells [.tuple ds, .int m, .int n] = some (.bool false) := by
  have hp : ∀ d ∈ ds, pureD d = true := pureL_iff.mp h
  have key : lcS (stepE (.nm 4) tAll (fnE F_is_told_cell (aCons (getS 4) (aCons (getS 1) (aCons (getS 2) aNil)))) (wipR [some ⟨.tuple ds, .ro⟩, some ⟨.int m, .ro⟩, some ⟨.int n, .ro⟩, none, none] [4])) ds = some (ds.map fun d => .bool (cellOk d m n)) := by
    refine lcS_map fun d hd => ?_
    simp [wipR, cell_eq d m n (hp d hd)]
  simp [F_are_told_cells, B_are_told_cells, runP, rho0, hl, key, allF_map, hb]
theorem cells_ok (cs : List Ce) (m n : Int) (hl : cs.length ≤ 1000000) (hb : ∀ c ∈ cs, cellOk (ceD c) m n = true) : F_are_told_cells [.tuple (cs.map ceD), .int m, .int n] = some (.bool (chn2 cs)) := by
  have hp : ∀ d ∈ cs.map ceD, pureD d = true := fun d hd => by obtain ⟨c, _, rfl⟩ := List.mem_map.mp hd; rfl
  have key : lcS (stepE (.nm 4) tAll (fnE F_is_told_cell (aCons (getS 4) (aCons (getS 1) (aCons (getS 2) aNil)))) (wipR [some ⟨.tuple (cs.map ceD), .ro⟩, some ⟨.int m, .ro⟩, some ⟨.int n, .ro⟩, none, none] [4])) (cs.map ceD) = some (cs.map fun c => .bool (cellOk (ceD c) m n)) := by
    refine lcS_mapM fun c hc => ?_
    simp [wipR, cell_eq (ceD c) m n (hp _ (List.mem_map.mpr ⟨c, hc, rfl⟩))]
  have ha : cs.all (fun c => cellOk (ceD c) m n) = true := List.all_eq_true.mpr hb
  have hlen : (cs.map ceD).length = cs.length := List.length_map _
  have r1 : rng1 [.int ((cs.length : Int) - 1)] = some (rangeD 0 (cs.length - 1)) := by
    simp only [rng1]
    rw [if_pos (by omega)]
    congr 2
    omega
  have key2 : lcS (stepE (.nm 3) tAll (o2 ltD (slE (o2 ixD (getS 0) (getS 3)) opn (ops (cst (.int 2)))) (slE (o2 ixD (getS 0) (o2 addD (getS 3) (cst (.int 1)))) opn (ops (cst (.int 2))))) (wipR [some ⟨.tuple (cs.map ceD), .ro⟩, some ⟨.int m, .ro⟩, some ⟨.int n, .ro⟩, none, none] [3])) (rangeD 0 (cs.length - 1)) = some ((List.range (cs.length - 1)).map fun k => .bool (ltC (cs.getD k (0, 0, 0)) (cs.getD (k + 1) (0, 0, 0)))) := by
    have : (rangeD 0 (cs.length - 1)) = (List.range (cs.length - 1)).map fun k => PyData.int (0 + (k : Nat)) := rfl
    rw [this]
    refine lcS_mapM fun k hk => ?_
    have hk' : k + 1 < cs.length := by have := List.mem_range.mp hk; omega
    have g1 : cs[k]? = some (cs.getD k (0, 0, 0)) := by rw [List.getD_eq_getElem?_getD, List.getElem?_eq_getElem (by omega)]; rfl
    have g2 : cs[k + 1]? = some (cs.getD (k + 1) (0, 0, 0)) := by rw [List.getD_eq_getElem?_getD, List.getElem?_eq_getElem hk']; rfl
    have x1 : ixD (.tuple (cs.map ceD)) (.int (k : Int)) = some (ceD (cs.getD k (0, 0, 0))) := ixT (by rw [List.getElem?_map, g1]; rfl)
    have x2 : ixD (.tuple (cs.map ceD)) (.int ((k : Int) + 1)) = some (ceD (cs.getD (k + 1) (0, 0, 0))) := ixT (k := k + 1) (by rw [List.getElem?_map, g2]; rfl)
    generalize cs.getD k (0, 0, 0) = c1 at *
    generalize cs.getD (k + 1) (0, 0, 0) = c2 at *
    simp [wipR, x1, x2, PV.cutS, ceD, pureL, pureD, PV.cutD, HT.sIx, ltC]
  simp [F_are_told_cells, B_are_told_cells, runP, rho0, hl, key, key2, allF_map, ha, r1, hlen, chn2, rangeD_len, show cs.length - 1 ≤ 1000000 from by omega]
end T70

set_option Elab.async false
set_option linter.all false
set_option maxRecDepth 100000
set_option maxHeartbeats 4000000
namespace T70
open PySem PySem.Spec PyProof.Rows L2 PV
theorem draw_ok {b : D} (hb : IsBox b) {n : Int} (h0 : 0 < n) (h1 : n < 2 ^ 64) : ∃ k b', F__law_draw [b, .int n] = some (.int k, b') ∧ IsBox b' ∧ 0 ≤ k ∧ k < n := drawB_ok hb h0 h1
def bit (d : D) : Prop := d = .int 0 ∨ d = .int 1
def row01 (n : Nat) (d : D) : Prop := ∃ ds, d = .tuple ds ∧ ds.length = n ∧ ∀ x ∈ ds, bit x
theorem pureL_of {ds : List D} (h : ∀ d ∈ ds, pureD d = true) : pureL ds = true := pureL_iff.mpr h
theorem bit_pure {d : D} (h : bit d) : pureD d = true := by rcases h with rfl | rfl <;> rfl
theorem row_pure {n : Nat} {d : D} (h : row01 n d) : pureD d = true := by
  obtain ⟨ds, rfl, _, hb⟩ := h
  rw [pureD_tup]; exact pureL_of fun x m => bit_pure (hb x m)
theorem rangeD_mem {n : Nat} {d : D} (h : d ∈ rangeD 0 n) : ∃ k : Nat, d = .int (k : Int) ∧ k < n := by
  unfold rangeD at h
  obtain ⟨k, hk, rfl⟩ := List.mem_map.mp h
  exact ⟨k, by simp, List.mem_range.mp hk⟩
noncomputable abbrev eBit : Rh → Option (D × Rh) := fnV intF (bCons (v2 ltD (callM 0 [.rd 0, .ev (lift (cst (.int 6)))] F__law_draw) (lift (gE (getS 4)))) bNil)
def tbR (b : D) (m n s : Int) (x : Option Cl) : Rh := [some ⟨b, .pin⟩, some ⟨.int 16, .ro⟩, some ⟨.int m, .own⟩, some ⟨.int n, .own⟩, some ⟨.int s, .own⟩, x, none]
theorem row_ok {b : D} (hb : IsBox b) (m n s : Int) (h0 : 1 ≤ n) (h1 : n ≤ 16) (x : D) : ∃ r b', vLc [] (.nm 6) [6] (lift (iR1 (aCons (getS 3) aNil))) (lift tAll) eBit (tbR b m n s (some ⟨x, .ro⟩)) = some (.list r, tbR b' m n s (some ⟨x, .ro⟩)) ∧ IsBox b' ∧ r.length = n.toNat ∧ ∀ y ∈ r, bit y := by
  obtain ⟨r, ρ', e, ⟨b', hb', rfl⟩, hl, ha⟩ := lcV_all (p := .nm 6) (e := eBit) (vs := [6]) (fun ρ => ∃ b', IsBox b' ∧ ρ = tbR b' m n s (some ⟨x, .ro⟩)) (fun d => True) (fun _ y => bit y) (fun d ρ _ hI => by
    obtain ⟨b1, hb1, rfl⟩ := hI
    obtain ⟨k, b2, e2, hb2, p2, q2⟩ := draw_ok hb1 (n := 6) (by decide) (by decide)
    refine ⟨[some ⟨b1, .pin⟩, some ⟨.int 16, .ro⟩, some ⟨.int m, .own⟩, some ⟨.int n, .own⟩, some ⟨.int s, .own⟩, some ⟨x, .ro⟩, some ⟨d, .ro⟩], .int (if k < s then 1 else 0), [some ⟨b2, .pin⟩, some ⟨.int 16, .ro⟩, some ⟨.int m, .own⟩, some ⟨.int n, .own⟩, some ⟨.int s, .own⟩, some ⟨x, .ro⟩, some ⟨d, .ro⟩], by simp [tbR], ?_, ?_, by simp [noPin], b2, hb2, by simp [wipR, tbR]⟩
    · simp [runAg, valAgs, valAg, e2, intF]
    · by_cases h : k < s <;> simp [h, bit]) (rangeD 0 n.toNat) (tbR b m n s (some ⟨x, .ro⟩)) (fun _ _ => trivial) ⟨b, hb, rfl⟩
  refine ⟨r, b', ?_, hb', by rw [hl, rangeD_len], fun y m => by obtain ⟨d, _, h⟩ := ha y m; exact h⟩
  have hr := rng1_int (k := n) (by omega) (by omega)
  have hw : wipR (tbR b m n s (some ⟨x, .ro⟩)) [6] = tbR b m n s (some ⟨x, .ro⟩) := by simp [wipR, tbR]
  have hp : noPin (tbR b m n s (some ⟨x, .ro⟩)) [6] = true := by simp [noPin, tbR]
  have hg : iR1 (aCons (getS 3) aNil) (tbR b m n s (some ⟨x, .ro⟩)) = some (rangeD 0 n.toNat) := by simp [tbR, hr]
  exact vLc_of (ds := rangeD 0 n.toNat) (by rw [lift_e]; simp only [hg, Option.map_some]) (by rw [rangeD_len]; omega) hp rfl (by rw [hw]; exact e)
theorem table_ok {b : D} (hb : IsBox b) : ∃ t b', F__law_table [b, .int 16] = some (t, b') ∧ (∃ (m n : Nat) (rows : List D), t = .tuple rows ∧ rows.length = m ∧ 1 ≤ m ∧ m ≤ 16 ∧ 1 ≤ n ∧ n ≤ 16 ∧ ∀ r ∈ rows, row01 n r) ∧ IsBox b' := by
  refine runN_of (np := 2) (n := 7) (m := 0) (B := B__law_table) (ds := [b, .int 16]) (Po := fun t b' => (∃ (m n : Nat) (rows : List D), t = .tuple rows ∧ rows.length = m ∧ 1 ≤ m ∧ m ≤ 16 ∧ 1 ≤ n ∧ n ≤ 16 ∧ ∀ r ∈ rows, row01 n r) ∧ IsBox b') rfl ?_
  have er : rhoM 7 0 [b, .int 16] = [some ⟨b, .pin⟩, some ⟨.int 16, .ro⟩, none, none, none, none, none] := rfl
  rw [er]
  unfold B__law_table
  obtain ⟨k1, b1, e1, hb1, p1, q1⟩ := draw_ok hb (n := 16) (by decide) (by decide)
  obtain ⟨k2, b2, e2, hb2, p2, q2⟩ := draw_ok hb1 (n := 16) (by decide) (by decide)
  obtain ⟨k3, b3, e3, hb3, p3, q3⟩ := draw_ok hb2 (n := 5) (by decide) (by decide)
  refine seqR1 (ρ' := [some ⟨b2, .pin⟩, some ⟨.int 16, .ro⟩, some ⟨.int (1 + k1), .own⟩, some ⟨.int (1 + k2), .own⟩, none, none, none]) (by simp [runAg, valAgs, valAg, e1, e2]) ?_
  refine seqR1 (ρ' := tbR b3 (1 + k1) (1 + k2) (1 + k3) none) (by simp [runAg, valAgs, valAg, e3, tbR]) ?_
  obtain ⟨r, ρ', e, ⟨b', hb', rfl⟩, hl, ha⟩ := lcV_all (p := .nm 5) (e := w1 tupD (vLc [] (.nm 6) [6] (lift (iR1 (aCons (getS 3) aNil))) (lift tAll) eBit)) (vs := [5]) (fun ρ => ∃ b', IsBox b' ∧ ρ = tbR b' (1 + k1) (1 + k2) (1 + k3) none) (fun d => True) (fun _ y => row01 (1 + k2).toNat y) (fun d ρ _ hI => by
    obtain ⟨b4, hb4, rfl⟩ := hI
    obtain ⟨rr, b5, e5, hb5, hl5, ha5⟩ := row_ok hb4 (1 + k1) (1 + k2) (1 + k3) (by omega) (by omega) d
    refine ⟨tbR b4 (1 + k1) (1 + k2) (1 + k3) (some ⟨d, .ro⟩), .tuple rr, tbR b5 (1 + k1) (1 + k2) (1 + k3) (some ⟨d, .ro⟩), by simp [tbR], ?_, ⟨rr, rfl, hl5, ha5⟩, by simp [noPin, tbR], b5, hb5, by simp [wipR, tbR]⟩
    refine w1_of e5 ?_
    simp only [tupD, pureL_of fun y m => bit_pure (ha5 y m), if_true]) (rangeD 0 (1 + k1).toNat) (tbR b3 (1 + k1) (1 + k2) (1 + k3) none) (fun _ _ => trivial) ⟨b3, hb3, rfl⟩
  have hrow : ∀ y ∈ r, row01 (1 + k2).toNat y := fun y m => by obtain ⟨d, _, h⟩ := ha y m; exact h
  have hr := rng1_int (k := 1 + k1) (by omega) (by omega)
  have hw : wipR (tbR b3 (1 + k1) (1 + k2) (1 + k3) none) [5] = tbR b3 (1 + k1) (1 + k2) (1 + k3) none := by simp [wipR, tbR]
  have hp : noPin (tbR b3 (1 + k1) (1 + k2) (1 + k3) none) [5] = true := by simp [noPin, tbR]
  have hg : iR1 (aCons (getS 2) aNil) (tbR b3 (1 + k1) (1 + k2) (1 + k3) none) = some (rangeD 0 (1 + k1).toNat) := by simp [tbR, hr]
  refine ⟨.tuple r, tbR b' (1 + k1) (1 + k2) (1 + k3) none, ?_, ⟨b', .pin⟩, rfl, ⟨(1 + k1).toNat, (1 + k2).toNat, r, rfl, by rw [hl, rangeD_len], by omega, by omega, by omega, by omega, hrow⟩, hb'⟩
  refine sRet_of (w1_of (vLc_of (ds := rangeD 0 (1 + k1).toNat) (by rw [lift_e]; simp only [hg, Option.map_some]) (by rw [rangeD_len]; omega) hp rfl (by rw [hw]; exact e)) ?_)
  simp only [tupD, pureL_of fun y m => row_pure (hrow y m), if_true]
def cntD (k : Int) (x : D) : Prop := ∃ i : Int, x = .int i ∧ 0 ≤ i ∧ i ≤ k
theorem cnt_pure {k : Int} {d : D} (h : cntD k d) : pureD d = true := by obtain ⟨i, rfl, _⟩ := h; rfl
theorem bits_sum : ∀ {ds : List D}, (∀ x ∈ ds, bit x) → ∃ ns, intsOf ds = some ns ∧ 0 ≤ ns.sum ∧ ns.sum ≤ ds.length
  | [], _ => ⟨[], rfl, by simp, by simp⟩
  | d :: ds, h => by
    obtain ⟨ns, e, a, b⟩ := bits_sum fun x m => h x (List.mem_cons_of_mem _ m)
    rcases h d List.mem_cons_self with rfl | rfl
    · refine ⟨0 :: ns, by simp [intsOf, e], by simp; omega, by simp; omega⟩
    · refine ⟨1 :: ns, by simp [intsOf, e], by simp; omega, by simp; omega⟩
theorem sum_bits {ds : List D} (h : ∀ x ∈ ds, bit x) : (∃ x, sumF [.tuple ds] = some x ∧ cntD ds.length x) ∧ ∃ x, sumF [.list ds] = some x ∧ cntD ds.length x := by
  obtain ⟨ns, e, a, b⟩ := bits_sum h
  exact ⟨⟨.int ns.sum, by simp [sumF, e], _, rfl, a, b⟩, .int ns.sum, by simp [sumF, e], _, rfl, a, b⟩
theorem sumsA {n : Nat} {rows : List D} (hr : ∀ r ∈ rows, row01 n r) : ∃ r, lcS (stepE (.nm 1) tAll (fnE sumF (aCons (getS 1) aNil)) [some ⟨.tuple rows, .ro⟩, none, none]) rows = some r ∧ r.length = rows.length ∧ ∀ x ∈ r, cntD n x := by
  refine lcS_pred fun d hd => ?_
  obtain ⟨ds, rfl, hl, hb⟩ := hr d hd
  obtain ⟨x, e, c⟩ := (sum_bits hb).1
  exact ⟨x, by simp [e], by rw [hl] at c; exact c⟩
theorem sumsC {n k : Nat} {rows : List D} (hk : k < n) (hr : ∀ r ∈ rows, row01 n r) : ∃ r, lcS (stepE (.nm 1) tAll (gE (o2 ixD (getS 1) (getS 2))) [some ⟨.tuple rows, .ro⟩, none, some ⟨.int (k : Int), .ro⟩]) rows = some r ∧ r.length = rows.length ∧ ∀ x ∈ r, bit x := by
  refine lcS_pred fun d hd => ?_
  obtain ⟨ds, rfl, hl, hb⟩ := hr d hd
  have hk' : k < ds.length := by omega
  have e1 : ixD (.tuple ds) (.int (k : Int)) = some ds[k] := ixT (List.getElem?_eq_getElem hk')
  have hbk := hb _ (List.getElem_mem hk')
  exact ⟨ds[k], by simp [e1, bit_pure hbk], hbk⟩
theorem small_le {n : Nat} (h : n ≤ 16) : n ≤ 1000000 := Nat.le_trans h (by decide)
abbrev eCol : Rh → Option D := eLc (.nm 1) [1] (iS (getS 0)) tAll (gE (o2 ixD (getS 1) (getS 2)))
theorem sumsB {n : Nat} {rows : List D} (h1 : rows.length ≤ 16) (hr : ∀ r ∈ rows, row01 n r) : ∃ r, lcS (stepE (.nm 2) tAll (fnE sumF (aCons eCol aNil)) [some ⟨.tuple rows, .ro⟩, none, none]) (rangeD 0 n) = some r ∧ r.length = (rangeD 0 n).length ∧ ∀ x ∈ r, cntD rows.length x := by
  refine lcS_pred fun d hd => ?_
  obtain ⟨k, rfl, hk⟩ := rangeD_mem hd
  obtain ⟨r, eC, lC, pC⟩ := sumsC hk hr
  obtain ⟨x, e, c⟩ := (sum_bits pC).2
  have e3 : eCol [some ⟨.tuple rows, .ro⟩, none, some ⟨.int (k : Int), .ro⟩] = some (.list r) := eLc_of (ds := rows) rfl (small_le h1) eC
  refine ⟨x, ?_, by rw [lC] at c; exact c⟩
  simp only [stepE_e, patS_nm, setS_s, setS_none, Option.map_some, tAll_e, fnE_e, aCons_e, aNil_e, e3, e]
theorem two_mil {a b : D} : [a, b].length ≤ 1000000 := by simp
abbrev sumR (rows : List D) : Rh := [some ⟨.tuple rows, .ro⟩, none, none]
theorem sums1 {rows rs : List D} (h1 : rows.length ≤ 16) (eA : lcS (stepE (.nm 1) tAll (fnE sumF (aCons (getS 1) aNil)) (sumR rows)) rows = some rs) : eLc (.nm 1) [1] (iS (getS 0)) tAll (fnE sumF (aCons (getS 1) aNil)) (sumR rows) = some (.list rs) := eLc_of (ds := rows) rfl (small_le h1) eA
theorem sums2 {n : Nat} {rows : List D} (h0 : 1 ≤ rows.length) (hr : ∀ r ∈ rows, row01 n r) : fnE lenF (aCons (o2 ixD (getS 0) (cst (.int 0))) aNil) (sumR rows) = some (.int (n : Int)) := by
  cases rows with
  | nil => simp at h0
  | cons r0 rows =>
    obtain ⟨ds, rfl, hl, _⟩ := hr r0 List.mem_cons_self
    simp [hl]
theorem sums3 {n : Nat} {rows : List D} (hn2 : n ≤ 16) (hlen : fnE lenF (aCons (o2 ixD (getS 0) (cst (.int 0))) aNil) (sumR rows) = some (.int (n : Int))) : iR1 (aCons (fnE lenF (aCons (o2 ixD (getS 0) (cst (.int 0))) aNil)) aNil) (sumR rows) = some (rangeD 0 n) := by
  have hrn := rng1_nat n (small_le hn2)
  simp only [iR1_e, aCons_e, aNil_e, hlen, Option.bind_some, hrn]
theorem sums4 {n : Nat} {rows cs : List D} (hn2 : n ≤ 16) (hg2 : iR1 (aCons (fnE lenF (aCons (o2 ixD (getS 0) (cst (.int 0))) aNil)) aNil) (sumR rows) = some (rangeD 0 n)) (eB : lcS (stepE (.nm 2) tAll (fnE sumF (aCons eCol aNil)) (sumR rows)) (rangeD 0 n) = some cs) : eLc (.nm 2) [2] (iR1 (aCons (fnE lenF (aCons (o2 ixD (getS 0) (cst (.int 0))) aNil)) aNil)) tAll (fnE sumF (aCons eCol aNil)) (sumR rows) = some (.list cs) :=
  eLc_of (ds := rangeD 0 n) hg2 (by rw [rangeD_len]; exact small_le hn2) eB
theorem sums5 {rows rs cs : List D} (e1 : eLc (.nm 1) [1] (iS (getS 0)) tAll (fnE sumF (aCons (getS 1) aNil)) (sumR rows) = some (.list rs)) (e2 : eLc (.nm 2) [2] (iR1 (aCons (fnE lenF (aCons (o2 ixD (getS 0) (cst (.int 0))) aNil)) aNil)) tAll (fnE sumF (aCons eCol aNil)) (sumR rows) = some (.list cs)) (t1 : tupD (.list rs) = some (.tuple rs)) (t2 : tupD (.list cs) = some (.tuple cs)) :
    B__law_sums (sumR rows) = .rt (.tuple [.tuple rs, .tuple cs]) (sumR rows) := by
  refine sRet_of ?_
  simp only [nkT_e, bCons_e, bNil_e, lift_e, u1_e, e1, e2, t1, t2, Option.bind_some, Option.map_some]
  rw [if_pos two_mil]
theorem lawsums_ok {n : Nat} {rows : List D} (h0 : 1 ≤ rows.length) (h1 : rows.length ≤ 16) (hn : 1 ≤ n) (hn2 : n ≤ 16) (hr : ∀ r ∈ rows, row01 n r) : ∃ rs cs, F__law_sums [.tuple rows] = some (.tuple [.tuple rs, .tuple cs]) ∧ rs.length = rows.length ∧ cs.length = n ∧ (∀ x ∈ rs, cntD n x) ∧ ∀ x ∈ cs, cntD rows.length x := by
  obtain ⟨rs, eA, lA, pA⟩ := sumsA hr
  obtain ⟨cs, eB, lB, pB⟩ := sumsB h1 hr
  have t1 : tupD (.list rs) = some (.tuple rs) := by simp only [tupD, pureL_of fun y m => cnt_pure (pA y m), if_true]
  have t2 : tupD (.list cs) = some (.tuple cs) := by simp only [tupD, pureL_of fun y m => cnt_pure (pB y m), if_true]
  exact ⟨rs, cs, runF_rt (ρ0 := sumR rows) rfl rfl (sums5 (sums1 h1 eA) (sums4 hn2 (sums3 hn2 (sums2 h0 hr)) eB) t1 t2), lA, by rw [lB, rangeD_len], pA, pB⟩
end T70

set_option Elab.async false
set_option linter.all false
set_option maxRecDepth 100000
set_option maxHeartbeats 4000000
namespace T70
open PySem PySem.Spec PyProof.Rows L2 PV
def toldP (k : Int) (x : D) : Prop := x = .none ∨ cntD k x
theorem told_pure {k : Int} {d : D} (h : toldP k d) : pureD d = true := by rcases h with rfl | h; rfl; exact cnt_pure h
noncomputable abbrev eOpt : Rh → Option (D × Rh) := vif (wB (v2 gtI (callM 0 [.rd 0, .ev (lift (cst (.int 3)))] F__law_draw) (lift (cst (.int 0))))) (lift (gE (getS 12))) (lift (cst .none))
theorem opt_ok {b : D} (hb : IsBox b) (a1 a2 a3 a4 a5 a6 a7 a8 a9 a10 a11 : Option Cl) {k : Int} {ds : List D} (hd : ∀ x ∈ ds, cntD k x) :
    ∃ r b', lcV (.nm 12) (lift tAll) eOpt [12] ds [some ⟨b, .pin⟩, a1, a2, a3, a4, a5, a6, a7, a8, a9, a10, a11, none, none] = some (r, [some ⟨b', .pin⟩, a1, a2, a3, a4, a5, a6, a7, a8, a9, a10, a11, none, none]) ∧ IsBox b' ∧ r.length = ds.length ∧ ∀ x ∈ r, toldP k x := by
  obtain ⟨r, ρ', e, ⟨b', hb', rfl⟩, hl, ha⟩ := lcV_all (p := .nm 12) (e := eOpt) (vs := [12]) (fun ρ => ∃ b', IsBox b' ∧ ρ = [some ⟨b', .pin⟩, a1, a2, a3, a4, a5, a6, a7, a8, a9, a10, a11, none, none]) (cntD k) (fun _ y => toldP k y) (fun d ρ hd hI => by
    obtain ⟨b1, hb1, rfl⟩ := hI
    obtain ⟨j, b2, e2, hb2, p2, q2⟩ := draw_ok hb1 (n := 3) (by decide) (by decide)
    refine ⟨[some ⟨b1, .pin⟩, a1, a2, a3, a4, a5, a6, a7, a8, a9, a10, a11, some ⟨d, .ro⟩, none], if 0 < j then d else .none, [some ⟨b2, .pin⟩, a1, a2, a3, a4, a5, a6, a7, a8, a9, a10, a11, some ⟨d, .ro⟩, none], by simp, ?_, ?_, by simp [noPin], b2, hb2, by simp [wipR]⟩
    · by_cases hj : 0 < j <;> simp [runAg, valAgs, valAg, e2, hj, cnt_pure hd]
    · by_cases hj : 0 < j
      · rw [if_pos hj]; exact .inr hd
      · rw [if_neg hj]; exact .inl rfl) ds [some ⟨b, .pin⟩, a1, a2, a3, a4, a5, a6, a7, a8, a9, a10, a11, none, none] hd ⟨b, hb, rfl⟩
  exact ⟨r, b', e, hb', hl, fun y m => by obtain ⟨d, _, h⟩ := ha y m; exact h⟩
/-! cells in order -/
def ltK (a b : Ce) : Prop := a.1 < b.1 ∨ (a.1 = b.1 ∧ a.2.1 < b.2.1)
theorem ltC_iff {a b : Ce} : ltC a b = true ↔ ltK a b := by
  unfold ltC ltK
  rw [HT.lexLt_cons, HT.lexLt_cons, HT.lexLt_nil_nil]
  by_cases h : a.1 = b.1
  · simp [h]
    by_cases h2 : a.2.1 = b.2.1 <;> simp [h2]
  · simp [h]
theorem chn2_of {cs : List Ce} (h : cs.Pairwise ltK) : chn2 cs = true := by
  unfold chn2
  rw [List.all_eq_true]
  intro k hk
  have hk' : k + 1 < cs.length := by have := List.mem_range.mp hk; omega
  rw [ltC_iff]
  have e1 : cs.getD k (0, 0, 0) = cs[k] := by rw [List.getD_eq_getElem?_getD, List.getElem?_eq_getElem (by omega)]; rfl
  have e2 : cs.getD (k + 1) (0, 0, 0) = cs[k + 1] := by rw [List.getD_eq_getElem?_getD, List.getElem?_eq_getElem hk']; rfl
  rw [e1, e2]
  exact List.pairwise_iff_getElem.mp h k (k + 1) (by omega) hk' (by omega)
def okC (m n : Nat) (c : Ce) : Prop := (0 ≤ c.1 ∧ c.1 < m) ∧ (0 ≤ c.2.1 ∧ c.2.1 < n) ∧ (c.2.2 = 0 ∨ c.2.2 = 1)
theorem okC_cell {m n : Nat} {c : Ce} (h : okC m n c) : cellOk (ceD c) m n = true := by
  obtain ⟨⟨a, b⟩, ⟨c1, d⟩, e⟩ := h
  unfold cellOk ceD isCnt
  simp only [Bool.and_eq_true, decide_eq_true_eq]
  rcases e with e | e <;> (rw [e]; omega)
/-- the cells of one row that are told -/
theorem cells_row {m n i : Nat} (hi : i < m) {v : Nat → Int} (hv : ∀ k, k < n → v k = 0 ∨ v k = 1) : ∀ {ks : List Nat} {r : List D}, (∀ k ∈ ks, k < n) → ks.Pairwise (· < ·) → LcR (fun d x => ∃ k : Nat, d = .int (0 + (k : Int)) ∧ x = ceD ((i : Int), (k : Int), v k)) (ks.map fun (k : Nat) => PyData.int (0 + (k : Int))) r →
    ∃ cs : List Ce, r = cs.map ceD ∧ cs.length ≤ ks.length ∧ cs.Pairwise ltK ∧ ∀ c ∈ cs, okC m n c ∧ c.1 = i ∧ ∃ k ∈ ks, c.2.1 = (k : Int)
  | [], r, _, _, h => by
    cases h
    exact ⟨[], rfl, Nat.le_refl _, .nil, fun c hm => nomatch hm⟩
  | k :: ks, r, hk, hp, h => by
    have hp' := List.pairwise_cons.mp hp
    rw [List.map_cons] at h
    cases h with
    | skip h =>
      obtain ⟨cs, e, hl, p, q⟩ := cells_row hi hv (fun k hm => hk k (List.mem_cons_of_mem _ hm)) hp'.2 h
      exact ⟨cs, e, by simp; omega, p, fun c hm => let ⟨a, b, k', m', e'⟩ := q c hm; ⟨a, b, k', List.mem_cons_of_mem _ m', e'⟩⟩
    | take hx h =>
      obtain ⟨k2, ek, rfl⟩ := hx
      have : k2 = k := by
        have := PyData.int.inj ek
        omega
      subst this
      obtain ⟨cs, rfl, hl, p, q⟩ := cells_row hi hv (fun k hm => hk k (List.mem_cons_of_mem _ hm)) hp'.2 h
      have hkn := hk k2 List.mem_cons_self
      refine ⟨((i : Int), (k2 : Int), v k2) :: cs, rfl, by simp; omega, List.pairwise_cons.mpr ⟨fun c hm => ?_, p⟩, fun c hm => ?_⟩
      · obtain ⟨a, b, k', m', e'⟩ := q c hm
        have := hp'.1 k' m'
        right
        exact ⟨b.symm, by show (k2 : Int) < c.2.1; rw [e']; omega⟩
      · rcases List.mem_cons.mp hm with hm | hm
        · subst hm
          exact ⟨⟨⟨by show (0 : Int) ≤ i; omega, by show (i : Int) < m; omega⟩, ⟨by show (0 : Int) ≤ k2; omega, by show (k2 : Int) < n; omega⟩, hv k2 hkn⟩, rfl, k2, List.mem_cons_self, rfl⟩
        · obtain ⟨a, b, k', m', e'⟩ := q c hm
          exact ⟨a, b, k', List.mem_cons_of_mem _ m', e'⟩
end T70

set_option Elab.async false
set_option linter.all false
set_option maxRecDepth 100000
set_option maxHeartbeats 4000000
namespace T70
open PySem PySem.Spec PyProof.Rows L2 PV
def teR (b T : D) (m n : Nat) (R C S : Option Cl) (x8 x9 x10 x11 : Option Cl) : Rh := [some ⟨b, .pin⟩, some ⟨.int 16, .ro⟩, some ⟨T, .own⟩, some ⟨.int m, .own⟩, some ⟨.int n, .own⟩, R, C, S, x8, x9, x10, x11, none, none]
noncomputable abbrev tPick : Rh → Option (Bool × Rh) := wB (v2 eqD (callM 0 [.rd 0, .ev (lift (cst (.int 5)))] F__law_draw) (lift (cst (.int 0))))
abbrev eCell : Rh → Option (D × Rh) := lift (mkT (aCons (gE (getS 8)) (aCons (gE (getS 13)) (aCons (gE (o2 ixD (o2 ixD (getS 2) (getS 8)) (getS 13))) aNil))))
def okCells (m n i : Nat) (cs : List Ce) : Prop := (∀ c ∈ cs, okC m n c ∧ c.1 < i) ∧ cs.Pairwise ltK
theorem pureL_ce (cs : List Ce) : pureL (cs.map ceD) = true := pureL_of fun d hd => by obtain ⟨c, _, rfl⟩ := List.mem_map.mp hd; rfl
/-- one row's cells -/
theorem rowcells_ok {b : D} (hb : IsBox b) {m n i : Nat} {rows : List D} (hi : i < m) (hn : n ≤ 16) (hr0 : rows.length = m) (hr : ∀ r ∈ rows, row01 n r) (R C S : Option Cl) :
    ∃ (cs : List Ce) (b' : D), vLc [] (.nm 13) [13] (lift (iR1 (aCons (getS 4) aNil))) tPick eCell (teR b (.tuple rows) m n R C S (some ⟨.int i, .ro⟩) none none none) = some (.list (cs.map ceD), teR b' (.tuple rows) m n R C S (some ⟨.int i, .ro⟩) none none none) ∧ IsBox b' ∧ cs.length ≤ n ∧ cs.Pairwise ltK ∧ ∀ c ∈ cs, okC m n c ∧ c.1 = i := by
  have hrow : ∃ ds, rows[i]? = some (.tuple ds) ∧ ds.length = n ∧ ∀ x ∈ ds, bit x := by
    have hlt : i < rows.length := by omega
    obtain ⟨ds, e, hl, hbt⟩ := hr _ (List.getElem_mem hlt)
    exact ⟨ds, by rw [List.getElem?_eq_getElem hlt, e], hl, hbt⟩
  obtain ⟨ds, hds, hl, hbt⟩ := hrow
  have hv : ∃ v : Nat → Int, (∀ k, k < n → v k = 0 ∨ v k = 1) ∧ ∀ k, k < n → ds[k]? = some (.int (v k)) := by
    refine ⟨fun k => match ds[k]? with | some (.int z) => z | _ => 0, fun k hk => ?_, fun k hk => ?_⟩
    · have hk' : k < ds.length := by omega
      rcases hbt _ (List.getElem_mem hk') with h | h <;> simp [List.getElem?_eq_getElem hk', h]
    · have hk' : k < ds.length := by omega
      rcases hbt _ (List.getElem_mem hk') with h | h <;> simp [List.getElem?_eq_getElem hk', h]
  obtain ⟨v, hv1, hv2⟩ := hv
  obtain ⟨r, ρ', e, ⟨b', hb', rfl⟩, hL⟩ := lcV_inv (p := .nm 13) (t := tPick) (e := eCell) (vs := [13]) (fun ρ => ∃ b', IsBox b' ∧ ρ = teR b' (.tuple rows) m n R C S (some ⟨.int i, .ro⟩) none none none) (fun d => ∃ k : Nat, k < n ∧ d = .int (0 + (k : Int))) (fun d x => ∃ k : Nat, d = .int (0 + (k : Int)) ∧ x = ceD ((i : Int), (k : Int), v k)) (fun d ρ hd hI => by
    obtain ⟨b1, hb1, rfl⟩ := hI
    obtain ⟨k, hk, rfl⟩ := hd
    obtain ⟨j, b2, e2, hb2, p2, q2⟩ := draw_ok hb1 (n := 5) (by decide) (by decide)
    have x1 : ixD (.tuple rows) (.int (i : Int)) = some (.tuple ds) := ixT hds
    have x2 : ixD (.tuple ds) (.int (k : Int)) = some (.int (v k)) := ixT (hv2 k hk)
    refine ⟨[some ⟨b1, .pin⟩, some ⟨.int 16, .ro⟩, some ⟨.tuple rows, .own⟩, some ⟨.int m, .own⟩, some ⟨.int n, .own⟩, R, C, S, some ⟨.int i, .ro⟩, none, none, none, none, some ⟨.int (0 + (k : Int)), .ro⟩], (j == 0), [some ⟨b2, .pin⟩, some ⟨.int 16, .ro⟩, some ⟨.tuple rows, .own⟩, some ⟨.int m, .own⟩, some ⟨.int n, .own⟩, R, C, S, some ⟨.int i, .ro⟩, none, none, none, none, some ⟨.int (0 + (k : Int)), .ro⟩], by simp [teR], ?_, ?_⟩
    · simp [runAg, valAgs, valAg, e2]
    · by_cases hj : (j == 0) = true
      · right
        refine ⟨hj, ceD ((i : Int), (k : Int), v k), [some ⟨b2, .pin⟩, some ⟨.int 16, .ro⟩, some ⟨.tuple rows, .own⟩, some ⟨.int m, .own⟩, some ⟨.int n, .own⟩, R, C, S, some ⟨.int i, .ro⟩, none, none, none, none, some ⟨.int (0 + (k : Int)), .ro⟩], ?_, ⟨k, rfl, rfl⟩, ?_, b2, hb2, ?_⟩
        · simp [x1, x2, ceD]
        · simp [noPin]
        · simp [wipR, teR]
      · left
        refine ⟨by simpa using hj, by simp [noPin], b2, hb2, by simp [wipR, teR]⟩) (rangeD 0 n) (teR b (.tuple rows) m n R C S (some ⟨.int i, .ro⟩) none none none) (fun d hd => by
      unfold rangeD at hd
      obtain ⟨k, hk, rfl⟩ := List.mem_map.mp hd
      exact ⟨k, List.mem_range.mp hk, rfl⟩) ⟨b, hb, rfl⟩
  obtain ⟨cs, rfl, hlen, hp, hq⟩ := cells_row hi hv1 (ks := List.range n) (fun k hk => List.mem_range.mp hk) (by rw [List.pairwise_iff_getElem]; intro a c ha hc hac; simpa using hac) hL
  refine ⟨cs, b', ?_, hb', by simpa using hlen, hp, fun c hc => ⟨(hq c hc).1, (hq c hc).2.1⟩⟩
  have hrn := rng1_nat n (small_le hn)
  refine vLc_of (ds := rangeD 0 n) (ρ1 := teR b (.tuple rows) m n R C S (some ⟨.int i, .ro⟩) none none none) ?_ (by rw [rangeD_len]; exact small_le hn) (by simp [noPin, teR]) rfl ?_
  · simp [teR, hrn]
  · have hw : wipR (teR b (.tuple rows) m n R C S (some ⟨.int i, .ro⟩) none none none) [13] = teR b (.tuple rows) m n R C S (some ⟨.int i, .ro⟩) none none none := by simp [wipR, teR]
    rw [hw]; exact e
theorem cells_loop {b : D} (hb : IsBox b) {m n : Nat} {rows : List D} (hm : m ≤ 16) (hn : n ≤ 16) (hr0 : rows.length = m) (hr : ∀ r ∈ rows, row01 n r) (R C : Option Cl) :
    Nxs (sFor [] (.nm 8) (lift (iR1 (aCons (getS 3) aNil))) (sDrop (extendV 7 (vLc [] (.nm 13) [13] (lift (iR1 (aCons (getS 4) aNil))) tPick eCell))) (teR b (.tuple rows) m n R C (some ⟨.list [], .own⟩) none none none none))
      fun ρ => ∃ (b' : D) (cs : List Ce) (x8 : Option Cl), ρ = teR b' (.tuple rows) m n R C (some ⟨.list (cs.map ceD), .own⟩) x8 none none none ∧ IsBox b' ∧ NP x8 ∧ (∀ c ∈ cs, okC m n c) ∧ cs.Pairwise ltK ∧ cs.length ≤ m * 16 := by
  have hrn := rng1_nat m (small_le hm)
  refine sFor_of (ds := rangeD 0 m) (ρ1 := teR b (.tuple rows) m n R C (some ⟨.list [], .own⟩) none none none none) (by simp [teR, hrn]) rfl ?_
  obtain ⟨ρ, e, b', cs, x8, rfl, hb', hx, h1, h2, h3⟩ := forS_rng (p := .nm 8) (b := sDrop (extendV 7 (vLc [] (.nm 13) [13] (lift (iR1 (aCons (getS 4) aNil))) tPick eCell))) (fun i ρ => ∃ (b' : D) (cs : List Ce) (x8 : Option Cl), ρ = teR b' (.tuple rows) m n R C (some ⟨.list (cs.map ceD), .own⟩) x8 none none none ∧ IsBox b' ∧ NP x8 ∧ (∀ c ∈ cs, okC m n c ∧ c.1 < i) ∧ cs.Pairwise ltK ∧ cs.length ≤ i * 16) m
    (teR b (.tuple rows) m n R C (some ⟨.list [], .own⟩) none none none none) ⟨b, [], none, rfl, hb, NP.none, fun c hc => (nomatch hc), .nil, by simp⟩ (fun i ρ hi hI => by
      obtain ⟨b1, cs, x8, rfl, hb1, hx, h1, h2, h3⟩ := hI
      obtain ⟨cs2, b2, e2, hb2, hl2, hp2, hq2⟩ := rowcells_ok hb1 hi hn hr0 hr R C (some ⟨.list (cs.map ceD), .own⟩)
      refine ⟨teR b1 (.tuple rows) m n R C (some ⟨.list (cs.map ceD), .own⟩) (some ⟨.int i, .ro⟩) none none none, by simp [teR, setS_np hx], teR b2 (.tuple rows) m n R C (some ⟨.list ((cs ++ cs2).map ceD), .own⟩) (some ⟨.int i, .ro⟩) none none none, ?_, b2, cs ++ cs2, some ⟨.int i, .ro⟩, rfl, hb2, NP.ro, ?_, ?_, ?_⟩
      · have hle : (cs.map ceD).length + (cs2.map ceD).length < 1000000 := by
          rw [List.length_map, List.length_map]
          have : i * 16 ≤ 16 * 16 := Nat.mul_le_mul_right _ (by omega)
          omega
        have e3 : extendV 7 (vLc [] (.nm 13) [13] (lift (iR1 (aCons (getS 4) aNil))) tPick eCell) (teR b1 (.tuple rows) m n R C (some ⟨.list (cs.map ceD), .own⟩) (some ⟨.int i, .ro⟩) none none none) = some (.none, teR b2 (.tuple rows) m n R C (some ⟨.list ((cs ++ cs2).map ceD), .own⟩) (some ⟨.int i, .ro⟩) none none none) := by
          unfold extendV
          have hl : lstAt 7 (teR b1 (.tuple rows) m n R C (some ⟨.list (cs.map ceD), .own⟩) (some ⟨.int i, .ro⟩) none none none) = true := by simp [lstAt, teR]
          have hw : wr 7 (teR b2 (.tuple rows) m n R C (some ⟨.list (cs.map ceD), .own⟩) (some ⟨.int i, .ro⟩) none none none) = some (.list (cs.map ceD), .own) := by simp [teR]
          simp only [hl, e2, hw]
          rw [if_pos hle]
          simp [teR]
        rw [sDrop_e]
        simp only [e3]
      · intro c hc
        rcases List.mem_append.mp hc with hc | hc
        · exact ⟨(h1 c hc).1, by have := (h1 c hc).2; push_cast; omega⟩
        · exact ⟨(hq2 c hc).1, by have := (hq2 c hc).2; push_cast; omega⟩
      · refine List.pairwise_append.mpr ⟨h2, hp2, fun a ha c hc => .inl ?_⟩
        have q1 := (h1 a ha).2
        have q2 := (hq2 c hc).2
        omega
      · rw [List.length_append, Nat.succ_mul]; omega)
  exact ⟨_, e, b', cs, x8, rfl, hb', hx, fun c hc => (h1 c hc).1, h2, h3⟩
end T70

set_option Elab.async false
set_option linter.all false
set_option maxRecDepth 100000
set_option maxHeartbeats 4000000
namespace T70
open PySem PySem.Spec PyProof.Rows L2 PV
theorem toldP_cnt {k i : Int} (h0 : 0 ≤ i) (h1 : i ≤ k) : toldP k (.int i) := .inr ⟨i, rfl, h0, h1⟩
def ValidT (m n : Nat) (rows cols : List D) (cs : List Ce) : Prop := rows.length = m ∧ cols.length = n ∧ (∀ x ∈ rows, toldP n x) ∧ (∀ x ∈ cols, toldP m x) ∧ (∀ c ∈ cs, okC m n c) ∧ cs.Pairwise ltK ∧ cs.length ≤ 256
theorem mem_set {α : Type} {l : List α} {k : Nat} {a x : α} (h : x ∈ l.set k a) : x ∈ l ∨ x = a := List.mem_or_eq_of_mem_set h
theorem ceS (c : Ce) : Sh 1 (ceD c) := Sh.tup fun x hx => by
  simp only [List.mem_cons, List.not_mem_nil, or_false] at hx
  rcases hx with rfl | rfl | rfl <;> exact Sh.int
abbrev nList (l : List D) : Option Cl := some ⟨.list l, .own⟩
def TeI (T : D) (m n : Nat) (ρ : Rh) : Prop := ∃ (b' : D) (rows cols : List D) (cs : List Ce) (x8 x9 x10 x11 : Option Cl), ρ = teR b' T m n (nList rows) (nList cols) (nList (cs.map ceD)) x8 x9 x10 x11 ∧ IsBox b' ∧ NP x9 ∧ NP x10 ∧ NP x11 ∧ ValidT m n rows cols cs
/-- a cell is turned -/
theorem turn_cell {m n : Nat} {rows cols : List D} {cs : List Ce} (V : ValidT m n rows cols cs) {k : Nat} (hk : k < cs.length) : ValidT m n rows cols (cs.set k (cs[k].1, cs[k].2.1, 1 - cs[k].2.2)) := by
  obtain ⟨h1, h2, h3, h4, h5, h6, h7⟩ := V
  refine ⟨h1, h2, h3, h4, fun c hc => ?_, ?_, by rw [List.length_set]; exact h7⟩
  · rcases mem_set hc with hc | rfl
    · exact h5 c hc
    · obtain ⟨a, b, d⟩ := h5 cs[k] (List.getElem_mem hk)
      exact ⟨a, b, by rcases d with d | d <;> (rw [d]; simp)⟩
  · rw [List.pairwise_iff_getElem] at h6 ⊢
    intro i j hi hj hij
    rw [List.length_set] at hi hj
    have := h6 i j hi hj hij
    have key : ∀ l (hl : l < cs.length) (hl' : l < (cs.set k (cs[k].1, cs[k].2.1, 1 - cs[k].2.2)).length), ((cs.set k (cs[k].1, cs[k].2.1, 1 - cs[k].2.2))[l]).1 = (cs[l]).1 ∧ ((cs.set k (cs[k].1, cs[k].2.1, 1 - cs[k].2.2))[l]).2.1 = (cs[l]).2.1 := fun l hl hl' => by
      rw [List.getElem_set]
      by_cases e : k = l
      · subst e; rw [if_pos rfl]; exact ⟨rfl, rfl⟩
      · rw [if_neg e]; exact ⟨rfl, rfl⟩
    unfold ltK at this ⊢
    rw [(key i hi (by rw [List.length_set]; exact hi)).1, (key j hj (by rw [List.length_set]; exact hj)).1, (key i hi (by rw [List.length_set]; exact hi)).2, (key j hj (by rw [List.length_set]; exact hj)).2]
    exact this
noncomputable abbrev bTurn : Rh → Out := sSeq (sSet (.nm 10) (callM 0 [.rd 0, .ev (lift (cst (.int 3)))] F__law_draw))
    (sIf (lift (qB (o2 eqD (getS 10) (cst (.int 0))))) (sSetIx 5 (callM 0 [.rd 0, .ev (lift (gE (getS 3)))] F__law_draw) (callM 0 [.rd 0, .ev (lift (o2 addD (getS 4) (cst (.int 1))))] F__law_draw)) (sIf (lift (qB (o2 eqD (getS 10) (cst (.int 1))))) (sSetIx 6 (callM 0 [.rd 0, .ev (lift (gE (getS 4)))] F__law_draw) (callM 0 [.rd 0, .ev (lift (o2 addD (getS 3) (cst (.int 1))))] F__law_draw)) (sIf (lift (qB (o2 neD (getS 7) (mkL aNil)))) (sSeq (sSet (.nm 11) (callM 0 [.rd 0, .ev (lift (fnE lenF (aCons (getS 7) aNil)))] F__law_draw))
    (sSet (.ix 7 (gE (getS 11))) (lift (o2 addD (slE (o2 ixD (getS 7) (getS 11)) opn (ops (cst (.int 2)))) (mkT (aCons (o2 subD (cst (.int 1)) (o2 ixD (o2 ixD (getS 7) (getS 11)) (cst (.int 2)))) aNil)))))) (sNil))))
theorem turn_ok {T : D} {m n : Nat} (hm : 1 ≤ m) (hm2 : m ≤ 16) (hn : 1 ≤ n) (hn2 : n ≤ 16) (k : Nat) (ρ : Rh) (hI : TeI T m n ρ) : ∃ ρ1, patS .ro (.nm 9) (.int (k : Int)) ρ = some ρ1 ∧ Nxs (bTurn ρ1) (TeI T m n) := by
  obtain ⟨b, rows, cols, cs, x8, x9, x10, x11, rfl, hb, n9, n10, n11, V⟩ := hI
  have V' := V
  obtain ⟨v1, v2, v3, v4, v5, v6, v7⟩ := V'
  refine ⟨teR b T m n (nList rows) (nList cols) (nList (cs.map ceD)) x8 (some ⟨.int k, .ro⟩) x10 x11, by simp [teR, setS_np n9], ?_⟩
  obtain ⟨p, b1, e1, hb1, p1, q1⟩ := draw_ok hb (n := 3) (by decide) (by decide)
  refine seqN1 (ρ' := teR b1 T m n (nList rows) (nList cols) (nList (cs.map ceD)) x8 (some ⟨.int k, .ro⟩) (some ⟨.int p, .own⟩) x11) (by simp [teR, runAg, valAgs, valAg, e1, setS_np n10]) ?_
  by_cases hp0 : p = 0
  · subst hp0
    obtain ⟨x, b2, e2, hb2, p2, q2⟩ := draw_ok hb1 (n := (n : Int) + 1) (by omega) (by omega)
    obtain ⟨y, b3, e3, hb3, p3, q3⟩ := draw_ok hb2 (n := (m : Int)) (by omega) (by omega)
    obtain ⟨yn, rfl⟩ := Int.eq_ofNat_of_zero_le p3
    have hy : yn < rows.length := by omega
    refine ⟨teR b3 T m n (nList (rows.set yn (.int x))) (nList cols) (nList (cs.map ceD)) x8 (some ⟨.int k, .ro⟩) (some ⟨.int 0, .own⟩) x11, ?_, b3, rows.set yn (.int x), cols, cs, x8, _, _, x11, rfl, hb3, NP.ro, NP.own, n11, ⟨by rw [List.length_set]; exact v1, v2, fun z hz => ?_, v4, v5, v6, v7⟩⟩
    · have e4 := ixSet_nat (.int x) hy
      simp [teR, runAg, valAgs, valAg, e2, e3, e4]
    · rcases mem_set hz with hz | rfl
      · exact v3 z hz
      · exact toldP_cnt p2 (by omega)
  · by_cases hp1 : p = 1
    · subst hp1
      obtain ⟨x, b2, e2, hb2, p2, q2⟩ := draw_ok hb1 (n := (m : Int) + 1) (by omega) (by omega)
      obtain ⟨y, b3, e3, hb3, p3, q3⟩ := draw_ok hb2 (n := (n : Int)) (by omega) (by omega)
      obtain ⟨yn, rfl⟩ := Int.eq_ofNat_of_zero_le p3
      have hy : yn < cols.length := by omega
      refine ⟨teR b3 T m n (nList rows) (nList (cols.set yn (.int x))) (nList (cs.map ceD)) x8 (some ⟨.int k, .ro⟩) (some ⟨.int 1, .own⟩) x11, ?_, b3, rows, cols.set yn (.int x), cs, x8, _, _, x11, rfl, hb3, NP.ro, NP.own, n11, ⟨v1, by rw [List.length_set]; exact v2, v3, fun z hz => ?_, v5, v6, v7⟩⟩
      · have e4 := ixSet_nat (.int x) hy
        simp [teR, runAg, valAgs, valAg, e2, e3, e4]
      · rcases mem_set hz with hz | rfl
        · exact v4 z hz
        · exact toldP_cnt p2 (by omega)
    · have hb0 : (p == 0) = false := by simpa using hp0
      have hb1' : (p == 1) = false := by simpa using hp1
      have hne : neD (.list (cs.map ceD)) (.list []) = some (.bool (!(cs.map ceD).isEmpty)) := by
        rw [neD_of (k := 2) (l := 1) (Sh.list fun x hx => by obtain ⟨c, _, rfl⟩ := List.mem_map.mp hx; exact ceS c) (by decide) (Sh.list (k := 0) fun x hx => by simp at hx) (by decide), eqv_nil_l]
      cases cs with
      | nil =>
        refine ⟨teR b1 T m n (nList rows) (nList cols) (nList (([] : List Ce).map ceD)) x8 (some ⟨.int k, .ro⟩) (some ⟨.int p, .own⟩) x11, ?_, b1, rows, cols, [], x8, _, _, x11, rfl, hb1, NP.ro, NP.own, n11, V⟩
        rw [List.map_nil] at hne
        simp [teR, hb0, hb1', hne]
      | cons c0 cs0 =>
        obtain ⟨y, b3, e3, hb3, p3, q3⟩ := draw_ok hb1 (n := ((c0 :: cs0).length : Int)) (by simp <;> omega) (by omega)
        obtain ⟨yn, rfl⟩ := Int.eq_ofNat_of_zero_le p3
        have hy : yn < (c0 :: cs0).length := by omega
        generalize c0 :: cs0 = cs at *
        have hy' : yn < (cs.map ceD).length := by rw [List.length_map]; exact hy
        refine ⟨teR b3 T m n (nList rows) (nList cols) (nList ((cs.set yn (cs[yn].1, cs[yn].2.1, 1 - cs[yn].2.2)).map ceD)) x8 (some ⟨.int k, .ro⟩) (some ⟨.int p, .own⟩) (some ⟨.int yn, .own⟩), ?_, b3, rows, cols, _, x8, _, _, _, rfl, hb3, NP.ro, NP.own, NP.own, turn_cell V hy⟩
        have hem : (cs.map ceD).isEmpty = false := by
          cases h : cs.map ceD with
          | nil => rw [h] at hy'; simp at hy'
          | cons a l => rfl
        rw [hem] at hne
        have x1 : ixD (.list (cs.map ceD)) (.int (yn : Int)) = some (ceD cs[yn]) := ixL (by rw [List.getElem?_map, List.getElem?_eq_getElem hy]; rfl)
        have x2 : PV.cutS (ceD cs[yn]) none (some 2) = some (.tuple [.int cs[yn].1, .int cs[yn].2.1]) := by
          generalize cs[yn] = c
          simp [PV.cutS, ceD, PV.cutD, HT.sIx]
        have x3 : ixD (ceD cs[yn]) (.int 2) = some (.int cs[yn].2.2) := by
          generalize cs[yn] = c
          simp [ceD]
        have x4 : addD (.tuple [.int cs[yn].1, .int cs[yn].2.1]) (.tuple [.int (1 - cs[yn].2.2)]) = some (ceD (cs[yn].1, cs[yn].2.1, 1 - cs[yn].2.2)) := by
          rw [addD_tup, if_pos ⟨rfl, rfl, by simp⟩]; rfl
        have x5 := ixSet_nat (ceD (cs[yn].1, cs[yn].2.1, 1 - cs[yn].2.2)) hy'
        have x6 : pureD (ceD (cs[yn].1, cs[yn].2.1, 1 - cs[yn].2.2)) = true := rfl
        generalize hc : (cs[yn].1, cs[yn].2.1, 1 - cs[yn].2.2) = c' at *
        have x7 : (cs.map ceD).set yn (ceD c') = (cs.set yn c').map ceD := by rw [List.map_set]
        rw [x7] at x5
        generalize cs.set yn c' = cs' at *
        have e3' : F__law_draw [b1, .int ((cs.map ceD).length : Int)] = some (.int (yn : Int), b3) := by rw [List.length_map]; exact e3
        generalize cs.map ceD = L at *
        have f1 : sIf (lift (qB (o2 eqD (getS 10) (cst (.int 0))))) (sSetIx 5 (callM 0 [.rd 0, .ev (lift (gE (getS 3)))] F__law_draw) (callM 0 [.rd 0, .ev (lift (o2 addD (getS 4) (cst (.int 1))))] F__law_draw)) (sIf (lift (qB (o2 eqD (getS 10) (cst (.int 1))))) (sSetIx 6 (callM 0 [.rd 0, .ev (lift (gE (getS 4)))] F__law_draw) (callM 0 [.rd 0, .ev (lift (o2 addD (getS 3) (cst (.int 1))))] F__law_draw)) (sIf (lift (qB (o2 neD (getS 7) (mkL aNil)))) (sSeq (sSet (.nm 11) (callM 0 [.rd 0, .ev (lift (fnE lenF (aCons (getS 7) aNil)))] F__law_draw))
    (sSet (.ix 7 (gE (getS 11))) (lift (o2 addD (slE (o2 ixD (getS 7) (getS 11)) opn (ops (cst (.int 2)))) (mkT (aCons (o2 subD (cst (.int 1)) (o2 ixD (o2 ixD (getS 7) (getS 11)) (cst (.int 2)))) aNil)))))) (sNil))) (teR b1 T m n (nList rows) (nList cols) (nList L) x8 (some ⟨.int k, .ro⟩) (some ⟨.int p, .own⟩) x11)
          = .nx (teR b3 T m n (nList rows) (nList cols) (nList (cs'.map ceD)) x8 (some ⟨.int k, .ro⟩) (some ⟨.int p, .own⟩) (some ⟨.int yn, .own⟩)) := by
          simp [teR, hb0, hb1', hne, runAg, valAgs, valAg, e3', setS_np n11, x1, x2, x3, x4, patS, x5]
        exact f1
end T70

set_option Elab.async false
set_option linter.all false
set_option maxRecDepth 100000
set_option maxHeartbeats 4000000
namespace T70
open PySem PySem.Spec PyProof.Rows L2 PV
def telD (m n : Nat) (rows cols : List D) (cs : List Ce) : D := .tuple [.int m, .int n, .tuple rows, .tuple cols, .tuple (cs.map ceD)]
def SideOk (m n : Nat) : Prop := 1 ≤ m ∧ m ≤ 16 ∧ 1 ≤ n ∧ n ≤ 16
theorem turns_ok {b T : D} {m n : Nat} (hS : SideOk m n) {rows cols : List D} {cs : List Ce} {x8 : Option Cl} (hb : IsBox b) (V : ValidT m n rows cols cs) :
    Nxs (sFor [] (.nm 9) (ivf rng1 (bCons (callM 0 [.rd 0, .ev (lift (cst (.int 3)))] F__law_draw) bNil)) bTurn (teR b T m n (nList rows) (nList cols) (nList (cs.map ceD)) x8 none none none)) (TeI T m n) := by
  obtain ⟨k, b1, e1, hb1, p1, q1⟩ := draw_ok hb (n := 3) (by decide) (by decide)
  obtain ⟨kn, rfl⟩ := Int.eq_ofNat_of_zero_le p1
  have hrn := rng1_nat kn (by omega)
  refine sFor_of (ds := rangeD 0 kn) (ρ1 := teR b1 T m n (nList rows) (nList cols) (nList (cs.map ceD)) x8 none none none) ?_ rfl ?_
  · simp only [ivf_e, bCons_e, bNil_e]
    simp [teR, runAg, valAgs, valAg, e1, hrn]
  · exact forS_rng (fun _ => TeI T m n) kn _ ⟨b1, rows, cols, cs, x8, none, none, none, rfl, hb1, NP.none, NP.none, NP.none, V⟩ fun k ρ _ hI => turn_ok hS.1 hS.2.1 hS.2.2.1 hS.2.2.2 k ρ hI
theorem telling_ok {b : D} (hb : IsBox b) : ∃ d b', F__law_telling [b, .int 16] = some (d, b') ∧ (∃ (m n : Nat) (rows cols : List D) (cs : List Ce), d = telD m n rows cols cs ∧ SideOk m n ∧ ValidT m n rows cols cs) ∧ IsBox b' := by
  refine runN_of (np := 2) (n := 14) (m := 0) (B := B__law_telling) (ds := [b, .int 16]) (Po := fun d b' => (∃ (m n : Nat) (rows cols : List D) (cs : List Ce), d = telD m n rows cols cs ∧ SideOk m n ∧ ValidT m n rows cols cs) ∧ IsBox b') rfl ?_
  have er : rhoM 14 0 [b, .int 16] = [some ⟨b, .pin⟩, some ⟨.int 16, .ro⟩, none, none, none, none, none, none, none, none, none, none, none, none] := rfl
  rw [er]
  unfold B__law_telling
  obtain ⟨t, b1, e1, ⟨m, n, trows, rfl, hm0, hm1, hm2, hn1, hn2, hr⟩, hb1⟩ := table_ok hb
  have hpT : pureL trows = true := pureL_of fun y hy => row_pure (hr y hy)
  refine seqR1 (ρ' := [some ⟨b1, .pin⟩, some ⟨.int 16, .ro⟩, some ⟨.tuple trows, .own⟩, none, none, none, none, none, none, none, none, none, none, none]) (by simp [runAg, valAgs, valAg, e1]) ?_
  have hlen2 := sums2 (rows := trows) (by omega) hr
  refine seqR1 (ρ' := [some ⟨b1, .pin⟩, some ⟨.int 16, .ro⟩, some ⟨.tuple trows, .own⟩, some ⟨.int m, .own⟩, some ⟨.int n, .own⟩, none, none, none, none, none, none, none, none, none]) ?_ ?_
  · have h0 : ixD (.tuple trows) (.int 0) = some trows[0] := ixT (k := 0) (List.getElem?_eq_getElem (by omega))
    obtain ⟨ds, ed, hl, _⟩ := hr _ (List.getElem_mem (show 0 < trows.length by omega))
    rw [ed] at h0
    simp [h0, hl, hm0]
  obtain ⟨rs, cl, e2, l1, l2, c1, c2⟩ := lawsums_ok (rows := trows) (by omega) (by omega) hn1 hn2 hr
  refine seqR1 (ρ' := [some ⟨b1, .pin⟩, some ⟨.int 16, .ro⟩, some ⟨.tuple trows, .own⟩, some ⟨.int m, .own⟩, some ⟨.int n, .own⟩, some ⟨.tuple rs, .own⟩, some ⟨.tuple cl, .own⟩, none, none, none, none, none, none, none]) (by simp [e2]) ?_
  obtain ⟨r1, b2, e3, hb2, l3, c3⟩ := opt_ok hb1 (some ⟨.int 16, .ro⟩) (some ⟨.tuple trows, .own⟩) (some ⟨.int m, .own⟩) (some ⟨.int n, .own⟩) (some ⟨.tuple rs, .ro⟩) (some ⟨.tuple cl, .own⟩) none none none none none (k := n) (ds := rs) c1
  refine seqR1 (ρ' := [some ⟨b2, .pin⟩, some ⟨.int 16, .ro⟩, some ⟨.tuple trows, .own⟩, some ⟨.int m, .own⟩, some ⟨.int n, .own⟩, nList r1, some ⟨.tuple cl, .own⟩, none, none, none, none, none, none, none]) ?_ ?_
  · exact sSet_of (vLc_of (ds := rs) (ρ1 := [some ⟨b1, .pin⟩, some ⟨.int 16, .ro⟩, some ⟨.tuple trows, .own⟩, some ⟨.int m, .own⟩, some ⟨.int n, .own⟩, some ⟨.tuple rs, .own⟩, some ⟨.tuple cl, .own⟩, none, none, none, none, none, none, none]) (ρ2 := [some ⟨b1, .pin⟩, some ⟨.int 16, .ro⟩, some ⟨.tuple trows, .own⟩, some ⟨.int m, .own⟩, some ⟨.int n, .own⟩, some ⟨.tuple rs, .ro⟩, some ⟨.tuple cl, .own⟩, none, none, none, none, none, none, none]) (by simp) (by omega) (by simp [noPin]) rfl e3) rfl
  obtain ⟨r2, b3, e4, hb3, l4, c4⟩ := opt_ok hb2 (some ⟨.int 16, .ro⟩) (some ⟨.tuple trows, .own⟩) (some ⟨.int m, .own⟩) (some ⟨.int n, .own⟩) (nList r1) (some ⟨.tuple cl, .ro⟩) none none none none none (k := trows.length) (ds := cl) c2
  refine seqR1 (ρ' := [some ⟨b3, .pin⟩, some ⟨.int 16, .ro⟩, some ⟨.tuple trows, .own⟩, some ⟨.int m, .own⟩, some ⟨.int n, .own⟩, nList r1, nList r2, none, none, none, none, none, none, none]) ?_ ?_
  · exact sSet_of (vLc_of (ds := cl) (ρ1 := [some ⟨b2, .pin⟩, some ⟨.int 16, .ro⟩, some ⟨.tuple trows, .own⟩, some ⟨.int m, .own⟩, some ⟨.int n, .own⟩, nList r1, some ⟨.tuple cl, .own⟩, none, none, none, none, none, none, none]) (ρ2 := [some ⟨b2, .pin⟩, some ⟨.int 16, .ro⟩, some ⟨.tuple trows, .own⟩, some ⟨.int m, .own⟩, some ⟨.int n, .own⟩, nList r1, some ⟨.tuple cl, .ro⟩, none, none, none, none, none, none, none]) (by simp) (by omega) (by simp [noPin]) rfl e4) rfl
  refine seqR1 (ρ' := teR b3 (.tuple trows) m n (nList r1) (nList r2) (nList []) none none none none) (by simp [teR]) ?_
  refine Nxs.seqR (cells_loop hb3 (m := m) (n := n) (rows := trows) (by omega) hn2 hm0 hr (nList r1) (nList r2)) fun ρ hρ => ?_
  obtain ⟨b4, cs, x8, rfl, hb4, hx8, h1, h2, h3⟩ := hρ
  have hS : SideOk m n := ⟨hm1, hm2, hn1, hn2⟩
  have V : ValidT m n r1 r2 cs := ⟨by omega, by omega, c3, by rw [hm0] at c4; exact c4, h1, h2, by omega⟩
  refine Nxs.seqR (turns_ok hS hb4 V) fun ρ hρ => ?_
  obtain ⟨b5, rows, cols, cs2, y8, y9, y10, y11, rfl, hb5, _, _, _, V2⟩ := hρ
  have V3 := V2
  obtain ⟨v1, v2, v3, v4, v5, v6, v7⟩ := V3
  have t1 : tupD (.list rows) = some (.tuple rows) := by simp only [tupD, pureL_of fun y m => told_pure (v3 y m), if_true]
  have t2 : tupD (.list cols) = some (.tuple cols) := by simp only [tupD, pureL_of fun y m => told_pure (v4 y m), if_true]
  have t3 : tupD (.list (cs2.map ceD)) = some (.tuple (cs2.map ceD)) := by simp only [tupD, pureL_ce, if_true]
  refine ⟨telD m n rows cols cs2, teR b5 (.tuple trows) m n (nList rows) (nList cols) (nList (cs2.map ceD)) y8 y9 y10 y11, ?_, ⟨b5, .pin⟩, rfl, ⟨m, n, rows, cols, cs2, rfl, hS, V2⟩, hb5⟩
  refine sRet_of ?_
  simp [teR, t1, t2, t3, telD]
end T70

set_option Elab.async false
set_option linter.all false
set_option maxRecDepth 100000
set_option maxHeartbeats 4000000
namespace T70
open PySem PySem.Spec PyProof.Rows L2 PV
theorem tell_non {v : D} (h : pureD v = true) (ht : ∀ ds, v ≠ .tuple ds) : F_is_telling [v] = some (.bool false) := by
  cases v with
  | tuple ds => exact absurd rfl (ht ds)
  | dict kvs => cases h
  | list ds => cases h
  | _ => simp [F_is_telling, B_is_telling, runP, rho0]
theorem tell_len {ds : List D} (hl : ds.length ≠ 5) : F_is_telling [.tuple ds] = some (.bool false) := by
  have hb : ((ds.length : Int) == 5) = false := by simp; omega
  simp [F_is_telling, B_is_telling, runP, rho0, hb]
theorem tell_mn {mv nv r c e : D} (h1 : pureD mv = true) (h2 : pureD nv = true) (h3 : pureD r = true) (h4 : pureD c = true) (h5 : pureD e = true) (h : (isCnt mv 1 16 && isCnt nv 1 16) = false) : F_is_telling [.tuple [mv, nv, r, c, e]] = some (.bool false) := by
  have e1 := count_eq mv 1 16 h1
  have e2 := count_eq nv 1 16 h2
  cases hm : isCnt mv 1 16
  · rw [hm] at e1
    simp [F_is_telling, B_is_telling, runP, rho0, h1, h2, h3, h4, h5, e1]
  · cases hn : isCnt nv 1 16
    · rw [hm] at e1; rw [hn] at e2
      simp [F_is_telling, B_is_telling, runP, rho0, h1, h2, h3, h4, h5, e1, e2]
    · rw [hm, hn] at h; cases h
def shortT (v : D) : Prop := ∀ ds, v = .tuple ds → ds.length ≤ 1000000
theorem tell_val {m n : Int} {r c e : D} (hm : 1 ≤ m ∧ m ≤ 16) (hn : 1 ≤ n ∧ n ≤ 16) (h3 : pureD r = true) (h4 : pureD c = true) (h5 : pureD e = true) (s3 : shortT r) (s4 : shortT c) {bv : Bool} (hc : F_are_told_cells [e, .int m, .int n] = some (.bool bv)) : F_is_telling [.tuple [.int m, .int n, r, c, e]] = some (.bool (toldSums r m n && (toldSums c n m && bv))) := by
  have e1 := count_eq (.int m) 1 16 rfl
  have e2 := count_eq (.int n) 1 16 rfl
  have c1 : isCnt (.int m) 1 16 = true := by simp [isCnt, hm]
  have c2 : isCnt (.int n) 1 16 = true := by simp [isCnt, hn]
  rw [c1] at e1; rw [c2] at e2
  have e3 := sums_eq r m n h3 s3
  have e4 := sums_eq c n m h4 s4
  cases b3 : toldSums r m n <;> cases b4 : toldSums c n m <;> rw [b3] at e3 <;> rw [b4] at e4 <;> simp [F_is_telling, B_is_telling, runP, rho0, h3, h4, h5, e1, e2, e3, e4, hc]
theorem cells_non {v : D} {m n : Int} (h : pureD v = true) (ht : ∀ ds, v ≠ .tuple ds) : F_are_told_cells [v, .int m, .int n] = some (.bool false) := by
  cases v with
  | tuple ds => exact absurd rfl (ht ds)
  | dict kvs => cases h
  | list ds => cases h
  | _ => simp [F_are_told_cells, B_are_told_cells, runP, rho0]
theorem toldP_all {k : Int} {ds : List D} (h : ∀ x ∈ ds, toldP k x) : (ds.all fun d => PV.isNon d || isCnt d 0 k) = true := by
  rw [List.all_eq_true]
  intro x hx
  rcases h x hx with rfl | ⟨i, rfl, h0, h1⟩
  · rfl
  · simp [PV.isNon, isCnt, h0, h1]
theorem shortT_list {ds : List D} (h : ds.length ≤ 1000000) : shortT (.tuple ds) := fun ds' e => by cases e; exact h
section
variable {m n : Nat} {rows cols : List D} {cs : List Ce}
theorem V_rows (V : ValidT m n rows cols cs) : pureD (.tuple rows) = true := by rw [pureD_tup]; exact pureL_of fun y h => told_pure (V.2.2.1 y h)
theorem V_cols (V : ValidT m n rows cols cs) : pureD (.tuple cols) = true := by rw [pureD_tup]; exact pureL_of fun y h => told_pure (V.2.2.2.1 y h)
theorem V_cells : pureD (.tuple (cs.map ceD)) = true := by rw [pureD_tup]; exact pureL_ce cs
theorem S_int (S : SideOk m n) : (1 ≤ (m : Int) ∧ (m : Int) ≤ 16) ∧ (1 ≤ (n : Int) ∧ (n : Int) ≤ 16) := by
  obtain ⟨a, b, c, d⟩ := S
  omega
theorem V_sR (S : SideOk m n) (V : ValidT m n rows cols cs) : shortT (.tuple rows) := shortT_list (by rw [V.1]; exact small_le S.2.1)
theorem V_sC (S : SideOk m n) (V : ValidT m n rows cols cs) : shortT (.tuple cols) := shortT_list (by rw [V.2.1]; exact small_le S.2.2.2)
theorem le256 {k : Nat} (h : k ≤ 256) : k ≤ 1000000 := Nat.le_trans h (by decide)
theorem V_F (V : ValidT m n rows cols cs) : F_are_told_cells [.tuple (cs.map ceD), .int m, .int n] = some (.bool true) := by
  rw [cells_ok cs m n (le256 V.2.2.2.2.2.2) fun c hc => okC_cell (V.2.2.2.2.1 c hc), chn2_of V.2.2.2.2.2.1]
/-- what was told is a telling -/
theorem tell_ok (S : SideOk m n) (V : ValidT m n rows cols cs) : F_is_telling [telD m n rows cols cs] = some (.bool true) := by
  unfold telD
  rw [tell_val (S_int S).1 (S_int S).2 (V_rows V) (V_cols V) V_cells (V_sR S V) (V_sC S V) (V_F V)]
  simp [toldSums, V.1, V.2.1, toldP_all V.2.2.1, toldP_all V.2.2.2.1]
/-- one side is wrong -/
theorem tell_badR (S : SideOk m n) {r c e : D} (h3 : pureD r = true) (h4 : pureD c = true) (h5 : pureD e = true) (s3 : shortT r) (s4 : shortT c) {bv : Bool} (hc : F_are_told_cells [e, .int m, .int n] = some (.bool bv)) (h : (toldSums r m n && (toldSums c n m && bv)) = false) : F_is_telling [.tuple [.int m, .int n, r, c, e]] = some (.bool false) := by
  rw [tell_val (S_int S).1 (S_int S).2 h3 h4 h5 s3 s4 hc, h]
end
theorem told_mid {k c : Int} {X Y : List D} {x : D} (h : (PV.isNon x || isCnt x 0 k) = false) : toldSums (.tuple (X ++ [x] ++ Y)) c k = false := by
  simp [toldSums]
  intro _ _ hx
  simp at h
  simp [h] at hx
theorem told_len {k c : Int} {X : List D} (h : (X.length : Int) ≠ c) : toldSums (.tuple X) c k = false := by simp [toldSums, h]
end T70

set_option Elab.async false
set_option linter.all false
set_option maxRecDepth 100000
set_option maxHeartbeats 4000000
namespace T70
open PySem PySem.Spec PyProof.Rows L2 PV
def bdR (b Tl : D) (m n : Nat) (rows cols cells : D) (i j : Int) (sums odd : Option Cl) : Rh := [some ⟨b, .pin⟩, some ⟨Tl, .ro⟩, some ⟨.int m, .own⟩, some ⟨.int n, .own⟩, some ⟨rows, .own⟩, some ⟨cols, .own⟩, some ⟨cells, .own⟩, some ⟨.int i, .own⟩, some ⟨.int j, .own⟩, sums, odd, none]
def sumsL (n : Nat) : List D := [.int (n + 1), .int (-1), .bool true, .str "1", .tuple [.int 1]]
def sums2L (m : Nat) : List D := [.int (m + 1), .int (-1), .bool false, .str "0", .tuple []]
def oddL (m n : Nat) (i j : Int) : List D := [.tuple [.int i, .int j], .tuple [.int i, .int j, .int 2], .tuple [.int m, .int j, .int 0], .tuple [.int i, .int n, .int 0], .tuple [.int i, .int j, .bool true], .tuple [.int i, .int j, .none], .none, .tuple [.int i, .int j, .int 0, .int 0], .tuple [.int (-1), .int j, .int 0]]
theorem sums_bad {n : Nat} {k : Int} (h0 : 0 ≤ k) (h1 : k < 5) : ∃ (kn : Nat) (x : D), k = kn ∧ (sumsL n)[kn]? = some x ∧ pureD x = true ∧ (PV.isNon x || isCnt x 0 n) = false := by
  have : k = 0 ∨ k = 1 ∨ k = 2 ∨ k = 3 ∨ k = 4 := by omega
  rcases this with rfl | rfl | rfl | rfl | rfl
  · exact ⟨0, .int (n + 1), rfl, rfl, rfl, by simp [PV.isNon, isCnt]; omega⟩
  · exact ⟨1, .int (-1), rfl, rfl, rfl, by simp [PV.isNon, isCnt]⟩
  · exact ⟨2, .bool true, rfl, rfl, rfl, rfl⟩
  · exact ⟨3, .str "1", rfl, rfl, rfl, rfl⟩
  · exact ⟨4, .tuple [.int 1], rfl, rfl, rfl, rfl⟩
theorem sums2_bad {n : Nat} {k : Int} (h0 : 0 ≤ k) (h1 : k < 5) : ∃ (kn : Nat) (x : D), k = kn ∧ (sums2L n)[kn]? = some x ∧ pureD x = true ∧ (PV.isNon x || isCnt x 0 n) = false := by
  have : k = 0 ∨ k = 1 ∨ k = 2 ∨ k = 3 ∨ k = 4 := by omega
  rcases this with rfl | rfl | rfl | rfl | rfl
  · exact ⟨0, .int (n + 1), rfl, rfl, rfl, by simp [PV.isNon, isCnt]; omega⟩
  · exact ⟨1, .int (-1), rfl, rfl, rfl, by simp [PV.isNon, isCnt]⟩
  · exact ⟨2, .bool false, rfl, rfl, rfl, rfl⟩
  · exact ⟨3, .str "0", rfl, rfl, rfl, rfl⟩
  · exact ⟨4, .tuple [], rfl, rfl, rfl, rfl⟩
theorem odd_bad {m n : Nat} {i j k : Int} (h0 : 0 ≤ k) (h1 : k < 9) : ∃ (kn : Nat) (x : D), k = kn ∧ (oddL m n i j)[kn]? = some x ∧ pureD x = true ∧ cellOk x m n = false := by
  have : k = 0 ∨ k = 1 ∨ k = 2 ∨ k = 3 ∨ k = 4 ∨ k = 5 ∨ k = 6 ∨ k = 7 ∨ k = 8 := by omega
  rcases this with rfl | rfl | rfl | rfl | rfl | rfl | rfl | rfl | rfl
  · exact ⟨0, _, rfl, rfl, rfl, rfl⟩
  · exact ⟨1, _, rfl, rfl, rfl, by simp [cellOk, isCnt]⟩
  · exact ⟨2, _, rfl, rfl, rfl, by simp [cellOk, isCnt]; omega⟩
  · exact ⟨3, _, rfl, rfl, rfl, by simp [cellOk, isCnt]; omega⟩
  · exact ⟨4, _, rfl, rfl, rfl, by simp [cellOk, isCnt]⟩
  · exact ⟨5, _, rfl, rfl, rfl, by simp [cellOk, isCnt]⟩
  · exact ⟨6, _, rfl, rfl, rfl, rfl⟩
  · exact ⟨7, _, rfl, rfl, rfl, rfl⟩
  · exact ⟨8, _, rfl, rfl, rfl, by simp [cellOk, isCnt]⟩
theorem pure_odd (m n : Nat) (i j : Int) : pureL (oddL m n i j) = true := by simp [oddL]
theorem pure_sums (n : Nat) : pureL (sumsL n) = true := by simp [sumsL]
/-- what the list of bad tellings holds -/
def badL (m n : Nat) (rows cols cells : List D) (i j : Int) (s1 s2 o1 o2 : D) : List D :=
  [.tuple [.int m, .int n, .tuple (PV.cutD rows none (some i) ++ [s1] ++ PV.cutD rows (some (i + 1)) none), .tuple cols, .tuple cells],
   .tuple [.int m, .int n, .tuple rows, .tuple (PV.cutD cols none (some j) ++ [s2] ++ PV.cutD cols (some (j + 1)) none), .tuple cells],
   .tuple [.int m, .int n, .tuple rows, .tuple cols, .tuple (cells ++ [o1])],
   .tuple [.int m, .int n, .tuple rows, .tuple cols, .tuple [o2]],
   .tuple [.int m, .int n, .tuple (rows ++ [.int 0]), .tuple cols, .tuple cells],
   .tuple [.int m, .int n, .tuple rows, .tuple (PV.cutD cols none (some (-1))), .tuple cells],
   .tuple [.int m, .int n, .tuple rows, .tuple cols, if cells.isEmpty = true then .none else .tuple (cells ++ PV.cutD cells (some (-1)) none)],
   .tuple [.int 17, .int n, .tuple rows, .tuple cols, .tuple cells],
   .tuple [.int m, .int 0, .tuple rows, .tuple cols, .tuple cells],
   .tuple [.int m, .int n, .tuple rows, .tuple cols],
   .none,
   .tuple [.int m, .int n, .tuple rows, .tuple cols, .tuple [.tuple [.int i, .int j, .int 0], .tuple [.int i, .int j, .int 1]]],
   .tuple [.int m, .int n, .tuple rows, .tuple cols, .tuple cells, .tuple []],
   .str "telling",
   .tuple [.int m, .int n, .none, .tuple cols, .tuple cells],
   .tuple [.int m, .int n, .tuple rows, .none, .tuple cells]]
section
variable {m n : Nat} {rows cols : List D} {cs : List Ce}
theorem single_ok (x : Ce) (h : okC m n x) : True := trivial
theorem chn2_bad {cs : List Ce} {k : Nat} (hk : k + 1 < cs.length) (h : ltC (cs.getD k (0, 0, 0)) (cs.getD (k + 1) (0, 0, 0)) = false) : chn2 cs = false := by
  unfold chn2
  rw [List.all_eq_false]
  exact ⟨k, List.mem_range.mpr (by omega), by rw [h]; simp⟩
theorem cells_cons (h : ∀ x ∈ cs.map ceD, pureD x = true) : True := trivial
theorem ltC_self (c : Ce) (d : Ce) (h1 : c.1 = d.1) (h2 : c.2.1 = d.2.1) : ltC c d = false := by
  unfold ltC
  rw [HT.lexLt_cons, HT.lexLt_cons, HT.lexLt_nil_nil, if_pos h1, if_pos h2]
/-- none of them is a telling -/
theorem bad_all (S : SideOk m n) (V : ValidT m n rows cols cs) {i j : Int} (hi : 0 ≤ i ∧ i < m) (hj : 0 ≤ j ∧ j < n) {s1 s2 o1 o2 : D} (p1 : pureD s1 = true) (q1 : (PV.isNon s1 || isCnt s1 0 n) = false) (p2 : pureD s2 = true) (q2 : (PV.isNon s2 || isCnt s2 0 m) = false) (p3 : pureD o1 = true) (q3 : cellOk o1 m n = false) (p4 : pureD o2 = true) (q4 : cellOk o2 m n = false) :
    ∀ d ∈ badL m n rows cols (cs.map ceD) i j s1 s2 o1 o2, F_is_telling [d] = some (.bool false) ∧ pureD d = true := by
  have hR := V_rows V
  have hC := V_cols V
  have hE := V_cells (cs := cs)
  have sR := V_sR S V
  have sC := V_sC S V
  have hF := V_F V
  have hR' : pureL rows = true := by simpa using hR
  have hC' : pureL cols = true := by simpa using hC
  have hE' : pureL (cs.map ceD) = true := by simpa using hE
  have lC : cols.length = n := V.2.1
  have lR : rows.length = m := V.1
  have lE : cs.length ≤ 256 := V.2.2.2.2.2.2
  have S' := S
  obtain ⟨a1, a2, a3, a4⟩ := S'
  have hm16 := small_le a2
  have hn16 := small_le a4
  intro d hd
  simp only [badL, List.mem_cons, List.not_mem_nil, or_false] at hd
  rcases hd with rfl | rfl | rfl | rfl | rfl | rfl | rfl | rfl | rfl | rfl | rfl | rfl | rfl | rfl | rfl | rfl
  · have hp : pureD (.tuple (PV.cutD rows none (some i) ++ [s1] ++ PV.cutD rows (some (i + 1)) none)) = true := by
      rw [pureD_tup]; exact pure_app (pure_app (pure_cut hR' _ _) (by simp [p1])) (pure_cut hR' _ _)
    refine ⟨tell_badR S hp hC hE (shortT_list ?_) sC hF (by rw [told_mid q1]; rfl), by simp at hp hC' hE' ⊢; simp [hp, hC', hE']⟩
    have c1 := cutD_len rows none (some i)
    have c2 := cutD_len rows (some (i + 1)) none
    simp only [List.length_append, List.length_cons, List.length_nil]
    omega
  · have hp : pureD (.tuple (PV.cutD cols none (some j) ++ [s2] ++ PV.cutD cols (some (j + 1)) none)) = true := by
      rw [pureD_tup]; exact pure_app (pure_app (pure_cut hC' _ _) (by simp [p2])) (pure_cut hC' _ _)
    refine ⟨tell_badR S hR hp hE sR (shortT_list ?_) hF (by rw [told_mid q2]; simp), by simp at hp hR' hE' ⊢; simp [hp, hR', hE']⟩
    have c1 := cutD_len cols none (some j)
    have c2 := cutD_len cols (some (j + 1)) none
    simp only [List.length_append, List.length_cons, List.length_nil]
    omega
  · have hp : pureL (cs.map ceD ++ [o1]) = true := pure_app hE' (by simp [p3])
    have hl : (cs.map ceD ++ [o1]).length ≤ 1000000 := by
      rw [List.length_append, List.length_map, List.length_cons, List.length_nil]
      exact Nat.le_trans (Nat.add_le_add_right lE _) (by decide)
    have hF2 := cells_bad (cs.map ceD ++ [o1]) m n hp hl (by rw [List.all_append]; simp [q3])
    refine ⟨tell_badR S hR hC (by rw [pureD_tup]; exact hp) sR sC hF2 (by simp), by simp at hR' hC' hp ⊢; simp [hR', hC', hp]⟩
  · have hF2 := cells_bad [o2] m n (by simp [p4]) (by simp) (by simp [q4])
    refine ⟨tell_badR S hR hC (by simp [p4]) sR sC hF2 (by simp), by simp at hR' hC' ⊢; simp [hR', hC', p4]⟩
  · have hp : pureL (rows ++ [.int 0]) = true := pure_app hR' rfl
    have hne : ((rows ++ [PyData.int 0]).length : Int) ≠ m := by simp; omega
    refine ⟨tell_badR S (by rw [pureD_tup]; exact hp) hC hE (shortT_list (by rw [List.length_append, lR]; simp; omega)) sC hF (by rw [told_len hne]; simp), by simp at hp hC' hE' ⊢; simp [hp, hC', hE']⟩
  · have hp : pureL (PV.cutD cols none (some (-1))) = true := pure_cut hC' _ _
    have hne : ((PV.cutD cols none (some (-1))).length : Int) ≠ n := by rw [cutD_init, List.length_dropLast]; omega
    refine ⟨tell_badR S hR (by rw [pureD_tup]; exact hp) hE sR (shortT_list (Nat.le_trans (cutD_len ..) (by rw [lC]; exact hn16))) hF (by rw [told_len hne]; simp), by simp at hp hR' hE' ⊢; simp [hp, hR', hE']⟩
  · by_cases hem : cs = []
    · subst hem
      simp only [List.map_nil, List.isEmpty_nil, if_true]
      have hF2 := cells_non (v := .none) (m := m) (n := n) rfl (fun ds h => nomatch h)
      exact ⟨tell_badR S hR hC rfl sR sC hF2 (by simp), by simp at hR' hC' ⊢; simp [hR', hC']⟩
    · obtain ⟨cs0, c, rfl⟩ : ∃ cs0 c, cs = cs0 ++ [c] := ⟨cs.dropLast, cs.getLast hem, (List.dropLast_concat_getLast hem).symm⟩
      have hne : ((cs0 ++ [c]).map ceD).isEmpty = false := by simp
      rw [hne]
      simp only [Bool.false_eq_true, if_false]
      have e1 : PV.cutD ((cs0 ++ [c]).map ceD) (some (-1)) none = [ceD c] := by rw [List.map_append]; exact cutD_last _ _
      rw [e1]
      have e2 : (cs0 ++ [c]).map ceD ++ [ceD c] = ((cs0 ++ [c]) ++ [c]).map ceD := by simp
      rw [e2]
      have hok : ∀ x ∈ (cs0 ++ [c]) ++ [c], cellOk (ceD x) m n = true := fun x hx => by
        refine okC_cell (V.2.2.2.2.1 x ?_)
        rcases List.mem_append.mp hx with h | h
        · exact h
        · exact List.mem_append_right _ h
      have hl : ((cs0 ++ [c]) ++ [c]).length ≤ 1000000 := by
        rw [List.length_append, List.length_cons, List.length_nil]
        exact Nat.le_trans (Nat.add_le_add_right lE _) (by decide)
      have hF2 := cells_ok ((cs0 ++ [c]) ++ [c]) m n hl hok
      have hch : chn2 ((cs0 ++ [c]) ++ [c]) = false := by
        refine chn2_bad (k := cs0.length) (by simp) ?_
        refine ltC_self _ _ ?_ ?_ <;> simp
      rw [hch] at hF2
      refine ⟨tell_badR S hR hC V_cells sR sC hF2 (by simp), ?_⟩
      have := pureL_ce ((cs0 ++ [c]) ++ [c])
      simp only [pureD_tup, pureL_cons, pureL_nil, pureD_int, hR', hC', this, Bool.and_self]
  · exact ⟨tell_mn rfl rfl hR hC hE (by simp [isCnt]), by simp only [pureD_tup, pureL_cons, pureL_nil, pureD_int, hR', hC', hE', Bool.and_self]⟩
  · exact ⟨tell_mn rfl rfl hR hC hE (by simp [isCnt]), by simp only [pureD_tup, pureL_cons, pureL_nil, pureD_int, hR', hC', hE', Bool.and_self]⟩
  · exact ⟨tell_len (by simp), by simp only [pureD_tup, pureL_cons, pureL_nil, pureD_int, hR', hC', hE', Bool.and_self]⟩
  · exact ⟨tell_non rfl (fun ds h => nomatch h), rfl⟩
  · have hok : ∀ x ∈ [((i, j, 0) : Ce), (i, j, 1)], cellOk (ceD x) m n = true := fun x hx => by
      refine okC_cell ?_
      simp only [List.mem_cons, List.not_mem_nil, or_false] at hx
      rcases hx with rfl | rfl
      · exact ⟨hi, hj, .inl rfl⟩
      · exact ⟨hi, hj, .inr rfl⟩
    have hF2 := cells_ok [((i, j, 0) : Ce), (i, j, 1)] m n (by simp) hok
    have hch : chn2 [((i, j, 0) : Ce), (i, j, 1)] = false := chn2_bad (k := 0) (by simp) (ltC_self _ _ rfl rfl)
    rw [hch] at hF2
    exact ⟨tell_badR S hR hC rfl sR sC hF2 (by simp), by simp only [pureD_tup, pureL_cons, pureL_nil, pureD_int, hR', hC', hE', Bool.and_self]⟩
  · exact ⟨tell_len (by simp), by simp only [pureD_tup, pureL_cons, pureL_nil, pureD_int, hR', hC', hE', Bool.and_self]⟩
  · exact ⟨tell_non rfl (fun ds h => nomatch h), rfl⟩
  · exact ⟨tell_badR S (r := .none) rfl hC hE (fun ds h => nomatch h) sC hF rfl, by simp only [pureD_tup, pureL_cons, pureL_nil, pureD_int, pureD_none, hR', hC', hE', Bool.and_self]⟩
  · exact ⟨tell_badR S (c := .none) hR rfl hE sR (fun ds h => nomatch h) hF (by simp [toldSums]), by simp only [pureD_tup, pureL_cons, pureL_nil, pureD_int, pureD_none, hR', hC', hE', Bool.and_self]⟩
end
end T70

set_option Elab.async false
set_option linter.all false
set_option maxRecDepth 100000
set_option maxHeartbeats 4000000
namespace T70
open PySem PySem.Spec PyProof.Rows L2 PV
section
variable {m n : Nat} {rows cols : List D} {cs : List Ce}
theorem badlist_ok (S : SideOk m n) (V : ValidT m n rows cols cs) {b : D} (hb : IsBox b) {i j : Int} (hi : 0 ≤ i ∧ i < m) (hj : 0 ≤ j ∧ j < n) :
    ∃ L b', sSet (.nm 11) (nkL (bCons (nkT (bCons (lift (gE (getS 2))) (bCons (lift (gE (getS 3))) (bCons (v2 addD (v2 addD (lift (slE (getS 4) opn (ops (getS 7)))) (nkT (bCons (ixV 9 (callM 0 [.rd 0, .ev (lift (cst (.int 5)))] F__law_draw)) bNil))) (lift (slE (getS 4) (ops (o2 addD (getS 7) (cst (.int 1)))) opn))) (bCons (lift (gE (getS 5))) (bCons (lift (gE (getS 6))) bNil)))))) (bCons (nkT (bCons (lift (gE (getS 2))) (bCons (lift (gE (getS 3))) (bCons (lift (gE (getS 4))) (bCons (v2 addD (v2 addD (lift (slE (getS 5) opn (ops (getS 8)))) (nkT (bCons (v2 ixD (lift (mkL (aCons (o2 addD (getS 2) (cst (.int 1))) (aCons (u1 negI (cst (.int 1))) (aCons (cst (.bool false)) (aCons (cst (.str "0")) (aCons (mkT aNil) aNil))))))) (callM 0 [.rd 0, .ev (lift (cst (.int 5)))] F__law_draw)) bNil))) (lift (slE (getS 5) (ops (o2 addD (getS 8) (cst (.int 1)))) opn))) (bCons (lift (gE (getS 6))) bNil)))))) (bCons (nkT (bCons (lift (gE (getS 2))) (bCons (lift (gE (getS 3))) (bCons (lift (gE (getS 4))) (bCons (lift (gE (getS 5))) (bCons (v2 addD (lift (gE (getS 6))) (nkT (bCons (ixV 10 (callM 0 [.rd 0, .ev (lift (cst (.int 9)))] F__law_draw)) bNil))) bNil)))))) (bCons (nkT (bCons (lift (gE (getS 2))) (bCons (lift (gE (getS 3))) (bCons (lift (gE (getS 4))) (bCons (lift (gE (getS 5))) (bCons (nkT (bCons (ixV 10 (callM 0 [.rd 0, .ev (lift (cst (.int 9)))] F__law_draw)) bNil)) bNil)))))) (bCons (lift (mkT (aCons (gE (getS 2)) (aCons (gE (getS 3)) (aCons (o2 addD (getS 4) (mkT (aCons (cst (.int 0)) aNil))) (aCons (gE (getS 5)) (aCons (gE (getS 6)) aNil))))))) (bCons (lift (mkT (aCons (gE (getS 2)) (aCons (gE (getS 3)) (aCons (gE (getS 4)) (aCons (slE (getS 5) opn (ops (u1 negI (cst (.int 1))))) (aCons (gE (getS 6)) aNil))))))) (bCons (lift (mkT (aCons (gE (getS 2)) (aCons (gE (getS 3)) (aCons (gE (getS 4)) (aCons (gE (getS 5)) (aCons (eif (qB (o2 neD (getS 6) (mkT aNil))) (o2 addD (getS 6) (slE (getS 6) (ops (u1 negI (cst (.int 1)))) opn)) (cst .none)) aNil))))))) (bCons (lift (o2 addD (mkT (aCons (cst (.int 17)) (aCons (gE (getS 3)) aNil))) (slE (getS 1) (ops (cst (.int 2))) opn))) (bCons (lift (o2 addD (mkT (aCons (gE (getS 2)) (aCons (cst (.int 0)) aNil))) (slE (getS 1) (ops (cst (.int 2))) opn))) (bCons (lift (slE (getS 1) opn (ops (cst (.int 4))))) (bCons (lift (cst .none)) (bCons (lift (mkT (aCons (gE (getS 2)) (aCons (gE (getS 3)) (aCons (gE (getS 4)) (aCons (gE (getS 5)) (aCons (mkT (aCons (mkT (aCons (gE (getS 7)) (aCons (gE (getS 8)) (aCons (cst (.int 0)) aNil)))) (aCons (mkT (aCons (gE (getS 7)) (aCons (gE (getS 8)) (aCons (cst (.int 1)) aNil)))) aNil))) aNil))))))) (bCons (lift (o2 addD (getS 1) (mkT (aCons (mkT aNil) aNil)))) (bCons (lift (cst (.str "telling"))) (bCons (lift (mkT (aCons (gE (getS 2)) (aCons (gE (getS 3)) (aCons (cst .none) (aCons (gE (getS 5)) (aCons (gE (getS 6)) aNil))))))) (bCons (lift (mkT (aCons (gE (getS 2)) (aCons (gE (getS 3)) (aCons (gE (getS 4)) (aCons (cst .none) (aCons (gE (getS 6)) aNil))))))) bNil)))))))))))))))))
      (bdR b (telD m n rows cols cs) m n (.tuple rows) (.tuple cols) (.tuple (cs.map ceD)) i j (some ⟨.list (sumsL n), .own⟩) (some ⟨.list (oddL m n i j), .own⟩)) = .nx ((bdR b' (telD m n rows cols cs) m n (.tuple rows) (.tuple cols) (.tuple (cs.map ceD)) i j (some ⟨.list (sumsL n), .own⟩) (some ⟨.list (oddL m n i j), .own⟩)).set 11 (some ⟨.list L, .own⟩)) ∧ IsBox b' ∧ L.length = 16 ∧ ∀ d ∈ L, F_is_telling [d] = some (.bool false) ∧ pureD d = true := by
  obtain ⟨k1, b1, e1, hb1, u1', w1'⟩ := draw_ok hb (n := 5) (by decide) (by decide)
  obtain ⟨k2, b2, e2, hb2, u2, w2⟩ := draw_ok hb1 (n := 5) (by decide) (by decide)
  obtain ⟨k3, b3, e3, hb3, u3, w3⟩ := draw_ok hb2 (n := 9) (by decide) (by decide)
  obtain ⟨k4, b4, e4, hb4, u4, w4⟩ := draw_ok hb3 (n := 9) (by decide) (by decide)
  obtain ⟨n1, s1, rfl, x1, p1, q1⟩ := sums_bad (n := n) u1' w1'
  obtain ⟨n2, s2, rfl, x2, p2, q2⟩ := sums2_bad (n := m) u2 w2
  obtain ⟨n3, y1, rfl, x3, p3, q3⟩ := odd_bad (m := m) (n := n) (i := i) (j := j) u3 w3
  obtain ⟨n4, y2, rfl, x4, p4, q4⟩ := odd_bad (m := m) (n := n) (i := i) (j := j) u4 w4
  have hall := bad_all S V hi hj p1 q1 p2 q2 p3 q3 p4 q4
  refine ⟨badL m n rows cols (cs.map ceD) i j s1 s2 y1 y2, b4, ?_, hb4, rfl, hall⟩
  have hR := V_rows V
  have hC := V_cols V
  have hE := V_cells (cs := cs)
  have hR' : pureL rows = true := by simpa using hR
  have hC' : pureL cols = true := by simpa using hC
  have lC : cols.length = n := V.2.1
  have lR : rows.length = m := V.1
  have hE' : pureL (cs.map ceD) = true := by simpa using hE
  have lE : (cs.map ceD).length ≤ 256 := by rw [List.length_map]; exact V.2.2.2.2.2.2
  obtain ⟨a1, a2, a3, a4⟩ := S
  have hT : pureD (telD m n rows cols cs) = true := by simp only [telD, pureD_tup, pureL_cons, pureL_nil, pureD_int, hR', hC', hE', Bool.and_self]
  have hT' : telD m n rows cols cs = .tuple [.int m, .int n, .tuple rows, .tuple cols, .tuple (cs.map ceD)] := rfl
  have hneC : neD (.tuple (cs.map ceD)) (.tuple []) = some (.bool (!(cs.map ceD).isEmpty)) := by
    rw [neD_of (k := 2) (l := 1) (Sh.tup fun x hx => by obtain ⟨c, _, rfl⟩ := List.mem_map.mp hx; exact ceS c) (by decide) (Sh.tup (k := 0) fun x hx => by simp at hx) (by decide), eqv_nil_t]
  generalize cs.map ceD = ce at *
  generalize telD m n rows cols cs = T at *
  have P : ∀ b', bdR b' T m n (.tuple rows) (.tuple cols) (.tuple ce) i j (some ⟨.list (sumsL n), .own⟩) (some ⟨.list (oddL m n i j), .own⟩) = [some ⟨b', .pin⟩, some ⟨T, .ro⟩, some ⟨.int m, .own⟩, some ⟨.int n, .own⟩, some ⟨.tuple rows, .own⟩, some ⟨.tuple cols, .own⟩, some ⟨.tuple ce, .own⟩, some ⟨.int i, .own⟩, some ⟨.int j, .own⟩, some ⟨.list (sumsL n), .own⟩, some ⟨.list (oddL m n i j), .own⟩, none] := fun b' => rfl
  have v1 : ixV 9 (callM 0 [.rd 0, .ev (lift (cst (.int 5)))] F__law_draw) (bdR b T m n (.tuple rows) (.tuple cols) (.tuple ce) i j (some ⟨.list (sumsL n), .own⟩) (some ⟨.list (oddL m n i j), .own⟩)) = some (s1, bdR b1 T m n (.tuple rows) (.tuple cols) (.tuple ce) i j (some ⟨.list (sumsL n), .own⟩) (some ⟨.list (oddL m n i j), .own⟩)) :=
    ixV_of (ds := sumsL n) (j := n1) rfl (pure_sums n) (by rw [P]; simp [runAg, valAgs, valAg, e1, bdR]) rfl x1
  have v2' : callM 0 [.rd 0, .ev (lift (cst (.int 5)))] F__law_draw (bdR b1 T m n (.tuple rows) (.tuple cols) (.tuple ce) i j (some ⟨.list (sumsL n), .own⟩) (some ⟨.list (oddL m n i j), .own⟩)) = some (.int n2, bdR b2 T m n (.tuple rows) (.tuple cols) (.tuple ce) i j (some ⟨.list (sumsL n), .own⟩) (some ⟨.list (oddL m n i j), .own⟩)) := by rw [P]; simp [runAg, valAgs, valAg, e2, bdR]
  have v3 : ixV 10 (callM 0 [.rd 0, .ev (lift (cst (.int 9)))] F__law_draw) (bdR b2 T m n (.tuple rows) (.tuple cols) (.tuple ce) i j (some ⟨.list (sumsL n), .own⟩) (some ⟨.list (oddL m n i j), .own⟩)) = some (y1, bdR b3 T m n (.tuple rows) (.tuple cols) (.tuple ce) i j (some ⟨.list (sumsL n), .own⟩) (some ⟨.list (oddL m n i j), .own⟩)) :=
    ixV_of (ds := oddL m n i j) (j := n3) rfl (pure_odd m n i j) (by rw [P]; simp [runAg, valAgs, valAg, e3, bdR]) rfl x3
  have v4 : ixV 10 (callM 0 [.rd 0, .ev (lift (cst (.int 9)))] F__law_draw) (bdR b3 T m n (.tuple rows) (.tuple cols) (.tuple ce) i j (some ⟨.list (sumsL n), .own⟩) (some ⟨.list (oddL m n i j), .own⟩)) = some (y2, bdR b4 T m n (.tuple rows) (.tuple cols) (.tuple ce) i j (some ⟨.list (sumsL n), .own⟩) (some ⟨.list (oddL m n i j), .own⟩)) :=
    ixV_of (ds := oddL m n i j) (j := n4) rfl (pure_odd m n i j) (by rw [P]; simp [runAg, valAgs, valAg, e4, bdR]) rfl x4
  have big : ∀ {k : Nat}, k ≤ 300 → k ≤ 1000000 := fun h => Nat.le_trans h (by decide)
  -- parts
  have r1 := cutT_ok hR' none (some i)
  have r2 := cutT_ok hR' (some (i + 1)) none
  have r3 : addD (.tuple (PV.cutD rows none (some i))) (.tuple [s1]) = some (.tuple (PV.cutD rows none (some i) ++ [s1])) := addT_ok (pure_cut hR' _ _) (by simp [p1]) (big (by have := cutD_len rows none (some i); simp; omega))
  have r4 : addD (.tuple (PV.cutD rows none (some i) ++ [s1])) (.tuple (PV.cutD rows (some (i + 1)) none)) = some (.tuple (PV.cutD rows none (some i) ++ [s1] ++ PV.cutD rows (some (i + 1)) none)) := addT_ok (pure_app (pure_cut hR' _ _) (by simp [p1])) (pure_cut hR' _ _) (big (by have := cutD_len rows none (some i); have := cutD_len rows (some (i + 1)) none; simp; omega))
  have c1 := cutT_ok hC' none (some j)
  have c2 := cutT_ok hC' (some (j + 1)) none
  have c3 : addD (.tuple (PV.cutD cols none (some j))) (.tuple [s2]) = some (.tuple (PV.cutD cols none (some j) ++ [s2])) := addT_ok (pure_cut hC' _ _) (by simp [p2]) (big (by have := cutD_len cols none (some j); simp; omega))
  have c4 : addD (.tuple (PV.cutD cols none (some j) ++ [s2])) (.tuple (PV.cutD cols (some (j + 1)) none)) = some (.tuple (PV.cutD cols none (some j) ++ [s2] ++ PV.cutD cols (some (j + 1)) none)) := addT_ok (pure_app (pure_cut hC' _ _) (by simp [p2])) (pure_cut hC' _ _) (big (by have := cutD_len cols none (some j); have := cutD_len cols (some (j + 1)) none; simp; omega))
  have d1 : addD (.tuple ce) (.tuple [y1]) = some (.tuple (ce ++ [y1])) := addT_ok hE' (by simp [p3]) (big (by simp; omega))
  have d2 : addD (.tuple rows) (.tuple [.int 0]) = some (.tuple (rows ++ [.int 0])) := addT_ok hR' rfl (big (by simp; omega))
  have d3 := cutT_ok hC' none (some (-1))
  have d4 := cutT_ok hE' (some (-1)) none
  have d5 : addD (.tuple ce) (.tuple (PV.cutD ce (some (-1)) none)) = some (.tuple (ce ++ PV.cutD ce (some (-1)) none)) := addT_ok hE' (pure_cut hE' _ _) (by have := cutD_len ce (some (-1)) none; exact Nat.le_trans (show _ ≤ 512 by omega) (by decide))
  have hTL : pureL [PyData.int m, .int n, .tuple rows, .tuple cols, .tuple ce] = true := by rw [hT'] at hT; simpa using hT
  have d6 : PV.cutS T (some 2) none = some (.tuple [.tuple rows, .tuple cols, .tuple ce]) := by rw [hT', cutT_ok hTL]; rfl
  have d7 : PV.cutS T none (some 4) = some (.tuple [.int m, .int n, .tuple rows, .tuple cols]) := by rw [hT', cutT_ok hTL]; rfl
  have hp3 : pureL [PyData.tuple rows, .tuple cols, .tuple ce] = true := by simp [hR', hC', hE']
  have d8 : addD (.tuple [.int 17, .int n]) (.tuple [.tuple rows, .tuple cols, .tuple ce]) = some (.tuple [.int 17, .int n, .tuple rows, .tuple cols, .tuple ce]) := addT_ok rfl hp3 (by simp)
  have d9 : addD (.tuple [.int m, .int 0]) (.tuple [.tuple rows, .tuple cols, .tuple ce]) = some (.tuple [.int m, .int 0, .tuple rows, .tuple cols, .tuple ce]) := addT_ok rfl hp3 (by simp)
  have d10 : addD T (.tuple [.tuple []]) = some (.tuple [.int m, .int n, .tuple rows, .tuple cols, .tuple ce, .tuple []]) := by rw [hT']; exact addT_ok hTL rfl (by simp)
  have ee : eif (qB (o2 neD (getS 6) (mkT aNil))) (o2 addD (getS 6) (slE (getS 6) (ops (u1 negI (cst (.int 1)))) opn)) (cst .none) (bdR b4 T m n (.tuple rows) (.tuple cols) (.tuple ce) i j (some ⟨.list (sumsL n), .own⟩) (some ⟨.list (oddL m n i j), .own⟩)) = some (if ce.isEmpty = true then .none else .tuple (ce ++ PV.cutD ce (some (-1)) none)) := by
    rw [P]
    cases hem : ce.isEmpty <;> rw [hem] at hneC <;> simp [hneC, negI, d4, d5]
  refine sSet_of (d := .list (badL m n rows cols ce i j s1 s2 y1 y2)) (ρ1 := bdR b4 T m n (.tuple rows) (.tuple cols) (.tuple ce) i j (some ⟨.list (sumsL n), .own⟩) (some ⟨.list (oddL m n i j), .own⟩)) (nkL_of ?_ (by simp [badL])) rfl
  refine bCons_of (nkT_of (bCons_of (lift_of rfl) (bCons_of (lift_of rfl) (bCons_of (v2_of (v2_of (lift_of (show _ = some _ from by rw [P]; simp [r1])) (nkT_of (bCons_of v1 bNil_of) (by simp)) r3) (lift_of (show _ = some _ from by rw [P]; simp [r2])) r4) (bCons_of (lift_of (show _ = some (PyData.tuple cols) from by rw [P]; simp [hC'])) (bCons_of (lift_of (show _ = some (PyData.tuple ce) from by rw [P]; simp [hE'])) bNil_of))))) (by simp)) ?_
  refine bCons_of (nkT_of (bCons_of (lift_of rfl) (bCons_of (lift_of rfl) (bCons_of (lift_of (show _ = some (PyData.tuple rows) from by rw [P]; simp [hR'])) (bCons_of (v2_of (v2_of (lift_of (show _ = some _ from by rw [P]; simp [c1])) (nkT_of (bCons_of (v2_of (lift_of (show _ = some (PyData.list (sums2L m)) from by rw [P]; simp [sums2L, negI])) v2' (ixL x2)) bNil_of) (by simp)) c3) (lift_of (show _ = some _ from by rw [P]; simp [c2])) c4) (bCons_of (lift_of (show _ = some (PyData.tuple ce) from by rw [P]; simp [hE'])) (bNil_of)))))) (by simp)) ?_
  refine bCons_of (nkT_of (bCons_of (lift_of rfl) (bCons_of (lift_of rfl) (bCons_of (lift_of (show _ = some (PyData.tuple rows) from by rw [P]; simp [hR'])) (bCons_of (lift_of (show _ = some (PyData.tuple cols) from by rw [P]; simp [hC'])) (bCons_of (v2_of (lift_of (show _ = some (PyData.tuple ce) from by rw [P]; simp [hE'])) (nkT_of (bCons_of v3 bNil_of) (by simp)) d1) (bNil_of)))))) (by simp)) ?_
  refine bCons_of (nkT_of (bCons_of (lift_of rfl) (bCons_of (lift_of rfl) (bCons_of (lift_of (show _ = some (PyData.tuple rows) from by rw [P]; simp [hR'])) (bCons_of (lift_of (show _ = some (PyData.tuple cols) from by rw [P]; simp [hC'])) (bCons_of (nkT_of (bCons_of v4 bNil_of) (by simp)) (bNil_of)))))) (by simp)) ?_
  have ee' := ee
  rw [P] at ee'
  refine bCons_of (lift_of (show _ = some _ from by rw [P]; simp [hR', hC', hE', d2])) ?_
  refine bCons_of (lift_of (show _ = some _ from by rw [P]; simp [hR', hC', hE', d3, negI])) ?_
  refine bCons_of (lift_of (d := PyData.tuple [.int m, .int n, .tuple rows, .tuple cols, if ce.isEmpty = true then .none else .tuple (ce ++ PV.cutD ce (some (-1)) none)]) (by rw [P, mkT_e]; simp only [aCons_e, aNil_e, gE_e, getS_s, getS_z, ee', Option.bind_some, gd, pureD_int, pureD_tup, hR', hC', if_true]; rw [if_pos (by simp)])) ?_
  refine bCons_of (lift_of (show _ = some _ from by rw [P]; simp [d6, d8])) ?_
  refine bCons_of (lift_of (show _ = some _ from by rw [P]; simp [d6, d9])) ?_
  refine bCons_of (lift_of (show _ = some _ from by rw [P]; simp [d7])) ?_
  refine bCons_of (lift_of (show _ = some _ from by rw [P]; simp [])) ?_
  refine bCons_of (lift_of (show _ = some _ from by rw [P]; simp [hR', hC', hE'])) ?_
  refine bCons_of (lift_of (show _ = some _ from by rw [P]; simp [d10])) ?_
  refine bCons_of (lift_of (show _ = some _ from by rw [P]; simp [])) ?_
  refine bCons_of (lift_of (show _ = some _ from by rw [P]; simp [hR', hC', hE'])) ?_
  refine bCons_of (lift_of (show _ = some _ from by rw [P]; simp [hR', hC', hE'])) ?_
  exact bNil_of
end
end T70

set_option Elab.async false
set_option linter.all false
set_option maxRecDepth 100000
set_option maxHeartbeats 4000000
namespace T70
open PySem PySem.Spec PyProof.Rows L2 PV
theorem bad_telling_ok {m n : Nat} {rows cols : List D} {cs : List Ce} (S : SideOk m n) (V : ValidT m n rows cols cs) {b : D} (hb : IsBox b) : ∃ d b', F__law_bad_telling [b, telD m n rows cols cs] = some (d, b') ∧ (F_is_telling [d] = some (.bool false) ∧ pureD d = true) ∧ IsBox b' := by
  refine runN_of (np := 2) (n := 12) (m := 0) (B := B__law_bad_telling) (ds := [b, telD m n rows cols cs]) (Po := fun d b' => (F_is_telling [d] = some (.bool false) ∧ pureD d = true) ∧ IsBox b') rfl ?_
  have er : rhoM 12 0 [b, telD m n rows cols cs] = [some ⟨b, .pin⟩, some ⟨telD m n rows cols cs, .ro⟩, none, none, none, none, none, none, none, none, none, none] := rfl
  rw [er]
  unfold B__law_bad_telling
  have hR' : pureL rows = true := by simpa using V_rows V
  have hC' : pureL cols = true := by simpa using V_cols V
  have hE' := pureL_ce cs
  obtain ⟨a1, a2, a3, a4⟩ := S
  obtain ⟨i, b1, e1, hb1, p1, q1⟩ := draw_ok hb (n := (m : Int)) (by omega) (by omega)
  obtain ⟨j, b2, e2, hb2, p2, q2⟩ := draw_ok hb1 (n := (n : Int)) (by omega) (by omega)
  refine seqR1 (ρ' := [some ⟨b, .pin⟩, some ⟨telD m n rows cols cs, .ro⟩, some ⟨.int m, .own⟩, some ⟨.int n, .own⟩, some ⟨.tuple rows, .own⟩, some ⟨.tuple cols, .own⟩, some ⟨.tuple (cs.map ceD), .own⟩, none, none, none, none, none]) ?_ ?_
  · refine sSet_of (d := telD m n rows cols cs) (ρ1 := [some ⟨b, .pin⟩, some ⟨telD m n rows cols cs, .ro⟩, none, none, none, none, none, none, none, none, none, none]) ?_ ?_
    · simp [telD, hR', hC', hE']
    · simp [telD]
  refine seqR1 (ρ' := bdR b2 (telD m n rows cols cs) m n (.tuple rows) (.tuple cols) (.tuple (cs.map ceD)) i j none none) (by simp [runAg, valAgs, valAg, e1, e2, bdR]) ?_
  refine seqR1 (ρ' := bdR b2 (telD m n rows cols cs) m n (.tuple rows) (.tuple cols) (.tuple (cs.map ceD)) i j (some ⟨.list (sumsL n), .own⟩) none) (by simp [bdR, sumsL, negI]) ?_
  refine seqR1 (ρ' := bdR b2 (telD m n rows cols cs) m n (.tuple rows) (.tuple cols) (.tuple (cs.map ceD)) i j (some ⟨.list (sumsL n), .own⟩) (some ⟨.list (oddL m n i j), .own⟩)) (by simp [bdR, oddL, negI]) ?_
  obtain ⟨L, b3, e3, hb3, hl, hall⟩ := badlist_ok ⟨a1, a2, a3, a4⟩ V hb2 ⟨p1, q1⟩ ⟨p2, q2⟩
  refine seqR1 e3 ?_
  obtain ⟨k, b4, e4, hb4, p4, q4⟩ := draw_ok hb3 (n := 16) (by decide) (by decide)
  obtain ⟨kn, rfl⟩ := Int.eq_ofNat_of_zero_le p4
  have hk : kn < L.length := by omega
  have hpL : pureL L = true := pureL_of fun d hd => (hall d hd).2
  have hx : ixV 11 (callM 0 [.rd 0, .ev (lift (fnE lenF (aCons (getS 11) aNil)))] F__law_draw) ((bdR b3 (telD m n rows cols cs) m n (.tuple rows) (.tuple cols) (.tuple (cs.map ceD)) i j (some ⟨.list (sumsL n), .own⟩) (some ⟨.list (oddL m n i j), .own⟩)).set 11 (some ⟨.list L, .own⟩)) = some (L[kn], (bdR b4 (telD m n rows cols cs) m n (.tuple rows) (.tuple cols) (.tuple (cs.map ceD)) i j (some ⟨.list (sumsL n), .own⟩) (some ⟨.list (oddL m n i j), .own⟩)).set 11 (some ⟨.list L, .own⟩)) := by
    refine ixV_of (ds := L) (j := kn) rfl hpL ?_ rfl (List.getElem?_eq_getElem hk)
    simp [bdR, runAg, valAgs, valAg, hl, e4]
  exact ⟨_, _, sRet_of hx, ⟨b4, .pin⟩, rfl, hall _ (List.getElem_mem hk), hb4⟩
/-! ### entries of a diary -/
def entOk (m n : Int) (v : D) : Bool := match v with
  | .tuple [.str s, a, b] => if s = "row" then isCnt a 0 (m - 1) && isCnt b 0 n else if s = "column" then isCnt a 0 (n - 1) && isCnt b 0 m else false
  | .tuple [.str s, a, b, c] => if s = "cell" then isCnt a 0 (m - 1) && (isCnt b 0 (n - 1) && isCnt c 0 1) else false
  | .tuple [.str s, a] => if s = "wrong" then (match a with | .int i => decide (0 ≤ i) | _ => false) else false
  | _ => false
theorem w_row : PySem.PyData.strOk "row" = true := by decide +kernel
theorem w_column : PySem.PyData.strOk "column" = true := by decide +kernel
theorem w_cell : PySem.PyData.strOk "cell" = true := by decide +kernel
theorem w_wrong : PySem.PyData.strOk "wrong" = true := by decide +kernel
theorem w_sum : PySem.PyData.strOk "sum" = true := by decide +kernel
@[simp] theorem eq_rr : eqD (.str "row") (.str "row") = some (.bool true) := eqD_str w_row w_row (by decide +kernel)
@[simp] theorem eq_rc : eqD (.str "row") (.str "column") = some (.bool false) := eqD_str w_row w_column (by decide +kernel)
@[simp] theorem eq_re : eqD (.str "row") (.str "cell") = some (.bool false) := eqD_str w_row w_cell (by decide +kernel)
@[simp] theorem eq_rw : eqD (.str "row") (.str "wrong") = some (.bool false) := eqD_str w_row w_wrong (by decide +kernel)
@[simp] theorem eq_cr : eqD (.str "column") (.str "row") = some (.bool false) := eqD_str w_column w_row (by decide +kernel)
@[simp] theorem eq_cc : eqD (.str "column") (.str "column") = some (.bool true) := eqD_str w_column w_column (by decide +kernel)
@[simp] theorem eq_ce : eqD (.str "column") (.str "cell") = some (.bool false) := eqD_str w_column w_cell (by decide +kernel)
@[simp] theorem eq_cw : eqD (.str "column") (.str "wrong") = some (.bool false) := eqD_str w_column w_wrong (by decide +kernel)
@[simp] theorem eq_er : eqD (.str "cell") (.str "row") = some (.bool false) := eqD_str w_cell w_row (by decide +kernel)
@[simp] theorem eq_ec : eqD (.str "cell") (.str "column") = some (.bool false) := eqD_str w_cell w_column (by decide +kernel)
@[simp] theorem eq_ee : eqD (.str "cell") (.str "cell") = some (.bool true) := eqD_str w_cell w_cell (by decide +kernel)
@[simp] theorem eq_ew : eqD (.str "cell") (.str "wrong") = some (.bool false) := eqD_str w_cell w_wrong (by decide +kernel)
@[simp] theorem eq_wr : eqD (.str "wrong") (.str "row") = some (.bool false) := eqD_str w_wrong w_row (by decide +kernel)
@[simp] theorem eq_wc : eqD (.str "wrong") (.str "column") = some (.bool false) := eqD_str w_wrong w_column (by decide +kernel)
@[simp] theorem eq_we : eqD (.str "wrong") (.str "cell") = some (.bool false) := eqD_str w_wrong w_cell (by decide +kernel)
@[simp] theorem eq_ww : eqD (.str "wrong") (.str "wrong") = some (.bool true) := eqD_str w_wrong w_wrong (by decide +kernel)
@[simp] theorem eq_sr : eqD (.str "sum") (.str "row") = some (.bool false) := eqD_str w_sum w_row (by decide +kernel)
@[simp] theorem eq_sc : eqD (.str "sum") (.str "column") = some (.bool false) := eqD_str w_sum w_column (by decide +kernel)
@[simp] theorem eq_se : eqD (.str "sum") (.str "cell") = some (.bool false) := eqD_str w_sum w_cell (by decide +kernel)
@[simp] theorem ne_rw : neD (.str "row") (.str "wrong") = some (.bool true) := neD_str w_row w_wrong (by decide +kernel)
@[simp] theorem ne_cw : neD (.str "column") (.str "wrong") = some (.bool true) := neD_str w_column w_wrong (by decide +kernel)
@[simp] theorem ne_ew : neD (.str "cell") (.str "wrong") = some (.bool true) := neD_str w_cell w_wrong (by decide +kernel)
@[simp] theorem ne_ww : neD (.str "wrong") (.str "wrong") = some (.bool false) := neD_str w_wrong w_wrong (by decide +kernel)
@[simp] theorem ne_sw : neD (.str "sum") (.str "wrong") = some (.bool true) := neD_str w_sum w_wrong (by decide +kernel)
end T70

set_option Elab.async false
set_option linter.all false
set_option maxRecDepth 100000
set_option maxHeartbeats 4000000
namespace T70
open PySem PySem.Spec PyProof.Rows L2 PV
@[simp] theorem cnt_int (i a b : Int) : F_is_count [.int i, .int a, .int b] = some (.bool (decide (a ≤ i) && decide (i ≤ b))) := count_eq _ _ _ rfl
@[simp] theorem cnt_none (a b : Int) : F_is_count [.none, .int a, .int b] = some (.bool false) := count_eq _ _ _ rfl
@[simp] theorem cnt_bool (x : Bool) (a b : Int) : F_is_count [.bool x, .int a, .int b] = some (.bool false) := count_eq _ _ _ rfl
theorem neT {a : D} {ds : List D} {k : Nat} (h : ∀ x ∈ a :: ds, Sh k x) (hk : k < 64) : eqD (.tuple (a :: ds)) (.tuple []) = some (.bool false) := by
  rw [eqD_of (Sh.tup h) (by omega) (Sh.tup (k := 0) fun x hx => by simp at hx) (by decide), eqv_nil_t]
  rfl
def GoodE (m n : Nat) (d : D) : Prop :=
  (∃ i s : Int, d = .tuple [.str "row", .int i, .int s] ∧ (0 ≤ i ∧ i < m) ∧ 0 ≤ s ∧ s ≤ n) ∨ (∃ j s : Int, d = .tuple [.str "column", .int j, .int s] ∧ (0 ≤ j ∧ j < n) ∧ 0 ≤ s ∧ s ≤ m) ∨
  (∃ i j v : Int, d = .tuple [.str "cell", .int i, .int j, .int v] ∧ (0 ≤ i ∧ i < m) ∧ (0 ≤ j ∧ j < n) ∧ 0 ≤ v ∧ v ≤ 1) ∨ ∃ k : Int, d = .tuple [.str "wrong", .int k] ∧ 0 ≤ k
theorem sh_str_ints {s : Str} (h : PySem.PyData.strOk s = true) {l : List Int} : ∀ x ∈ PyData.str s :: l.map PyData.int, Sh 0 x := fun x hx => by
  rcases List.mem_cons.mp hx with rfl | hx
  · exact Sh.str h
  · obtain ⟨i, _, rfl⟩ := List.mem_map.mp hx; exact Sh.int
theorem good_entry {m n : Nat} {d : D} (h : GoodE m n d) : F_is_entry [.int m, .int n, d] = some (.bool true) ∧ pureD d = true := by
  rcases h with ⟨i, s, rfl, h1, h2⟩ | ⟨j, s, rfl, h1, h2⟩ | ⟨i, j, v, rfl, h1, h2, h3⟩ | ⟨k, rfl, h1⟩
  · have e := neT (sh_str_ints w_row (l := [i, s])) (by decide)
    refine ⟨?_, rfl⟩
    simp only [List.map_cons, List.map_nil] at e
    have a1 : decide (0 ≤ i) = true := decide_eq_true h1.1
    have a2 : decide (i ≤ (m : Int) - 1) = true := decide_eq_true (by omega)
    have a3 : decide (0 ≤ s) = true := decide_eq_true h2.1
    have a4 : decide (s ≤ (n : Int)) = true := decide_eq_true h2.2
    simp [F_is_entry, B_is_entry, runP, rho0, e, a1, a2, a3, a4]
  · have e := neT (sh_str_ints w_column (l := [j, s])) (by decide)
    refine ⟨?_, rfl⟩
    simp only [List.map_cons, List.map_nil] at e
    have a1 : decide (0 ≤ j) = true := decide_eq_true h1.1
    have a2 : decide (j ≤ (n : Int) - 1) = true := decide_eq_true (by omega)
    have a3 : decide (0 ≤ s) = true := decide_eq_true h2.1
    have a4 : decide (s ≤ (m : Int)) = true := decide_eq_true h2.2
    simp [F_is_entry, B_is_entry, runP, rho0, e, a1, a2, a3, a4]
  · have e := neT (sh_str_ints w_cell (l := [i, j, v])) (by decide)
    refine ⟨?_, rfl⟩
    simp only [List.map_cons, List.map_nil] at e
    have a1 : decide (0 ≤ i) = true := decide_eq_true h1.1
    have a2 : decide (i ≤ (m : Int) - 1) = true := decide_eq_true (by omega)
    have a3 : decide (0 ≤ j) = true := decide_eq_true h2.1
    have a4 : decide (j ≤ (n : Int) - 1) = true := decide_eq_true (by omega)
    have a5 : decide (0 ≤ v) = true := decide_eq_true h3.1
    have a6 : decide (v ≤ 1) = true := decide_eq_true h3.2
    simp [F_is_entry, B_is_entry, runP, rho0, e, a1, a2, a3, a4, a5, a6]
  · have e := neT (sh_str_ints w_wrong (l := [k])) (by decide)
    refine ⟨?_, rfl⟩
    simp only [List.map_cons, List.map_nil] at e
    simp [F_is_entry, B_is_entry, runP, rho0, e, h1]
theorem sh_of {s : Str} (h : PySem.PyData.strOk s = true) {l : List D} (hl : ∀ x ∈ l, Sh 0 x) : ∀ x ∈ PyData.str s :: l, Sh 0 x := fun x hx => by
  rcases List.mem_cons.mp hx with rfl | hx
  · exact Sh.str h
  · exact hl x hx
def badEL (m n : Nat) : List D :=
  [.tuple [.str "row", .int m, .int 0], .tuple [.str "row", .int 0, .int (n + 1)], .tuple [.str "row", .int 0], .tuple [.str "row", .int 0, .none], .tuple [.str "row", .bool true, .int 0],
   .tuple [.str "column", .int n, .int 0], .tuple [.str "column", .int 0, .int (m + 1)], .tuple [.str "column", .int 0, .int 0, .int 0],
   .tuple [.str "cell", .int m, .int 0, .int 0], .tuple [.str "cell", .int 0, .int n, .int 1], .tuple [.str "cell", .int 0, .int 0, .int 2], .tuple [.str "cell", .int 0, .int 0, .bool true], .tuple [.str "cell", .int 0, .int 0],
   .tuple [.str "wrong", .int (-1)], .tuple [.str "wrong", .bool true], .tuple [.str "wrong"], .tuple [.str "wrong", .int 0, .int 0],
   .tuple [.str "sum", .int 0, .int 0], .tuple [.none, .int 0, .int 0], .none, .tuple [], .str "row", .tuple [.str "row", .int (-1), .int 0]]
theorem bad_entries {m n : Nat} (hm : 1 ≤ m) (hn : 1 ≤ n) : ∀ d ∈ badEL m n, F_is_entry [.int m, .int n, d] = some (.bool false) ∧ pureD d = true := by
  have e0 : eqD (.tuple []) (.tuple []) = some (.bool true) := by
    rw [eqD_of (Sh.tup (k := 0) fun x hx => by simp at hx) (by decide) (Sh.tup (k := 0) fun x hx => by simp at hx) (by decide), eqv_nil_t]; rfl
  have hs : ∀ {a : D} {ds : List D}, (∀ x ∈ a :: ds, Sh 0 x) → eqD (.tuple (a :: ds)) (.tuple []) = some (.bool false) := fun h => neT h (by decide)
  have z6 : (1 : Int) ≤ m := by omega
  have z7 : (1 : Int) ≤ n := by omega
  have z2 : decide ((m : Int) ≤ (m : Int) - 1) = false := decide_eq_false (by omega)
  have z3 : decide ((n : Int) ≤ (n : Int) - 1) = false := decide_eq_false (by omega)
  have z4 : decide ((n : Int) + 1 ≤ (n : Int)) = false := decide_eq_false (by omega)
  have z5 : decide ((m : Int) + 1 ≤ (m : Int)) = false := decide_eq_false (by omega)
  have y1 : ∀ x ∈ [PyData.int m, .int 0], Sh 0 x := fun x hx => by simp at hx; rcases hx with rfl | rfl <;> exact Sh.int
  intro d hd
  simp only [badEL, List.mem_cons, List.not_mem_nil, or_false] at hd
  rcases hd with rfl | rfl | rfl | rfl | rfl | rfl | rfl | rfl | rfl | rfl | rfl | rfl | rfl | rfl | rfl | rfl | rfl | rfl | rfl | rfl | rfl | rfl | rfl
  · have e : eqD (.tuple [.str "row", .int m, .int 0]) (.tuple []) = some (.bool false) := hs (sh_of w_row (by intro x hx; simp only [List.mem_cons, List.not_mem_nil, or_false] at hx; rcases hx with rfl | rfl <;> first | exact Sh.int | exact Sh.bool | exact Sh.none))
    exact ⟨by simp [F_is_entry, B_is_entry, runP, rho0, e, z2, z3, z4, z5, z6, z7], rfl⟩
  · have e : eqD (.tuple [.str "row", .int 0, .int (n + 1)]) (.tuple []) = some (.bool false) := hs (sh_of w_row (by intro x hx; simp only [List.mem_cons, List.not_mem_nil, or_false] at hx; rcases hx with rfl | rfl <;> first | exact Sh.int | exact Sh.bool | exact Sh.none))
    exact ⟨by simp [F_is_entry, B_is_entry, runP, rho0, e, z2, z3, z4, z5, z6, z7], rfl⟩
  · have e : eqD (.tuple [.str "row", .int 0]) (.tuple []) = some (.bool false) := hs (sh_of w_row (by intro x hx; simp only [List.mem_cons, List.not_mem_nil, or_false] at hx; rcases hx with rfl <;> first | exact Sh.int | exact Sh.bool | exact Sh.none))
    exact ⟨by simp [F_is_entry, B_is_entry, runP, rho0, e, z2, z3, z4, z5, z6, z7], rfl⟩
  · have e : eqD (.tuple [.str "row", .int 0, .none]) (.tuple []) = some (.bool false) := hs (sh_of w_row (by intro x hx; simp only [List.mem_cons, List.not_mem_nil, or_false] at hx; rcases hx with rfl | rfl <;> first | exact Sh.int | exact Sh.bool | exact Sh.none))
    exact ⟨by simp [F_is_entry, B_is_entry, runP, rho0, e, z2, z3, z4, z5, z6, z7], rfl⟩
  · have e : eqD (.tuple [.str "row", .bool true, .int 0]) (.tuple []) = some (.bool false) := hs (sh_of w_row (by intro x hx; simp only [List.mem_cons, List.not_mem_nil, or_false] at hx; rcases hx with rfl | rfl <;> first | exact Sh.int | exact Sh.bool | exact Sh.none))
    exact ⟨by simp [F_is_entry, B_is_entry, runP, rho0, e, z2, z3, z4, z5, z6, z7], rfl⟩
  · have e : eqD (.tuple [.str "column", .int n, .int 0]) (.tuple []) = some (.bool false) := hs (sh_of w_column (by intro x hx; simp only [List.mem_cons, List.not_mem_nil, or_false] at hx; rcases hx with rfl | rfl <;> first | exact Sh.int | exact Sh.bool | exact Sh.none))
    exact ⟨by simp [F_is_entry, B_is_entry, runP, rho0, e, z2, z3, z4, z5, z6, z7], rfl⟩
  · have e : eqD (.tuple [.str "column", .int 0, .int (m + 1)]) (.tuple []) = some (.bool false) := hs (sh_of w_column (by intro x hx; simp only [List.mem_cons, List.not_mem_nil, or_false] at hx; rcases hx with rfl | rfl <;> first | exact Sh.int | exact Sh.bool | exact Sh.none))
    exact ⟨by simp [F_is_entry, B_is_entry, runP, rho0, e, z2, z3, z4, z5, z6, z7], rfl⟩
  · have e : eqD (.tuple [.str "column", .int 0, .int 0, .int 0]) (.tuple []) = some (.bool false) := hs (sh_of w_column (by intro x hx; simp only [List.mem_cons, List.not_mem_nil, or_false] at hx; rcases hx with rfl | rfl | rfl <;> first | exact Sh.int | exact Sh.bool | exact Sh.none))
    exact ⟨by simp [F_is_entry, B_is_entry, runP, rho0, e, z2, z3, z4, z5, z6, z7], rfl⟩
  · have e : eqD (.tuple [.str "cell", .int m, .int 0, .int 0]) (.tuple []) = some (.bool false) := hs (sh_of w_cell (by intro x hx; simp only [List.mem_cons, List.not_mem_nil, or_false] at hx; rcases hx with rfl | rfl | rfl <;> first | exact Sh.int | exact Sh.bool | exact Sh.none))
    exact ⟨by simp [F_is_entry, B_is_entry, runP, rho0, e, z2, z3, z4, z5, z6, z7], rfl⟩
  · have e : eqD (.tuple [.str "cell", .int 0, .int n, .int 1]) (.tuple []) = some (.bool false) := hs (sh_of w_cell (by intro x hx; simp only [List.mem_cons, List.not_mem_nil, or_false] at hx; rcases hx with rfl | rfl | rfl <;> first | exact Sh.int | exact Sh.bool | exact Sh.none))
    exact ⟨by simp [F_is_entry, B_is_entry, runP, rho0, e, z2, z3, z4, z5, z6, z7], rfl⟩
  · have e : eqD (.tuple [.str "cell", .int 0, .int 0, .int 2]) (.tuple []) = some (.bool false) := hs (sh_of w_cell (by intro x hx; simp only [List.mem_cons, List.not_mem_nil, or_false] at hx; rcases hx with rfl | rfl | rfl <;> first | exact Sh.int | exact Sh.bool | exact Sh.none))
    exact ⟨by simp [F_is_entry, B_is_entry, runP, rho0, e, z2, z3, z4, z5, z6, z7], rfl⟩
  · have e : eqD (.tuple [.str "cell", .int 0, .int 0, .bool true]) (.tuple []) = some (.bool false) := hs (sh_of w_cell (by intro x hx; simp only [List.mem_cons, List.not_mem_nil, or_false] at hx; rcases hx with rfl | rfl | rfl <;> first | exact Sh.int | exact Sh.bool | exact Sh.none))
    exact ⟨by simp [F_is_entry, B_is_entry, runP, rho0, e, z2, z3, z4, z5, z6, z7], rfl⟩
  · have e : eqD (.tuple [.str "cell", .int 0, .int 0]) (.tuple []) = some (.bool false) := hs (sh_of w_cell (by intro x hx; simp only [List.mem_cons, List.not_mem_nil, or_false] at hx; rcases hx with rfl | rfl <;> first | exact Sh.int | exact Sh.bool | exact Sh.none))
    exact ⟨by simp [F_is_entry, B_is_entry, runP, rho0, e, z2, z3, z4, z5, z6, z7], rfl⟩
  · have e : eqD (.tuple [.str "wrong", .int (-1)]) (.tuple []) = some (.bool false) := hs (sh_of w_wrong (by intro x hx; simp only [List.mem_cons, List.not_mem_nil, or_false] at hx; rcases hx with rfl <;> first | exact Sh.int | exact Sh.bool | exact Sh.none))
    exact ⟨by simp [F_is_entry, B_is_entry, runP, rho0, e, z2, z3, z4, z5, z6, z7], rfl⟩
  · have e : eqD (.tuple [.str "wrong", .bool true]) (.tuple []) = some (.bool false) := hs (sh_of w_wrong (by intro x hx; simp only [List.mem_cons, List.not_mem_nil, or_false] at hx; rcases hx with rfl <;> first | exact Sh.int | exact Sh.bool | exact Sh.none))
    exact ⟨by simp [F_is_entry, B_is_entry, runP, rho0, e, z2, z3, z4, z5, z6, z7], rfl⟩
  · have e : eqD (.tuple [.str "wrong"]) (.tuple []) = some (.bool false) := hs (sh_of w_wrong (by intro x hx; exact absurd hx (List.not_mem_nil)))
    exact ⟨by simp [F_is_entry, B_is_entry, runP, rho0, e, z2, z3, z4, z5, z6, z7], rfl⟩
  · have e : eqD (.tuple [.str "wrong", .int 0, .int 0]) (.tuple []) = some (.bool false) := hs (sh_of w_wrong (by intro x hx; simp only [List.mem_cons, List.not_mem_nil, or_false] at hx; rcases hx with rfl | rfl <;> first | exact Sh.int | exact Sh.bool | exact Sh.none))
    exact ⟨by simp [F_is_entry, B_is_entry, runP, rho0, e, z2, z3, z4, z5, z6, z7], rfl⟩
  · have e : eqD (.tuple [.str "sum", .int 0, .int 0]) (.tuple []) = some (.bool false) := hs (sh_of w_sum (by intro x hx; simp only [List.mem_cons, List.not_mem_nil, or_false] at hx; rcases hx with rfl | rfl <;> first | exact Sh.int | exact Sh.bool | exact Sh.none))
    exact ⟨by simp [F_is_entry, B_is_entry, runP, rho0, e, z2, z3, z4, z5, z6, z7], rfl⟩
  · have e : eqD (.tuple [.none, .int 0, .int 0]) (.tuple []) = some (.bool false) := hs (by intro x hx; simp only [List.mem_cons, List.not_mem_nil, or_false] at hx; rcases hx with rfl | rfl | rfl <;> first | exact Sh.int | exact Sh.bool | exact Sh.none)
    exact ⟨by simp [F_is_entry, B_is_entry, runP, rho0, e, z2, z3, z4, z5, z6, z7], rfl⟩
  · exact ⟨by simp [F_is_entry, B_is_entry, runP, rho0], rfl⟩
  · exact ⟨by simp [F_is_entry, B_is_entry, runP, rho0, e0], rfl⟩
  · exact ⟨by simp [F_is_entry, B_is_entry, runP, rho0], rfl⟩
  · have e : eqD (.tuple [.str "row", .int (-1), .int 0]) (.tuple []) = some (.bool false) := hs (sh_of w_row (by intro x hx; simp only [List.mem_cons, List.not_mem_nil, or_false] at hx; rcases hx with rfl | rfl <;> first | exact Sh.int | exact Sh.bool | exact Sh.none))
    exact ⟨by simp [F_is_entry, B_is_entry, runP, rho0, e, z2, z3, z4, z5, z6, z7], rfl⟩
end T70

set_option Elab.async false
set_option linter.all false
set_option maxRecDepth 100000
set_option maxHeartbeats 4000000
namespace T70
open PySem PySem.Spec PyProof.Rows L2 PV
/-- a diary, entry by entry -/
theorem diary_eq {m n : Nat} (S : SideOk m n) {es : List D} {f : D → Bool} (hf : ∀ d ∈ es, F_is_entry [.int m, .int n, d] = some (.bool (f d)) ∧ pureD d = true) (hl : es.length ≤ 1000000) : F_is_diary [.tuple [.int m, .int n, .tuple es]] = some (.bool (decide (es.length ≤ 200) && es.all f)) := by
  obtain ⟨⟨a1, a2⟩, a3, a4⟩ := S_int S
  have hp : pureL es = true := pureL_of fun d hd => (hf d hd).2
  have key : lcS (stepE (.nm 4) tAll (fnE F_is_entry (aCons (getS 1) (aCons (getS 2) (aCons (getS 4) aNil)))) [some ⟨.tuple [.int m, .int n, .tuple es], .ro⟩, some ⟨.int m, .own⟩, some ⟨.int n, .own⟩, some ⟨.tuple es, .own⟩, none]) es = some (es.map fun d => .bool (f d)) := by
    refine lcS_map fun d hd => ?_
    simp [(hf d hd).1]
  have keyF : eLc (.nm 4) [4] (iS (getS 3)) tAll (fnE F_is_entry (aCons (getS 1) (aCons (getS 2) (aCons (getS 4) aNil)))) [some ⟨.tuple [.int m, .int n, .tuple es], .ro⟩, some ⟨.int m, .own⟩, some ⟨.int n, .own⟩, some ⟨.tuple es, .own⟩, none] = some (.list (es.map fun d => .bool (f d))) := eLc_of (ds := es) (by simp) hl (by exact key)
  by_cases h : es.length ≤ 200
  · have hg : ¬ ((200 : Int) < es.length) := by omega
    refine (runF_rt (ρ0 := [some ⟨.tuple [.int m, .int n, .tuple es], .ro⟩, none, none, none, none]) (d := .bool (es.all f)) (ρ := [some ⟨.tuple [.int m, .int n, .tuple es], .ro⟩, some ⟨.int m, .own⟩, some ⟨.int n, .own⟩, some ⟨.tuple es, .own⟩, none]) rfl rfl ?_).trans (by simp [h])
    unfold B_is_diary
    simp [-eLc_e, hp, a1, a2, a3, a4, hg, keyF, allF_map]
  · have hg : ((200 : Int) < es.length) := by omega
    refine (runF_rt (ρ0 := [some ⟨.tuple [.int m, .int n, .tuple es], .ro⟩, none, none, none, none]) (d := .bool false) (ρ := [some ⟨.tuple [.int m, .int n, .tuple es], .ro⟩, some ⟨.int m, .own⟩, some ⟨.int n, .own⟩, some ⟨.tuple es, .own⟩, none]) rfl rfl ?_).trans (by simp [h])
    unfold B_is_diary
    simp [-eLc_e, hp, a1, a2, a3, a4, hg]
theorem diary_none : F_is_diary [.none] = some (.bool false) := by simp [F_is_diary, B_is_diary, runP, rho0]
theorem diary_two (a b : D) : F_is_diary [.tuple [a, b]] = some (.bool false) := by simp [F_is_diary, B_is_diary, runP, rho0]
theorem diary_third (a b : D) : F_is_diary [.tuple [a, b, .none]] = some (.bool false) := by simp [F_is_diary, B_is_diary, runP, rho0]
theorem diary_0 (n : Nat) : F_is_diary [.tuple [.int 0, .int n, .tuple []]] = some (.bool false) := by simp [F_is_diary, B_is_diary, runP, rho0]
theorem diary_17 {m : Nat} (h : 1 ≤ m) (h2 : m ≤ 16) : F_is_diary [.tuple [.int m, .int 17, .tuple []]] = some (.bool false) := by
  have a1 : (1 : Int) ≤ m := by omega
  have a2 : (m : Int) ≤ 16 := by omega
  simp [F_is_diary, B_is_diary, runP, rho0, a1, a2]
theorem diary_true (n : Nat) : F_is_diary [.tuple [.bool true, .int n, .tuple []]] = some (.bool false) := by simp [F_is_diary, B_is_diary, runP, rho0]
/-! ### drawn entries -/
theorem entry_ok {m n c : Nat} (S : SideOk m n) (hc : c ≤ 100) {b : D} (hb : IsBox b) : ∃ d b', F__law_entry [b, .int m, .int n, .int c] = some (d, b') ∧ GoodE m n d ∧ IsBox b' := by
  obtain ⟨s1, s2, s3, s4⟩ := S
  refine runN_of (np := 4) (n := 5) (m := 0) (B := B__law_entry) (ds := [b, .int m, .int n, .int c]) (Po := fun d b' => GoodE m n d ∧ IsBox b') rfl ?_
  have er : rhoM 5 0 [b, .int m, .int n, .int c] = [some ⟨b, .pin⟩, some ⟨.int m, .ro⟩, some ⟨.int n, .ro⟩, some ⟨.int c, .ro⟩, none] := rfl
  rw [er]
  unfold B__law_entry
  obtain ⟨i1, b1, e1, hb1, u1', v1⟩ := draw_ok hb (n := (m : Int)) (by omega) (by omega)
  obtain ⟨i2, b2, e2, hb2, u2, v2'⟩ := draw_ok hb1 (n := (n : Int) + 1) (by omega) (by omega)
  obtain ⟨i3, b3, e3, hb3, u3, v3⟩ := draw_ok hb2 (n := (n : Int)) (by omega) (by omega)
  obtain ⟨i4, b4, e4, hb4, u4, v4⟩ := draw_ok hb3 (n := (m : Int) + 1) (by omega) (by omega)
  obtain ⟨i5, b5, e5, hb5, u5, v5⟩ := draw_ok hb4 (n := (m : Int)) (by omega) (by omega)
  obtain ⟨i6, b6, e6, hb6, u6, v6⟩ := draw_ok hb5 (n := (n : Int)) (by omega) (by omega)
  obtain ⟨i7, b7, e7, hb7, u7, v7⟩ := draw_ok hb6 (n := 2) (by decide) (by decide)
  obtain ⟨i8, b8, e8, hb8, u8, v8⟩ := draw_ok hb7 (n := (c : Int) + 2) (by omega) (by omega)
  obtain ⟨k, b9, e9, hb9, u9, v9⟩ := draw_ok hb8 (n := 4) (by decide) (by decide)
  obtain ⟨kn, rfl⟩ := Int.eq_ofNat_of_zero_le u9
  refine seqR1 (ρ' := [some ⟨b8, .pin⟩, some ⟨.int m, .ro⟩, some ⟨.int n, .ro⟩, some ⟨.int c, .ro⟩, some ⟨.list [.tuple [.str "row", .int i1, .int i2], .tuple [.str "column", .int i3, .int i4], .tuple [.str "cell", .int i5, .int i6, .int i7], .tuple [.str "wrong", .int i8]], .own⟩]) (by simp [runAg, valAgs, valAg, e1, e2, e3, e4, e5, e6, e7, e8]) ?_
  have hall : ∀ d ∈ [PyData.tuple [.str "row", .int i1, .int i2], .tuple [.str "column", .int i3, .int i4], .tuple [.str "cell", .int i5, .int i6, .int i7], .tuple [.str "wrong", .int i8]], GoodE m n d := by
    intro d hd
    simp only [List.mem_cons, List.not_mem_nil, or_false] at hd
    rcases hd with rfl | rfl | rfl | rfl
    · exact .inl ⟨i1, i2, rfl, ⟨u1', v1⟩, u2, by omega⟩
    · exact .inr (.inl ⟨i3, i4, rfl, ⟨u3, v3⟩, u4, by omega⟩)
    · exact .inr (.inr (.inl ⟨i5, i6, i7, rfl, ⟨u5, v5⟩, ⟨u6, v6⟩, u7, by omega⟩))
    · exact .inr (.inr (.inr ⟨i8, rfl, u8⟩))
  have hk : kn < [PyData.tuple [.str "row", .int i1, .int i2], .tuple [.str "column", .int i3, .int i4], .tuple [.str "cell", .int i5, .int i6, .int i7], .tuple [.str "wrong", .int i8]].length := by simp; omega
  generalize [PyData.tuple [.str "row", .int i1, .int i2], .tuple [.str "column", .int i3, .int i4], .tuple [.str "cell", .int i5, .int i6, .int i7], .tuple [.str "wrong", .int i8]] = L at *
  have hx : ixV 4 (callM 0 [.rd 0, .ev (lift (cst (.int 4)))] F__law_draw) [some ⟨b8, .pin⟩, some ⟨.int m, .ro⟩, some ⟨.int n, .ro⟩, some ⟨.int c, .ro⟩, some ⟨.list L, .own⟩] = some (L[kn], [some ⟨b9, .pin⟩, some ⟨.int m, .ro⟩, some ⟨.int n, .ro⟩, some ⟨.int c, .ro⟩, some ⟨.list L, .own⟩]) := by
    refine ixV_of (ds := L) (j := kn) rfl (pureL_of fun d hd => (good_entry (hall d hd)).2) ?_ rfl (List.getElem?_eq_getElem hk)
    simp [runAg, valAgs, valAg, e9]
  exact ⟨_, _, sRet_of hx, ⟨b9, .pin⟩, rfl, hall _ (List.getElem_mem hk), hb9⟩
theorem bad_entry_ok {m n : Nat} (S : SideOk m n) {b : D} (hb : IsBox b) : ∃ d b', F__law_bad_entry [b, .int m, .int n] = some (d, b') ∧ (F_is_entry [.int m, .int n, d] = some (.bool false) ∧ pureD d = true) ∧ IsBox b' := by
  obtain ⟨s1, s2, s3, s4⟩ := S
  refine runN_of (np := 3) (n := 4) (m := 0) (B := B__law_bad_entry) (ds := [b, .int m, .int n]) (Po := fun d b' => (F_is_entry [.int m, .int n, d] = some (.bool false) ∧ pureD d = true) ∧ IsBox b') rfl ?_
  have er : rhoM 4 0 [b, .int m, .int n] = [some ⟨b, .pin⟩, some ⟨.int m, .ro⟩, some ⟨.int n, .ro⟩, none] := rfl
  rw [er]
  unfold B__law_bad_entry
  refine seqR1 (ρ' := [some ⟨b, .pin⟩, some ⟨.int m, .ro⟩, some ⟨.int n, .ro⟩, some ⟨.list (badEL m n), .own⟩]) (by simp [badEL, negI]) ?_
  have hall := bad_entries (m := m) (n := n) s1 s3
  have hlen : (badEL m n).length = 23 := rfl
  generalize badEL m n = L at *
  obtain ⟨k, b1, e1, hb1, u1', v1⟩ := draw_ok hb (n := 23) (by decide) (by decide)
  obtain ⟨kn, rfl⟩ := Int.eq_ofNat_of_zero_le u1'
  have hk : kn < L.length := by omega
  have hx : ixV 3 (callM 0 [.rd 0, .ev (lift (fnE lenF (aCons (getS 3) aNil)))] F__law_draw) [some ⟨b, .pin⟩, some ⟨.int m, .ro⟩, some ⟨.int n, .ro⟩, some ⟨.list L, .own⟩] = some (L[kn], [some ⟨b1, .pin⟩, some ⟨.int m, .ro⟩, some ⟨.int n, .ro⟩, some ⟨.list L, .own⟩]) := by
    refine ixV_of (ds := L) (j := kn) rfl (pureL_of fun d hd => (hall d hd).2) ?_ rfl (List.getElem?_eq_getElem hk)
    simp [runAg, valAgs, valAg, hlen, e1]
  exact ⟨_, _, sRet_of hx, ⟨b1, .pin⟩, rfl, hall _ (List.getElem_mem hk), hb1⟩
end T70

set_option Elab.async false
set_option linter.all false
set_option maxRecDepth 100000
set_option maxHeartbeats 4000000
namespace T70
open PySem PySem.Spec PyProof.Rows L2 PV
/-! ### what is withdrawn -/
def isWr (e : D) : Bool := match e with
  | .tuple [_, .int _] => true
  | _ => false
def wkN (e : D) : Nat := match e with
  | .tuple [_, .int k] => k.toNat
  | _ => 0
theorem ent_facts {m n : Nat} {e : D} (h : GoodE m n e) : ∃ w, ixD e (.int 0) = some (.str w) ∧ eqD (.str w) (.str "wrong") = some (.bool (isWr e)) ∧ neD (.str w) (.str "wrong") = some (.bool (!isWr e)) ∧ pureD e = true ∧ (isWr e = true → ixD e (.int 1) = some (.int (wkN e : Int))) := by
  rcases h with ⟨i, s, rfl, h1, h2⟩ | ⟨j, s, rfl, h1, h2⟩ | ⟨i, j, v, rfl, h1, h2, h3⟩ | ⟨k, rfl, h1⟩
  · exact ⟨"row", by simp, by simp [isWr], by simp [isWr], rfl, fun h => by simp [isWr] at h⟩
  · exact ⟨"column", by simp, by simp [isWr], by simp [isWr], rfl, fun h => by simp [isWr] at h⟩
  · exact ⟨"cell", by simp, by simp [isWr], by simp [isWr], rfl, fun h => by simp [isWr] at h⟩
  · exact ⟨"wrong", by simp, by simp [isWr], by simp [isWr], rfl, fun _ => by simp [wkN]; omega⟩
structure WS where
  nm : List Nat
  rt : List Nat
  wr : List Nat
def gives (es : List D) (s : WS) (p : Nat) : Bool := decide (wkN (es.getD p .none) < p) && (!isWr (es.getD (wkN (es.getD p .none)) .none) && !decide (wkN (es.getD p .none) ∈ s.nm))
def wstep (es : List D) (s : WS) (p : Nat) : WS := if isWr (es.getD p .none) = true then (if gives es s p = true then ⟨s.nm ++ [wkN (es.getD p .none)], s.rt ++ [p], s.wr⟩ else ⟨s.nm, s.rt, s.wr ++ [p]⟩) else s
def wst (es : List D) : Nat → WS
  | 0 => ⟨[], [], []⟩
  | p + 1 => wstep es (wst es p) p
theorem wst_facts (es : List D) : ∀ p, (∀ k ∈ (wst es p).rt, k < p) ∧ (∀ k ∈ (wst es p).wr, k < p) ∧ (wst es p).rt.length ≤ p ∧ (wst es p).nm.length ≤ p ∧ (wst es p).wr.length ≤ p ∧ (wst es p).wr = (List.range p).filter fun k => isWr (es.getD k .none) && !decide (k ∈ (wst es p).rt)
  | 0 => ⟨fun k h => (nomatch h), fun k h => (nomatch h), by simp [wst], by simp [wst], by simp [wst], by simp [wst]⟩
  | p + 1 => by
    obtain ⟨a, b, c, d, e, f⟩ := wst_facts es p
    have hnot : p ∉ (wst es p).rt := fun h => Nat.lt_irrefl _ (a p h)
    have hfil : ∀ (q : Nat → Bool), (∀ k, k < p → q k = (isWr (es.getD k .none) && !decide (k ∈ (wst es p).rt))) → (List.range p).filter q = (wst es p).wr := fun q hq => by
      rw [f]
      apply List.filter_congr
      intro k hk
      exact hq k (List.mem_range.mp hk)
    unfold wst wstep
    by_cases h1 : isWr (es.getD p .none) = true
    · rw [if_pos h1]
      by_cases h2 : gives es (wst es p) p = true
      · rw [if_pos h2]
        refine ⟨fun k hk => ?_, fun k hk => Nat.lt_succ_of_lt (b k hk), by simp; omega, by simp; omega, Nat.le_succ_of_le e, ?_⟩
        · rcases List.mem_append.mp hk with hk | hk
          · exact Nat.lt_succ_of_lt (a k hk)
          · simp at hk; omega
        · rw [List.range_succ, List.filter_append, hfil _ fun k hk => by
            have : k ≠ p := by omega
            simp [this]]
          simp
      · rw [if_neg h2]
        refine ⟨fun k hk => Nat.lt_succ_of_lt (a k hk), fun k hk => ?_, Nat.le_succ_of_le c, Nat.le_succ_of_le d, by simp; omega, ?_⟩
        · rcases List.mem_append.mp hk with hk | hk
          · exact Nat.lt_succ_of_lt (b k hk)
          · simp at hk; omega
        · rw [List.range_succ, List.filter_append, hfil _ fun k hk => rfl]
          have hpos : (isWr (es.getD p .none) && !decide (p ∈ (wst es p).rt)) = true := by rw [h1, decide_eq_false hnot]; rfl
          have := List.filter_cons_of_pos (p := fun k => isWr (es.getD k .none) && !decide (k ∈ (wst es p).rt)) (l := []) hpos
          rw [List.filter_nil] at this
          exact congrArg ((wst es p).wr ++ ·) this.symm
    · rw [if_neg h1]
      refine ⟨fun k hk => Nat.lt_succ_of_lt (a k hk), fun k hk => Nat.lt_succ_of_lt (b k hk), Nat.le_succ_of_le c, Nat.le_succ_of_le d, Nat.le_succ_of_le e, ?_⟩
      rw [List.range_succ, List.filter_append, hfil _ fun k hk => rfl]
      have hneg : ¬ (isWr (es.getD p .none) && !decide (p ∈ (wst es p).rt)) = true := by
        have : isWr (es.getD p .none) = false := by simpa using h1
        rw [this]; simp
      have := List.filter_cons_of_neg (p := fun k => isWr (es.getD k .none) && !decide (k ∈ (wst es p).rt)) (l := []) hneg
      rw [this, List.filter_nil, List.append_nil]
def AllG (m n : Nat) (es : List D) : Prop := ∀ e ∈ es, GoodE m n e
theorem getD_get {es : List D} {k : Nat} (h : k < es.length) : es.getD k .none = es[k] := by
  rw [List.getD_eq_getElem?_getD, List.getElem?_eq_getElem h]; rfl
abbrev bWd : Rh → Out := sIf (lift (pand (qB (o2 eqD (o2 ixD (getS 4) (cst (.int 0))) (cst (.str "wrong")))) (pand (qB (o2 ltD (o2 ixD (getS 4) (cst (.int 1))) (getS 3))) (pand (qB (o2 neD (o2 ixD (o2 ixD (getS 0) (o2 ixD (getS 4) (cst (.int 1)))) (cst (.int 0))) (cst (.str "wrong")))) (qB (o2 dninD (o2 ixD (getS 4) (cst (.int 1))) (getS 2))))))) (sSeq (sDput 1 (gE (getS 3)) (lift (cst (.bool true)))) (sDput 2 (gE (o2 ixD (getS 4) (cst (.int 1)))) (lift (cst (.bool true))))) (sNil)
def wdR (es : List D) (s : WS) (x3 x4 : Option Cl) : Rh := [some ⟨.tuple es, .ro⟩, some ⟨setD s.rt, .own⟩, some ⟨setD s.nm, .own⟩, x3, x4]
theorem wd_step {m n : Nat} {es : List D} (hg : AllG m n es) (hl : es.length ≤ 1000) {p : Nat} (hp : p < es.length) :
    bWd (wdR es (wst es p) (some ⟨.int (p : Int), .ro⟩) (some ⟨es[p], .ro⟩)) = .nx (wdR es (wst es (p + 1)) (some ⟨.int (p : Int), .ro⟩) (some ⟨es[p], .ro⟩)) := by
  obtain ⟨w, f1, f2, f3, f4, f5⟩ := ent_facts (hg _ (List.getElem_mem hp))
  obtain ⟨a, b, c, d, e, f⟩ := wst_facts es p
  have hE : es.getD p .none = es[p] := getD_get hp
  have hnext : wst es (p + 1) = wstep es (wst es p) p := rfl
  rw [hnext]
  unfold wstep gives
  rw [hE]
  generalize wst es p = s at *
  generalize hq : es[p] = q at *
  cases h1 : isWr q
  · rw [h1] at f2
    simp [wdR, f1, f2]
  · have g1 := f5 h1
    rw [h1] at f2
    by_cases h2 : wkN q < p
    · have h2' : decide ((wkN q : Int) < (p : Int)) = true := decide_eq_true (by omega)
      have hk : wkN q < es.length := by omega
      obtain ⟨w2, k1, k2, k3, k4, k5⟩ := ent_facts (hg _ (List.getElem_mem hk))
      have x1 : ixD (.tuple es) (.int (wkN q : Int)) = some es[wkN q] := ixT (List.getElem?_eq_getElem hk)
      have hE2 : es.getD (wkN q) .none = es[wkN q] := getD_get hk
      rw [hE2]
      have hdn := dnin_set s.nm (wkN q)
      cases h3 : isWr es[wkN q]
      · rw [h3] at k3
        by_cases h4 : wkN q ∈ s.nm
        · simp [wdR, f1, f2, g1, h2', x1, k1, k3, hdn, h4, h2]
        · have q1 := dput_set (ks := s.rt) (k := p) (fun h => Nat.lt_irrefl _ (a p h)) (by omega)
          have q2 := dput_set (ks := s.nm) (k := wkN q) h4 (by omega)
          simp [wdR, f1, f2, g1, h2', x1, k1, k3, hdn, h4, h2]
          simp [setD, q1, q2, g1]
      · rw [h3] at k3
        simp [wdR, f1, f2, g1, h2', x1, k1, k3, h2]
    · have h2' : decide ((wkN q : Int) < (p : Int)) = false := decide_eq_false (by omega)
      simp [wdR, f1, f2, g1, h2', h2]
end T70

set_option Elab.async false
set_option linter.all false
set_option maxRecDepth 100000
set_option maxHeartbeats 4000000
namespace T70
open PySem PySem.Spec PyProof.Rows L2 PV
theorem u1_of {fn : D → Option D} {h : Rh → Option D} {ρ : Rh} {d z : D} (e : h ρ = some d) (e2 : fn d = some z) : u1 fn h ρ = some z := by
  simp only [u1_e, e, Option.bind_some, e2]
theorem enum_get {es : List D} {k : Nat} (h : k < (enumD es).length) : (enumD es)[k] = .tuple [.int (k : Int), es[k]'(by rw [enumD_len] at h; exact h)] := by
  simp [enumD]
theorem pure_all {m n : Nat} {es : List D} (hg : AllG m n es) : pureL es = true := pureL_of fun e he => (good_entry (hg e he)).2
theorem withdrawn_ok {m n : Nat} {es : List D} (hg : AllG m n es) (hl : es.length ≤ 1000) : F_withdrawn [.tuple es] = some (.tuple [setD (wst es es.length).rt, setD (wst es es.length).nm]) := by
  have loop : Nxs (sFor [0] (.tp [.nm 3, .nm 4]) (lift (iE (getS 0))) bWd (wdR es ⟨[], [], []⟩ none none)) fun ρ => ∃ x3 x4, ρ = wdR es (wst es es.length) x3 x4 := by
    refine sFor_of (ds := enumD es) (ρ1 := wdR es ⟨[], [], []⟩ none none) (ρ2 := wdR es ⟨[], [], []⟩ none none) (by simp [wdR]) (by simp [demS, wdR]) ?_
    obtain ⟨ρ, e, x3, x4, h3, h4, rfl⟩ := forS_lst (p := .tp [.nm 3, .nm 4]) (b := bWd) (fun k ρ => ∃ x3 x4, NP x3 ∧ NP x4 ∧ ρ = wdR es (wst es k) x3 x4) (enumD es) (wdR es ⟨[], [], []⟩ none none) ⟨none, none, NP.none, NP.none, rfl⟩ (fun k hk ρ hI => by
      obtain ⟨x3, x4, h3, h4, rfl⟩ := hI
      have hk' : k < es.length := by rw [enumD_len] at hk; exact hk
      rw [enum_get hk]
      refine ⟨wdR es (wst es k) (some ⟨.int (k : Int), .ro⟩) (some ⟨es[k], .ro⟩), by simp [wdR, setS_np h3, setS_np h4], _, wd_step hg hl hk', _, _, NP.ro, NP.ro, rfl⟩)
    rw [enumD_len]at *
    exact ⟨_, e, x3, x4, rfl⟩
  obtain ⟨ρ, e, x3, x4, rfl⟩ := loop
  have hB : B_withdrawn [some ⟨.tuple es, .ro⟩, none, none, none, none] = .rt (.tuple [setD (wst es es.length).rt, setD (wst es es.length).nm]) [some ⟨.tuple es, .ro⟩, none, none, x3, x4] := by
    unfold B_withdrawn
    rw [sSeq_e]
    have s1 : sSet (.nm 1) (lift (cst (.dict []))) [some ⟨.tuple es, .ro⟩, none, none, none, none] = .nx [some ⟨.tuple es, .ro⟩, some ⟨.dict [], .own⟩, none, none, none] := by simp
    simp only [s1]
    rw [sSeq_e]
    have s2 : sSet (.nm 2) (lift (cst (.dict []))) [some ⟨.tuple es, .ro⟩, some ⟨.dict [], .own⟩, none, none, none] = .nx (wdR es ⟨[], [], []⟩ none none) := by simp [wdR, setD]
    simp only [s2]
    rw [sSeq_e]
    simp only [e]
    refine sRet_of ?_
    simp [wdR, setD]
  exact runF_rt (ρ0 := [some ⟨.tuple es, .ro⟩, none, none, none, none]) rfl rfl hB
/-- the numbers that tell -/
def nums (es : List D) : List Nat := (List.range es.length).filter fun k => !isWr (es.getD k .none) && !decide (k ∈ (wst es es.length).nm)
def natsD (ks : List Nat) : List D := ks.map fun (k : Nat) => PyData.int (k : Int)
theorem pure_nats (ks : List Nat) : pureL (natsD ks) = true := pureL_of fun d hd => by obtain ⟨k, _, rfl⟩ := List.mem_map.mp hd; rfl
theorem fm_filter (l : List Nat) (p : Nat → Bool) : (l.filterMap fun k => if p k = true then some (PyData.int (k : Int)) else none) = natsD (l.filter p) := by
  induction l with
  | nil => rfl
  | cons a l ih =>
    rw [List.filterMap_cons, List.filter_cons]
    cases h : p a
    · simp [ih]
    · simp [ih, natsD]
theorem story_ok {m n : Nat} {es : List D} (hg : AllG m n es) (hl : es.length ≤ 1000) : F_story [.tuple [.int m, .int n, .tuple es]] = some (.tuple (natsD (nums es))) := by
  have hp := pure_all hg
  have key : lcS (stepE (.tp [.nm 3, .nm 4]) (pand (qB (o2 neD (o2 ixD (getS 4) (cst (.int 0))) (cst (.str "wrong")))) (qB (o2 dninD (getS 3) (getS 2)))) (gE (getS 3)) [some ⟨.tuple [.int m, .int n, .tuple es], .ro⟩, some ⟨.tuple es, .own⟩, some ⟨setD (wst es es.length).nm, .own⟩, none, none]) (enumD es) = some (natsD (nums es)) := by
    rw [enumD_range]
    refine (lcS_fm (g := fun k => if (!isWr (es.getD k .none) && !decide (k ∈ (wst es es.length).nm)) = true then some (PyData.int (k : Int)) else none) fun k hk => ?_).trans (congrArg some (fm_filter _ _))
    have hk' : k < es.length := List.mem_range.mp hk
    obtain ⟨w, f1, f2, f3, f4, f5⟩ := ent_facts (hg _ (List.getElem_mem hk'))
    have hdn := dnin_set (wst es es.length).nm k
    rw [getD_get hk']
    cases h1 : isWr es[k]
    · rw [h1] at f3
      by_cases h2 : k ∈ (wst es es.length).nm <;> simp [f1, f3, hdn, h2]
    · rw [h1] at f3
      simp [f1, f3]
  have keyE : eLc (.tp [.nm 3, .nm 4]) [3, 4] (iE (getS 1)) (pand (qB (o2 neD (o2 ixD (getS 4) (cst (.int 0))) (cst (.str "wrong")))) (qB (o2 dninD (getS 3) (getS 2)))) (gE (getS 3)) [some ⟨.tuple [.int m, .int n, .tuple es], .ro⟩, some ⟨.tuple es, .own⟩, some ⟨setD (wst es es.length).nm, .own⟩, none, none] = some (.list (natsD (nums es))) :=
    eLc_of (ds := enumD es) (by simp) (by rw [enumD_len]; exact Nat.le_trans hl (by decide)) key
  have ht : tupD (.list (natsD (nums es))) = some (.tuple (natsD (nums es))) := by simp only [tupD, pure_nats, if_true]
  have hB : B_story [some ⟨.tuple [.int m, .int n, .tuple es], .ro⟩, none, none, none, none] = .rt (.tuple (natsD (nums es))) [some ⟨.tuple [.int m, .int n, .tuple es], .ro⟩, some ⟨.tuple es, .own⟩, some ⟨setD (wst es es.length).nm, .own⟩, none, none] := by
    unfold B_story
    rw [sSeq_e]
    have s1 : sSet (.nm 1) (lift (gE (o2 ixD (getS 0) (cst (.int 2))))) [some ⟨.tuple [.int m, .int n, .tuple es], .ro⟩, none, none, none, none] = .nx [some ⟨.tuple [.int m, .int n, .tuple es], .ro⟩, some ⟨.tuple es, .own⟩, none, none, none] := by simp [hp]
    simp only [s1]
    rw [sSeq_e]
    have s2 : sSet (.nm 2) (lift (o2 ixD (fnE F_withdrawn (aCons (getS 1) aNil)) (cst (.int 1)))) [some ⟨.tuple [.int m, .int n, .tuple es], .ro⟩, some ⟨.tuple es, .own⟩, none, none, none] = .nx [some ⟨.tuple [.int m, .int n, .tuple es], .ro⟩, some ⟨.tuple es, .own⟩, some ⟨setD (wst es es.length).nm, .own⟩, none, none] := by simp [withdrawn_ok hg hl]
    simp only [s2]
    refine sRet_of ?_
    exact lift_of (u1_of keyE ht)
  exact runF_rt (ρ0 := [some ⟨.tuple [.int m, .int n, .tuple es], .ro⟩, none, none, none, none]) rfl rfl hB
end T70

set_option Elab.async false
set_option linter.all false
set_option maxRecDepth 100000
set_option maxHeartbeats 4000000
namespace T70
open PySem PySem.Spec PyProof.Rows L2 PV
def etk : D → List Key
  | .tuple ds => (sKeys ds.dropLast).getD []
  | _ => []
def eiv : D → Int
  | .tuple ds => match ds.getLast? with
    | some (.int v) => v
    | _ => 0
  | _ => 0
theorem ent_told {m n : Nat} {e : D} (h : GoodE m n e) (hw : isWr e = false) : PV.cutS e none (some (-1)) = some (tD (etk e)) ∧ ixD e (.int (-1)) = some (.int (eiv e)) := by
  rcases h with ⟨i, s, rfl, h1, h2⟩ | ⟨j, s, rfl, h1, h2⟩ | ⟨i, j, v, rfl, h1, h2, h3⟩ | ⟨k, rfl, h1⟩
  · exact ⟨by rw [cutT_ok (by simp), cutD_init]; rfl, rfl⟩
  · exact ⟨by rw [cutT_ok (by simp), cutD_init]; rfl, rfl⟩
  · exact ⟨by rw [cutT_ok (by simp), cutD_init]; rfl, rfl⟩
  · simp [isWr] at hw
def tstep (es : List D) (s : TK × List Nat) (k : Nat) : TK × List Nat := if (tgt s.1 (etk (es.getD k .none))).isSome = true then (s.1, s.2 ++ [k]) else (s.1 ++ [(etk (es.getD k .none), eiv (es.getD k .none))], s.2)
def tst (es : List D) (ks : List Nat) : TK × List Nat := ks.foldl (tstep es) ([], [])
def Tell (es : List D) (ks : List Nat) : Prop := ∀ k ∈ ks, k < es.length ∧ isWr (es.getD k .none) = false
theorem tst_len (es : List D) (ks : List Nat) : (tst es ks).1.length + (tst es ks).2.length = ks.length := by
  have go : ∀ (ks : List Nat) (s : TK × List Nat), (ks.foldl (tstep es) s).1.length + (ks.foldl (tstep es) s).2.length = s.1.length + s.2.length + ks.length := by
    intro ks
    induction ks with
    | nil => intro s; simp
    | cons k ks ih =>
      intro s
      rw [List.foldl_cons, ih]
      unfold tstep
      split <;> simp <;> omega
  have := go ks ([], [])
  simpa [tst] using this
abbrev bTo : Rh → Out := sSeq (sSet (.nm 5) (lift (slE (o2 ixD (getS 0) (getS 4)) opn (ops (u1 negI (cst (.int 1)))))))
    (sIf (lift (qB (o2 dinD (getS 5) (getS 2)))) (sDrop (appendV 3 (lift (gE (getS 4))))) (sDput 2 (gE (getS 5)) (lift (gE (o2 ixD (o2 ixD (getS 0) (getS 4)) (u1 negI (cst (.int 1))))))))
def toR (es : List D) (ks : D) (s : TK × List Nat) (x4 x5 : Option Cl) : Rh := [some ⟨.tuple es, .ro⟩, some ⟨ks, .ro⟩, some ⟨.dict (toldKV s.1), .own⟩, some ⟨.list (natsD s.2), .own⟩, x4, x5]
theorem to_step {m n : Nat} {es : List D} (hg : AllG m n es) {ks : D} {s : TK × List Nat} {k : Nat} (hk : k < es.length) (hw : isWr (es.getD k .none) = false) (h1 : s.1.length < 100000) (h2 : s.2.length < 100000) {x5 : Option Cl} (h5 : NP x5) :
    ∃ x5', NP x5' ∧ bTo (toR es ks s (some ⟨.int (k : Int), .ro⟩) x5) = .nx (toR es ks (tstep es s k) (some ⟨.int (k : Int), .ro⟩) x5') := by
  have hE := getD_get hk
  rw [hE] at hw
  obtain ⟨c1, c2⟩ := ent_told (hg _ (List.getElem_mem hk)) hw
  have x1 : ixD (.tuple es) (.int (k : Int)) = some es[k] := ixT (List.getElem?_eq_getElem hk)
  have d1 := din_told s.1 (etk es[k])
  refine ⟨some ⟨tD (etk es[k]), .own⟩, NP.own, ?_⟩
  have hpk : pureD (tD (etk es[k])) = true := by
    unfold tD
    rw [pureD_tup]
    exact pureL_of fun d hd => by obtain ⟨q, _, rfl⟩ := List.mem_map.mp hd; cases q <;> rfl
  unfold tstep
  rw [hE]
  have hset : sSet (.nm 5) (lift (slE (o2 ixD (getS 0) (getS 4)) opn (ops (u1 negI (cst (.int 1)))))) (toR es ks s (some ⟨.int (k : Int), .ro⟩) x5) = .nx (toR es ks s (some ⟨.int (k : Int), .ro⟩) (some ⟨tD (etk es[k]), .own⟩)) := by
    simp [toR, x1, negI, c1, setS_np h5]
  show sSeq _ _ _ = _
  rw [sSeq_e]
  simp only [hset]
  cases hs : tgt s.1 (etk es[k]) with
  | some v =>
    rw [hs] at d1
    simp [toR, d1, lstAt, natsD, show s.2.length + 1 < 1000000 by omega]
  | none =>
    rw [hs] at d1
    have d2 := dput_told (v := eiv es[k]) hs (by omega)
    simp [toR, d1, hpk, x1, negI, c2, d2]
theorem toldby_ok {m n : Nat} {es : List D} (hg : AllG m n es) {ks : List Nat} (hT : Tell es ks) (hl : ks.length ≤ 1000) : F_told_by [.tuple es, .tuple (natsD ks)] = some (.tuple [.dict (toldKV (tst es ks).1), .list (natsD (tst es ks).2)]) := by
  have loop : Nxs (sFor [1] (.nm 4) (lift (iS (getS 1))) bTo (toR es (.tuple (natsD ks)) ([], []) none none)) fun ρ => ∃ x4 x5, ρ = toR es (.tuple (natsD ks)) (tst es ks) x4 x5 := by
    refine sFor_of (ds := natsD ks) (ρ1 := toR es (.tuple (natsD ks)) ([], []) none none) (ρ2 := toR es (.tuple (natsD ks)) ([], []) none none) (by simp [toR]) (by simp [demS, toR]) ?_
    obtain ⟨ρ, e, x4, x5, h4, h5, rfl⟩ := forS_lst (p := .nm 4) (b := bTo) (fun k ρ => ∃ x4 x5, NP x4 ∧ NP x5 ∧ ρ = toR es (.tuple (natsD ks)) (tst es (ks.take k)) x4 x5) (natsD ks) (toR es (.tuple (natsD ks)) ([], []) none none) ⟨none, none, NP.none, NP.none, rfl⟩ (fun k hk ρ hI => by
      obtain ⟨x4, x5, h4, h5, rfl⟩ := hI
      have hk' : k < ks.length := by simpa [natsD] using hk
      have eL : (natsD ks)[k] = .int ((ks[k] : Nat) : Int) := by simp [natsD]
      obtain ⟨t1, t2⟩ := hT ks[k] (List.getElem_mem hk')
      have hlen := tst_len es (ks.take k)
      rw [List.length_take] at hlen
      obtain ⟨x5', n5, e5⟩ := to_step (ks := .tuple (natsD ks)) (s := tst es (ks.take k)) hg t1 t2 (by omega) (by omega) h5
      rw [eL]
      refine ⟨toR es (.tuple (natsD ks)) (tst es (ks.take k)) (some ⟨.int ((ks[k] : Nat) : Int), .ro⟩) x5, by simp [toR, setS_np h4], _, e5, some ⟨.int ((ks[k] : Nat) : Int), .ro⟩, x5', NP.ro, n5, ?_⟩
      rw [show tst es (ks.take (k + 1)) = tstep es (tst es (ks.take k)) ks[k] from by
        unfold tst
        rw [List.take_succ_eq_append_getElem hk', List.foldl_append]; rfl])
    have hlen : (natsD ks).length = ks.length := by simp [natsD]
    rw [hlen, List.take_length] at e
    exact ⟨_, e, x4, x5, rfl⟩
  obtain ⟨ρ, e, x4, x5, rfl⟩ := loop
  have hB : ∃ ρ', B_told_by [some ⟨.tuple es, .ro⟩, some ⟨.tuple (natsD ks), .ro⟩, none, none, none, none] = .rt (.tuple [.dict (toldKV (tst es ks).1), .list (natsD (tst es ks).2)]) ρ' := by
    unfold B_told_by
    rw [sSeq_e]
    have s1 : sSet (.nm 2) (lift (cst (.dict [(.none, .none)]))) [some ⟨.tuple es, .ro⟩, some ⟨.tuple (natsD ks), .ro⟩, none, none, none, none] = .nx [some ⟨.tuple es, .ro⟩, some ⟨.tuple (natsD ks), .ro⟩, some ⟨.dict [(.none, .none)], .own⟩, none, none, none] := by simp
    simp only [s1]
    rw [sSeq_e]
    have s2 : sSet (.nm 3) (lift (mkL aNil)) [some ⟨.tuple es, .ro⟩, some ⟨.tuple (natsD ks), .ro⟩, some ⟨.dict [(.none, .none)], .own⟩, none, none, none] = .nx (toR es (.tuple (natsD ks)) ([], []) none none) := by simp [toR, toldKV, natsD]
    simp only [s2]
    rw [sSeq_e]
    simp only [e]
    refine ⟨[some ⟨.tuple es, .ro⟩, some ⟨.tuple (natsD ks), .ro⟩, none, none, x4, x5], sRet_of ?_⟩
    simp [toR]
  obtain ⟨ρ', hB⟩ := hB
  exact runF_rt (ρ0 := [some ⟨.tuple es, .ro⟩, some ⟨.tuple (natsD ks), .ro⟩, none, none, none, none]) rfl rfl hB
end T70

set_option Elab.async false
set_option linter.all false
set_option maxRecDepth 100000
set_option maxHeartbeats 4000000
namespace T70
open PySem PySem.Spec PyProof.Rows L2 PV
theorem ok_nats (ks : List Nat) : okSort (natsD ks) = true := by
  unfold okSort
  have h1 := pure_nats ks
  have hm : ∀ d ∈ natsD ks, ∃ k : Nat, d = .int (k : Int) := fun d hd => by obtain ⟨k, _, rfl⟩ := List.mem_map.mp hd; exact ⟨k, rfl⟩
  have h2 : (natsD ks).all (fun d => (natsD ks).all fun e => PySem.W.alike d e) = true := by
    rw [List.all_eq_true]; intro d hd
    rw [List.all_eq_true]; intro e he
    obtain ⟨a, rfl⟩ := hm d hd
    obtain ⟨b, rfl⟩ := hm e he
    simp [PySem.W.alike]
  have h4 : ((natsD ks).all fun d => decide (d.depth ≤ 40)) = true := by
    rw [List.all_eq_true]; intro d hd
    obtain ⟨a, rfl⟩ := hm d hd
    simp [PyData.depth]
  simp only [h1, h2, h4, Bool.and_true, Bool.true_and]
  rw [Bool.or_eq_true]
  right
  rw [List.all_eq_true]
  intro d hd
  obtain ⟨a, rfl⟩ := hm d hd
  rfl
theorem nums_tell {m n : Nat} {es : List D} (hg : AllG m n es) : Tell es (nums es) := fun k hk => by
  unfold nums at hk
  rw [List.mem_filter] at hk
  refine ⟨List.mem_range.mp hk.1, ?_⟩
  have := hk.2
  simp only [Bool.and_eq_true, Bool.not_eq_true'] at this
  exact this.1
theorem nums_len (es : List D) : (nums es).length ≤ es.length := by
  unfold nums
  refine Nat.le_trans (List.length_filter_le ..) ?_
  rw [List.length_range]; exact Nat.le_refl _
/-- the numbers that are faults, in order of their finding -/
def flts (es : List D) : List Nat := (tst es (nums es)).2 ++ (wst es es.length).wr
theorem nats_app (a b : List Nat) : natsD (a ++ b) = natsD a ++ natsD b := by simp [natsD]
theorem nats_len (a : List Nat) : (natsD a).length = a.length := by simp [natsD]
theorem sort_pure {ds : List D} (h : pureL ds = true) (r : Bool) : pureL (sortD r ds) = true := by
  rw [pureL_iff] at *
  intro d hd
  unfold sortD at hd
  exact h d ((List.mergeSort_perm ds _).mem_iff.mp hd)
theorem faults_ok {m n : Nat} {es : List D} (hg : AllG m n es) (hl : es.length ≤ 1000) : F_faults [.tuple [.int m, .int n, .tuple es]] = some (.tuple (sortD false (natsD (flts es)))) := by
  have hp := pure_all hg
  have hw := (wst_facts es es.length).2.2.2.2.2
  have hwl := (wst_facts es es.length).2.2.2.2.1
  have hT := nums_tell hg
  have hnl := nums_len es
  have htl := tst_len es (nums es)
  have key : lcS (stepE (.tp [.nm 4, .nm 5]) (pand (qB (o2 eqD (o2 ixD (getS 5) (cst (.int 0))) (cst (.str "wrong")))) (qB (o2 dninD (getS 4) (getS 2)))) (gE (getS 4)) [some ⟨.tuple [.int m, .int n, .tuple es], .ro⟩, some ⟨.tuple es, .own⟩, some ⟨setD (wst es es.length).rt, .own⟩, some ⟨.list (natsD (tst es (nums es)).2), .own⟩, none, none]) (enumD es) = some (natsD (wst es es.length).wr) := by
    rw [hw, enumD_range]
    refine (lcS_fm (g := fun k => if (isWr (es.getD k .none) && !decide (k ∈ (wst es es.length).rt)) = true then some (PyData.int (k : Int)) else none) fun k hk => ?_).trans (congrArg some (fm_filter _ _))
    have hk' : k < es.length := List.mem_range.mp hk
    obtain ⟨w, f1, f2, f3, f4, f5⟩ := ent_facts (hg _ (List.getElem_mem hk'))
    have hdn := dnin_set (wst es es.length).rt k
    rw [getD_get hk']
    cases h1 : isWr es[k]
    · rw [h1] at f2
      simp [f1, f2]
    · rw [h1] at f2
      by_cases h2 : k ∈ (wst es es.length).rt <;> simp [f1, f2, hdn, h2]
  have keyE : eLc (.tp [.nm 4, .nm 5]) [4, 5] (iE (getS 1)) (pand (qB (o2 eqD (o2 ixD (getS 5) (cst (.int 0))) (cst (.str "wrong")))) (qB (o2 dninD (getS 4) (getS 2)))) (gE (getS 4)) [some ⟨.tuple [.int m, .int n, .tuple es], .ro⟩, some ⟨.tuple es, .own⟩, some ⟨setD (wst es es.length).rt, .own⟩, some ⟨.list (natsD (tst es (nums es)).2), .own⟩, none, none] = some (.list (natsD (wst es es.length).wr)) :=
    eLc_of (ds := enumD es) (by simp) (by rw [enumD_len]; exact Nat.le_trans hl (by decide)) key
  have hB : B_faults [some ⟨.tuple [.int m, .int n, .tuple es], .ro⟩, none, none, none, none, none] = .rt (.tuple (sortD false (natsD (flts es)))) [some ⟨.tuple [.int m, .int n, .tuple es], .ro⟩, some ⟨.tuple es, .own⟩, some ⟨setD (wst es es.length).rt, .own⟩, some ⟨.list (natsD (flts es)), .own⟩, none, none] := by
    unfold B_faults
    rw [sSeq_e]
    have s1 : sSet (.nm 1) (lift (gE (o2 ixD (getS 0) (cst (.int 2))))) [some ⟨.tuple [.int m, .int n, .tuple es], .ro⟩, none, none, none, none, none] = .nx [some ⟨.tuple [.int m, .int n, .tuple es], .ro⟩, some ⟨.tuple es, .own⟩, none, none, none, none] := by simp [hp]
    simp only [s1]
    rw [sSeq_e]
    have s2 : sSet (.nm 2) (lift (o2 ixD (fnE F_withdrawn (aCons (getS 1) aNil)) (cst (.int 0)))) [some ⟨.tuple [.int m, .int n, .tuple es], .ro⟩, some ⟨.tuple es, .own⟩, none, none, none, none] = .nx [some ⟨.tuple [.int m, .int n, .tuple es], .ro⟩, some ⟨.tuple es, .own⟩, some ⟨setD (wst es es.length).rt, .own⟩, none, none, none] := by simp [withdrawn_ok hg hl]
    simp only [s2]
    rw [sSeq_e]
    have s3 : sSet (.nm 3) (lift (o2 ixD (fnE F_told_by (aCons (getS 1) (aCons (fnE F_story (aCons (getS 0) aNil)) aNil))) (cst (.int 1)))) [some ⟨.tuple [.int m, .int n, .tuple es], .ro⟩, some ⟨.tuple es, .own⟩, some ⟨setD (wst es es.length).rt, .own⟩, none, none, none] = .nx [some ⟨.tuple [.int m, .int n, .tuple es], .ro⟩, some ⟨.tuple es, .own⟩, some ⟨setD (wst es es.length).rt, .own⟩, some ⟨.list (natsD (tst es (nums es)).2), .own⟩, none, none] := by
      simp [story_ok hg hl, toldby_ok hg hT (by omega)]
    simp only [s3]
    rw [sSeq_e]
    have e4 : extendV 3 (lift (eLc (.tp [.nm 4, .nm 5]) [4, 5] (iE (getS 1)) (pand (qB (o2 eqD (o2 ixD (getS 5) (cst (.int 0))) (cst (.str "wrong")))) (qB (o2 dninD (getS 4) (getS 2)))) (gE (getS 4)))) [some ⟨.tuple [.int m, .int n, .tuple es], .ro⟩, some ⟨.tuple es, .own⟩, some ⟨setD (wst es es.length).rt, .own⟩, some ⟨.list (natsD (tst es (nums es)).2), .own⟩, none, none] = some (.none, [some ⟨.tuple [.int m, .int n, .tuple es], .ro⟩, some ⟨.tuple es, .own⟩, some ⟨setD (wst es es.length).rt, .own⟩, some ⟨.list (natsD (flts es)), .own⟩, none, none]) := by
      have hl2 := lift_of keyE
      unfold extendV
      simp only [hl2]
      have hlen : (natsD (tst es (nums es)).2).length + (natsD (wst es es.length).wr).length < 1000000 := by rw [nats_len, nats_len]; omega
      simp [lstAt, hlen, flts, nats_app]
    have s4 : sDrop (extendV 3 (lift (eLc (.tp [.nm 4, .nm 5]) [4, 5] (iE (getS 1)) (pand (qB (o2 eqD (o2 ixD (getS 5) (cst (.int 0))) (cst (.str "wrong")))) (qB (o2 dninD (getS 4) (getS 2)))) (gE (getS 4))))) [some ⟨.tuple [.int m, .int n, .tuple es], .ro⟩, some ⟨.tuple es, .own⟩, some ⟨setD (wst es es.length).rt, .own⟩, some ⟨.list (natsD (tst es (nums es)).2), .own⟩, none, none] = .nx [some ⟨.tuple [.int m, .int n, .tuple es], .ro⟩, some ⟨.tuple es, .own⟩, some ⟨setD (wst es es.length).rt, .own⟩, some ⟨.list (natsD (flts es)), .own⟩, none, none] := by
      rw [sDrop_e]; simp only [e4]
    simp only [s4]
    refine sRet_of (lift_of (u1_of (d := .list (sortD false (natsD (flts es)))) ?_ ?_))
    · simp [sortF, ok_nats]
    · simp only [tupD, sort_pure (pure_nats _), if_true]
  exact runF_rt (ρ0 := [some ⟨.tuple [.int m, .int n, .tuple es], .ro⟩, none, none, none, none, none]) rfl rfl hB
end T70

set_option Elab.async false
set_option linter.all false
set_option maxRecDepth 100000
set_option maxHeartbeats 4000000
namespace T70
open PySem PySem.Spec PyProof.Rows L2 PV
/-! ### _law_same of one and the same -/
inductive Pl : Nat → D → Prop
  | int {k : Nat} (i : Int) : Pl k (.int i)
  | none {k : Nat} : Pl k .none
  | bool {k : Nat} (b : Bool) : Pl k (.bool b)
  | tup {k : Nat} {ds : List D} : ds.length ≤ 1000000 → (∀ d ∈ ds, Pl k d) → Pl (k + 1) (.tuple ds)
theorem same_refl : ∀ (j : Nat) (d : D), Pl j d → R__law_same (j + 1) [d, d] = some (.bool true)
  | j, .int i, _ => by simp [R__law_same, B__law_same, runP, rho0]
  | j, .none, _ => by simp [R__law_same, B__law_same, runP, rho0, PV.isNon]
  | j, .bool b, _ => by simp [R__law_same, B__law_same, runP, rho0]
  | j, .str s, h => by cases h
  | j, .list ds, h => by cases h
  | j, .dict ds, h => by cases h
  | 0, .tuple ds, h => by cases h
  | j + 1, .tuple ds, h => by
    cases h with
    | tup hl hd =>
      have key : lcS (stepE (.nm 2) tAll (fnE (R__law_same (j + 1)) (aCons (o2 ixD (getS 0) (getS 2)) (aCons (o2 ixD (getS 1) (getS 2)) aNil))) [some ⟨.tuple ds, .ro⟩, some ⟨.tuple ds, .ro⟩, none]) (rangeD 0 ds.length) = some ((List.range ds.length).map fun _ => .bool true) := by
        refine lcS_mapM fun k hk => ?_
        have hk' : k < ds.length := List.mem_range.mp hk
        have x1 : ixD (.tuple ds) (.int (k : Int)) = some ds[k] := ixT (List.getElem?_eq_getElem hk')
        have ih := same_refl j ds[k] (hd _ (List.getElem_mem hk'))
        generalize R__law_same (j + 1) = G at *
        simp [x1, ih]
      have hrn := rng1_nat ds.length hl
      generalize hG : R__law_same (j + 1) = G at *
      have keyE : eLc (.nm 2) [2] (iR1 (aCons (fnE lenF (aCons (getS 0) aNil)) aNil)) tAll (fnE G (aCons (o2 ixD (getS 0) (getS 2)) (aCons (o2 ixD (getS 1) (getS 2)) aNil))) [some ⟨.tuple ds, .ro⟩, some ⟨.tuple ds, .ro⟩, none] = some (.list ((List.range ds.length).map fun _ => .bool true)) :=
        eLc_of (ds := rangeD 0 ds.length) (by simp [hrn]) (by rw [rangeD_len]; exact hl) key
      have hall : allF [.list ((List.range ds.length).map fun _ => PyData.bool true)] = some (.bool true) := by
        rw [allF_map (g := fun _ : Nat => true)]; simp
      have hR : R__law_same (j + 1 + 1) = runF 2 3 (B__law_same G) := by rw [← hG]; rfl
      rw [hR]
      refine runF_rt (ρ0 := [some ⟨.tuple ds, .ro⟩, some ⟨.tuple ds, .ro⟩, none]) (ρ := [some ⟨.tuple ds, .ro⟩, some ⟨.tuple ds, .ro⟩, none]) rfl rfl ?_
      unfold B__law_same
      simp [-eLc_e, keyE, hall]
end T70

set_option Elab.async false
set_option linter.all false
set_option maxRecDepth 100000
set_option maxHeartbeats 4000000
namespace T70
open PySem PySem.Spec PyProof.Rows L2 PV
/-! ### cells in order -/
def lt3 (a b : Ce) : Bool := decide (a.1 < b.1) || (decide (a.1 = b.1) && (decide (a.2.1 < b.2.1) || (decide (a.2.1 = b.2.1) && decide (a.2.2 < b.2.2))))
theorem dataLt_ce (a b : Ce) : PySem.W.dataLt (ceD a) (ceD b) = lt3 a b := by
  obtain ⟨a1, a2, a3⟩ := a
  obtain ⟨b1, b2, b3⟩ := b
  unfold ceD
  rw [PySem.W.dataLt_tuple, PySem.W.dataLt_cons (by simp [PySem.W.alike]), PySem.W.dataLt_cons (by simp [PySem.W.alike]), PySem.W.dataLt_cons (by simp [PySem.W.alike])]
  simp only [PyData.eqv, PySem.W.dataLt_int, lt3]
  by_cases h1 : a1 = b1
  · subst h1
    by_cases h2 : a2 = b2
    · subst h2
      by_cases h3 : a3 = b3
      · subst h3; simp [PySem.W.keyToksAll]; first | rfl | exact PyProof.Rows.lex_irrefl _
      · simp [h3]
    · simp [h2]
  · simp [h1]
theorem le3_trans (a b c : Ce) : (!lt3 b a) = true → (!lt3 c b) = true → (!lt3 c a) = true := by
  obtain ⟨a1, a2, a3⟩ := a
  obtain ⟨b1, b2, b3⟩ := b
  obtain ⟨c1, c2, c3⟩ := c
  simp only [lt3, Bool.not_eq_true', Bool.or_eq_false_iff, Bool.and_eq_false_iff, decide_eq_false_iff_not]
  omega
theorem le3_total (a b : Ce) : ((!lt3 b a) || (!lt3 a b)) = true := by
  obtain ⟨a1, a2, a3⟩ := a
  obtain ⟨b1, b2, b3⟩ := b
  rw [Bool.or_eq_true]
  simp only [lt3, Bool.not_eq_true', Bool.or_eq_false_iff, Bool.and_eq_false_iff, decide_eq_false_iff_not]
  omega
theorem le3_anti (a b : Ce) (h1 : (!lt3 b a) = true) (h2 : (!lt3 a b) = true) : a = b := by
  obtain ⟨a1, a2, a3⟩ := a
  obtain ⟨b1, b2, b3⟩ := b
  simp only [lt3, Bool.not_eq_true', Bool.or_eq_false_iff, Bool.and_eq_false_iff, decide_eq_false_iff_not] at h1 h2
  simp only [Prod.mk.injEq]
  omega
theorem perm_eq {α : Type} {le : α → α → Bool} (anti : ∀ a b, le a b = true → le b a = true → a = b) : ∀ {l m : List α}, l.Perm m → l.Pairwise (fun a b => le a b = true) → m.Pairwise (fun a b => le a b = true) → l = m
  | [], m, h, _, _ => by rw [List.nil_perm.mp h]
  | a :: l, [], h, _, _ => by have := h.length_eq; simp at this
  | a :: l, b :: m, h, h1, h2 => by
    have p1 := List.pairwise_cons.mp h1
    have p2 := List.pairwise_cons.mp h2
    have hab : a = b := by
      have m1 : a ∈ b :: m := h.mem_iff.mp List.mem_cons_self
      have m2 : b ∈ a :: l := h.mem_iff.mpr List.mem_cons_self
      rcases List.mem_cons.mp m1 with e | e
      · exact e
      · rcases List.mem_cons.mp m2 with e2 | e2
        · exact e2.symm
        · exact anti _ _ (p1.1 b e2) (p2.1 a e)
    subst hab
    rw [perm_eq anti (List.Perm.cons_inv h) p1.2 p2.2]
theorem sort_cells {X Y : List Ce} (hX : X.Pairwise ltK) (hp : Y.Perm X) : sortD false (Y.map ceD) = X.map ceD := by
  unfold sortD
  have he : (Y.map ceD).mergeSort (PySem.W.dataLe false id) = (Y.mergeSort fun a b => !lt3 b a).map ceD := by
    rw [List.map_mergeSort]
    intro a _ b _
    rw [PySem.W.dataLe_eq]
    simp only [cond_false, id]
    rw [dataLt_ce]
  rw [he]
  congr 1
  refine perm_eq (le := fun a b => !lt3 b a) le3_anti ((List.mergeSort_perm Y _).trans hp) (List.pairwise_mergeSort (fun a b c => le3_trans a b c) (fun a b => le3_total a b) Y) ?_
  refine hX.imp fun {a b} h => ?_
  obtain ⟨a1, a2, a3⟩ := a
  obtain ⟨b1, b2, b3⟩ := b
  unfold ltK at h
  simp only [lt3, Bool.not_eq_true', Bool.or_eq_false_iff, Bool.and_eq_false_iff, decide_eq_false_iff_not]
  simp only at h
  omega
end T70

set_option Elab.async false
set_option linter.all false
set_option maxRecDepth 100000
set_option maxHeartbeats 4000000
namespace T70
open PySem PySem.Spec PyProof.Rows L2 PV
def kRow (i : Int) : List Key := [.inr "row", .inl i]
def kCol (i : Int) : List Key := [.inr "column", .inl i]
def kCell (i j : Int) : List Key := [.inr "cell", .inl i, .inl j]
def TkOk (m n : Nat) (p : List Key × Int) : Prop := (∃ i, p.1 = kRow i) ∨ (∃ j, p.1 = kCol j) ∨ ∃ i j, p.1 = kCell i j ∧ okC m n (i, j, p.2)
theorem ent_key {m n : Nat} {e : D} (h : GoodE m n e) (hw : isWr e = false) : TkOk m n (etk e, eiv e) := by
  rcases h with ⟨i, s, rfl, h1, h2⟩ | ⟨j, s, rfl, h1, h2⟩ | ⟨i, j, v, rfl, h1, h2, h3⟩ | ⟨k, rfl, h1⟩
  · exact .inl ⟨i, rfl⟩
  · exact .inr (.inl ⟨j, rfl⟩)
  · exact .inr (.inr ⟨i, j, rfl, h1, h2, by show v = 0 ∨ v = 1; omega⟩)
  · simp [isWr] at hw
theorem tst_ok {m n : Nat} {es : List D} (hg : AllG m n es) {ks : List Nat} (hT : Tell es ks) : (∀ p ∈ (tst es ks).1, TkOk m n p) ∧ ((tst es ks).1.map (·.1)).Nodup := by
  have go : ∀ (ks : List Nat) (s : TK × List Nat), Tell es ks → (∀ p ∈ s.1, TkOk m n p) → (s.1.map (·.1)).Nodup → (∀ p ∈ (ks.foldl (tstep es) s).1, TkOk m n p) ∧ ((ks.foldl (tstep es) s).1.map (·.1)).Nodup := by
    intro ks
    induction ks with
    | nil => intro s _ h1 h2; exact ⟨h1, h2⟩
    | cons k ks ih =>
      intro s hT h1 h2
      rw [List.foldl_cons]
      obtain ⟨t1, t2⟩ := hT k List.mem_cons_self
      have hT' : Tell es ks := fun q hq => hT q (List.mem_cons_of_mem _ hq)
      unfold tstep
      split
      · exact ih _ hT' h1 h2
      · rename_i hn
        have hnone : tgt s.1 (etk (es.getD k .none)) = none := by
          cases h : tgt s.1 (etk (es.getD k .none)) with
          | none => rfl
          | some v => rw [h] at hn; exact absurd rfl hn
        refine ih _ hT' (fun p hp => ?_) ?_
        · rcases List.mem_append.mp hp with hp | hp
          · exact h1 p hp
          · rw [List.mem_singleton] at hp
            rw [hp]
            have hE := getD_get t1
            rw [hE] at t2 ⊢
            exact ent_key (hg _ (List.getElem_mem t1)) t2
        · rw [List.map_append]
          refine List.nodup_append.mpr ⟨h2, by simp, fun a ha c hc e => ?_⟩
          simp only [List.map_cons, List.map_nil, List.mem_singleton] at hc
          exact tgt_none.mp hnone (by rw [← hc, ← e]; exact ha)
  exact go ks ([], []) hT (fun p hp => (nomatch hp)) (by simp)
def ceOf (p : List Key × Int) : Option Ce := match p.1 with
  | [_, .inl i, .inl j] => some (i, j, p.2)
  | _ => none
theorem tgt_mem {T : TK} {k : List Key} {v : Int} (hn : (T.map (·.1)).Nodup) : tgt T k = some v ↔ (k, v) ∈ T := by
  induction T with
  | nil => simp [tgt]
  | cons a T ih =>
    rw [List.map_cons, List.nodup_cons] at hn
    unfold tgt at ih ⊢
    rw [List.find?_cons]
    by_cases h : a.1 = k
    · have e2 : decide (a.1 = k) = true := decide_eq_true h
      simp only [e2, Option.map_some, Option.some.injEq, List.mem_cons]
      constructor
      · intro e
        left
        exact Prod.ext h.symm e.symm
      · rintro (e | e)
        · rw [← e]
        · exact absurd (List.mem_map.mpr ⟨(k, v), e, rfl⟩) (by rw [← h]; exact hn.1)
    · have e2 : decide (a.1 = k) = false := decide_eq_false h
      simp only [e2]
      rw [ih hn.2]
      constructor
      · exact fun e => List.mem_cons_of_mem _ e
      · intro e
        rcases List.mem_cons.mp e with e | e
        · exact absurd (by rw [← e]) h
        · exact e
end T70

set_option Elab.async false
set_option linter.all false
set_option maxRecDepth 100000
set_option maxHeartbeats 4000000
namespace T70
open PySem PySem.Spec PyProof.Rows L2 PV
def cellL (T : TK) : List Ce := T.filterMap ceOf
def rowX (T : TK) (n i : Nat) : List Ce := (List.range n).filterMap fun (j : Nat) => (tgt T (kCell i j)).map fun v => ((i : Int), (j : Int), v)
def allX (T : TK) (m n : Nat) : List Ce := (List.range m).flatMap (rowX T n)
theorem mem_row {T : TK} {n i : Nat} {c : Ce} : c ∈ rowX T n i ↔ ∃ j : Nat, j < n ∧ ∃ v, tgt T (kCell i j) = some v ∧ c = ((i : Int), (j : Int), v) := by
  unfold rowX
  rw [List.mem_filterMap]
  constructor
  · rintro ⟨j, hj, e⟩
    obtain ⟨v, hv, rfl⟩ := Option.map_eq_some_iff.mp e
    exact ⟨j, List.mem_range.mp hj, v, hv, rfl⟩
  · rintro ⟨j, hj, v, hv, rfl⟩
    exact ⟨j, List.mem_range.mpr hj, by rw [hv]; rfl⟩
theorem mem_all {T : TK} {m n : Nat} {c : Ce} : c ∈ allX T m n ↔ ∃ i : Nat, i < m ∧ ∃ j : Nat, j < n ∧ ∃ v, tgt T (kCell i j) = some v ∧ c = ((i : Int), (j : Int), v) := by
  unfold allX
  rw [List.mem_flatMap]
  constructor
  · rintro ⟨i, hi, h⟩
    exact ⟨i, List.mem_range.mp hi, mem_row.mp h⟩
  · rintro ⟨i, hi, h⟩
    exact ⟨i, List.mem_range.mpr hi, mem_row.mpr h⟩
theorem row_sorted (T : TK) (n i : Nat) : (rowX T n i).Pairwise ltK := by
  unfold rowX
  rw [List.pairwise_filterMap]
  refine List.Pairwise.imp ?_ List.pairwise_lt_range
  intro a b hab c hc d hd
  obtain ⟨v, _, rfl⟩ := Option.map_eq_some_iff.mp hc
  obtain ⟨w, _, rfl⟩ := Option.map_eq_some_iff.mp hd
  right
  exact ⟨rfl, by show (a : Int) < b; omega⟩
theorem all_sorted (T : TK) (m n : Nat) : (allX T m n).Pairwise ltK := by
  unfold allX
  rw [List.pairwise_flatMap]
  refine ⟨fun i _ => row_sorted T n i, ?_⟩
  refine List.Pairwise.imp ?_ List.pairwise_lt_range
  intro a b hab c hc d hd
  obtain ⟨j, _, v, _, rfl⟩ := mem_row.mp hc
  obtain ⟨k, _, w, _, rfl⟩ := mem_row.mp hd
  left
  show (a : Int) < b
  omega
theorem nodup_of {l : List Ce} (h : l.Pairwise ltK) : l.Nodup := h.imp fun {a b} hab e => by
  subst e
  unfold ltK at hab
  omega
theorem cells_perm {m n : Nat} {T : TK} (h1 : ∀ p ∈ T, TkOk m n p) (h2 : (T.map (·.1)).Nodup) : (cellL T).Perm (allX T m n) := by
  have hn : (cellL T).Nodup := by
    unfold cellL
    have hp : T.Pairwise fun a b => a.1 ≠ b.1 := by
      have := h2
      unfold List.Nodup at this
      rwa [List.pairwise_map] at this
    unfold List.Nodup
    rw [List.pairwise_filterMap]
    refine List.Pairwise.imp_of_mem ?_ hp
    intro a b ha hb hab c hc d hd e
    subst e
    apply hab
    rcases h1 a ha with ⟨i, ea⟩ | ⟨i, ea⟩ | ⟨i, j, ea, _⟩ <;> rcases h1 b hb with ⟨k, eb⟩ | ⟨k, eb⟩ | ⟨k, l, eb, _⟩ <;> simp [ceOf, ea, eb, kRow, kCol, kCell] at hc hd ⊢
    rw [← hd] at hc
    simp only [Prod.mk.injEq] at hc
    exact ⟨hc.1, hc.2.1⟩
  rw [List.perm_ext_iff_of_nodup hn (nodup_of (all_sorted T m n))]
  intro c
  rw [mem_all]
  unfold cellL
  rw [List.mem_filterMap]
  constructor
  · rintro ⟨p, hp, hc⟩
    rcases h1 p hp with ⟨i, ea⟩ | ⟨i, ea⟩ | ⟨i, j, ea, ⟨⟨i0, i1⟩, ⟨j0, j1⟩, _⟩⟩
    · simp [ceOf, ea, kRow] at hc
    · simp [ceOf, ea, kCol] at hc
    · simp [ceOf, ea, kCell] at hc
      simp only at i0 i1 j0 j1
      obtain ⟨i', rfl⟩ := Int.eq_ofNat_of_zero_le i0
      obtain ⟨j', rfl⟩ := Int.eq_ofNat_of_zero_le j0
      refine ⟨i', by omega, j', by omega, p.2, (tgt_mem h2).mpr (by rw [← ea]; exact hp), hc.symm⟩
  · rintro ⟨i, hi, j, hj, v, hv, rfl⟩
    refine ⟨(kCell i j, v), (tgt_mem h2).mp hv, ?_⟩
    simp [ceOf, kCell]
/-- the cells of a diary, sorted -/
theorem sorted_cells {m n : Nat} {T : TK} (h1 : ∀ p ∈ T, TkOk m n p) (h2 : (T.map (·.1)).Nodup) : sortD false ((cellL T).map ceD) = (allX T m n).map ceD := sort_cells (all_sorted T m n) (cells_perm h1 h2)
end T70

set_option Elab.async false
set_option linter.all false
set_option maxRecDepth 100000
set_option maxHeartbeats 4000000
namespace T70
open PySem PySem.Spec PyProof.Rows L2 PV
def optD : Option Int → D
  | some v => .int v
  | none => .none
def rowsT (T : TK) (m : Nat) : List D := (List.range m).map fun (i : Nat) => optD (tgt T (kRow i))
def colsT (T : TK) (n : Nat) : List D := (List.range n).map fun (i : Nat) => optD (tgt T (kCol i))
theorem opt_pure (o : Option Int) : pureD (optD o) = true := by cases o <;> rfl
theorem rowsT_pure (T : TK) (m : Nat) : pureL (rowsT T m) = true := pureL_of fun d hd => by obtain ⟨i, _, rfl⟩ := List.mem_map.mp hd; exact opt_pure _
theorem colsT_pure (T : TK) (m : Nat) : pureL (colsT T m) = true := pureL_of fun d hd => by obtain ⟨i, _, rfl⟩ := List.mem_map.mp hd; exact opt_pure _
theorem dg_row (T : TK) (i : Int) : dgt1D (.dict (toldKV T)) (.tuple [.str "row", .int i]) = some (optD (tgt T (kRow i))) := by
  rw [show (PyData.tuple [.str "row", .int i]) = tD (kRow i) from rfl, dgt1_told]
  cases tgt T (kRow i) <;> rfl
theorem dg_col (T : TK) (i : Int) : dgt1D (.dict (toldKV T)) (.tuple [.str "column", .int i]) = some (optD (tgt T (kCol i))) := by
  rw [show (PyData.tuple [.str "column", .int i]) = tD (kCol i) from rfl, dgt1_told]
  cases tgt T (kCol i) <;> rfl
theorem told_vals (T : TK) : pureL ((toldKV T).map (·.2)) = true := pureL_of fun d hd => by
  unfold toldKV at hd
  rw [List.map_cons, List.mem_cons, List.map_map] at hd
  rcases hd with rfl | hd
  · rfl
  · obtain ⟨p, _, rfl⟩ := List.mem_map.mp hd; rfl
theorem told_short {m n : Nat} {T : TK} (h1 : ∀ p ∈ T, TkOk m n p) : shortK (T.map fun p => (tD p.1, PyData.int p.2)) = true := by
  unfold shortK
  rw [List.all_eq_true]
  intro q hq
  obtain ⟨p, hp, rfl⟩ := List.mem_map.mp hq
  rcases h1 p hp with ⟨i, e⟩ | ⟨i, e⟩ | ⟨i, j, e, _⟩ <;> simp [tD, e, kRow, kCol, kCell]
theorem told_keys {m n : Nat} {T : TK} (h1 : ∀ p ∈ T, TkOk m n p) : keysL (.dict ((.bool true, .none) :: toldKV T)) = some (T.map fun p => tD p.1) := by
  unfold toldKV
  simp only [keysL, told_short h1, if_true, List.map_map]
  rfl
def byR (dy nu : D) (m n : Nat) (es : List D) (T : TK) (R C S x9 x10 : Option Cl) : Rh := [some ⟨dy, .ro⟩, some ⟨nu, .ro⟩, some ⟨.int m, .own⟩, some ⟨.int n, .own⟩, some ⟨.tuple es, .own⟩, some ⟨.dict (toldKV T), .own⟩, R, C, S, x9, x10, none]
abbrev tAb : Rh → Option Bool := qB (o2 eqD (o2 ixD (getS 11) (cst (.int 0))) (cst (.str "cell")))
abbrev eAb : Rh → Option D := o2 addD (slE (getS 11) (ops (cst (.int 1))) opn) (mkT (aCons (gE (o2 dgetD (getS 5) (getS 11))) aNil))
theorem cells_lc {m n : Nat} {T : TK} (h1 : ∀ p ∈ T, TkOk m n p) (h2 : (T.map (·.1)).Nodup) (r0 r1 r2 r3 r4 r6 r7 r8 r9 r10 : Option Cl) : lcS (stepE (.nm 11) tAb eAb [r0, r1, r2, r3, r4, some ⟨.dict ((.bool true, .none) :: toldKV T), .ro⟩, r6, r7, r8, r9, r10, none]) (T.map fun p => tD p.1) = some ((cellL T).map ceD) := by
  have : (cellL T).map ceD = T.filterMap fun p => (ceOf p).map ceD := by
    unfold cellL
    rw [List.map_filterMap]
  rw [this]
  refine lcS_fm fun p hp => ?_
  rcases h1 p hp with ⟨i, e⟩ | ⟨i, e⟩ | ⟨i, j, e, _⟩
  · have ek : tD p.1 = .tuple [.str "row", .int i] := by rw [e]; rfl
    have hce : ceOf p = none := by simp [ceOf, e, kRow]
    rw [ek, hce]
    simp
  · have ek : tD p.1 = .tuple [.str "column", .int i] := by rw [e]; rfl
    have hce : ceOf p = none := by simp [ceOf, e, kCol]
    rw [ek, hce]
    simp
  · have ek : tD p.1 = .tuple [.str "cell", .int i, .int j] := by rw [e]; rfl
    have hv : tgt T p.1 = some p.2 := (tgt_mem h2).mpr hp
    have hd := dget_lock hv
    rw [ek] at hd
    have hc : PV.cutS (.tuple [.str "cell", .int i, .int j]) (some 1) none = some (.tuple [.int i, .int j]) := by rw [cutT_ok (by simp), cutD_tail]
    have ha : addD (.tuple [.int i, .int j]) (.tuple [.int p.2]) = some (ceD (i, j, p.2)) := by rw [addT_ok (by simp) (by simp) (by simp)]; rfl
    have hce : ceOf p = some (i, j, p.2) := by simp [ceOf, e, kCell]
    rw [ek, hce]
    simp [hd, hc, ha]
end T70

set_option Elab.async false
set_option linter.all false
set_option maxRecDepth 100000
set_option maxHeartbeats 4000000
namespace T70
open PySem PySem.Spec PyProof.Rows L2 PV
theorem ok_cells (cs : List Ce) : okSort (cs.map ceD) = true := by
  unfold okSort
  have h1 := pureL_ce cs
  have hm : ∀ d ∈ cs.map ceD, ∃ c : Ce, d = ceD c := fun d hd => by obtain ⟨c, _, rfl⟩ := List.mem_map.mp hd; exact ⟨c, rfl⟩
  have h2 : (cs.map ceD).all (fun d => (cs.map ceD).all fun e => PySem.W.alike d e) = true := by
    rw [List.all_eq_true]; intro d hd
    rw [List.all_eq_true]; intro e he
    obtain ⟨a, rfl⟩ := hm d hd
    obtain ⟨b, rfl⟩ := hm e he
    simp [ceD, PySem.W.alike, PySem.W.alikeAll]
  have h4 : ((cs.map ceD).all fun d => decide (d.depth ≤ 40)) = true := by
    rw [List.all_eq_true]; intro d hd
    obtain ⟨a, rfl⟩ := hm d hd
    exact decide_eq_true (Nat.le_trans (ceS a).2.2 (by decide))
  simp only [h1, h2, h4, Bool.and_true, Bool.true_and]
  rw [Bool.or_eq_true]
  left
  rw [List.all_eq_true]
  intro d hd
  obtain ⟨a, rfl⟩ := hm d hd
  rfl
def told (es : List D) : TK := (tst es (nums es)).1
theorem tellingby_ok {m n : Nat} (S : SideOk m n) {es : List D} (hg : AllG m n es) (hl : es.length ≤ 1000) : F_telling_by [.tuple [.int m, .int n, .tuple es], .tuple (natsD (nums es))] = some (.tuple [.int m, .int n, .tuple (rowsT (told es) m), .tuple (colsT (told es) n), .tuple ((allX (told es) m n).map ceD)]) := by
  have hp := pure_all hg
  have hT := nums_tell hg
  have hnl := nums_len es
  obtain ⟨o1, o2'⟩ := tst_ok hg hT
  have htb := toldby_ok hg hT (by omega)
  have hso := sorted_cells o1 o2'
  have htl := tst_len es (nums es)
  obtain ⟨a1, a2, a3, a4⟩ := S
  show _ = some (PyData.tuple [.int m, .int n, .tuple (rowsT (tst es (nums es)).1 m), .tuple (colsT (tst es (nums es)).1 n), .tuple ((allX (tst es (nums es)).1 m n).map ceD)])
  generalize tst es (nums es) = s at *
  obtain ⟨T, db⟩ := s
  simp only at o1 o2' hso htb htl ⊢
  generalize hdy : PyData.tuple [.int m, .int n, .tuple es] = dy
  generalize hnu : PyData.tuple (natsD (nums es)) = nu at *
  have hpn : pureD nu = true := by rw [← hnu, pureD_tup]; exact pure_nats _
  have hpd : pureD dy = true := by rw [← hdy]; simp [hp]
  have hrm := rng1_nat m (small_le a2)
  have hrn := rng1_nat n (small_le a4)
  have k1 : eLc (.nm 9) [9] (iR1 (aCons (getS 2) aNil)) tAll (gE (dgt1 (getS 5) (mkT (aCons (cst (.str "row")) (aCons (gE (getS 9)) aNil))))) (byR dy nu m n es T none none none none none) = some (.list (rowsT T m)) := by
    refine eLc_of (ds := rangeD 0 m) (by simp [byR, hrm]) (by rw [rangeD_len]; exact small_le a2) ?_
    refine lcS_mapM fun k hk => ?_
    have := dg_row T (0 + (k : Int))
    rw [Int.zero_add] at this
    simp [byR, wipR, dgt1, this, opt_pure]
  have k2 : ∀ R, eLc (.nm 10) [10] (iR1 (aCons (getS 3) aNil)) tAll (gE (dgt1 (getS 5) (mkT (aCons (cst (.str "column")) (aCons (gE (getS 10)) aNil))))) (byR dy nu m n es T R none none none none) = some (.list (colsT T n)) := by
    intro R
    refine eLc_of (ds := rangeD 0 n) (by simp [byR, hrn]) (by rw [rangeD_len]; exact small_le a4) ?_
    refine lcS_mapM fun k hk => ?_
    have := dg_col T (0 + (k : Int))
    rw [Int.zero_add] at this
    simp [byR, wipR, dgt1, this, opt_pure]
  have k3 : eLcD 5 (.nm 11) [11] tAb eAb (byR dy nu m n es T (some ⟨.tuple (rowsT T m), .own⟩) (some ⟨.tuple (colsT T n), .own⟩) none none none) = some (.list ((cellL T).map ceD)) := by
    unfold eLcD
    have g5 : getS 5 (byR dy nu m n es T (some ⟨.tuple (rowsT T m), .own⟩) (some ⟨.tuple (colsT T n), .own⟩) none none none) = some (.dict (toldKV T)) := rfl
    simp only [g5]
    rw [if_pos ⟨rfl, told_vals T⟩]
    have hlk : lockR 5 (toldKV T) (byR dy nu m n es T (some ⟨.tuple (rowsT T m), .own⟩) (some ⟨.tuple (colsT T n), .own⟩) none none none) = [some ⟨dy, .ro⟩, some ⟨nu, .ro⟩, some ⟨.int m, .own⟩, some ⟨.int n, .own⟩, some ⟨.tuple es, .own⟩, some ⟨.dict ((.bool true, .none) :: toldKV T), .ro⟩, some ⟨.tuple (rowsT T m), .own⟩, some ⟨.tuple (colsT T n), .own⟩, none, none, none, none] := by
      simp [lockR, byR, hpd, hpn, hp, rowsT_pure, colsT_pure]
    rw [hlk]
    have hkl := told_keys o1
    have hlc := cells_lc o1 o2' (some ⟨dy, .ro⟩) (some ⟨nu, .ro⟩) (some ⟨.int m, .own⟩) (some ⟨.int n, .own⟩) (some ⟨.tuple es, .own⟩) (some ⟨.tuple (rowsT T m), .own⟩) (some ⟨.tuple (colsT T n), .own⟩) none none none
    have he := eLc_of (p := .nm 11) (vs := [11]) (hi := fun ρ => (getS 5 ρ).bind keysL) (t := tAb) (e := eAb) (ρ := [some ⟨dy, .ro⟩, some ⟨nu, .ro⟩, some ⟨.int m, .own⟩, some ⟨.int n, .own⟩, some ⟨.tuple es, .own⟩, some ⟨.dict ((.bool true, .none) :: toldKV T), .ro⟩, some ⟨.tuple (rowsT T m), .own⟩, some ⟨.tuple (colsT T n), .own⟩, none, none, none, none]) (ds := T.map fun (p : List Key × Int) => tD p.1) (by simp only [getS_s, getS_z, Option.bind_some]; exact hkl) (by rw [List.length_map]; exact Nat.le_trans (show _ ≤ 1000 by omega) (by decide)) hlc
    simp only [he, pureL_ce, if_true]
  have hB : ∃ ρ', B_telling_by [some ⟨dy, .ro⟩, some ⟨nu, .ro⟩, none, none, none, none, none, none, none, none, none, none] = .rt (.tuple [.int m, .int n, .tuple (rowsT T m), .tuple (colsT T n), .tuple ((allX T m n).map ceD)]) ρ' := by
    unfold B_telling_by
    rw [sSeq_e]
    have s1 : sSet (.tp [.nm 2, .nm 3, .nm 4]) (lift (gE (getS 0))) [some ⟨dy, .ro⟩, some ⟨nu, .ro⟩, none, none, none, none, none, none, none, none, none, none] = .nx [some ⟨dy, .ro⟩, some ⟨nu, .ro⟩, some ⟨.int m, .own⟩, some ⟨.int n, .own⟩, some ⟨.tuple es, .own⟩, none, none, none, none, none, none, none] := by
      refine sSet_of (d := dy) (ρ1 := [some ⟨dy, .ro⟩, some ⟨nu, .ro⟩, none, none, none, none, none, none, none, none, none, none]) (by simp [hpd]) ?_
      rw [← hdy]; simp
    simp only [s1]
    rw [sSeq_e]
    have s2 : sSet (.nm 5) (lift (o2 ixD (fnE F_told_by (aCons (getS 4) (aCons (getS 1) aNil))) (cst (.int 0)))) [some ⟨dy, .ro⟩, some ⟨nu, .ro⟩, some ⟨.int m, .own⟩, some ⟨.int n, .own⟩, some ⟨.tuple es, .own⟩, none, none, none, none, none, none, none] = .nx (byR dy nu m n es T none none none none none) := by simp [htb, byR]
    simp only [s2]
    rw [sSeq_e]
    have s3 := sSet_of (p := .nm 6) (lift_of (u1_of k1 (show tupD _ = some (.tuple (rowsT T m)) from by simp only [tupD, rowsT_pure, if_true]))) (show patS .own (.nm 6) _ (byR dy nu m n es T none none none none none) = some (byR dy nu m n es T (some ⟨.tuple (rowsT T m), .own⟩) none none none none) from by simp [byR])
    simp only [s3]
    rw [sSeq_e]
    have s4 := sSet_of (p := .nm 7) (lift_of (u1_of (k2 (some ⟨.tuple (rowsT T m), .own⟩)) (show tupD _ = some (.tuple (colsT T n)) from by simp only [tupD, colsT_pure, if_true]))) (show patS .own (.nm 7) _ (byR dy nu m n es T (some ⟨.tuple (rowsT T m), .own⟩) none none none none) = some (byR dy nu m n es T (some ⟨.tuple (rowsT T m), .own⟩) (some ⟨.tuple (colsT T n), .own⟩) none none none) from by simp [byR])
    simp only [s4]
    rw [sSeq_e]
    have k4 : fnE (sortF false) (aCons (eLcD 5 (.nm 11) [11] tAb eAb) aNil) (byR dy nu m n es T (some ⟨.tuple (rowsT T m), .own⟩) (some ⟨.tuple (colsT T n), .own⟩) none none none) = some (.list ((allX T m n).map ceD)) := by
      simp only [fnE_e, aCons_e, aNil_e, k3, sortF, ok_cells, if_true, hso]
    have s5 := sSet_of (p := .nm 8) (lift_of (u1_of k4 (show tupD _ = some (.tuple ((allX T m n).map ceD)) from by simp only [tupD, pureL_ce, if_true]))) (show patS .own (.nm 8) _ (byR dy nu m n es T (some ⟨.tuple (rowsT T m), .own⟩) (some ⟨.tuple (colsT T n), .own⟩) none none none) = some (byR dy nu m n es T (some ⟨.tuple (rowsT T m), .own⟩) (some ⟨.tuple (colsT T n), .own⟩) (some ⟨.tuple ((allX T m n).map ceD), .own⟩) none none) from by simp [byR])
    simp only [s5]
    refine ⟨byR dy nu m n es T (some ⟨.tuple (rowsT T m), .own⟩) (some ⟨.tuple (colsT T n), .own⟩) (some ⟨.tuple ((allX T m n).map ceD), .own⟩) none none, sRet_of ?_⟩
    simp [byR, rowsT_pure, colsT_pure, pureL_ce]
  obtain ⟨ρ', hB⟩ := hB
  exact runF_rt (ρ0 := [some ⟨dy, .ro⟩, some ⟨nu, .ro⟩, none, none, none, none, none, none, none, none, none, none]) rfl rfl hB
theorem tellingof_ok {m n : Nat} (S : SideOk m n) {es : List D} (hg : AllG m n es) (hl : es.length ≤ 1000) : F_telling_of [.tuple [.int m, .int n, .tuple es]] = some (.tuple [.int m, .int n, .tuple (rowsT (told es) m), .tuple (colsT (told es) n), .tuple ((allX (told es) m n).map ceD)]) := by
  have h1 := story_ok hg hl
  have h2 := tellingby_ok S hg hl
  generalize PyData.tuple [.int m, .int n, .tuple es] = dy at *
  refine runF_rt (ρ0 := [some ⟨dy, .ro⟩]) (ρ := [some ⟨dy, .ro⟩]) rfl rfl ?_
  unfold B_telling_of
  refine sRet_of (lift_of ?_)
  simp only [fnE_e, aCons_e, aNil_e, getS_z, h1, h2]
end T70

set_option Elab.async false
set_option linter.all false
set_option maxRecDepth 100000
set_option maxHeartbeats 4000000
namespace T70
open PySem PySem.Spec PyProof.Rows L2 PV
theorem notIn_nats (ks : List Nat) (k : Nat) : notInD (.int (k : Int)) (.list (natsD ks)) = some (.bool (!decide (k ∈ ks))) := by
  have hf : (natsD ks).all flatD = true := by
    rw [List.all_eq_true]; intro d hd
    obtain ⟨a, _, rfl⟩ := List.mem_map.mp hd; rfl
  have ha : ((natsD ks).any fun z => eqF z (.int (k : Int))) = decide (k ∈ ks) := by
    unfold natsD
    rw [List.any_map]
    induction ks with
    | nil => simp
    | cons a ks ih =>
      have hf' : (natsD ks).all flatD = true := by
        rw [List.all_eq_true]; intro d hd
        obtain ⟨b, _, rfl⟩ := List.mem_map.mp hd; rfl
      rw [List.any_cons, ih hf']
      by_cases h : k = a
      · subst h; simp [eqF]
      · have h2 : ((a : Int) == (k : Int)) = false := by simp; omega
        simp [eqF, h2, h]
  unfold notInD PV.alt
  simp only [inF, hf, flatD, and_self, if_true, ha]
def lwR (c1 c2 c3 c4 c5 c7 c8 c9 : Option Cl) (es : List D) (s : WS) (x12 x13 : Option Cl) : Rh := [none, c1, c2, c3, c4, c5, some ⟨.list es, .own⟩, c7, c8, c9, some ⟨.list (natsD s.nm), .own⟩, some ⟨.list (natsD s.wr), .own⟩, x12, x13, none, none, none, none, none, none, none, none]
abbrev bLw : Rh → Out := sIf (lift (qB (o2 eqD (o2 ixD (o2 ixD (getS 6) (getS 12)) (cst (.int 0))) (cst (.str "wrong"))))) (sSeq (sSet (.nm 13) (lift (gE (o2 ixD (o2 ixD (getS 6) (getS 12)) (cst (.int 1))))))
    (sIf (lift (pand (qB (o2 ltD (getS 13) (getS 12))) (pand (qB (o2 neD (o2 ixD (o2 ixD (getS 6) (getS 13)) (cst (.int 0))) (cst (.str "wrong")))) (qB (o2 notInD (getS 13) (getS 10)))))) (sDrop (appendV 10 (lift (gE (getS 13))))) (sDrop (appendV 11 (lift (gE (getS 12))))))) (sNil)
theorem lw_step {m n : Nat} {es : List D} (hg : AllG m n es) (hl : es.length ≤ 1000) {p : Nat} (hp : p < es.length) (c1 c2 c3 c4 c5 c7 c8 c9 : Option Cl) {x13 : Option Cl} (hx : NP x13) :
    ∃ x13', NP x13' ∧ bLw (lwR c1 c2 c3 c4 c5 c7 c8 c9 es (wst es p) (some ⟨.int (p : Int), .ro⟩) x13) = .nx (lwR c1 c2 c3 c4 c5 c7 c8 c9 es (wst es (p + 1)) (some ⟨.int (p : Int), .ro⟩) x13') := by
  obtain ⟨w, f1, f2, f3, f4, f5⟩ := ent_facts (hg _ (List.getElem_mem hp))
  obtain ⟨a, b, c, d, e, f⟩ := wst_facts es p
  have hE : es.getD p .none = es[p] := getD_get hp
  have x0 : ixD (.list es) (.int (p : Int)) = some es[p] := ixL (List.getElem?_eq_getElem hp)
  have hnext : wst es (p + 1) = wstep es (wst es p) p := rfl
  rw [hnext]
  unfold wstep gives
  rw [hE]
  generalize wst es p = s at *
  generalize hq : es[p] = q at *
  have l1 : s.nm.length + 1 < 1000000 := by omega
  have l2 : s.wr.length + 1 < 1000000 := by omega
  cases h1 : isWr q
  · rw [h1] at f2
    exact ⟨x13, hx, by simp [lwR, x0, f1, f2]⟩
  · have g1 := f5 h1
    rw [h1] at f2
    refine ⟨some ⟨.int (wkN q : Int), .own⟩, NP.own, ?_⟩
    by_cases h2 : wkN q < p
    · have h2' : decide ((wkN q : Int) < (p : Int)) = true := decide_eq_true (by omega)
      have hk : wkN q < es.length := by omega
      obtain ⟨w2, k1, k2, k3, k4, k5⟩ := ent_facts (hg _ (List.getElem_mem hk))
      have x1 : ixD (.list es) (.int (wkN q : Int)) = some es[wkN q] := ixL (List.getElem?_eq_getElem hk)
      have hE2 : es.getD (wkN q) .none = es[wkN q] := getD_get hk
      rw [hE2]
      have hdn := notIn_nats s.nm (wkN q)
      cases h3 : isWr es[wkN q]
      · rw [h3] at k3
        by_cases h4 : wkN q ∈ s.nm
        · simp [lwR, x0, f1, f2, g1, h2', x1, k1, k3, hdn, h4, h2, setS_np hx, lstAt, nats_len, l2, nats_app]
          rfl
        · simp [lwR, x0, f1, f2, g1, h2', x1, k1, k3, hdn, h4, h2, setS_np hx, lstAt, nats_len, l1, nats_app]
          rfl
      · rw [h3] at k3
        simp [lwR, x0, f1, f2, g1, h2', x1, k1, k3, h2, setS_np hx, lstAt, nats_len, l2, nats_app]
        rfl
    · have h2' : decide ((wkN q : Int) < (p : Int)) = false := decide_eq_false (by omega)
      simp [lwR, x0, f1, f2, g1, h2', h2, setS_np hx, lstAt, nats_len, l2, nats_app]
      rfl
end T70

set_option Elab.async false
set_option linter.all false
set_option maxRecDepth 100000
set_option maxHeartbeats 4000000
namespace T70
open PySem PySem.Spec PyProof.Rows L2 PV
/-- the law's own walk over the entries -/
theorem lw_loop {m n : Nat} {es : List D} (hg : AllG m n es) (hl : es.length ≤ 1000) (c1 c2 c3 c4 c5 c7 c8 c9 : Option Cl) : Nxs (sFor [] (.nm 12) (lift (iR1 (aCons (fnE lenF (aCons (getS 6) aNil)) aNil))) bLw (lwR c1 c2 c3 c4 c5 c7 c8 c9 es ⟨[], [], []⟩ none none)) fun ρ => ∃ x12 x13, ρ = lwR c1 c2 c3 c4 c5 c7 c8 c9 es (wst es es.length) x12 x13 ∧ NP x12 ∧ NP x13 := by
  have hrn := rng1_nat es.length (Nat.le_trans hl (by decide))
  refine sFor_of (ds := rangeD 0 es.length) (ρ1 := lwR c1 c2 c3 c4 c5 c7 c8 c9 es ⟨[], [], []⟩ none none) (by simp [lwR, hrn]) rfl ?_
  obtain ⟨ρ, e, x12, x13, rfl, h12, h13⟩ := forS_rng (p := .nm 12) (b := bLw) (fun k ρ => ∃ x12 x13, ρ = lwR c1 c2 c3 c4 c5 c7 c8 c9 es (wst es k) x12 x13 ∧ NP x12 ∧ NP x13) es.length (lwR c1 c2 c3 c4 c5 c7 c8 c9 es ⟨[], [], []⟩ none none) ⟨none, none, rfl, NP.none, NP.none⟩ (fun k ρ hk hI => by
    obtain ⟨x12, x13, rfl, h12, h13⟩ := hI
    obtain ⟨x13', n13, e13⟩ := lw_step hg hl hk c1 c2 c3 c4 c5 c7 c8 c9 h13
    exact ⟨lwR c1 c2 c3 c4 c5 c7 c8 c9 es (wst es k) (some ⟨.int (k : Int), .ro⟩) x13, by simp [lwR, setS_np h12], _, e13, _, _, rfl, NP.ro, n13⟩)
  exact ⟨_, e, x12, x13, rfl, h12, h13⟩
/-- the law's own numbers -/
theorem lw_nums {m n : Nat} {es : List D} (hg : AllG m n es) (hl : es.length ≤ 1000) (c1 c2 c3 c4 c5 c7 c8 c9 : Option Cl) {x12 x13 : Option Cl} : eLc (.nm 13) [13] (iR1 (aCons (fnE lenF (aCons (getS 6) aNil)) aNil)) (pand (qB (o2 neD (o2 ixD (o2 ixD (getS 6) (getS 13)) (cst (.int 0))) (cst (.str "wrong")))) (qB (o2 notInD (getS 13) (getS 10)))) (gE (getS 13)) (lwR c1 c2 c3 c4 c5 c7 c8 c9 es (wst es es.length) x12 x13) = some (.list (natsD (nums es))) := by
  have hrn := rng1_nat es.length (Nat.le_trans hl (by decide))
  refine eLc_of (ds := rangeD 0 es.length) (by simp [lwR, hrn]) (by rw [rangeD_len]; exact Nat.le_trans hl (by decide)) ?_
  refine (lcS_fm (g := fun k => if (!isWr (es.getD k .none) && !decide (k ∈ (wst es es.length).nm)) = true then some (PyData.int (k : Int)) else none) fun k hk => ?_).trans (congrArg some (fm_filter _ _))
  have hk' : k < es.length := List.mem_range.mp hk
  obtain ⟨w, f1, f2, f3, f4, f5⟩ := ent_facts (hg _ (List.getElem_mem hk'))
  have hdn := notIn_nats (wst es es.length).nm k
  have x0 : ixD (.list es) (.int (k : Int)) = some es[k] := ixL (List.getElem?_eq_getElem hk')
  rw [getD_get hk']
  cases h1 : isWr es[k]
  · rw [h1] at f3
    by_cases h2 : k ∈ (wst es es.length).nm <;> simp [lwR, wipR, x0, f1, f3, hdn, h2]
  · rw [h1] at f3
    simp [lwR, wipR, x0, f1, f3]
/-- the law's own walk over the numbers -/
def ltR (c1 c2 c3 c4 c5 c7 c8 c9 c10 c11 c12 : Option Cl) (es : List D) (ks : List Nat) (s : TK × List Nat) (x13 : Option Cl) : Rh := [none, c1, c2, c3, c4, c5, some ⟨.list es, .own⟩, c7, c8, c9, c10, c11, c12, x13, some ⟨.list (natsD ks), .ro⟩, some ⟨.dict (toldKV s.1), .own⟩, some ⟨.list (natsD s.2), .own⟩, none, none, none, none, none]
abbrev bLt : Rh → Out := sIf (lift (qB (o2 dinD (slE (o2 ixD (getS 6) (getS 13)) opn (ops (u1 negI (cst (.int 1))))) (getS 15)))) (sDrop (appendV 16 (lift (gE (getS 13))))) (sDput 15 (slE (o2 ixD (getS 6) (getS 13)) opn (ops (u1 negI (cst (.int 1))))) (lift (gE (o2 ixD (o2 ixD (getS 6) (getS 13)) (u1 negI (cst (.int 1)))))))
theorem lt_step {m n : Nat} {es : List D} (hg : AllG m n es) {ks : List Nat} {s : TK × List Nat} {k : Nat} (hk : k < es.length) (hw : isWr (es.getD k .none) = false) (h1 : s.1.length < 100000) (h2 : s.2.length < 100000) (c1 c2 c3 c4 c5 c7 c8 c9 c10 c11 c12 : Option Cl) :
    bLt (ltR c1 c2 c3 c4 c5 c7 c8 c9 c10 c11 c12 es ks s (some ⟨.int (k : Int), .ro⟩)) = .nx (ltR c1 c2 c3 c4 c5 c7 c8 c9 c10 c11 c12 es ks (tstep es s k) (some ⟨.int (k : Int), .ro⟩)) := by
  have hE := getD_get hk
  rw [hE] at hw
  obtain ⟨e1, e2⟩ := ent_told (hg _ (List.getElem_mem hk)) hw
  have x1 : ixD (.list es) (.int (k : Int)) = some es[k] := ixL (List.getElem?_eq_getElem hk)
  have d1 := din_told s.1 (etk es[k])
  unfold tstep
  rw [hE]
  cases hs : tgt s.1 (etk es[k]) with
  | some v =>
    rw [hs] at d1
    simp [ltR, x1, negI, e1, d1, lstAt, natsD, show s.2.length + 1 < 1000000 by omega]
  | none =>
    rw [hs] at d1
    have d2 := dput_told (v := eiv es[k]) hs (by omega)
    simp [ltR, x1, negI, e1, d1, e2, d2]
end T70

set_option Elab.async false
set_option linter.all false
set_option maxRecDepth 100000
set_option maxHeartbeats 4000000
namespace T70
open PySem PySem.Spec PyProof.Rows L2 PV
theorem lt_loop {m n : Nat} {es : List D} (hg : AllG m n es) {ks : List Nat} (hT : Tell es ks) (hl : ks.length ≤ 1000) (c1 c2 c3 c4 c5 c7 c8 c9 c10 c11 c12 : Option Cl) {x13 : Option Cl} (hx : NP x13) :
    Nxs (sFor [14] (.nm 13) (lift (iS (getS 14))) bLt [none, c1, c2, c3, c4, c5, some ⟨.list es, .own⟩, c7, c8, c9, c10, c11, c12, x13, some ⟨.list (natsD ks), .own⟩, some ⟨.dict (toldKV []), .own⟩, some ⟨.list (natsD []), .own⟩, none, none, none, none, none]) fun ρ => ∃ x13, NP x13 ∧ ρ = ltR c1 c2 c3 c4 c5 c7 c8 c9 c10 c11 c12 es ks (tst es ks) x13 := by
  refine sFor_of (ds := natsD ks) (ρ1 := [none, c1, c2, c3, c4, c5, some ⟨.list es, .own⟩, c7, c8, c9, c10, c11, c12, x13, some ⟨.list (natsD ks), .own⟩, some ⟨.dict (toldKV []), .own⟩, some ⟨.list (natsD []), .own⟩, none, none, none, none, none]) (ρ2 := ltR c1 c2 c3 c4 c5 c7 c8 c9 c10 c11 c12 es ks ([], []) x13) (by simp) rfl ?_
  obtain ⟨ρ, e, x, hx', rfl⟩ := forS_lst (p := .nm 13) (b := bLt) (fun k ρ => ∃ x13, NP x13 ∧ ρ = ltR c1 c2 c3 c4 c5 c7 c8 c9 c10 c11 c12 es ks (tst es (ks.take k)) x13) (natsD ks) (ltR c1 c2 c3 c4 c5 c7 c8 c9 c10 c11 c12 es ks ([], []) x13) ⟨x13, hx, rfl⟩ (fun k hk ρ hI => by
    obtain ⟨x, hx, rfl⟩ := hI
    have hk' : k < ks.length := by simpa [natsD] using hk
    have eL : (natsD ks)[k] = .int ((ks[k] : Nat) : Int) := by simp [natsD]
    obtain ⟨t1, t2⟩ := hT ks[k] (List.getElem_mem hk')
    have hlen := tst_len es (ks.take k)
    rw [List.length_take] at hlen
    have e5 := lt_step (ks := ks) (s := tst es (ks.take k)) hg t1 t2 (by omega) (by omega) c1 c2 c3 c4 c5 c7 c8 c9 c10 c11 c12
    rw [eL]
    refine ⟨ltR c1 c2 c3 c4 c5 c7 c8 c9 c10 c11 c12 es ks (tst es (ks.take k)) (some ⟨.int ((ks[k] : Nat) : Int), .ro⟩), by simp [ltR, setS_np hx], _, e5, some ⟨.int ((ks[k] : Nat) : Int), .ro⟩, NP.ro, ?_⟩
    rw [show tst es (ks.take (k + 1)) = tstep es (tst es (ks.take k)) ks[k] from by
      unfold tst
      rw [List.take_succ_eq_append_getElem hk', List.foldl_append]; rfl])
  have hlen : (natsD ks).length = ks.length := by simp [natsD]
  rw [hlen, List.take_length] at e
  exact ⟨_, e, x, hx', rfl⟩
theorem mulT_one {d : D} {k : Nat} (hp : pureD d = true) (h1 : 2 ≤ k) (h2 : k ≤ 1000) : mulD (.tuple [d]) (.int (k : Int)) = some (.tuple (List.replicate k d)) := by
  show PV.alt mulI (PV.alt repL repT) _ _ = _
  have h3 : (2 : Int) ≤ k := by omega
  have h4 : (k : Int) ≤ 1000 := by omega
  have hf : ∀ k : Nat, (List.replicate k [d]).flatten = List.replicate k d := by
    intro k
    induction k with
    | zero => rfl
    | succ k ih => rw [List.replicate_succ, List.flatten_cons, ih, List.replicate_succ]; rfl
  simp [PV.alt, mulI, repL, repT, hp, h3, h4, hf]
theorem big_diary {m n : Nat} (S : SideOk m n) (z : Int) (hz : 0 ≤ z) (k : Nat) (hk : k ≤ 1000) : F_is_diary [.tuple [.int m, .int n, .tuple (List.replicate k (.tuple [.str "wrong", .int z]))]] = some (.bool (decide (k ≤ 200))) := by
  have hd : GoodE m n (.tuple [.str "wrong", .int z]) := .inr (.inr (.inr ⟨z, rfl, hz⟩))
  have := diary_eq S (es := List.replicate k (.tuple [.str "wrong", .int z])) (f := fun _ => true) (fun d hd' => by
    rw [List.mem_replicate] at hd'
    rw [hd'.2]
    exact good_entry hd) (by rw [List.length_replicate]; exact Nat.le_trans hk (by decide))
  rw [this, List.length_replicate]
  simp
end T70

set_option Elab.async false
set_option linter.all false
set_option maxRecDepth 100000
set_option maxHeartbeats 4000000
namespace T70
open PySem PySem.Spec PyProof.Rows L2 PV
theorem sh_nats {ks : List Nat} {x : D} (h : x ∈ natsD ks) : Sh 0 x := by
  obtain ⟨k, _, rfl⟩ := List.mem_map.mp h
  exact Sh.int
theorem mem_sort {r : Bool} {L : List D} {x : D} (h : x ∈ sortD r L) : x ∈ L := by
  unfold sortD at h
  exact (List.mergeSort_perm _ _).mem_iff.mp h
theorem sort_emp (r : Bool) (L : List D) : (sortD r L).isEmpty = L.isEmpty := by
  have : (sortD r L).length = L.length := by unfold sortD; exact List.length_mergeSort L
  cases L with
  | nil => rw [List.eq_nil_of_length_eq_zero this]
  | cons a L => cases h : sortD r (a :: L) with
    | nil => rw [h] at this; simp at this
    | cons b M => rfl
theorem sound_ok {m n : Nat} {es : List D} (hg : AllG m n es) (hl : es.length ≤ 1000) : F_is_sound [.tuple [.int m, .int n, .tuple es]] = some (.bool (natsD (flts es)).isEmpty) := by
  have h1 := faults_ok hg hl
  generalize PyData.tuple [.int m, .int n, .tuple es] = dy at *
  have h2 : eqD (.tuple (sortD false (natsD (flts es)))) (.tuple []) = some (.bool (natsD (flts es)).isEmpty) := by
    rw [eqD_of (Sh.tup (k := 0) fun x hx => sh_nats (mem_sort hx)) (by decide) (Sh.tup (k := 0) fun x hx => (by simp at hx)) (by decide), eqv_nil_t, sort_emp]
  refine runF_rt (ρ0 := [some ⟨dy, .ro⟩]) (ρ := [some ⟨dy, .ro⟩]) rfl rfl ?_
  unfold B_is_sound
  refine sRet_of (lift_of ?_)
  simp only [o2_e, fnE_e, aCons_e, aNil_e, getS_z, h1, mkT_e]
  simp [h2]
theorem pl_nats {k : Nat} {L : List D} (h : ∀ x ∈ L, ∃ i, x = .int i) (hl : L.length ≤ 1000000) : Pl (k + 1) (.tuple L) := .tup hl fun d hd => by obtain ⟨i, rfl⟩ := h d hd; exact .int i
noncomputable abbrev tLast : Rh → Option Bool := por (pnot (qT (fnE F__law_same (aCons (fnE F_story (aCons (getS 7) aNil)) (aCons (u1 tupD (getS 14)) aNil))))) (por (pnot (qT (fnE F__law_same (aCons (fnE F_faults (aCons (getS 7) aNil)) (aCons (u1 tupD (fnE (sortF false) (aCons (o2 addD (getS 16) (getS 11)) aNil))) aNil))))) (pnot (qT (fnE F__law_same (aCons (fnE F_is_sound (aCons (getS 7) aNil)) (aCons (o2 eqD (o2 addD (getS 16) (getS 11)) (mkL aNil)) aNil))))))
theorem last_test {m n : Nat} {es : List D} (hg : AllG m n es) (hl : es.length ≤ 1000) (c1 c2 c3 c4 c5 c8 c9 c10 c12 x13 : Option Cl) (o7 o11 : Ow) :
    tLast (ltR c1 c2 c3 c4 c5 (some ⟨.tuple [.int m, .int n, .tuple es], o7⟩) c8 c9 c10 (some ⟨.list (natsD (wst es es.length).wr), o11⟩) c12 es (nums es) (tst es (nums es)) x13) = some false := by
  have h1 := story_ok (m := m) (n := n) hg hl
  have h2 := faults_ok hg hl
  have h3 := sound_ok hg hl
  have hnl := nums_len es
  have htl := tst_len es (nums es)
  have hwl := (wst_facts es es.length).2.2.2.2.1
  have hfl : (flts es).length ≤ 2000 := by unfold flts; rw [List.length_append]; omega
  have ha : addD (.list (natsD (tst es (nums es)).2)) (.list (natsD (wst es es.length).wr)) = some (.list (natsD (flts es))) := by
    rw [addL_ok (pure_nats _) (pure_nats _) (by rw [nats_len, nats_len]; omega), ← nats_app]; rfl
  have hE : eqD (.list (natsD (flts es))) (.list []) = some (.bool (natsD (flts es)).isEmpty) := by
    rw [eqD_of (Sh.list (k := 0) fun x hx => sh_nats hx) (by decide) (Sh.list (k := 0) fun x hx => (by simp at hx)) (by decide), eqv_nil_l]
  have t1 : tupD (.list (natsD (nums es))) = some (.tuple (natsD (nums es))) := by simp only [tupD, pure_nats, if_true]
  have t2 : tupD (.list (sortD false (natsD (flts es)))) = some (.tuple (sortD false (natsD (flts es)))) := by simp only [tupD, sort_pure (pure_nats _), if_true]
  have hs : sortF false [.list (natsD (flts es))] = some (.list (sortD false (natsD (flts es)))) := by simp [sortF, ok_nats]
  have hi : ∀ (ks : List Nat), ∀ x ∈ natsD ks, ∃ i, x = PyData.int i := fun ks x hx => by obtain ⟨k, _, rfl⟩ := List.mem_map.mp hx; exact ⟨_, rfl⟩
  have q1 : F__law_same [.tuple (natsD (nums es)), .tuple (natsD (nums es))] = some (.bool true) := same_refl 5 _ (pl_nats (hi _) (by rw [nats_len]; omega))
  have q2 : F__law_same [.tuple (sortD false (natsD (flts es))), .tuple (sortD false (natsD (flts es)))] = some (.bool true) := same_refl 5 _ (pl_nats (fun x hx => hi _ x (mem_sort hx)) (by
    have : (sortD false (natsD (flts es))).length = (natsD (flts es)).length := by unfold sortD; exact List.length_mergeSort _
    rw [this, nats_len]; omega))
  have q3 : F__law_same [.bool (natsD (flts es)).isEmpty, .bool (natsD (flts es)).isEmpty] = some (.bool true) := same_refl 5 _ (.bool _)
  generalize hB : PyData.bool (natsD (flts es)).isEmpty = bb at *
  generalize hdy : PyData.tuple [.int m, .int n, .tuple es] = dy at *
  unfold ltR
  generalize natsD (tst es (nums es)).2 = A1 at *
  generalize natsD (wst es es.length).wr = A2 at *
  generalize natsD (flts es) = A3 at *
  generalize natsD (nums es) = A4 at *
  generalize sortD false A3 = A5 at *
  simp [h1, h2, h3, ha, hE, t1, t2, hs, q1, q2, q3]
end T70

set_option Elab.async false
set_option linter.all false
set_option maxRecDepth 100000
set_option maxHeartbeats 4000000
namespace T70
open PySem PySem.Spec PyProof.Rows L2 PV
def enR (c1 c2 c3 : Option Cl) (m n : Nat) (c6 c7 c8 c9 c10 c11 c12 c13 c14 : Option Cl) (T : TK) (c16 x17 x18 x19 x20 x21 : Option Cl) : Rh := [none, c1, c2, c3, some ⟨.int m, .own⟩, some ⟨.int n, .own⟩, c6, c7, c8, c9, c10, c11, c12, c13, c14, some ⟨.dict (toldKV T), .own⟩, c16, x17, x18, x19, x20, x21]
section
variable {m n : Nat} (S : SideOk m n) (T : TK) (c1 c2 c3 c6 c7 c8 c9 c10 c11 c12 c13 c14 c16 : Option Cl)
include S
theorem en_rows : sSet (.nm 18) (lift (u1 tupD (eLc (.nm 17) [17] (iR1 (aCons (getS 4) aNil)) tAll (gE (dgt1 (getS 15) (mkT (aCons (cst (.str "row")) (aCons (gE (getS 17)) aNil)))))))) (enR c1 c2 c3 m n c6 c7 c8 c9 c10 c11 c12 c13 c14 T c16 none none none none none) = .nx (enR c1 c2 c3 m n c6 c7 c8 c9 c10 c11 c12 c13 c14 T c16 none (some ⟨.tuple (rowsT T m), .own⟩) none none none) := by
  obtain ⟨a1, a2, a3, a4⟩ := S
  have hrm := rng1_nat m (small_le a2)
  have k1 : eLc (.nm 17) [17] (iR1 (aCons (getS 4) aNil)) tAll (gE (dgt1 (getS 15) (mkT (aCons (cst (.str "row")) (aCons (gE (getS 17)) aNil))))) (enR c1 c2 c3 m n c6 c7 c8 c9 c10 c11 c12 c13 c14 T c16 none none none none none) = some (.list (rowsT T m)) := by
    refine eLc_of (ds := rangeD 0 m) (by simp [enR, hrm]) (by rw [rangeD_len]; exact small_le a2) ?_
    refine lcS_mapM fun k hk => ?_
    have := dg_row T (0 + (k : Int))
    rw [Int.zero_add] at this
    simp [enR, wipR, dgt1, this, opt_pure]
  exact sSet_of (lift_of (u1_of k1 (show tupD _ = some (.tuple (rowsT T m)) from by simp only [tupD, rowsT_pure, if_true]))) (by simp [enR])
theorem en_cols (R : Option Cl) : sSet (.nm 19) (lift (u1 tupD (eLc (.nm 21) [21] (iR1 (aCons (getS 5) aNil)) tAll (gE (dgt1 (getS 15) (mkT (aCons (cst (.str "column")) (aCons (gE (getS 21)) aNil)))))))) (enR c1 c2 c3 m n c6 c7 c8 c9 c10 c11 c12 c13 c14 T c16 none R none none none) = .nx (enR c1 c2 c3 m n c6 c7 c8 c9 c10 c11 c12 c13 c14 T c16 none R (some ⟨.tuple (colsT T n), .own⟩) none none) := by
  obtain ⟨a1, a2, a3, a4⟩ := S
  have hrm := rng1_nat n (small_le a4)
  have k1 : eLc (.nm 21) [21] (iR1 (aCons (getS 5) aNil)) tAll (gE (dgt1 (getS 15) (mkT (aCons (cst (.str "column")) (aCons (gE (getS 21)) aNil))))) (enR c1 c2 c3 m n c6 c7 c8 c9 c10 c11 c12 c13 c14 T c16 none R none none none) = some (.list (colsT T n)) := by
    refine eLc_of (ds := rangeD 0 n) (by simp [enR, hrm]) (by rw [rangeD_len]; exact small_le a4) ?_
    refine lcS_mapM fun k hk => ?_
    have := dg_col T (0 + (k : Int))
    rw [Int.zero_add] at this
    simp [enR, wipR, dgt1, this, opt_pure]
  exact sSet_of (lift_of (u1_of k1 (show tupD _ = some (.tuple (colsT T n)) from by simp only [tupD, colsT_pure, if_true]))) (by simp [enR])
abbrev eRow : Rh → Option D := eLc (.nm 21) [21] (iR1 (aCons (getS 5) aNil)) (qB (o2 dinD (mkT (aCons (cst (.str "cell")) (aCons (gE (getS 17)) (aCons (gE (getS 21)) aNil)))) (getS 15))) (mkT (aCons (gE (getS 17)) (aCons (gE (getS 21)) (aCons (gE (o2 dgetD (getS 15) (mkT (aCons (cst (.str "cell")) (aCons (gE (getS 17)) (aCons (gE (getS 21)) aNil)))))) aNil))))
theorem en_row (R C X x21 : Option Cl) (i : Nat) : eRow (enR c1 c2 c3 m n c6 c7 c8 c9 c10 c11 c12 c13 c14 T c16 (some ⟨.int (i : Int), .ro⟩) R C X x21) = some (.list ((rowX T n i).map ceD)) := by
  obtain ⟨a1, a2, a3, a4⟩ := S
  have hrm := rng1_nat n (small_le a4)
  refine eLc_of (ds := rangeD 0 n) (by simp [enR, hrm]) (by rw [rangeD_len]; exact small_le a4) ?_
  have : (rowX T n i).map ceD = (List.range n).filterMap fun (j : Nat) => (tgt T (kCell i j)).map fun v => ceD ((i : Int), (j : Int), v) := by
    unfold rowX
    rw [List.map_filterMap]
    congr 1
    funext j
    cases tgt T (kCell i j) <;> rfl
  rw [this]
  unfold rangeD
  refine lcS_fm fun j hj => ?_
  rw [Int.zero_add]
  have d1 := din_told T (kCell i j)
  rw [show tD (kCell i j) = PyData.tuple [.str "cell", .int i, .int j] from rfl] at d1
  cases hv : tgt T (kCell i j) with
  | none =>
    rw [hv] at d1
    simp [enR, wipR, d1]
  | some v =>
    rw [hv] at d1
    have d2 := dget_told hv
    rw [show tD (kCell i j) = PyData.tuple [.str "cell", .int i, .int j] from rfl] at d2
    simp [enR, wipR, d1, d2, ceD]
theorem row_len (T : TK) (n i : Nat) : (rowX T n i).length ≤ n := by
  unfold rowX
  refine Nat.le_trans (List.length_filterMap_le ..) ?_
  rw [List.length_range]; exact Nat.le_refl _
theorem all_succ (T : TK) (i n : Nat) : allX T (i + 1) n = allX T i n ++ rowX T n i := by
  unfold allX
  rw [List.range_succ, List.flatMap_append]
  simp
theorem all_len (T : TK) (m n : Nat) : (allX T m n).length ≤ m * n := by
  induction m with
  | zero => simp [allX]
  | succ m ih =>
    rw [all_succ S, List.length_append, Nat.succ_mul]
    have := row_len S T n m
    omega
end
end T70

set_option Elab.async false
set_option linter.all false
set_option maxRecDepth 100000
set_option maxHeartbeats 4000000
namespace T70
open PySem PySem.Spec PyProof.Rows L2 PV
section
variable {m n : Nat} (S : SideOk m n) (T : TK) (c1 c2 c3 c6 c7 c8 c9 c10 c11 c12 c13 c14 c16 : Option Cl)
include S
theorem en_step (R C x21 : Option Cl) {i : Nat} (hi : i < 16) : sDrop (extendV 20 (lift eRow)) (enR c1 c2 c3 m n c6 c7 c8 c9 c10 c11 c12 c13 c14 T c16 (some ⟨.int (i : Int), .ro⟩) R C (some ⟨.list ((allX T i n).map ceD), .own⟩) x21) = .nx (enR c1 c2 c3 m n c6 c7 c8 c9 c10 c11 c12 c13 c14 T c16 (some ⟨.int (i : Int), .ro⟩) R C (some ⟨.list ((allX T (i + 1) n).map ceD), .own⟩) x21) := by
  have k := lift_of (en_row S T c1 c2 c3 c6 c7 c8 c9 c10 c11 c12 c13 c14 c16 R C (some ⟨.list ((allX T i n).map ceD), .own⟩) x21 i)
  have h1 := row_len S T n i
  have h2 := all_len S T i n
  obtain ⟨a1, a2, a3, a4⟩ := S
  have h3 : i * n ≤ 16 * 16 := Nat.mul_le_mul (by omega) a4
  have hlen : ((allX T i n).map ceD).length + ((rowX T n i).map ceD).length < 1000000 := by rw [List.length_map, List.length_map]; omega
  rw [sDrop_e]
  have e4 : extendV 20 (lift eRow) (enR c1 c2 c3 m n c6 c7 c8 c9 c10 c11 c12 c13 c14 T c16 (some ⟨.int (i : Int), .ro⟩) R C (some ⟨.list ((allX T i n).map ceD), .own⟩) x21) = some (.none, enR c1 c2 c3 m n c6 c7 c8 c9 c10 c11 c12 c13 c14 T c16 (some ⟨.int (i : Int), .ro⟩) R C (some ⟨.list ((allX T (i + 1) n).map ceD), .own⟩) x21) := by
    unfold extendV
    simp only [k]
    rw [all_succ ⟨a1, a2, a3, a4⟩, List.map_append]
    simp at hlen
    simp [enR, lstAt, hlen]
  simp only [e4]
theorem en_loop (R C : Option Cl) : Nxs (sFor [] (.nm 17) (lift (iR1 (aCons (getS 4) aNil))) (sDrop (extendV 20 (lift eRow))) (enR c1 c2 c3 m n c6 c7 c8 c9 c10 c11 c12 c13 c14 T c16 none R C (some ⟨.list [], .own⟩) none)) fun ρ => ∃ x17, ρ = enR c1 c2 c3 m n c6 c7 c8 c9 c10 c11 c12 c13 c14 T c16 x17 R C (some ⟨.list ((allX T m n).map ceD), .own⟩) none := by
  obtain ⟨a1, a2, a3, a4⟩ := id S
  have hrm := rng1_nat m (small_le a2)
  refine sFor_of (ds := rangeD 0 m) (ρ1 := enR c1 c2 c3 m n c6 c7 c8 c9 c10 c11 c12 c13 c14 T c16 none R C (some ⟨.list [], .own⟩) none) (by simp [enR, hrm]) rfl ?_
  obtain ⟨ρ, e, x17, rfl, h17⟩ := forS_rng (p := .nm 17) (b := sDrop (extendV 20 (lift eRow))) (fun k ρ => ∃ x17, ρ = enR c1 c2 c3 m n c6 c7 c8 c9 c10 c11 c12 c13 c14 T c16 x17 R C (some ⟨.list ((allX T k n).map ceD), .own⟩) none ∧ NP x17) m (enR c1 c2 c3 m n c6 c7 c8 c9 c10 c11 c12 c13 c14 T c16 none R C (some ⟨.list [], .own⟩) none) ⟨none, rfl, NP.none⟩ (fun k ρ hk hI => by
    obtain ⟨x17, rfl, h17⟩ := hI
    exact ⟨enR c1 c2 c3 m n c6 c7 c8 c9 c10 c11 c12 c13 c14 T c16 (some ⟨.int (k : Int), .ro⟩) R C (some ⟨.list ((allX T k n).map ceD), .own⟩) none, by simp [enR, setS_np h17], _, en_step S T c1 c2 c3 c6 c7 c8 c9 c10 c11 c12 c13 c14 c16 R C none (by omega), _, rfl, NP.ro⟩)
  exact ⟨_, e, x17, rfl⟩
theorem pl_told : Pl 5 (.tuple [.int m, .int n, .tuple (rowsT T m), .tuple (colsT T n), .tuple ((allX T m n).map ceD)]) := by
  have h2 := all_len S T m n
  obtain ⟨a1, a2, a3, a4⟩ := S
  have h3 : m * n ≤ 16 * 16 := Nat.mul_le_mul a2 a4
  have ho : ∀ (o : Option Int) (k : Nat), Pl k (optD o) := fun o k => by cases o; exact .none; exact .int _
  refine .tup (by simp) fun d hd => ?_
  simp only [List.mem_cons, List.not_mem_nil, or_false] at hd
  rcases hd with rfl | rfl | rfl | rfl | rfl
  · exact .int _
  · exact .int _
  · refine .tup (by simp [rowsT]; exact small_le a2) fun d hd => ?_
    obtain ⟨i, _, rfl⟩ := List.mem_map.mp hd
    exact ho _ _
  · refine .tup (by simp [colsT]; exact small_le a4) fun d hd => ?_
    obtain ⟨i, _, rfl⟩ := List.mem_map.mp hd
    exact ho _ _
  · refine .tup (by rw [List.length_map]; omega) fun d hd => ?_
    obtain ⟨c, _, rfl⟩ := List.mem_map.mp hd
    refine .tup (by simp) fun d hd => ?_
    simp only [List.mem_cons, List.not_mem_nil, or_false] at hd
    rcases hd with rfl | rfl | rfl <;> exact .int _
end
/-- the tail of the law -/
noncomputable abbrev tailB : Rh → Out := (sSeq (sSet (.nm 18) (lift (u1 tupD (eLc (.nm 17) [17] (iR1 (aCons (getS 4) aNil)) tAll (gE (dgt1 (getS 15) (mkT (aCons (cst (.str "row")) (aCons (gE (getS 17)) aNil)))))))))
    (sSeq (sSet (.nm 19) (lift (u1 tupD (eLc (.nm 21) [21] (iR1 (aCons (getS 5) aNil)) tAll (gE (dgt1 (getS 15) (mkT (aCons (cst (.str "column")) (aCons (gE (getS 21)) aNil)))))))))
    (sSeq (sSet (.nm 20) (lift (mkL aNil)))
    (sSeq (sFor [] (.nm 17) (lift (iR1 (aCons (getS 4) aNil))) (sDrop (extendV 20 (lift eRow))))
    (sRet (lift (fnE F__law_same (aCons (fnE F_telling_of (aCons (getS 7) aNil)) (aCons (mkT (aCons (gE (getS 4)) (aCons (gE (getS 5)) (aCons (gE (getS 18)) (aCons (gE (getS 19)) (aCons (u1 tupD (getS 20)) aNil)))))) aNil)))))))))
theorem tail_ok {m n : Nat} (S : SideOk m n) {es : List D} (hg : AllG m n es) (hl : es.length ≤ 1000) (c1 c2 c3 c6 c8 c9 c10 c11 c12 c13 c14 c16 : Option Cl) (o7 : Ow) : Rts (tailB (enR c1 c2 c3 m n c6 (some ⟨.tuple [.int m, .int n, .tuple es], o7⟩) c8 c9 c10 c11 c12 c13 c14 (told es) c16 none none none none none)) fun d _ => d = .bool true := by
  have ht := tellingof_ok S hg hl
  have hs : F__law_same [_, _] = some (.bool true) := same_refl 5 _ (pl_told S (told es))
  generalize hdy : PyData.tuple [.int m, .int n, .tuple es] = dy at *
  generalize told es = T at *
  refine seqR1 (en_rows S T ..) (seqR1 (en_cols S T ..) (seqR1 (ρ' := enR c1 c2 c3 m n c6 (some ⟨dy, o7⟩) c8 c9 c10 c11 c12 c13 c14 T c16 none (some ⟨.tuple (rowsT T m), .own⟩) (some ⟨.tuple (colsT T n), .own⟩) (some ⟨.list [], .own⟩) none) (by simp [enR]) (Nxs.seqR (en_loop S T ..) fun ρ hρ => ?_)))
  obtain ⟨x17, rfl⟩ := hρ
  refine ⟨.bool true, _, sRet_of (lift_of ?_), rfl⟩
  have t1 : tupD (.list ((allX T m n).map ceD)) = some (.tuple ((allX T m n).map ceD)) := by simp only [tupD, pureL_ce, if_true]
  generalize (allX T m n).map ceD = A at *
  have p1 : pureD (.tuple (rowsT T m)) = true := by rw [pureD_tup]; exact rowsT_pure T m
  have p2 : pureD (.tuple (colsT T n)) = true := by rw [pureD_tup]; exact colsT_pure T n
  generalize PyData.tuple (rowsT T m) = A1 at *
  generalize PyData.tuple (colsT T n) = A2 at *
  simp [enR, ht, p1, p2, t1, hs]
end T70

set_option Elab.async false
set_option linter.all false
set_option maxRecDepth 100000
set_option maxHeartbeats 4000000
namespace T70
open PySem PySem.Spec PyProof.Rows L2 PV
/-- from the law's own walk on -/
noncomputable abbrev midB : Rh → Out := (sSeq (sSet (.tp [.nm 10, .nm 11]) (nkT (bCons (lift (mkL aNil)) (bCons (lift (mkL aNil)) bNil))))
    (sSeq (sFor [] (.nm 12) (lift (iR1 (aCons (fnE lenF (aCons (getS 6) aNil)) aNil))) bLw)
    (sSeq (sSet (.nm 14) (lift (eLc (.nm 13) [13] (iR1 (aCons (fnE lenF (aCons (getS 6) aNil)) aNil)) (pand (qB (o2 neD (o2 ixD (o2 ixD (getS 6) (getS 13)) (cst (.int 0))) (cst (.str "wrong")))) (qB (o2 notInD (getS 13) (getS 10)))) (gE (getS 13)))))
    (sSeq (sSet (.tp [.nm 15, .nm 16]) (nkT (bCons (lift (cst (.dict [(.none, .none)]))) (bCons (lift (mkL aNil)) bNil))))
    (sSeq (sFor [14] (.nm 13) (lift (iS (getS 14))) bLt)
    (sSeq (sIf (lift tLast) (sRet (lift (cst (.bool false)))) (sNil))
    tailB))))))
theorem mid_ok {m n : Nat} (S : SideOk m n) {es : List D} (hg : AllG m n es) (hl : es.length ≤ 1000) (c1 c2 c3 c8 c9 : Option Cl) (o7 : Ow) :
    Rts (midB [none, c1, c2, c3, some ⟨.int m, .own⟩, some ⟨.int n, .own⟩, some ⟨.list es, .own⟩, some ⟨.tuple [.int m, .int n, .tuple es], o7⟩, c8, c9, none, none, none, none, none, none, none, none, none, none, none, none]) fun d _ => d = .bool true := by
  have hT := nums_tell hg
  have hnl := nums_len es
  refine seqR1 (ρ' := lwR c1 c2 c3 (some ⟨.int m, .own⟩) (some ⟨.int n, .own⟩) (some ⟨.tuple [.int m, .int n, .tuple es], o7⟩) c8 c9 es ⟨[], [], []⟩ none none) (by simp [lwR, natsD]) (Nxs.seqR (lw_loop hg hl ..) fun ρ hρ => ?_)
  obtain ⟨x12, x13, rfl, n12, n13⟩ := hρ
  refine seqR1 (sSet_of (lift_of (lw_nums hg hl ..)) (ρ2 := [none, c1, c2, c3, some ⟨.int m, .own⟩, some ⟨.int n, .own⟩, some ⟨.list es, .own⟩, some ⟨.tuple [.int m, .int n, .tuple es], o7⟩, c8, c9, some ⟨.list (natsD (wst es es.length).nm), .own⟩, some ⟨.list (natsD (wst es es.length).wr), .own⟩, x12, x13, some ⟨.list (natsD (nums es)), .own⟩, none, none, none, none, none, none, none]) (by simp [lwR])) ?_
  refine seqR1 (ρ' := [none, c1, c2, c3, some ⟨.int m, .own⟩, some ⟨.int n, .own⟩, some ⟨.list es, .own⟩, some ⟨.tuple [.int m, .int n, .tuple es], o7⟩, c8, c9, some ⟨.list (natsD (wst es es.length).nm), .own⟩, some ⟨.list (natsD (wst es es.length).wr), .own⟩, x12, x13, some ⟨.list (natsD (nums es)), .own⟩, some ⟨.dict (toldKV []), .own⟩, some ⟨.list (natsD []), .own⟩, none, none, none, none, none]) (by simp [toldKV, natsD]) (Nxs.seqR (lt_loop hg hT (by omega) _ _ _ _ _ _ _ _ _ _ _ n13) fun ρ hρ => ?_)
  obtain ⟨y13, m13, rfl⟩ := hρ
  have hL := last_test hg hl c1 c2 c3 (some ⟨.int m, .own⟩) (some ⟨.int n, .own⟩) c8 c9 (some ⟨.list (natsD (wst es es.length).nm), .own⟩) x12 y13 o7 .own
  refine seqR1 (ρ' := ltR c1 c2 c3 (some ⟨.int m, .own⟩) (some ⟨.int n, .own⟩) (some ⟨.tuple [.int m, .int n, .tuple es], o7⟩) c8 c9 (some ⟨.list (natsD (wst es es.length).nm), .own⟩) (some ⟨.list (natsD (wst es es.length).wr), .own⟩) x12 es (nums es) (tst es (nums es)) y13) ?_ ?_
  · exact (sIf_f (lift_of hL)).trans rfl
  · exact tail_ok S hg hl c1 c2 c3 (some ⟨.list es, .own⟩) c8 c9 (some ⟨.list (natsD (wst es es.length).nm), .own⟩) (some ⟨.list (natsD (wst es es.length).wr), .own⟩) x12 y13 (some ⟨.list (natsD (nums es)), .ro⟩) (some ⟨.list (natsD (tst es (nums es)).2), .own⟩) o7
end T70

set_option Elab.async false
set_option linter.all false
set_option maxRecDepth 100000
set_option maxHeartbeats 4000000
namespace T70
open PySem PySem.Spec PyProof.Rows L2 PV
def stR (b : D) (c2 x3 : Option Cl) (m n : Nat) (es : List D) (x7 x8 x9 : Option Cl) : Rh := [none, some ⟨b, .own⟩, c2, x3, some ⟨.int m, .own⟩, some ⟨.int n, .own⟩, some ⟨.list es, .own⟩, x7, x8, x9, none, none, none, none, none, none, none, none, none, none, none, none]
noncomputable abbrev bEn : Rh → Out := sDrop (appendV 6 (callM 1 [.rd 1, .ev (lift (gE (getS 4))), .ev (lift (gE (getS 5))), .ev (lift (fnE lenF (aCons (getS 6) aNil)))] F__law_entry))
theorem en_add {m n : Nat} (S : SideOk m n) {b : D} (hb : IsBox b) (c2 x3 : Option Cl) {es : List D} (hg : AllG m n es) (hl : es.length ≤ 100) : ∃ b' d, bEn (stR b c2 x3 m n es none none none) = .nx (stR b' c2 x3 m n (es ++ [d]) none none none) ∧ IsBox b' ∧ GoodE m n d := by
  obtain ⟨d, b', e, hd, hb'⟩ := entry_ok S hl hb
  refine ⟨b', d, ?_, hb', hd⟩
  have hp := (good_entry hd).2
  have hl' : es.length + 1 < 1000000 := by omega
  simp [stR, runAg, valAgs, valAg, e, lstAt, hl']
theorem en_loop1 {m n : Nat} (S : SideOk m n) {b : D} (hb : IsBox b) (c2 x3 : Option Cl) (h3 : NP x3) : Nxs (sFor [] (.nm 3) (ivf rng1 (bCons (callM 1 [.rd 1, .ev (lift (cst (.int 30)))] F__law_draw) bNil)) bEn (stR b c2 x3 m n [] none none none)) fun ρ => ∃ b x3 es, ρ = stR b c2 x3 m n es none none none ∧ IsBox b ∧ AllG m n es ∧ es.length ≤ 30 := by
  obtain ⟨k, b1, e1, hb1, u1', v1⟩ := draw_ok hb (n := 30) (by decide) (by decide)
  obtain ⟨kn, rfl⟩ := Int.eq_ofNat_of_zero_le u1'
  have hr := rng1_nat kn (by omega)
  refine sFor_of (ds := rangeD 0 kn) (ρ1 := stR b1 c2 x3 m n [] none none none) (by simp [stR, runAg, valAgs, valAg, e1, hr]) rfl ?_
  obtain ⟨ρ, e, b, x3, es, rfl, hb, h3, hg, hl⟩ := forS_rng (p := .nm 3) (b := bEn) (fun k ρ => ∃ b x3 es, ρ = stR b c2 x3 m n es none none none ∧ IsBox b ∧ NP x3 ∧ AllG m n es ∧ es.length = k) kn (stR b1 c2 x3 m n [] none none none) ⟨b1, x3, [], rfl, hb1, h3, fun e he => (nomatch he), rfl⟩ (fun k ρ hk hI => by
    obtain ⟨b, x3, es, rfl, hb, h3, hg, hl⟩ := hI
    obtain ⟨b', d, e, hb', hd⟩ := en_add S hb c2 (some ⟨.int (k : Int), .ro⟩) hg (by omega)
    refine ⟨stR b c2 (some ⟨.int (k : Int), .ro⟩) m n es none none none, by simp [stR, setS_np h3], _, e, b', _, _, rfl, hb', NP.ro, fun q hq => ?_, by simp [hl]⟩
    rcases List.mem_append.mp hq with hq | hq
    · exact hg q hq
    · rw [List.mem_singleton.mp hq]; exact hd)
  exact ⟨_, e, b, x3, es, rfl, hb, hg, by omega⟩
/-- a diary with a bad entry -/
theorem bad_diary {m n : Nat} (S : SideOk m n) {es : List D} (hg : AllG m n es) (hl : es.length ≤ 30) {d : D} (hd : F_is_entry [.int m, .int n, d] = some (.bool false) ∧ pureD d = true) (lo hi : Option Int) : F_is_diary [.tuple [.int m, .int n, .tuple (PV.cutD es none lo ++ [d] ++ PV.cutD es hi none)]] = some (.bool false) := by
  classical
  have hin : ∀ (lo hi : Option Int), ∀ x ∈ PV.cutD es lo hi, GoodE m n x := fun lo hi x hx => by
    unfold PV.cutD at hx
    exact hg x (List.mem_of_mem_drop (List.mem_of_mem_take hx))
  have hne : F_is_entry [.int m, .int n, d] ≠ some (.bool true) := by rw [hd.1]; simp
  have := diary_eq S (es := PV.cutD es none lo ++ [d] ++ PV.cutD es hi none) (f := fun x => decide (F_is_entry [.int m, .int n, x] = some (.bool true))) (fun x hx => by
    rcases List.mem_append.mp hx with hx | hx
    · rcases List.mem_append.mp hx with hx | hx
      · have := good_entry (hin _ _ x hx)
        exact ⟨by rw [this.1]; simp, this.2⟩
      · rw [List.mem_singleton.mp hx]
        exact ⟨by rw [hd.1]; simp, hd.2⟩
    · have := good_entry (hin _ _ x hx)
      exact ⟨by rw [this.1]; simp, this.2⟩) (by
        have h1 := cutD_len es none lo
        have h2 := cutD_len es hi none
        rw [List.length_append, List.length_append, List.length_singleton]; omega)
  rw [this]
  have hf : ((PV.cutD es none lo ++ [d] ++ PV.cutD es hi none).all fun x => decide (F_is_entry [.int m, .int n, x] = some (.bool true))) = false := by
    rw [List.all_append, List.all_append, List.all_cons, decide_eq_false hne]; simp
  rw [hf, Bool.and_false]
theorem good_diary {m n : Nat} (S : SideOk m n) {es : List D} (hg : AllG m n es) (hl : es.length ≤ 30) : F_is_diary [.tuple [.int m, .int n, .tuple es]] = some (.bool true) := by
  have := diary_eq S (es := es) (f := fun _ => true) (fun x hx => good_entry (hg x hx)) (by omega)
  rw [this]
  simp
  omega
end T70

set_option Elab.async false
set_option linter.all false
set_option maxRecDepth 100000
set_option maxHeartbeats 4000000
namespace T70
open PySem PySem.Spec PyProof.Rows L2 PV
noncomputable abbrev gBad : Rh → Option (D × Rh) := nkT (bCons (lift (gE (getS 4))) (bCons (lift (gE (getS 5))) (bCons (w1 tupD (v2 addD (v2 addD (lift (slE (getS 6) opn (ops (getS 8)))) (nkL (bCons (callM 1 [.rd 1, .ev (lift (gE (getS 4))), .ev (lift (gE (getS 5)))] F__law_bad_entry) bNil))) (lift (slE (getS 6) (ops (getS 8)) opn)))) bNil)))
theorem gBad_ok {m n : Nat} (S : SideOk m n) {b : D} (hb : IsBox b) (c2 x3 x7 : Option Cl) {es : List D} (hg : AllG m n es) (hl : es.length ≤ 30) (k : Int) : ∃ d b', gBad (stR b c2 x3 m n es x7 (some ⟨.int k, .own⟩) none) = some (d, stR b' c2 x3 m n es x7 (some ⟨.int k, .own⟩) none) ∧ IsBox b' ∧ F_is_diary [d] = some (.bool false) ∧ pureD d = true := by
  obtain ⟨d, b', e, hd, hb'⟩ := bad_entry_ok S hb
  have hp := pure_all hg
  have c1 := cutL_ok hp none (some k)
  have c3 := cutL_ok hp (some k) none
  have l1 := cutD_len es none (some k)
  have l2 := cutD_len es (some k) none
  have p1 := pure_cut hp none (some k)
  have p2 := pure_cut hp (some k) none
  have pd : pureL [d] = true := by simp [hd.2]
  have a1 : addD (.list (PV.cutD es none (some k))) (.list [d]) = some (.list (PV.cutD es none (some k) ++ [d])) := addL_ok p1 pd (by simp; omega)
  have a2 : addD (.list (PV.cutD es none (some k) ++ [d])) (.list (PV.cutD es (some k) none)) = some (.list (PV.cutD es none (some k) ++ [d] ++ PV.cutD es (some k) none)) := addL_ok (pure_app p1 pd) p2 (by simp; omega)
  have hA : pureL (PV.cutD es none (some k) ++ [d] ++ PV.cutD es (some k) none) = true := pure_app (pure_app p1 pd) p2
  refine ⟨_, b', ?_, hb', bad_diary S hg hl hd (some k) (some k), by simp only [pureD_tup, pureL_cons, pureD_int, hA, Bool.true_and]; rfl⟩
  have t : tupD (.list (PV.cutD es none (some k) ++ [d] ++ PV.cutD es (some k) none)) = some (.tuple (PV.cutD es none (some k) ++ [d] ++ PV.cutD es (some k) none)) := by simp only [tupD, hA, if_true]
  generalize PV.cutD es none (some k) ++ [d] ++ PV.cutD es (some k) none = A at *
  generalize PV.cutD es none (some k) ++ [d] = A1 at *
  generalize PV.cutD es none (some k) = A2 at *
  generalize PV.cutD es (some k) none = A3 at *
  simp [stR, runAg, valAgs, valAg, e, c1, c3, a1, a2, t]
noncomputable abbrev gBads : Rh → Option (D × Rh) := nkL (bCons gBad (bCons gBad (bCons (lift (mkT (aCons (gE (getS 4)) (aCons (gE (getS 5)) aNil)))) (bCons (lift (mkT (aCons (cst (.int 0)) (aCons (gE (getS 5)) (aCons (mkT aNil) aNil))))) (bCons (lift (mkT (aCons (gE (getS 4)) (aCons (cst (.int 17)) (aCons (mkT aNil) aNil))))) (bCons (lift (cst .none)) (bCons (lift (mkT (aCons (gE (getS 4)) (aCons (gE (getS 5)) (aCons (cst .none) aNil))))) (bCons (lift (mkT (aCons (cst (.bool true)) (aCons (gE (getS 5)) (aCons (mkT aNil) aNil))))) bNil))))))))
theorem gBads_ok {m n : Nat} (S : SideOk m n) {b : D} (hb : IsBox b) (c2 x3 x7 : Option Cl) {es : List D} (hg : AllG m n es) (hl : es.length ≤ 30) (k : Int) : ∃ L b', gBads (stR b c2 x3 m n es x7 (some ⟨.int k, .own⟩) none) = some (.list L, stR b' c2 x3 m n es x7 (some ⟨.int k, .own⟩) none) ∧ IsBox b' ∧ L.length = 8 ∧ ∀ d ∈ L, F_is_diary [d] = some (.bool false) ∧ pureD d = true := by
  obtain ⟨d1, b1, e1, hb1, q1⟩ := gBad_ok S hb c2 x3 x7 hg hl k
  obtain ⟨d2, b2, e2, hb2, q2⟩ := gBad_ok S hb1 c2 x3 x7 hg hl k
  refine ⟨[d1, d2, .tuple [.int m, .int n], .tuple [.int 0, .int n, .tuple []], .tuple [.int m, .int 17, .tuple []], .none, .tuple [.int m, .int n, .none], .tuple [.bool true, .int n, .tuple []]], b2, ?_, hb2, rfl, fun d hd => ?_⟩
  · refine nkL_of (bCons_of e1 (bCons_of e2 ?_)) (by simp)
    simp [stR]
  · simp only [List.mem_cons, List.not_mem_nil, or_false] at hd
    rcases hd with rfl | rfl | rfl | rfl | rfl | rfl | rfl | rfl
    · exact q1
    · exact q2
    · exact ⟨diary_two _ _, rfl⟩
    · exact ⟨diary_0 n, rfl⟩
    · exact ⟨diary_17 S.1 S.2.1, rfl⟩
    · exact ⟨diary_none, rfl⟩
    · exact ⟨diary_third _ _, rfl⟩
    · exact ⟨diary_true n, rfl⟩
end T70

set_option Elab.async false
set_option linter.all false
set_option maxRecDepth 100000
set_option maxHeartbeats 4000000
namespace T70
open PySem PySem.Spec PyProof.Rows L2 PV
noncomputable abbrev tDi : Rh → Option (Bool × Rh) := tor (lift (qB (o2 neD (cst (.int 200)) (cst (.int 200))))) (tor (lift (qB (o2 isNotD (fnE F_is_diary (aCons (getS 7) aNil)) (cst (.bool true))))) (wB (v2 isNotD (fnV F_is_diary (bCons (ixV 9 (callM 1 [.rd 1, .ev (lift (cst (.int 8)))] F__law_draw)) bNil)) (lift (cst (.bool false))))))
noncomputable abbrev tBig : Rh → Option Bool := por (qB (o2 isNotD (fnE F_is_diary (aCons (mkT (aCons (gE (getS 4)) (aCons (gE (getS 5)) (aCons (o2 mulD (mkT (aCons (mkT (aCons (cst (.str "wrong")) (aCons (o2 powI (cst (.int 10)) (cst (.int 30))) aNil))) aNil)) (cst (.int 200))) aNil)))) aNil)) (cst (.bool true)))) (qB (o2 isNotD (fnE F_is_diary (aCons (mkT (aCons (gE (getS 4)) (aCons (gE (getS 5)) (aCons (o2 mulD (mkT (aCons (mkT (aCons (cst (.str "wrong")) (aCons (cst (.int 0)) aNil))) aNil)) (cst (.int 201))) aNil)))) aNil)) (cst (.bool false))))
theorem tDi_ok {m n : Nat} (S : SideOk m n) {b : D} (hb : IsBox b) (c2 x3 x8 : Option Cl) {es : List D} (hg : AllG m n es) (hl : es.length ≤ 30) {L : List D} (hL : L.length = 8) (h : ∀ d ∈ L, F_is_diary [d] = some (.bool false) ∧ pureD d = true) : ∃ b', tDi (stR b c2 x3 m n es (some ⟨.tuple [.int m, .int n, .tuple es], .own⟩) x8 (some ⟨.list L, .own⟩)) = some (false, stR b' c2 x3 m n es (some ⟨.tuple [.int m, .int n, .tuple es], .own⟩) x8 (some ⟨.list L, .own⟩)) ∧ IsBox b' := by
  obtain ⟨k, b1, e1, hb1, u1', v1⟩ := draw_ok hb (n := 8) (by decide) (by decide)
  obtain ⟨kn, rfl⟩ := Int.eq_ofNat_of_zero_le u1'
  have hk : kn < L.length := by omega
  have hx : ixV 9 (callM 1 [.rd 1, .ev (lift (cst (.int 8)))] F__law_draw) (stR b c2 x3 m n es (some ⟨.tuple [.int m, .int n, .tuple es], .own⟩) x8 (some ⟨.list L, .own⟩)) = some (L[kn], stR b1 c2 x3 m n es (some ⟨.tuple [.int m, .int n, .tuple es], .own⟩) x8 (some ⟨.list L, .own⟩)) := by
    refine ixV_of (ds := L) (j := kn) rfl (pureL_of fun d hd => (h d hd).2) ?_ rfl (List.getElem?_eq_getElem hk)
    simp [stR, runAg, valAgs, valAg, e1]
  have hd := (h _ (List.getElem_mem hk)).1
  have hgd := good_diary S hg hl
  have hne : neD (.int 200) (.int 200) = some (.bool false) := by rw [neD_of (Sh.int) (by decide) (Sh.int) (by decide)]; simp [PyData.eqv]
  refine ⟨b1, ?_, hb1⟩
  generalize hA : stR b c2 x3 m n es (some ⟨.tuple [.int m, .int n, .tuple es], .own⟩) x8 (some ⟨.list L, .own⟩) = ρ at *
  generalize hA2 : stR b1 c2 x3 m n es (some ⟨.tuple [.int m, .int n, .tuple es], .own⟩) x8 (some ⟨.list L, .own⟩) = ρ' at *
  have g7 : getS 7 ρ = some (.tuple [.int m, .int n, .tuple es]) := by rw [← hA]; rfl
  unfold tDi
  generalize ixV 9 (callM 1 [.rd 1, .ev (lift (cst (.int 8)))] F__law_draw) = g at *
  simp [hne, g7, hgd, hx, hd]
theorem pow30 : powI (.int 10) (.int 30) = some (.int 1000000000000000000000000000000) := by rfl
theorem tBig_ok {m n : Nat} (S : SideOk m n) (b : D) (c2 x3 x7 x8 x9 : Option Cl) (es : List D) : tBig (stR b c2 x3 m n es x7 x8 x9) = some false := by
  have h1 := big_diary S (1000000000000000000000000000000 : Int) (by decide +kernel) 200 (by decide)
  have h2 := big_diary S 0 (by decide) 201 (by decide)
  have m1 := mulT_one (d := .tuple [.str "wrong", .int 1000000000000000000000000000000]) (k := 200) rfl (by decide) (by decide)
  have m2 := mulT_one (d := .tuple [.str "wrong", .int 0]) (k := 201) rfl (by decide) (by decide)
  have hp := pow30
  rw [show ((200 : Nat) : Int) = 200 from rfl] at m1
  rw [show ((201 : Nat) : Int) = 201 from rfl] at m2
  generalize (PyData.int 1000000000000000000000000000000) = z at *
  generalize List.replicate 200 (PyData.tuple [.str "wrong", z]) = A1 at *
  generalize List.replicate 201 (PyData.tuple [.str "wrong", .int 0]) = A2 at *
  have d1 : decide (200 ≤ 200) = true := rfl
  have d2 : decide (201 ≤ 200) = false := rfl
  rw [d1] at h1
  rw [d2] at h2
  simp [stR, hp, m1, m2, h1, h2]
end T70

set_option Elab.async false
set_option linter.all false
set_option maxRecDepth 100000
set_option maxHeartbeats 4000000
namespace T70
open PySem PySem.Spec PyProof.Rows L2 PV
noncomputable abbrev diB : Rh → Out := (sSeq (sPar 4 5 (bCons (v2 addD (lift (cst (.int 1))) (callM 1 [.rd 1, .ev (lift (cst (.int 4)))] F__law_draw)) (bCons (v2 addD (lift (cst (.int 1))) (callM 1 [.rd 1, .ev (lift (cst (.int 4)))] F__law_draw)) bNil)))
    (sSeq (sSet (.nm 6) (lift (mkL aNil)))
    (sSeq (sFor [] (.nm 3) (ivf rng1 (bCons (callM 1 [.rd 1, .ev (lift (cst (.int 30)))] F__law_draw) bNil)) bEn)
    (sSeq (sSet (.nm 7) (lift (mkT (aCons (gE (getS 4)) (aCons (gE (getS 5)) (aCons (u1 tupD (getS 6)) aNil))))))
    (sSeq (sSet (.nm 8) (callM 1 [.rd 1, .ev (lift (o2 addD (fnE lenF (aCons (getS 6) aNil)) (cst (.int 1))))] F__law_draw))
    (sSeq (sSet (.nm 9) gBads)
    (sSeq (sIf tDi (sRet (lift (cst (.bool false)))) (sNil))
    (sSeq (sIf (lift tBig) (sRet (lift (cst (.bool false)))) (sNil))
    midB))))))))
theorem di_ok {b : D} (hb : IsBox b) (c2 x3 : Option Cl) (h3 : NP x3) :
    Rts (diB [none, some ⟨b, .own⟩, c2, x3, none, none, none, none, none, none, none, none, none, none, none, none, none, none, none, none, none, none]) fun d _ => d = .bool true := by
  obtain ⟨k1, b1, e1, hb1, u1', v1⟩ := draw_ok hb (n := 4) (by decide) (by decide)
  obtain ⟨k2, b2, e2, hb2, u2, v2'⟩ := draw_ok hb1 (n := 4) (by decide) (by decide)
  obtain ⟨m0, rfl⟩ := Int.eq_ofNat_of_zero_le u1'
  obtain ⟨n0, rfl⟩ := Int.eq_ofNat_of_zero_le u2
  have S : SideOk (1 + m0) (1 + n0) := by unfold SideOk; omega
  have cm : (1 : Int) + (m0 : Int) = ((1 + m0 : Nat) : Int) := by omega
  have cn : (1 : Int) + (n0 : Int) = ((1 + n0 : Nat) : Int) := by omega
  refine seqR1 (ρ' := [none, some ⟨b2, .own⟩, c2, x3, some ⟨.int ((1 + m0 : Nat) : Int), .own⟩, some ⟨.int ((1 + n0 : Nat) : Int), .own⟩, none, none, none, none, none, none, none, none, none, none, none, none, none, none, none, none]) (by rw [← cm, ← cn]; simp [runAg, valAgs, valAg, e1, e2]) ?_
  generalize 1 + m0 = m at *
  generalize 1 + n0 = n at *
  refine seqR1 (ρ' := stR b2 c2 x3 m n [] none none none) (by simp [stR]) (Nxs.seqR (en_loop1 S hb2 c2 x3 h3) fun ρ hρ => ?_)
  obtain ⟨b, x3, es, rfl, hb, hg, hl⟩ := hρ
  have hp := pure_all hg
  refine seqR1 (ρ' := stR b c2 x3 m n es (some ⟨.tuple [.int m, .int n, .tuple es], .own⟩) none none) (by simp [stR, tupD, hp]) ?_
  obtain ⟨k, b3, e3, hb3, u3, v3⟩ := draw_ok hb (n := (es.length : Int) + 1) (by omega) (by omega)
  refine seqR1 (ρ' := stR b3 c2 x3 m n es (some ⟨.tuple [.int m, .int n, .tuple es], .own⟩) (some ⟨.int k, .own⟩) none) (by simp [stR, runAg, valAgs, valAg, e3]) ?_
  obtain ⟨L, b4, e4, hb4, hL, hall⟩ := gBads_ok S hb3 c2 x3 (some ⟨.tuple [.int m, .int n, .tuple es], .own⟩) hg hl k
  refine seqR1 (sSet_of e4 (ρ2 := stR b4 c2 x3 m n es (some ⟨.tuple [.int m, .int n, .tuple es], .own⟩) (some ⟨.int k, .own⟩) (some ⟨.list L, .own⟩)) (by simp [stR])) ?_
  obtain ⟨b5, e5, hb5⟩ := tDi_ok S hb4 c2 x3 (some ⟨.int k, .own⟩) hg hl hL hall
  refine seqR1 ((sIf_f e5).trans rfl) (seqR1 ((sIf_f (lift_of (tBig_ok S ..))).trans rfl) ?_)
  exact mid_ok S hg (by omega) ..
/-! ### the telling -/
noncomputable abbrev eTe : Rh → Option (D × Rh) := v2 isD (fnV F_is_telling (bCons (callM 1 [.rd 1, .ev (lift (gE (getS 2)))] F__law_bad_telling) bNil)) (lift (cst (.bool false)))
noncomputable abbrev tTe : Rh → Option (Bool × Rh) := tor (lift (qB (o2 isNotD (fnE F_is_telling (aCons (getS 2) aNil)) (cst (.bool true))))) (tnot (wB (fnV allF (bCons (vLc [] (.nm 3) [3] (lift (iR1 (aCons (cst (.int 4)) aNil))) (lift tAll) eTe) bNil))))
def teS (b t : D) (x3 : Option Cl) : Rh := [none, some ⟨b, .own⟩, some ⟨t, .own⟩, x3, none, none, none, none, none, none, none, none, none, none, none, none, none, none, none, none, none, none]
end T70

set_option Elab.async false
set_option linter.all false
set_option maxRecDepth 100000
set_option maxHeartbeats 4000000
namespace T70
open PySem PySem.Spec PyProof.Rows L2 PV
theorem te_step {m n : Nat} {rows cols : List D} {cs : List Ce} (S : SideOk m n) (V : ValidT m n rows cols cs) {b : D} (hb : IsBox b) (x3 : Option Cl) : ∃ b', eTe (teS b (telD m n rows cols cs) x3) = some (.bool true, teS b' (telD m n rows cols cs) x3) ∧ IsBox b' := by
  obtain ⟨d, b', e, ⟨h1, h2⟩, hb'⟩ := bad_telling_ok S V hb
  have hp : pureD (telD m n rows cols cs) = true := by
    unfold telD
    have p1 := V_rows V
    have p2 := V_cols V
    have p3 := V_cells (cs := cs)
    simp only [pureD_tup, pureL_cons, pureD_int, Bool.true_and] at p1 p2 p3 ⊢
    simp only [p1, p2, p3]; rfl
  generalize telD m n rows cols cs = t at *
  refine ⟨b', ?_, hb'⟩
  simp [teS, runAg, valAgs, valAg, e, h1, hp]
theorem te_test {m n : Nat} {rows cols : List D} {cs : List Ce} (S : SideOk m n) (V : ValidT m n rows cols cs) {b : D} (hb : IsBox b) : ∃ b' x3, tTe (teS b (telD m n rows cols cs) none) = some (false, teS b' (telD m n rows cols cs) x3) ∧ IsBox b' ∧ NP x3 := by
  have ht := tell_ok S V
  have hst : ∀ b x3, IsBox b → ∃ b', eTe (teS b (telD m n rows cols cs) x3) = some (.bool true, teS b' (telD m n rows cols cs) x3) ∧ IsBox b' := fun b x3 hb => te_step S V hb x3
  generalize telD m n rows cols cs = t at *
  obtain ⟨r, ρ', e, ⟨b', x3, rfl, hb', h3⟩, hl, hr⟩ := lcV_all (p := .nm 3) (e := eTe) (vs := [3]) (fun ρ => ∃ b x3, ρ = teS b t x3 ∧ IsBox b ∧ NP x3) (fun d => ∃ k : Int, d = .int k) (fun _ x => x = .bool true) (fun d ρ hd hI => by
    obtain ⟨k, rfl⟩ := hd
    obtain ⟨b, x3, rfl, hb, h3⟩ := hI
    obtain ⟨b', e, hb'⟩ := hst b (some ⟨.int k, .ro⟩) hb
    exact ⟨teS b t (some ⟨.int k, .ro⟩), _, _, by simp [teS, setS_np h3], e, rfl, rfl, b', none, rfl, hb', NP.none⟩) (rangeD 0 4) (teS b t none) (fun d hd => by
      unfold rangeD at hd
      obtain ⟨k, _, rfl⟩ := List.mem_map.mp hd; exact ⟨_, rfl⟩) ⟨b, none, rfl, hb, NP.none⟩
  have hv : vLc [] (.nm 3) [3] (lift (iR1 (aCons (cst (.int 4)) aNil))) (lift tAll) eTe (teS b t none) = some (.list r, teS b' t x3) := by
    refine vLc_of (ds := rangeD 0 4) (ρ1 := teS b t none) (ρ2 := teS b t none) ?_ (by rw [rangeD_len]; decide) rfl rfl e
    have := rng1_nat 4 (by decide)
    refine lift_of ?_
    simp only [iR1_e, aCons_e, cst_e, aNil_e]
    exact this
  have hre : r = (List.range 4).map fun _ => PyData.bool true := by
    have : r = List.replicate r.length (.bool true) := List.eq_replicate_of_mem fun x hx => by obtain ⟨_, _, h⟩ := hr x hx; exact h
    rw [this, hl, rangeD_len]
    rfl
  have ha : allF [.list r] = some (.bool true) := by rw [hre, allF_map (g := fun _ : Nat => true)]; rfl
  refine ⟨b', x3, ?_, hb', h3⟩
  unfold tTe
  generalize vLc [] (.nm 3) [3] (lift (iR1 (aCons (cst (.int 4)) aNil))) (lift tAll) eTe = g at *
  have g2 : getS 2 (teS b t none) = some t := rfl
  generalize teS b t none = ρ at *
  generalize teS b' t x3 = ρ' at *
  simp [g2, ht, hv, ha]
theorem law_math : ∀ ns : List Int, ns.length ≤ 63 → ∃ ρ', B_law (rhoL N_law.length (boxD ns)) = .rt (.bool true) ρ' := by
  intro ns _
  have hR : Rts (B_law (rhoL 22 (boxD ns))) fun d _ => d = .bool true := by
    have h0 : rhoL 22 (boxD ns) = [none, some ⟨boxD ns, .own⟩, none, none, none, none, none, none, none, none, none, none, none, none, none, none, none, none, none, none, none, none] := rfl
    rw [h0]
    obtain ⟨t, b, e, ⟨m, n, rows, cols, cs, rfl, S, V⟩, hb⟩ := telling_ok (isBox_box ns)
    generalize boxD ns = b0 at *
    obtain ⟨b', x3, e2, hb', h3⟩ := te_test S V hb
    unfold B_law
    refine seqR1 (ρ' := teS b (telD m n rows cols cs) none) ?_ (seqR1 ((sIf_f e2).trans rfl) (di_ok hb' _ _ h3))
    generalize telD m n rows cols cs = t at *
    simp [teS, runAg, valAgs, valAg, e]
  obtain ⟨d, ρ, e, rfl⟩ := hR
  exact ⟨ρ, e⟩
end T70

set_option Elab.async false
set_option linter.all false
set_option maxRecDepth 100000
set_option maxHeartbeats 0
namespace T70
open PySem PySem.Spec PyProof.Rows L2 PV
/-! ### the head: facts by names, the run -/
def d_is_count : He.DefD := ⟨("is_count", none), "is_count", "is_count", defArgs s_is_count, defBody s_is_count, defScope s_is_count, [], []⟩
def d_are_told_sums : He.DefD := ⟨("are_told_sums", none), "are_told_sums", "are_told_sums", defArgs s_are_told_sums, defBody s_are_told_sums, defScope s_are_told_sums, [], []⟩
def d_is_told_cell : He.DefD := ⟨("is_told_cell", none), "is_told_cell", "is_told_cell", defArgs s_is_told_cell, defBody s_is_told_cell, defScope s_is_told_cell, [], []⟩
def d_are_told_cells : He.DefD := ⟨("are_told_cells", none), "are_told_cells", "are_told_cells", defArgs s_are_told_cells, defBody s_are_told_cells, defScope s_are_told_cells, [], []⟩
def d_is_telling : He.DefD := ⟨("is_telling", none), "is_telling", "is_telling", defArgs s_is_telling, defBody s_is_telling, defScope s_is_telling, [], []⟩
def d_is_entry : He.DefD := ⟨("is_entry", none), "is_entry", "is_entry", defArgs s_is_entry, defBody s_is_entry, defScope s_is_entry, [], []⟩
def d_is_diary : He.DefD := ⟨("is_diary", none), "is_diary", "is_diary", defArgs s_is_diary, defBody s_is_diary, defScope s_is_diary, [], []⟩
def d_withdrawn : He.DefD := ⟨("withdrawn", none), "withdrawn", "withdrawn", defArgs s_withdrawn, defBody s_withdrawn, defScope s_withdrawn, [], []⟩
def d_story : He.DefD := ⟨("story", none), "story", "story", defArgs s_story, defBody s_story, defScope s_story, [], []⟩
def d_told_by : He.DefD := ⟨("told_by", none), "told_by", "told_by", defArgs s_told_by, defBody s_told_by, defScope s_told_by, [], []⟩
def d_faults : He.DefD := ⟨("faults", none), "faults", "faults", defArgs s_faults, defBody s_faults, defScope s_faults, [], []⟩
def d_is_sound : He.DefD := ⟨("is_sound", none), "is_sound", "is_sound", defArgs s_is_sound, defBody s_is_sound, defScope s_is_sound, [], []⟩
def d_telling_by : He.DefD := ⟨("telling_by", none), "telling_by", "telling_by", defArgs s_telling_by, defBody s_telling_by, defScope s_telling_by, [], []⟩
def d_telling_of : He.DefD := ⟨("telling_of", none), "telling_of", "telling_of", defArgs s_telling_of, defBody s_telling_of, defScope s_telling_of, [], []⟩
def d__law_box : He.DefD := ⟨("_law_box", none), "_law_box", "_law_box", defArgs s__law_box, defBody s__law_box, defScope s__law_box, [], []⟩
def d__law_load : He.DefD := ⟨("_law_load", none), "_law_load", "_law_load", defArgs s__law_load, defBody s__law_load, defScope s__law_load, [], []⟩
def d__law_draw : He.DefD := ⟨("_law_draw", none), "_law_draw", "_law_draw", defArgs s__law_draw, defBody s__law_draw, defScope s__law_draw, [], []⟩
def d__law_same : He.DefD := ⟨("_law_same", none), "_law_same", "_law_same", defArgs s__law_same, defBody s__law_same, defScope s__law_same, [], []⟩
def d__law_table : He.DefD := ⟨("_law_table", none), "_law_table", "_law_table", defArgs s__law_table, defBody s__law_table, defScope s__law_table, [], []⟩
def d__law_sums : He.DefD := ⟨("_law_sums", none), "_law_sums", "_law_sums", defArgs s__law_sums, defBody s__law_sums, defScope s__law_sums, [], []⟩
def d__law_telling : He.DefD := ⟨("_law_telling", none), "_law_telling", "_law_telling", defArgs s__law_telling, defBody s__law_telling, defScope s__law_telling, [], []⟩
def d__law_bad_telling : He.DefD := ⟨("_law_bad_telling", none), "_law_bad_telling", "_law_bad_telling", defArgs s__law_bad_telling, defBody s__law_bad_telling, defScope s__law_bad_telling, [], []⟩
def d__law_entry : He.DefD := ⟨("_law_entry", none), "_law_entry", "_law_entry", defArgs s__law_entry, defBody s__law_entry, defScope s__law_entry, [], []⟩
def d__law_bad_entry : He.DefD := ⟨("_law_bad_entry", none), "_law_bad_entry", "_law_bad_entry", defArgs s__law_bad_entry, defBody s__law_bad_entry, defScope s__law_bad_entry, [], []⟩
def d_law : He.DefD := ⟨("law", none), "law", "law", defArgs s_law, defBody s_law, defScope s_law, [], []⟩
def fn : List He.DefD := [d_is_count, d_are_told_sums, d_is_told_cell, d_are_told_cells, d_is_telling, d_is_entry, d_is_diary, d_withdrawn, d_story, d_told_by, d_faults, d_is_sound, d_telling_by, d_telling_of, d__law_box, d__law_load, d__law_draw, d__law_same, d__law_table, d__law_sums, d__law_telling, d__law_bad_telling, d__law_entry, d__law_bad_entry, d_law]
def fa : List He.Fa := [.glo "is_count", .glo "are_told_sums", .glo "is_told_cell", .glo "are_told_cells", .glo "is_telling", .glo "is_entry", .glo "is_diary", .glo "withdrawn", .glo "story", .glo "told_by", .glo "faults", .glo "is_sound", .glo "telling_by", .glo "telling_of", .glo "_law_box", .glo "_law_load", .glo "_law_draw", .glo "_law_same", .glo "_law_table", .glo "_law_sums", .glo "_law_telling", .glo "_law_bad_telling", .glo "_law_entry", .glo "_law_bad_entry", .glo "law", .free "len", .free "tuple", .free "list", .free "sum", .free "sorted", .free "range", .free "enumerate", .free "zip", .free "any", .free "all", .free "isinstance", .free "int", .free "min", .free "max", .free "set", .free "str", .free "abs", .free "dict", .free "bool", .int "MAX_SIDE" 16, .int "MAX_ENTRIES" 200]
abbrev R : PySem.W.OpenRow := PySem.W.OpenLaw.row PySem.Challenge.rw_toldbysums_k70_tellings_and_diaries
abbrev hk : PySem.W.Hook := He.hookD 4 fa fn
def ob (s : PySem.W.SharedT) : He.AlD := He.obsDG 4 fa fn (HandSHeadRun.getT s)
theorem ob_eq (s : PySem.W.SharedT) : ob s = hk.obs s.abs := He.obsDG_eq (HandSHeadRun.getT_eq s)
def loose0 : List PySem.Str := ["is_count", "are_told_sums", "is_told_cell", "are_told_cells", "is_telling", "is_entry", "is_diary", "withdrawn", "story", "told_by", "faults", "is_sound", "telling_by", "telling_of", "_law_box", "_law_load", "_law_draw", "_law_same", "_law_table", "_law_sums", "_law_telling", "_law_bad_telling", "_law_entry", "_law_bad_entry", "MAX_SIDE", "MAX_ENTRIES"]
def looseA : List PySem.Str := loose0
theorem run (w : World) : HandSHeadRun.RunEq R (PySem.W.view R.prog [30]) hk ob 6000 looseA w := by
  intro os
  kernel_rfl
theorem facts {P : Program} {w : World} {K : PySem.W.Frag} {h : Heap} {mg : Str → Option Value} {f : Addr} (X : K.In h) (G : h.Ns mainGlobals mg) (hfa : mg ("law" : Str) = some (.ref f)) (c : He.SaysD fa fn K) :
    ∃ fd : FuncData, (∀ (s : Shared) (v : Value), BindsTo s fd ⟨[v], []⟩ [("script", v)]) ∧ ∀ base : Heap, K.In base → base.Ns mainGlobals mg → FnOk P w K mg base CX0 7 f fd ["script"] (spLaw K) := by
  have b_len : mg "len" = none := He.free_ok X G (c.fact 25 (f := .free "len") rfl)
  have b_tuple : mg "tuple" = none := He.free_ok X G (c.fact 26 (f := .free "tuple") rfl)
  have b_list : mg "list" = none := He.free_ok X G (c.fact 27 (f := .free "list") rfl)
  have b_sum : mg "sum" = none := He.free_ok X G (c.fact 28 (f := .free "sum") rfl)
  have b_sorted : mg "sorted" = none := He.free_ok X G (c.fact 29 (f := .free "sorted") rfl)
  have b_range : mg "range" = none := He.free_ok X G (c.fact 30 (f := .free "range") rfl)
  have b_enumerate : mg "enumerate" = none := He.free_ok X G (c.fact 31 (f := .free "enumerate") rfl)
  have b_zip : mg "zip" = none := He.free_ok X G (c.fact 32 (f := .free "zip") rfl)
  have b_any : mg "any" = none := He.free_ok X G (c.fact 33 (f := .free "any") rfl)
  have b_all : mg "all" = none := He.free_ok X G (c.fact 34 (f := .free "all") rfl)
  have b_isinstance : mg "isinstance" = none := He.free_ok X G (c.fact 35 (f := .free "isinstance") rfl)
  have b_int : mg "int" = none := He.free_ok X G (c.fact 36 (f := .free "int") rfl)
  have b_min : mg "min" = none := He.free_ok X G (c.fact 37 (f := .free "min") rfl)
  have b_max : mg "max" = none := He.free_ok X G (c.fact 38 (f := .free "max") rfl)
  have b_set : mg "set" = none := He.free_ok X G (c.fact 39 (f := .free "set") rfl)
  have b_str : mg "str" = none := He.free_ok X G (c.fact 40 (f := .free "str") rfl)
  have b_abs : mg "abs" = none := He.free_ok X G (c.fact 41 (f := .free "abs") rfl)
  have b_dict : mg "dict" = none := He.free_ok X G (c.fact 42 (f := .free "dict") rfl)
  have b_bool : mg "bool" = none := He.free_ok X G (c.fact 43 (f := .free "bool") rfl)
  have B : Bl mg := ⟨b_len, b_tuple, b_list, b_sum, b_sorted, b_range, b_enumerate, b_zip, b_any, b_all, b_isinstance, b_int, b_min, b_max, b_set, b_str, b_abs, b_dict, b_bool⟩
  have C : Cs mg := ⟨He.int_ok X G (c.fact 44 (f := .int "MAX_SIDE" 16) rfl), He.int_ok X G (c.fact 45 (f := .int "MAX_ENTRIES" 200) rfl)⟩
  obtain ⟨fd_is_count, D_is_count⟩ := c.def_ 0 (d := d_is_count) rfl
  have m_is_count := He.glo_ok X G (c.fact 0 (f := .glo "is_count") rfl)
  have n_is_count := FunD.bindsN (ps := ["value", "least", "most"]) D_is_count fun _ _ _ _ _ _ us hl => match us, hl with | [_, _, _], _ => rfl
  obtain ⟨fd_are_told_sums, D_are_told_sums⟩ := c.def_ 1 (d := d_are_told_sums) rfl
  have m_are_told_sums := He.glo_ok X G (c.fact 1 (f := .glo "are_told_sums") rfl)
  have n_are_told_sums := FunD.bindsN (ps := ["value", "count", "most"]) D_are_told_sums fun _ _ _ _ _ _ us hl => match us, hl with | [_, _, _], _ => rfl
  obtain ⟨fd_is_told_cell, D_is_told_cell⟩ := c.def_ 2 (d := d_is_told_cell) rfl
  have m_is_told_cell := He.glo_ok X G (c.fact 2 (f := .glo "is_told_cell") rfl)
  have n_is_told_cell := FunD.bindsN (ps := ["value", "m", "n"]) D_is_told_cell fun _ _ _ _ _ _ us hl => match us, hl with | [_, _, _], _ => rfl
  obtain ⟨fd_are_told_cells, D_are_told_cells⟩ := c.def_ 3 (d := d_are_told_cells) rfl
  have m_are_told_cells := He.glo_ok X G (c.fact 3 (f := .glo "are_told_cells") rfl)
  have n_are_told_cells := FunD.bindsN (ps := ["value", "m", "n"]) D_are_told_cells fun _ _ _ _ _ _ us hl => match us, hl with | [_, _, _], _ => rfl
  obtain ⟨fd_is_telling, D_is_telling⟩ := c.def_ 4 (d := d_is_telling) rfl
  have m_is_telling := He.glo_ok X G (c.fact 4 (f := .glo "is_telling") rfl)
  have n_is_telling := FunD.bindsN (ps := ["value"]) D_is_telling fun _ _ _ _ _ _ us hl => match us, hl with | [_], _ => rfl
  obtain ⟨fd_is_entry, D_is_entry⟩ := c.def_ 5 (d := d_is_entry) rfl
  have m_is_entry := He.glo_ok X G (c.fact 5 (f := .glo "is_entry") rfl)
  have n_is_entry := FunD.bindsN (ps := ["m", "n", "value"]) D_is_entry fun _ _ _ _ _ _ us hl => match us, hl with | [_, _, _], _ => rfl
  obtain ⟨fd_is_diary, D_is_diary⟩ := c.def_ 6 (d := d_is_diary) rfl
  have m_is_diary := He.glo_ok X G (c.fact 6 (f := .glo "is_diary") rfl)
  have n_is_diary := FunD.bindsN (ps := ["value"]) D_is_diary fun _ _ _ _ _ _ us hl => match us, hl with | [_], _ => rfl
  obtain ⟨fd_withdrawn, D_withdrawn⟩ := c.def_ 7 (d := d_withdrawn) rfl
  have m_withdrawn := He.glo_ok X G (c.fact 7 (f := .glo "withdrawn") rfl)
  have n_withdrawn := FunD.bindsN (ps := ["entries"]) D_withdrawn fun _ _ _ _ _ _ us hl => match us, hl with | [_], _ => rfl
  obtain ⟨fd_story, D_story⟩ := c.def_ 8 (d := d_story) rfl
  have m_story := He.glo_ok X G (c.fact 8 (f := .glo "story") rfl)
  have n_story := FunD.bindsN (ps := ["diary"]) D_story fun _ _ _ _ _ _ us hl => match us, hl with | [_], _ => rfl
  obtain ⟨fd_told_by, D_told_by⟩ := c.def_ 9 (d := d_told_by) rfl
  have m_told_by := He.glo_ok X G (c.fact 9 (f := .glo "told_by") rfl)
  have n_told_by := FunD.bindsN (ps := ["entries", "numbers"]) D_told_by fun _ _ _ _ _ _ us hl => match us, hl with | [_, _], _ => rfl
  obtain ⟨fd_faults, D_faults⟩ := c.def_ 10 (d := d_faults) rfl
  have m_faults := He.glo_ok X G (c.fact 10 (f := .glo "faults") rfl)
  have n_faults := FunD.bindsN (ps := ["diary"]) D_faults fun _ _ _ _ _ _ us hl => match us, hl with | [_], _ => rfl
  obtain ⟨fd_is_sound, D_is_sound⟩ := c.def_ 11 (d := d_is_sound) rfl
  have m_is_sound := He.glo_ok X G (c.fact 11 (f := .glo "is_sound") rfl)
  have n_is_sound := FunD.bindsN (ps := ["diary"]) D_is_sound fun _ _ _ _ _ _ us hl => match us, hl with | [_], _ => rfl
  obtain ⟨fd_telling_by, D_telling_by⟩ := c.def_ 12 (d := d_telling_by) rfl
  have m_telling_by := He.glo_ok X G (c.fact 12 (f := .glo "telling_by") rfl)
  have n_telling_by := FunD.bindsN (ps := ["diary", "numbers"]) D_telling_by fun _ _ _ _ _ _ us hl => match us, hl with | [_, _], _ => rfl
  obtain ⟨fd_telling_of, D_telling_of⟩ := c.def_ 13 (d := d_telling_of) rfl
  have m_telling_of := He.glo_ok X G (c.fact 13 (f := .glo "telling_of") rfl)
  have n_telling_of := FunD.bindsN (ps := ["diary"]) D_telling_of fun _ _ _ _ _ _ us hl => match us, hl with | [_], _ => rfl
  obtain ⟨fd__law_box, D__law_box⟩ := c.def_ 14 (d := d__law_box) rfl
  have m__law_box := He.glo_ok X G (c.fact 14 (f := .glo "_law_box") rfl)
  have n__law_box := FunD.bindsN (ps := ["script"]) D__law_box fun _ _ _ _ _ _ us hl => match us, hl with | [_], _ => rfl
  obtain ⟨fd__law_load, D__law_load⟩ := c.def_ 15 (d := d__law_load) rfl
  have m__law_load := He.glo_ok X G (c.fact 15 (f := .glo "_law_load") rfl)
  have n__law_load := FunD.bindsN (ps := ["box"]) D__law_load fun _ _ _ _ _ _ us hl => match us, hl with | [_], _ => rfl
  obtain ⟨fd__law_draw, D__law_draw⟩ := c.def_ 16 (d := d__law_draw) rfl
  have m__law_draw := He.glo_ok X G (c.fact 16 (f := .glo "_law_draw") rfl)
  have n__law_draw := FunD.bindsN (ps := ["box", "many"]) D__law_draw fun _ _ _ _ _ _ us hl => match us, hl with | [_, _], _ => rfl
  obtain ⟨fd__law_same, D__law_same⟩ := c.def_ 17 (d := d__law_same) rfl
  have m__law_same := He.glo_ok X G (c.fact 17 (f := .glo "_law_same") rfl)
  have n__law_same := FunD.bindsN (ps := ["a", "b"]) D__law_same fun _ _ _ _ _ _ us hl => match us, hl with | [_, _], _ => rfl
  obtain ⟨fd__law_table, D__law_table⟩ := c.def_ 18 (d := d__law_table) rfl
  have m__law_table := He.glo_ok X G (c.fact 18 (f := .glo "_law_table") rfl)
  have n__law_table := FunD.bindsN (ps := ["box", "most"]) D__law_table fun _ _ _ _ _ _ us hl => match us, hl with | [_, _], _ => rfl
  obtain ⟨fd__law_sums, D__law_sums⟩ := c.def_ 19 (d := d__law_sums) rfl
  have m__law_sums := He.glo_ok X G (c.fact 19 (f := .glo "_law_sums") rfl)
  have n__law_sums := FunD.bindsN (ps := ["table"]) D__law_sums fun _ _ _ _ _ _ us hl => match us, hl with | [_], _ => rfl
  obtain ⟨fd__law_telling, D__law_telling⟩ := c.def_ 20 (d := d__law_telling) rfl
  have m__law_telling := He.glo_ok X G (c.fact 20 (f := .glo "_law_telling") rfl)
  have n__law_telling := FunD.bindsN (ps := ["box", "most"]) D__law_telling fun _ _ _ _ _ _ us hl => match us, hl with | [_, _], _ => rfl
  obtain ⟨fd__law_bad_telling, D__law_bad_telling⟩ := c.def_ 21 (d := d__law_bad_telling) rfl
  have m__law_bad_telling := He.glo_ok X G (c.fact 21 (f := .glo "_law_bad_telling") rfl)
  have n__law_bad_telling := FunD.bindsN (ps := ["box", "telling"]) D__law_bad_telling fun _ _ _ _ _ _ us hl => match us, hl with | [_, _], _ => rfl
  obtain ⟨fd__law_entry, D__law_entry⟩ := c.def_ 22 (d := d__law_entry) rfl
  have m__law_entry := He.glo_ok X G (c.fact 22 (f := .glo "_law_entry") rfl)
  have n__law_entry := FunD.bindsN (ps := ["box", "m", "n", "count"]) D__law_entry fun _ _ _ _ _ _ us hl => match us, hl with | [_, _, _, _], _ => rfl
  obtain ⟨fd__law_bad_entry, D__law_bad_entry⟩ := c.def_ 23 (d := d__law_bad_entry) rfl
  have m__law_bad_entry := He.glo_ok X G (c.fact 23 (f := .glo "_law_bad_entry") rfl)
  have n__law_bad_entry := FunD.bindsN (ps := ["box", "m", "n"]) D__law_bad_entry fun _ _ _ _ _ _ us hl => match us, hl with | [_, _, _], _ => rfl
  obtain ⟨fd_law, D_law⟩ := c.def_ 24 (d := d_law) rfl
  have e := hfa.symm.trans (He.glo_ok X G (c.fact 24 (f := .glo "law") rfl))
  cases e
  have b := FunD.bindsA (ps := ["script"]) D_law fun _ _ _ _ _ _ us hl => match us, hl with | [_], _ => rfl
  refine ⟨fd_law, fun s v => b s [v] rfl, fun base _ _ => ?_⟩
  have K_is_count := ok_is_count (P := P) (w := w) (base := base) D_is_count m_is_count n_is_count B C
  have K_are_told_sums := ok_are_told_sums (P := P) (w := w) (base := base) D_are_told_sums m_are_told_sums n_are_told_sums K_is_count B C
  have K_is_told_cell := ok_is_told_cell (P := P) (w := w) (base := base) D_is_told_cell m_is_told_cell n_is_told_cell K_is_count B C
  have K_are_told_cells := ok_are_told_cells (P := P) (w := w) (base := base) D_are_told_cells m_are_told_cells n_are_told_cells K_is_told_cell B C
  have K_is_telling := ok_is_telling (P := P) (w := w) (base := base) D_is_telling m_is_telling n_is_telling K_is_count K_are_told_sums K_are_told_cells B C
  have K_is_entry := ok_is_entry (P := P) (w := w) (base := base) D_is_entry m_is_entry n_is_entry K_is_count B C
  have K_is_diary := ok_is_diary (P := P) (w := w) (base := base) D_is_diary m_is_diary n_is_diary K_is_count K_is_entry B C
  have K_withdrawn := ok_withdrawn (P := P) (w := w) (base := base) D_withdrawn m_withdrawn n_withdrawn B C
  have K_story := ok_story (P := P) (w := w) (base := base) D_story m_story n_story K_withdrawn B C
  have K_told_by := ok_told_by (P := P) (w := w) (base := base) D_told_by m_told_by n_told_by B C
  have K_faults := ok_faults (P := P) (w := w) (base := base) D_faults m_faults n_faults K_withdrawn K_told_by K_story B C
  have K_is_sound := ok_is_sound (P := P) (w := w) (base := base) D_is_sound m_is_sound n_is_sound K_faults B C
  have K_telling_by := ok_telling_by (P := P) (w := w) (base := base) D_telling_by m_telling_by n_telling_by K_told_by B C
  have K_telling_of := ok_telling_of (P := P) (w := w) (base := base) D_telling_of m_telling_of n_telling_of K_telling_by K_story B C
  have K__law_load := ok__law_load (P := P) (w := w) (base := base) D__law_load m__law_load n__law_load B C
  have K__law_draw := ok__law_draw (P := P) (w := w) (base := base) D__law_draw m__law_draw n__law_draw K__law_load B C
  have K__law_same := ok__law_same (P := P) (w := w) (base := base) D__law_same m__law_same n__law_same B C
  have K__law_table := ok__law_table (P := P) (w := w) (base := base) D__law_table m__law_table n__law_table K__law_draw B C
  have K__law_sums := ok__law_sums (P := P) (w := w) (base := base) D__law_sums m__law_sums n__law_sums B C
  have K__law_telling := ok__law_telling (P := P) (w := w) (base := base) D__law_telling m__law_telling n__law_telling K__law_table K__law_sums K__law_draw B C
  have K__law_bad_telling := ok__law_bad_telling (P := P) (w := w) (base := base) D__law_bad_telling m__law_bad_telling n__law_bad_telling K__law_draw B C
  have K__law_entry := ok__law_entry (P := P) (w := w) (base := base) D__law_entry m__law_entry n__law_entry K__law_draw B C
  have K__law_bad_entry := ok__law_bad_entry (P := P) (w := w) (base := base) D__law_bad_entry m__law_bad_entry n__law_bad_entry K__law_draw B C
  exact ok_law D_law (ok__law_box D__law_box B) m__law_box D__law_box.kp n__law_box K__law_telling K_is_telling K__law_bad_telling K__law_draw K__law_entry K__law_bad_entry K_is_diary K__law_same K_story K_faults K_is_sound K_telling_of B C law_math
end T70
open PySem PySem.W PySem.Calls PyProof.Rows
theorem PySem.Challenge.cw_toldbysums_k70_tellings_and_diaries_holds : PySem.Challenge.rw_toldbysums_k70_tellings_and_diaries.Holds := by
  w_on; o_law
  refine HandSHeadRun.head_any (r := OpenLaw.row PySem.Challenge.rw_toldbysums_k70_tellings_and_diaries) (q := view (OpenLaw.row PySem.Challenge.rw_toldbysums_k70_tellings_and_diaries).prog [30]) (H := T70.hk) (ob := T70.ob) (M := 6000) (loose := T70.looseA) (d := HandSHeadRun.topDef (OpenLaw.row PySem.Challenge.rw_toldbysums_k70_tellings_and_diaries).prog 30) (kwd := []) T70.ob_eq
    (by kernel_rfl) (fun s => by kernel_rfl) T70.run (by kernel_rfl) (by kernel_rfl) (by kernel_rfl) (by rfl) (by first | assumption | decide +kernel) (by decide +kernel) ⟨rfl, rfl, rfl, rfl, rfl, by decide +kernel⟩ ?hw ?hc
  case hw => w_witness2
  case hc =>
    refine L2.walk_ofE (l := PySem.Challenge.rw_toldbysums_k70_tellings_and_diaries) (n := 63) (k := 7) (x := "script") (CX := L2.CX0) rfl (by decide) (by kernel_rfl) ⟨rfl, by decide, by decide⟩ ?F (fun _ _ _ _ z => z)
    intro w mg fa h Y G hmg0
    obtain ⟨K, KX, c⟩ := Y
    have hmg : mg ("law" : PySem.Str) = some (.ref fa) := by
      have e : (HandSHeadRun.topDef (OpenLaw.row PySem.Challenge.rw_toldbysums_k70_tellings_and_diaries).prog 30).name = ("law" : PySem.Str) := by kernel_rfl
      rw [← e]
      exact hmg0
    obtain ⟨fd, hb, hF⟩ := T70.facts (P := (PySem.Challenge.rw_toldbysums_k70_tellings_and_diaries).prog) (w := w) KX G hmg c
    exact ⟨K, fd, PV.spLaw K, KX, hb, fun H a ns hl _ hS => ⟨a, ns, rfl, hS, hl, fun _ => rfl⟩, hF⟩

