import PyProof.Rows.All
import Wide.All
import OpenK.AllK
import Wide.FinOn
import HandS.ForMost
import HandS.Lambda
import KE.KDictKeyed
import HandS.TupAny
import HandS.Deep
import HandS.Style
import HandS.IsInst
import HandS.Conv
import KE.DataCmp
import KE.DataMinMax
import KE.SortData
import PyProof.Rows.InDataRows
import KE.DataFind
import HandS.Zip
import KE.GoesEnum
import HandS.TupLen
import HandS.WordsDict
import HandS.Small
import KE.DatumIndex
import HandS.SetFor
import HandS.SortKw
import HandS.HotCalls
import HandS.ExcIs
import HandS.EndOwn
import KE.KNestM
import PyProof.Rows.IntBool
import PyProof.CallStr
import HandS.TupMul
import PySem.Challenge.RW_roofsights_k12_what_is_refused
set_option Elab.async false
set_option linter.all false
set_option maxRecDepth 100000
set_option autoImplicit false
set_option Elab.async false
set_option linter.all false
set_option maxRecDepth 100000
set_option autoImplicit false
namespace G
open PySem L2

/-! ### the evaluator's data -/
inductive D where
  | p (x : PyData)
  | r (l : Nat)
inductive Ob where
  | lst (xs : List PyData)
  | dct (kvs : List (PyData × PyData))
  | ins (C : Addr) (fs : List (Str × D))
  | tab (P : Addr) (q : Str)
  | drs (ds : List (Hp → V → Prop))
abbrev Sto := List (Option Ob)
abbrev Loc := List (Option D)
inductive Res (α : Type) where
  | ok (a : α) (S : Sto)
  | exc (c : Nat) (S : Sto)
  | stuck
def Res.bind {α β : Type} (r : Res α) (f : α → Sto → Res β) : Res β := match r with
  | .ok a S => f a S
  | .exc c S => .exc c S
  | .stuck => .stuck

/-! ### worlds -/
structure Wd where
  F : Hp
  io : Nat → Option Addr

def keyP : Key → PyData
  | .inl i => .int i
  | .inr x => .str x
/-! dicts whose keys are tuples, of numbers and of such tuples -/
mutual
def ntK : NestedKey → Bool
  | .none => true
  | .num _ => true
  | .text _ => false
  | .tup ks => ntAll ks
def ntAll : List NestedKey → Bool
  | [] => true
  | k :: ks => ntK k && ntAll ks
end
mutual
theorem hash_nt (w w' : World) : ∀ k : NestedKey, ntK k = true → k.hash w = k.hash w'
  | .none, _ => rfl
  | .num _, _ => rfl
  | .text _, h => by cases h
  | .tup ks, h => by
    rw [NestedKey.hash, NestedKey.hash, hashes_nt w w' ks h]
theorem hashes_nt (w w' : World) : ∀ ks : List NestedKey, ntAll ks = true → NestedKey.hashes w ks = NestedKey.hashes w' ks
  | [], _ => rfl
  | k :: ks, h => by
    rw [ntAll, Bool.and_eq_true] at h
    rw [NestedKey.hashes, NestedKey.hashes, hash_nt w w' k h.1, hashes_nt w w' ks h.2]
end
abbrev NE := NestedKey × Addr × Value
/-- at a stands a dict with the entries xs -/
def dnF (a : Addr) (xs : List NE) (h : Heap) : Prop :=
  ((a == sysModules) = false ∧ xs.length ≤ sizeLine ∧ (∀ x ∈ xs, ntK x.1 = true ∧ x.1.depth ≤ 8)) ∧ ∃ o es ep, h.get? a = some o ∧ o.ExactDict ∧ o.data = .dict es ep ∧ (∀ (P : Program) (w : World), es.toList = xs.map (entryOfKey (nestedKind P w))) ∧ (xs.map (·.1)).Nodup
def dnO (a : Addr) (xs : List NE) : HO := .ext (dnF a xs)

mutual
inductive Rp (K : PySem.W.Frag) (F : Hp) : V → PyData → Prop
  | non : Rp K F .non .none
  | bl (b : Bool) : Rp K F (.bl b) (.bool b)
  | int (i : Int) : Rp K F (.int i) (.int i)
  | str (x : Str) : Rp K F (.str x) (.str x)
  | lst {a : Addr} {xs : List V} {ds : List PyData} : Rd F a (.lst xs) → RpAll K F xs ds → Rp K F (.ref a) (.list ds)
  | tup {a : Addr} {xs : List V} {ds : List PyData} : SqT K F a xs → RpAll K F xs ds → Rp K F (.ref a) (.tuple ds)
  | dK {a : Addr} {kvs : List (Key × V)} {ds : List PyData} : F a = some (.dK kvs) → RpAll K F (kvs.map (·.2)) ds → Rp K F (.ref a) (.dict ((kvs.map fun q => keyP q.1).zip ds))
  | dN {a : Addr} {xs : List NE} {vs : List V} {ds : List PyData} : F a = some (dnO a xs) → Vals vs (xs.map (·.2.2)) → RpAll K F vs ds → RpAll K F (xs.map fun x => V.ref x.2.1) (xs.map fun x => x.1.data) → xs ≠ [] → Rp K F (.ref a) (.dict ((xs.map fun x => x.1.data).zip ds))
inductive RpAll (K : PySem.W.Frag) (F : Hp) : List V → List PyData → Prop
  | nil : RpAll K F [] []
  | cons {v : V} {vs : List V} {d : PyData} {ds : List PyData} : Rp K F v d → RpAll K F vs ds → RpAll K F (v :: vs) (d :: ds)
end

def isD : HO → Bool
  | .dK _ => true
  | _ => false
/-- a part of a heap; a dict that is locked meanwhile counts -/
def Le (F H : Hp) : Prop := ∀ a o, F a = some o → H a = some o ∨ ∃ z, H a = some (.frz z o) ∧ isD o = true
def Sub (F F' : Hp) : Prop := ∀ a o, F a = some o → F' a = some o
theorem Sub.refl (F : Hp) : Sub F F := fun _ _ h => h
theorem Sub.trans {A B C : Hp} (h : Sub A B) (k : Sub B C) : Sub A C := fun a o e => k a o (h a o e)

theorem Rd.sub {F F' : Hp} {a : Addr} {u : HO} (s : Sub F F') (h : Rd F a u) : Rd F' a u := by
  rcases h with h | ⟨o, h⟩
  · exact .inl (s _ _ h)
  · exact .inr ⟨o, s _ _ h⟩
theorem SqT.sub {K : PySem.W.Frag} {F F' : Hp} {a : Addr} {xs : List V} (s : Sub F F') (h : SqT K F a xs) : SqT K F' a xs := by
  rcases h with (h | ⟨o, h⟩) | h
  · exact .inl (.inl (s _ _ h))
  · exact .inl (.inr ⟨o, s _ _ h⟩)
  · exact .inr h
mutual
theorem Rp.sub {K : PySem.W.Frag} {F F' : Hp} (s : Sub F F') : ∀ {v : V} {d : PyData}, Rp K F v d → Rp K F' v d
  | _, _, .non => .non
  | _, _, .bl b => .bl b
  | _, _, .int i => .int i
  | _, _, .str x => .str x
  | _, _, .lst h t => .lst (Rd.sub s h) (RpAll.sub s t)
  | _, _, .tup h t => .tup (SqT.sub s h) (RpAll.sub s t)
  | _, _, .dK h t => .dK (s _ _ h) (RpAll.sub s t)
  | _, _, .dN h v t k n => .dN (s _ _ h) v (RpAll.sub s t) (RpAll.sub s k) n
theorem RpAll.sub {K : PySem.W.Frag} {F F' : Hp} (s : Sub F F') : ∀ {vs : List V} {ds : List PyData}, RpAll K F vs ds → RpAll K F' vs ds
  | _, _, .nil => .nil
  | _, _, .cons h t => .cons (Rp.sub s h) (RpAll.sub s t)
end

def DctIs (K : PySem.W.Frag) (F : Hp) (a : Addr) (o : HO) (kvs : List (PyData × PyData)) : Prop := match o with
  | .dK ks => ∃ ds, RpAll K F (ks.map (·.2)) ds ∧ kvs = (ks.map fun q => keyP q.1).zip ds
  | .ext φ => ∃ xs vs ds, φ = dnF a xs ∧ Vals vs (xs.map (·.2.2)) ∧ RpAll K F vs ds ∧ RpAll K F (xs.map fun x => V.ref x.2.1) (xs.map fun x => x.1.data) ∧ kvs = (xs.map fun x => x.1.data).zip ds ∧ xs ≠ []
  | _ => False
def RelD (K : PySem.W.Frag) (U : Wd) : D → V → Prop
  | .p x, v => Rp K U.F v x
  | .r l, v => ∃ a, U.io l = some a ∧ v = .ref a
def FldIs (K : PySem.W.Frag) (U : Wd) : List (Str × D) → List (Str × V) → Prop := Paired fun p q => p.1 = q.1 ∧ RelD K U p.2 q.2
/-- a table of code objects, each of the name q -/
def TabIs (F : Hp) (o : HO) (q : Str) : Prop := ∃ ps : Array Value, o = .tbl ps ∧ TriplesOk ps.toList ∧ ∀ (pos : Pos) (cv : Value), codeAmong pos ps.toList = some cv → ∃ c, cv = .ref c ∧ F c = some (LamX.CodeO c q)
theorem TabIs.sub {F F' : Hp} (s : Sub F F') {o : HO} {q : Str} (h : TabIs F o q) : TabIs F' o q := by
  obtain ⟨ps, e, t, a⟩ := h
  exact ⟨ps, e, t, fun pos cv hc => let ⟨c, e1, e2⟩ := a pos cv hc; ⟨c, e1, s _ _ e2⟩⟩
def ObIs (K : PySem.W.Frag) (U : Wd) (a : Addr) (o : HO) : Ob → Prop
  | .lst ds => ∃ xs, o = .lst xs ∧ RpAll K U.F xs ds
  | .dct kvs => DctIs K U.F a o kvs
  | .ins C fs => ∃ dx gs, o = .ins C dx gs ∧ U.F dx = some (.own a) ∧ FldIs K U fs gs
  | .tab P q => a = P ∧ TabIs U.F o q
  | .drs ds => ∃ xs, o = .lst xs ∧ Paired (fun (φ : Hp → V → Prop) v => ∀ F', Sub U.F F' → φ F' v) ds xs
theorem RelD.grow {K : PySem.W.Frag} {U U' : Wd} {d : D} {v : V} (ef : Sub U.F U'.F) (ei : ∀ l a, U.io l = some a → U'.io l = some a) (h : RelD K U d v) : RelD K U' d v := by
  cases d with
  | p x => exact Rp.sub ef h
  | r l => obtain ⟨a, e, q⟩ := h; exact ⟨a, ei _ _ e, q⟩
theorem FldIs.grow {K : PySem.W.Frag} {U U' : Wd} (ef : Sub U.F U'.F) (ei : ∀ l a, U.io l = some a → U'.io l = some a) : ∀ {fs : List (Str × D)} {gs : List (Str × V)}, FldIs K U fs gs → FldIs K U' fs gs
  | _, _, .nil => .nil
  | _, _, .cons h t => .cons ⟨h.1, h.2.grow ef ei⟩ (FldIs.grow ef ei t)
theorem ObIs.grow {K : PySem.W.Frag} {U U' : Wd} (ef : Sub U.F U'.F) (ei : ∀ l a, U.io l = some a → U'.io l = some a) {a : Addr} {o : HO} {b : Ob} (h : ObIs K U a o b) : ObIs K U' a o b := by
  cases b with
  | lst ds => obtain ⟨xs, e, r⟩ := h; exact ⟨xs, e, r.sub ef⟩
  | dct kvs =>
    cases o with
    | dK ks => obtain ⟨ds, r, e⟩ := h; exact ⟨ds, r.sub ef, e⟩
    | ext φ => obtain ⟨xs, vs, ds, e, v, r, k, e2⟩ := h; exact ⟨xs, vs, ds, e, v, r.sub ef, k.sub ef, e2⟩
    | _ => exact h.elim
  | ins C fs => obtain ⟨dx, gs, e, hd, r⟩ := h; exact ⟨dx, gs, e, ef _ _ hd, r.grow ef ei⟩
  | tab P q => exact ⟨h.1, h.2.sub ef⟩
  | drs ds => obtain ⟨xs, e, r⟩ := h; exact ⟨xs, e, Paired.mapP r fun φ v z F' s => z F' (ef.trans s)⟩
theorem ObIs.sub {K : PySem.W.Frag} {U : Wd} {F' : Hp} (s : Sub U.F F') {a : Addr} {o : HO} {b : Ob} (h : ObIs K U a o b) : ObIs K ⟨F', U.io⟩ a o b := ObIs.grow (U' := ⟨F', U.io⟩) s (fun _ _ h => h) h
/-- what an object of the store at l leans on stands ahead of it -/
def RfOk (l : Nat) : Ob → Prop
  | .ins _ fs => ∀ f m, (f, D.r m) ∈ fs → m < l
  | _ => True
theorem FldIs.few {K : PySem.W.Frag} {U U' : Wd} {n : Nat} (ef : U'.F = U.F) (ei : ∀ l a, l < n → U.io l = some a → U'.io l = some a) : ∀ {fs : List (Str × D)} {gs : List (Str × V)}, (∀ f m, (f, D.r m) ∈ fs → m < n) → FldIs K U fs gs → FldIs K U' fs gs
  | _, _, _, .nil => .nil
  | (f, d) :: fs, _, hn, .cons h t => by
    refine .cons ⟨h.1, ?_⟩ (FldIs.few ef ei (fun g m hm => hn g m (List.mem_cons_of_mem _ hm)) t)
    cases d with
    | p x => exact Rp.sub (by rw [ef]; exact Sub.refl _) h.2
    | r l => obtain ⟨a, e, q⟩ := h.2; exact ⟨a, ei l a (hn f l (List.mem_cons_self ..)) e, q⟩
theorem ObIs.few {K : PySem.W.Frag} {U U' : Wd} {n : Nat} (ef : U'.F = U.F) (ei : ∀ l a, l < n → U.io l = some a → U'.io l = some a) {a : Addr} {o : HO} {b : Ob} (hr : RfOk n b) (h : ObIs K U a o b) : ObIs K U' a o b := by
  cases b with
  | lst ds => obtain ⟨xs, e, r⟩ := h; exact ⟨xs, e, by rw [ef]; exact r⟩
  | dct kvs => show DctIs K U'.F a o kvs; rw [ef]; exact h
  | ins C fs => obtain ⟨dx, gs, e, hd, r⟩ := h; exact ⟨dx, gs, e, by rw [ef]; exact hd, r.few ef ei hr⟩
  | tab P q => exact ⟨h.1, by rw [ef]; exact h.2⟩
  | drs ds => show ∃ xs, o = .lst xs ∧ Paired (fun (φ : Hp → V → Prop) v => ∀ F', Sub U'.F F' → φ F' v) ds xs; rw [ef]; exact h
theorem RfOk.mono {l n : Nat} {b : Ob} (h : RfOk l b) (hl : l ≤ n) : RfOk n b := by
  cases b with
  | ins C fs => exact fun f m hm => Nat.lt_of_lt_of_le (h f m hm) hl
  | _ => trivial

structure Sat (K : PySem.W.Frag) (U : Wd) (S : Sto) (H : Hp) : Prop where
  fz : Le U.F H
  dom : ∀ l a, U.io l = some a → l < S.length
  tot : ∀ l, l < S.length → ∃ a, U.io l = some a
  inj : ∀ l l' a, U.io l = some a → U.io l' = some a → l = l'
  ob : ∀ (l : Nat) (a : Addr) (b : Ob), U.io l = some a → S[l]? = some (some b) → U.F a = none ∧ ∃ o, H a = some o ∧ ObIs K U a o b
  hs : ∀ l a, U.io l = some a → ∃ o, H a = some o
  rf : ∀ (l : Nat) (b : Ob), S[l]? = some (some b) → RfOk l b

structure Step (U : Wd) (H : Hp) (U' : Wd) (H' : Hp) : Prop where
  ef : Sub U.F U'.F
  ei : ∀ l a, U.io l = some a → U'.io l = some a
  fr : ∀ a o, H a = some o → (∀ l, U.io l ≠ some a) → H' a = some o
  ni : ∀ l a, U'.io l = some a → U.io l = some a ∨ H a = none
  nf : ∀ a o, U'.F a = some o → U.F a = some o ∨ H a = none ∨ ∃ l, U.io l = some a
  dm : ∀ a o, H a = some o → ∃ o', H' a = some o'
  ff : ∀ a o o', U.F a = some o' → H a = some o → H' a = some o
/-- what an iterator wants -/
structure Stp (U : Wd) (H : Hp) (U' : Wd) (H' : Hp) : Prop where
  ef : Sub U.F U'.F
  ff : ∀ a o o', U.F a = some o' → H a = some o → H' a = some o
theorem Step.p {U U' : Wd} {H H' : Hp} (t : Step U H U' H') : Stp U H U' H' := ⟨t.ef, t.ff⟩
theorem Stp.refl (U : Wd) (H : Hp) : Stp U H U H := ⟨Sub.refl _, fun _ _ _ _ h => h⟩
theorem Stp.trans {U U1 U2 : Wd} {H H1 H2 : Hp} (a : Stp U H U1 H1) (b : Stp U1 H1 U2 H2) : Stp U H U2 H2 := ⟨a.ef.trans b.ef, fun x o o' f h => b.ff x o o' (a.ef x o' f) (a.ff x o o' f h)⟩
theorem Step.refl (U : Wd) (H : Hp) : Step U H U H := ⟨Sub.refl _, fun _ _ h => h, fun _ _ h _ => h, fun _ _ h => .inl h, fun _ _ h => .inl h, fun _ o h => ⟨o, h⟩, fun _ _ _ _ h => h⟩
theorem Step.trans {U U1 U2 : Wd} {H H1 H2 : Hp} (a : Step U H U1 H1) (b : Step U1 H1 U2 H2) : Step U H U2 H2 where
  ef := a.ef.trans b.ef
  ei := fun l x h => b.ei l x (a.ei l x h)
  fr := fun x o h n => b.fr x o (a.fr x o h n) fun l e => by
    rcases a.ni l x e with q | q
    · exact n l q
    · rw [h] at q; cases q
  ni := fun l x h => by
    rcases b.ni l x h with q | q
    · exact a.ni l x q
    · refine .inr ?_
      cases e : H x with
      | none => rfl
      | some o =>
        obtain ⟨o', e'⟩ := a.dm x o e
        rw [q] at e'; cases e'
  nf := fun x o h => by
    rcases b.nf x o h with q | q | ⟨l, q⟩
    · exact a.nf x o q
    · refine .inr (.inl ?_)
      cases e : H x with
      | none => rfl
      | some o =>
        obtain ⟨o', e'⟩ := a.dm x o e
        rw [q] at e'; cases e'
    · rcases a.ni l x q with z | z
      · exact .inr (.inr ⟨l, z⟩)
      · exact .inr (.inl z)
  dm := fun x o h => by
    obtain ⟨o', e⟩ := a.dm x o h
    exact b.dm x o' e
  ff := fun x o o' f h => b.ff x o o' (a.ef x o' f) (a.ff x o o' f h)

theorem RelD.step {K : PySem.W.Frag} {U U' : Wd} {H H' : Hp} {d : D} {v : V} (s : Step U H U' H') (h : RelD K U d v) : RelD K U' d v := by
  cases d with
  | p x => exact Rp.sub s.ef h
  | r l => obtain ⟨a, e, q⟩ := h; exact ⟨a, s.ei _ _ e, q⟩
def RelDs (K : PySem.W.Frag) (U : Wd) : List D → List V → Prop := Paired (RelD K U)
theorem RelDs.step {K : PySem.W.Frag} {U U' : Wd} {H H' : Hp} (s : Step U H U' H') : ∀ {ds : List D} {vs : List V}, RelDs K U ds vs → RelDs K U' ds vs
  | _, _, .nil => .nil
  | _, _, .cons h t => .cons (h.step s) (RelDs.step s t)
structure RelL (K : PySem.W.Frag) (U : Wd) (ρ : Loc) (σ : St) : Prop where
  len : ρ.length = σ.length
  get : ∀ (i : Nat) (d : D), ρ[i]? = some (some d) → ∃ v, σ[i]? = some (some v) ∧ RelD K U d v
theorem RelL.step {K : PySem.W.Frag} {U U' : Wd} {H H' : Hp} {ρ : Loc} {σ : St} (s : Step U H U' H') (h : RelL K U ρ σ) : RelL K U' ρ σ :=
  ⟨h.len, fun i d e => let ⟨v, q, r⟩ := h.get i d e; ⟨v, q, r.step s⟩⟩
theorem RelL.set {K : PySem.W.Frag} {U : Wd} {ρ : Loc} {σ : St} (h : RelL K U ρ σ) (i : Nat) {d : D} {v : V} (r : RelD K U d v) : RelL K U (ρ.set i (some d)) (σ.set i (some v)) := by
  refine ⟨by simp [h.len], fun j e q => ?_⟩
  by_cases hj : i = j
  · subst hj
    by_cases hl : i < ρ.length
    · rw [List.getElem?_set_self hl] at q
      cases q
      exact ⟨v, by rw [List.getElem?_set_self (by rw [← h.len]; exact hl)], r⟩
    · rw [List.getElem?_eq_none (by simpa using hl)] at q; cases q
  · rw [List.getElem?_set_ne hj] at q
    rw [List.getElem?_set_ne hj]
    exact h.get j e q
theorem RelL.setNone {K : PySem.W.Frag} {U : Wd} {ρ : Loc} {σ : St} (h : RelL K U ρ σ) (i : Nat) : RelL K U (ρ.set i none) (σ.set i none) := by
  refine ⟨by simp [h.len], fun j e q => ?_⟩
  by_cases hj : i = j
  · subst hj
    by_cases hl : i < ρ.length
    · rw [List.getElem?_set_self hl] at q; cases q
    · rw [List.getElem?_eq_none (by simpa using hl)] at q; cases q
  · rw [List.getElem?_set_ne hj] at q
    rw [List.getElem?_set_ne hj]
    exact h.get j e q
theorem RelL.setL {K : PySem.W.Frag} {U : Wd} {ρ : Loc} {σ : St} (h : RelL K U ρ σ) (i : Nat) {d : D} (r : ∀ v, σ[i]? = some (some v) → RelD K U d v) (hs : ∃ e, ρ[i]? = some (some e)) : RelL K U (ρ.set i (some d)) σ := by
  refine ⟨by simp [h.len], fun j e q => ?_⟩
  by_cases hj : i = j
  · subst hj
    obtain ⟨e0, h0⟩ := hs
    obtain ⟨v, hv, _⟩ := h.get _ _ h0
    by_cases hl : i < ρ.length
    · rw [List.getElem?_set_self hl] at q
      cases q
      exact ⟨v, hv, r v hv⟩
    · rw [List.getElem?_eq_none (by simpa using hl)] at q; cases q
  · rw [List.getElem?_set_ne hj] at q
    exact h.get j e q

/-! ### what is wanted of a result -/
def Wants {α : Type} (K : PySem.W.Frag) (E : Nat → Hp → Prop) (U : Wd) (H : Hp) (r : Res α) (k : Wd → Sto → Hp → α → Prop) : Prop := match r with
  | .ok a S => ∀ U' H', Step U H U' H' → Sat K U' S H' → k U' S H' a
  | .exc c S => ∀ U' H', Step U H U' H' → Sat K U' S H' → E c H'
  | .stuck => False
section
variable {K : PySem.W.Frag} {E : Nat → Hp → Prop} {U : Wd} {H : Hp} {α β : Type}
theorem Wants.step {U1 : Wd} {H1 : Hp} {r : Res α} {k : Wd → Sto → Hp → α → Prop} (s : Step U H U1 H1) (h : Wants K E U H r k) : Wants K E U1 H1 r k := by
  cases r with
  | ok a S => exact fun U' H' t q => h U' H' (s.trans t) q
  | exc c S => exact fun U' H' t q => h U' H' (s.trans t) q
  | stuck => exact h
theorem Wants.bind {r : Res α} {f : α → Sto → Res β} {k : Wd → Sto → Hp → β → Prop} (h : Wants K E U H (r.bind f) k) : Wants K E U H r fun U' S' H' a => Wants K E U' H' (f a S') k := by
  cases r with
  | ok a S => exact fun U' H' s q => Wants.step (r := f a S) s h
  | exc c S => exact h
  | stuck => exact h
theorem Wants.mono {r : Res α} {k k' : Wd → Sto → Hp → α → Prop} (h : Wants K E U H r k) (m : ∀ U' S' H' a, Step U H U' H' → Sat K U' S' H' → k U' S' H' a → k' U' S' H' a) : Wants K E U H r k' := by
  cases r with
  | ok a S => exact fun U' H' s q => m U' S H' a s q (h U' H' s q)
  | exc c S => exact h
  | stuck => exact h
theorem Wants.ok {a : α} {S : Sto} {k : Wd → Sto → Hp → α → Prop} (h : Wants K E U H (.ok a S) k) (q : Sat K U S H) : k U S H a := h U H (Step.refl U H) q
end

/-! ### the four changes -/
section
variable {K : PySem.W.Frag} {U : Wd} {S : Sto} {H : Hp}
theorem Sat.no (s : Sat K U S H) {p : Addr} (hp : H p = none) : U.F p = none := by
  cases e : U.F p with
  | none => rfl
  | some o =>
    rcases s.fz p o e with q | ⟨_, q, _⟩
    · rw [hp] at q; cases q
    · rw [hp] at q; cases q
theorem Sat.noi (s : Sat K U S H) {p : Addr} (hp : H p = none) : ∀ l, U.io l ≠ some p := fun l e => by
  obtain ⟨o, q⟩ := s.hs l p e
  rw [hp] at q; cases q
theorem Sub.upd {F : Hp} {p : Addr} {o : HO} (h : F p = none) : Sub F (upd F p o) := fun a u e => by
  rw [upd_ne (ne_of_none e h)]; exact e
/-- a new thing that nobody changes -/
theorem Step.alloc {p : Addr} {o : HO} (hp : H p = none) (hf : U.F p = none) : Step U H ⟨upd U.F p o, U.io⟩ (upd H p o) where
  ef := Sub.upd hf
  ei := fun _ _ h => h
  fr := fun a u h _ => by rw [upd_ne (ne_of_none h hp)]; exact h
  ni := fun _ _ h => .inl h
  nf := fun a u h => by
    by_cases e : a = p
    · subst e; exact .inr (.inl hp)
    · have h' : upd U.F p o a = some u := h
      rw [upd_ne e] at h'; exact .inl h'
  dm := fun a u h => ⟨u, by rw [upd_ne (ne_of_none h hp)]; exact h⟩
  ff := fun a u _ _ h => by rw [upd_ne (ne_of_none h hp)]; exact h
theorem Sat.alloc (s : Sat K U S H) {p : Addr} {o : HO} (hp : H p = none) : Sat K ⟨upd U.F p o, U.io⟩ S (upd H p o) where
  fz := fun a u h => by
    by_cases e : a = p
    · subst e
      have h' : upd U.F a o a = some u := h
      rw [upd_same] at h'; cases h'
      exact .inl upd_same
    · have h' : upd U.F p o a = some u := h
      rw [upd_ne e] at h'
      rcases s.fz a u h' with q | ⟨z, q, iz⟩
      · exact .inl (by rw [upd_ne e]; exact q)
      · exact .inr ⟨z, by rw [upd_ne e]; exact q, iz⟩
  dom := s.dom
  tot := s.tot
  inj := s.inj
  ob := fun l a b h q => by
    obtain ⟨h1, u, h2, h3⟩ := s.ob l a b h q
    have e : a ≠ p := ne_of_none h2 hp
    exact ⟨by show upd U.F p o a = none; rw [upd_ne e]; exact h1, u, by rw [upd_ne e]; exact h2, h3.sub (Sub.upd (s.no hp))⟩
  hs := fun l a h => by
    obtain ⟨u, q⟩ := s.hs l a h
    exact ⟨u, by rw [upd_ne (ne_of_none q hp)]; exact q⟩
  rf := s.rf
/-- a new thing that will be changed -/
def Wd.more (U : Wd) (n : Nat) (p : Addr) : Wd := ⟨U.F, fun l => if l = n then some p else U.io l⟩
theorem Step.new (s : Sat K U S H) {p : Addr} {o : HO} (hp : H p = none) : Step U H (U.more S.length p) (upd H p o) where
  ef := Sub.refl _
  ei := fun l a h => by
    show (if l = S.length then some p else U.io l) = some a
    rw [if_neg (Nat.ne_of_lt (s.dom l a h))]; exact h
  fr := fun a u h _ => by rw [upd_ne (ne_of_none h hp)]; exact h
  ni := fun l a h => by
    have h' : (if l = S.length then some p else U.io l) = some a := h
    by_cases e : l = S.length
    · rw [if_pos e] at h'; cases h'; exact .inr hp
    · rw [if_neg e] at h'; exact .inl h'
  nf := fun _ _ h => .inl h
  dm := fun a u h => ⟨u, by rw [upd_ne (ne_of_none h hp)]; exact h⟩
  ff := fun a u _ _ h => by rw [upd_ne (ne_of_none h hp)]; exact h
theorem Wd.more_last (U : Wd) (n : Nat) (p : Addr) : (U.more n p).io n = some p := if_pos rfl
theorem Sat.new (s : Sat K U S H) {p : Addr} {o : HO} {b : Ob} (hp : H p = none) (ho : ObIs K U p o b) (hr : RfOk S.length b) : Sat K (U.more S.length p) (S ++ [some b]) (upd H p o) where
  fz := fun a u h => by
    have e : a ≠ p := fun e => by
      subst e
      have := s.no hp
      rw [show U.F a = some u from h] at this; cases this
    rcases s.fz a u h with q | ⟨z, q, iz⟩
    · exact .inl (by rw [upd_ne e]; exact q)
    · exact .inr ⟨z, by rw [upd_ne e]; exact q, iz⟩
  dom := fun l a h => by
    have h' : (if l = S.length then some p else U.io l) = some a := h
    rw [List.length_append, List.length_singleton]
    by_cases e : l = S.length
    · omega
    · rw [if_neg e] at h'
      have := s.dom l a h'; omega
  tot := fun l h => by
    rw [List.length_append, List.length_singleton] at h
    show ∃ a, (if l = S.length then some p else U.io l) = some a
    by_cases e : l = S.length
    · exact ⟨p, if_pos e⟩
    · rw [if_neg e]; exact s.tot l (by omega)
  inj := fun l l' a h h' => by
    have h1 : (if l = S.length then some p else U.io l) = some a := h
    have h2 : (if l' = S.length then some p else U.io l') = some a := h'
    by_cases e : l = S.length
    · by_cases e' : l' = S.length
      · rw [e, e']
      · rw [if_pos e] at h1; rw [if_neg e'] at h2
        cases h1
        exact absurd h2 (s.noi hp l')
    · by_cases e' : l' = S.length
      · rw [if_neg e] at h1; rw [if_pos e'] at h2
        cases h2
        exact absurd h1 (s.noi hp l)
      · rw [if_neg e] at h1; rw [if_neg e'] at h2
        exact s.inj l l' a h1 h2
  ob := fun l a c h q => by
    have h1 : (if l = S.length then some p else U.io l) = some a := h
    by_cases e : l = S.length
    · rw [if_pos e] at h1; cases h1
      subst e
      rw [List.getElem?_append_right (Nat.le_refl _)] at q
      simp at q
      subst q
      exact ⟨s.no hp, o, upd_same, ObIs.grow (U := U) (U' := U.more S.length p) (Sub.refl _) (Step.new (o := o) s hp).ei ho⟩
    · rw [if_neg e] at h1
      have hl := s.dom l a h1
      rw [List.getElem?_append_left hl] at q
      obtain ⟨z1, u, z2, z3⟩ := s.ob l a c h1 q
      exact ⟨z1, u, by rw [upd_ne (ne_of_none z2 hp)]; exact z2, ObIs.grow (U := U) (U' := U.more S.length p) (Sub.refl _) (Step.new (o := o) s hp).ei z3⟩
  hs := fun l a h => by
    have h1 : (if l = S.length then some p else U.io l) = some a := h
    by_cases e : l = S.length
    · rw [if_pos e] at h1; cases h1
      exact ⟨o, upd_same⟩
    · rw [if_neg e] at h1
      obtain ⟨u, q⟩ := s.hs l a h1
      exact ⟨u, by rw [upd_ne (ne_of_none q hp)]; exact q⟩
  rf := fun l c q => by
    by_cases e : l < S.length
    · rw [List.getElem?_append_left e] at q
      exact s.rf l c q
    · have hl := (List.getElem?_eq_some_iff.mp q).1
      rw [List.length_append, List.length_singleton] at hl
      have : l = S.length := by omega
      subst this
      rw [List.getElem?_append_right (Nat.le_refl _)] at q
      simp at q
      subst q
      exact hr
/-- a thing is changed -/
theorem Step.put {l : Nat} {a : Addr} {o : HO} (h : U.io l = some a) (hF : U.F a = none) : Step U H U (upd H a o) where
  ef := Sub.refl _
  ei := fun _ _ h => h
  fr := fun b u q n => by rw [upd_ne (fun e => n l (by rw [e]; exact h))]; exact q
  ni := fun _ _ h => .inl h
  nf := fun _ _ h => .inl h
  dm := fun b u q => by
    by_cases e : b = a
    · subst e; exact ⟨o, upd_same⟩
    · exact ⟨u, by rw [upd_ne e]; exact q⟩
  ff := fun b u u' f q => by rw [upd_ne (fun e => by rw [e, hF] at f; cases f)]; exact q
theorem Sat.put (s : Sat K U S H) {l : Nat} {a : Addr} {o : HO} {b c : Ob} (h : U.io l = some a) (hb : S[l]? = some (some b)) (ho : ObIs K U a o c) (hr : RfOk l c) : Sat K U (S.set l (some c)) (upd H a o) where
  fz := fun x u q => by
    have e : x ≠ a := fun e => by
      have := (s.ob l a b h hb).1
      rw [← e, q] at this; cases this
    rcases s.fz x u q with z | ⟨w, z, iz⟩
    · exact .inl (by rw [upd_ne e]; exact z)
    · exact .inr ⟨w, by rw [upd_ne e]; exact z, iz⟩
  dom := fun l' x q => by rw [List.length_set]; exact s.dom l' x q
  tot := fun l' q => by rw [List.length_set] at q; exact s.tot l' q
  inj := s.inj
  ob := fun l' x d q z => by
    by_cases e : l = l'
    · subst e
      rw [h] at q; cases q
      rw [List.getElem?_set_self (s.dom l a h)] at z
      cases z
      exact ⟨(s.ob l a b h hb).1, o, upd_same, ho⟩
    · rw [List.getElem?_set_ne e] at z
      obtain ⟨z1, u, z2, z3⟩ := s.ob l' x d q z
      have ne : x ≠ a := fun y => e (s.inj l l' a h (by rw [← y]; exact q))
      exact ⟨z1, u, by rw [upd_ne ne]; exact z2, z3⟩
  hs := fun l' x q => by
    by_cases e : x = a
    · subst e; exact ⟨o, upd_same⟩
    · obtain ⟨u, z⟩ := s.hs l' x q
      exact ⟨u, by rw [upd_ne e]; exact z⟩
  rf := fun l' d z => by
    by_cases e : l = l'
    · subst e
      rw [List.getElem?_set_self (s.dom l a h)] at z
      cases z
      exact hr
    · rw [List.getElem?_set_ne e] at z
      exact s.rf l' d z
/-- from now on nobody changes it -/
theorem Step.freeze {l : Nat} {a : Addr} {o : HO} (h : U.io l = some a) (hf : U.F a = none) : Step U H ⟨upd U.F a o, U.io⟩ H where
  ef := Sub.upd hf
  ei := fun _ _ h => h
  fr := fun _ _ h _ => h
  ni := fun _ _ h => .inl h
  nf := fun b u q => by
    by_cases e : b = a
    · exact .inr (.inr ⟨l, by rw [e]; exact h⟩)
    · have q' : upd U.F a o b = some u := q
      rw [upd_ne e] at q'; exact .inl q'
  dm := fun _ o h => ⟨o, h⟩
  ff := fun _ _ _ _ h => h
theorem Sat.freeze (s : Sat K U S H) {l : Nat} {a : Addr} {o : HO} {b : Ob} (h : U.io l = some a) (hb : S[l]? = some (some b)) (ho : H a = some o) : Sat K ⟨upd U.F a o, U.io⟩ (S.set l none) H where
  fz := fun x u q => by
    have q' : upd U.F a o x = some u := q
    by_cases e : x = a
    · subst e; rw [upd_same] at q'; cases q'; exact .inl ho
    · rw [upd_ne e] at q'; exact s.fz x u q'
  dom := fun l' x q => by rw [List.length_set]; exact s.dom l' x q
  tot := fun l' q => by rw [List.length_set] at q; exact s.tot l' q
  inj := s.inj
  ob := fun l' x d q z => by
    by_cases e : l = l'
    · subst e
      rw [List.getElem?_set_self (s.dom l a h)] at z; cases z
    · rw [List.getElem?_set_ne e] at z
      obtain ⟨z1, u, z2, z3⟩ := s.ob l' x d q z
      have ne : x ≠ a := fun y => e (s.inj l l' a h (by rw [← y]; exact q))
      exact ⟨by show upd U.F a o x = none; rw [upd_ne ne]; exact z1, u, z2, z3.sub (Sub.upd (s.ob l a b h hb).1)⟩
  hs := s.hs
  rf := fun l' d z => by
    by_cases e : l = l'
    · subst e
      rw [List.getElem?_set_self (s.dom l a h)] at z; cases z
    · rw [List.getElem?_set_ne e] at z
      exact s.rf l' d z
/-- what a def made is let go at its end -/
def Wd.cut (U : Wd) (n : Nat) : Wd := ⟨U.F, fun l => if l < n then U.io l else none⟩
theorem Sat.cut (s : Sat K U S H) (n : Nat) : Sat K (U.cut n) (S.take n) H where
  fz := s.fz
  dom := fun l a h => by
    have h' : (if l < n then U.io l else none) = some a := h
    by_cases e : l < n
    · rw [if_pos e] at h'
      have := s.dom l a h'
      rw [List.length_take]; omega
    · rw [if_neg e] at h'; cases h'
  tot := fun l h => by
    rw [List.length_take] at h
    show ∃ a, (if l < n then U.io l else none) = some a
    rw [if_pos (by omega)]
    exact s.tot l (by omega)
  inj := fun l l' a h h' => by
    have h1 : (if l < n then U.io l else none) = some a := h
    have h2 : (if l' < n then U.io l' else none) = some a := h'
    by_cases e : l < n
    · by_cases e' : l' < n
      · rw [if_pos e] at h1; rw [if_pos e'] at h2
        exact s.inj l l' a h1 h2
      · rw [if_neg e'] at h2; cases h2
    · rw [if_neg e] at h1; cases h1
  ob := fun l a b h q => by
    have h1 : (if l < n then U.io l else none) = some a := h
    by_cases e : l < n
    · rw [if_pos e] at h1
      rw [List.getElem?_take_of_lt e] at q
      obtain ⟨z1, u, z2, z3⟩ := s.ob l a b h1 q
      refine ⟨z1, u, z2, ObIs.few (U := U) (U' := U.cut n) (n := l) rfl (fun k x hk hx => ?_) (s.rf l b q) z3⟩
      show (if k < n then U.io k else none) = some x
      rw [if_pos (by omega)]; exact hx
    · rw [if_neg e] at h1; cases h1
  hs := fun l a h => by
    have h1 : (if l < n then U.io l else none) = some a := h
    by_cases e : l < n
    · rw [if_pos e] at h1; exact s.hs l a h1
    · rw [if_neg e] at h1; cases h1
  rf := fun l b q => by
    by_cases e : l < n
    · rw [List.getElem?_take_of_lt e] at q
      exact s.rf l b q
    · rw [List.getElem?_eq_none (by rw [List.length_take]; omega)] at q; cases q
theorem Step.cut {U0 : Wd} {H0 : Hp} {n : Nat} (t : Step U0 H0 U H) (d : ∀ l a, U0.io l = some a → l < n) : Step U0 H0 (U.cut n) H where
  ef := t.ef
  ei := fun l a h => by
    show (if l < n then U.io l else none) = some a
    rw [if_pos (d l a h)]; exact t.ei l a h
  fr := t.fr
  ni := fun l a h => by
    have h1 : (if l < n then U.io l else none) = some a := h
    by_cases e : l < n
    · rw [if_pos e] at h1; exact t.ni l a h1
    · rw [if_neg e] at h1; cases h1
  nf := t.nf
  dm := t.dm
  ff := t.ff
theorem Rd.le {F H : Hp} {a : Addr} {xs : List V} (s : Le F H) (h : Rd F a (.lst xs)) : Rd H a (.lst xs) := by
  rcases h with h | ⟨o, h⟩
  · rcases s _ _ h with q | ⟨z, q, e⟩
    · exact .inl q
    · cases e
  · rcases s _ _ h with q | ⟨z, q, e⟩
    · exact .inr ⟨o, q⟩
    · cases e
theorem SqT.le {F H : Hp} {a : Addr} {xs : List V} (s : Le F H) (h : SqT K F a xs) : SqT K H a xs := by
  rcases h with (h | ⟨o, h⟩) | h
  · rcases s _ _ h with q | ⟨z, q, e⟩
    · exact .inl (.inl q)
    · cases e
  · rcases s _ _ h with q | ⟨z, q, e⟩
    · exact .inl (.inr ⟨o, q⟩)
    · cases e
  · exact .inr h
end
theorem RpAll.length {K : PySem.W.Frag} {F : Hp} : ∀ {vs : List V} {ds : List PyData}, RpAll K F vs ds → vs.length = ds.length
  | _, _, .nil => rfl
  | _, _, .cons _ t => by rw [List.length_cons, List.length_cons, RpAll.length t]
theorem RpAll.get {K : PySem.W.Frag} {F : Hp} : ∀ {vs : List V} {ds : List PyData} {i : Nat} {x : PyData}, RpAll K F vs ds → ds[i]? = some x → ∃ v, vs[i]? = some v ∧ Rp K F v x
  | _, _, _, _, .nil, e => by simp at e
  | _, _, 0, _, .cons r _, e => by simp at e; subst e; exact ⟨_, rfl, r⟩
  | _, _, i + 1, x, .cons _ t, e => by
    obtain ⟨u, h1, h2⟩ := RpAll.get (i := i) (x := x) t (by simpa using e)
    exact ⟨u, by simpa using h1, h2⟩
theorem RpAll.getV {K : PySem.W.Frag} {F : Hp} : ∀ {vs : List V} {ds : List PyData} {i : Nat} {v : V}, RpAll K F vs ds → vs[i]? = some v → ∃ x, ds[i]? = some x ∧ Rp K F v x
  | _, _, _, _, .nil, e => by simp at e
  | _, _, 0, _, .cons r _, e => by simp at e; subst e; exact ⟨_, rfl, r⟩
  | _, _, i + 1, x, .cons _ t, e => by
    obtain ⟨u, h1, h2⟩ := RpAll.getV (i := i) (v := x) t (by simpa using e)
    exact ⟨u, by simpa using h1, h2⟩
theorem RpAll.append {K : PySem.W.Frag} {F : Hp} : ∀ {vs ws : List V} {ds es : List PyData}, RpAll K F vs ds → RpAll K F ws es → RpAll K F (vs ++ ws) (ds ++ es)
  | _, _, _, _, .nil, s => s
  | _, _, _, _, .cons r t, s => .cons r (RpAll.append t s)
theorem RpAll.take {K : PySem.W.Frag} {F : Hp} : ∀ {vs : List V} {ds : List PyData} (n : Nat), RpAll K F vs ds → RpAll K F (vs.take n) (ds.take n)
  | _, _, 0, _ => .nil
  | _, _, _ + 1, .nil => .nil
  | _, _, n + 1, .cons r t => .cons r (RpAll.take n t)
theorem RpAll.drop {K : PySem.W.Frag} {F : Hp} : ∀ {vs : List V} {ds : List PyData} (n : Nat), RpAll K F vs ds → RpAll K F (vs.drop n) (ds.drop n)
  | _, _, 0, r => r
  | _, _, _ + 1, .nil => .nil
  | _, _, n + 1, .cons _ t => RpAll.drop n t
theorem RpAll.set {K : PySem.W.Frag} {F : Hp} {v : V} {d : PyData} (r : Rp K F v d) : ∀ {vs : List V} {ds : List PyData} (i : Nat), RpAll K F vs ds → RpAll K F (vs.set i v) (ds.set i d)
  | _, _, _, .nil => .nil
  | _, _, 0, .cons _ t => .cons r t
  | _, _, i + 1, .cons q t => .cons q (RpAll.set r i t)
theorem RpAll.reverse {K : PySem.W.Frag} {F : Hp} {vs : List V} {ds : List PyData} (h : RpAll K F vs ds) : RpAll K F vs.reverse ds.reverse := by
  induction ds generalizing vs with
  | nil => cases h; exact .nil
  | cons d ds ih =>
    cases h with
    | cons r t => rw [List.reverse_cons, List.reverse_cons]; exact RpAll.append (ih t) (.cons r .nil)
end G


namespace G
open PySem L2

abbrev ME := Loc → Sto → Res D
abbrev MT := Loc → Sto → Res Bool
abbrev MA := Loc → Sto → Res (List D)
abbrev MI := Loc → Sto → Res (List PyData)
inductive Fl where
  | nx | rt (d : D) | bk | ct
abbrev MS := Loc → Sto → Res (Fl × Loc)
abbrev MG := D → Loc → Sto → Res Loc
abbrev Fn := List D → Sto → Res D
abbrev EX := Nat → Hp → Prop
def E1 : EX := fun _ _ => False
def Res.nox {α : Type} (r : Res α) : Res α := match r with
  | .ok a S => .ok a S
  | _ => .stuck
theorem Wants.nox {α : Type} {K : PySem.W.Frag} {E E' : EX} {U : Wd} {H : Hp} {r : Res α} {k : Wd → Sto → Hp → α → Prop} (h : Wants K E U H r.nox k) : Wants K E' U H r k := by
  cases r with
  | ok a S => exact h
  | exc c S => exact False.elim h
  | stuck => exact h
theorem Wants.noxb {α β : Type} {K : PySem.W.Frag} {E E' : EX} {U : Wd} {H : Hp} {r : Res α} {f : α → Sto → Res β} {k : Wd → Sto → Hp → β → Prop} (h : Wants K E U H (r.nox.bind f) k) : Wants K E' U H r fun U' S' H' a => Wants K E U' H' (f a S') k := by
  cases r with
  | ok a S => exact fun U' H' s q => Wants.step (r := f a S) s h
  | exc c S => exact False.elim h
  | stuck => exact h

section
variable (K : PySem.W.Frag) (E : EX)
def KD (Q : VK) : Wd → Sto → Hp → D → Prop := fun U' _ H' d => ∀ v, RelD K U' d v → Q v H'
def ImpE (t : TE) (m : ME) : Prop := ∀ (U : Wd) (S : Sto) (H : Hp) (σ : L2.St) (ρ : Loc) (Q : VK), Sat K U S H → RelL K U ρ σ → Wants K E U H (m ρ S) (KD K Q) → t σ H Q
def ImpT (t : TT) (m : MT) : Prop := ∀ (U : Wd) (S : Sto) (H : Hp) (σ : L2.St) (ρ : Loc) (Q : Bool → Hp → Prop), Sat K U S H → RelL K U ρ σ → Wants K E U H (m ρ S) (fun _ _ H' b => Q b H') → t σ H Q
def ImpA (t : TA) (m : MA) : Prop := ∀ (U : Wd) (S : Sto) (H : Hp) (σ : L2.St) (ρ : Loc) (Q : List V → Hp → Prop), Sat K U S H → RelL K U ρ σ → Wants K E U H (m ρ S) (fun U' _ H' ds => ∀ vs, RelDs K U' ds vs → Q vs H') → t σ H Q
def EndOf (U : Wd) (H : Hp) (N : Ends) (σ : L2.St) : Fl → Prop
  | .nx => N.nx σ H
  | .rt d => ∀ v, RelD K U d v → N.rt v H
  | .bk => N.bk σ H
  | .ct => N.ct σ H
def KS (N : Ends) : Wd → Sto → Hp → Fl × Loc → Prop := fun U' _ H' r => ∀ σ', RelL K U' r.2 σ' → EndOf K U' H' N σ' r.1
def ImpS (t : TS) (m : MS) : Prop := ∀ (U : Wd) (S : Sto) (H : Hp) (σ : L2.St) (ρ : Loc) (N : Ends), Sat K U S H → RelL K U ρ σ → Wants K E U H (m ρ S) (KS K N) → t N σ H
def Only (ws : List Nat) (σ σ' : L2.St) : Prop := σ'.length = σ.length ∧ ∀ i, i ∉ ws → σ'[i]? = σ[i]?
def ImpG (ws : List Nat) (t : TG) (g : MG) : Prop := ∀ (U : Wd) (S : Sto) (H : Hp) (σ : L2.St) (ρ : Loc) (v : V) (d : D) (Q : L2.St → Hp → Prop), Sat K U S H → RelL K U ρ σ → RelD K U d v →
  Wants K E U H (g d ρ S) (fun U' _ H' ρ' => ∀ σ', RelL K U' ρ' σ' → Only ws σ σ' → Q σ' H') → t v σ H Q
/-- an iterator that gives these -/
def Runs (U : Wd) (H : Hp) (J : It) (xs : List PyData) : Prop := ∀ (U' : Wd) (S' : Sto) (H' : Hp) (i : Nat), Stp U H U' H' → Sat K U' S' H' →
  (i = xs.length → J.stop i H') ∧ ∀ x, xs[i]? = some x → J.go i H' ∧ ∀ v H'', J.yld i H' v H'' → ∃ U'', Step U' H' U'' H'' ∧ Sat K U'' S' H'' ∧ Rp K U''.F v x
def ImpI (t : TI) (m : MI) : Prop := ∀ (U : Wd) (S : Sto) (H : Hp) (σ : L2.St) (ρ : Loc) (R : It → Hp → Prop), Sat K U S H → RelL K U ρ σ → Wants K E U H (m ρ S) (fun U' _ H' xs => ∀ J, Runs K U' H' J xs → R J H') → t σ H R
end

structure IE (X : Cx) (E : EX) (e : Expr) (m : ME) : Prop where
  ex : ∃ t, PE X e t ∧ ImpE X.K E t m
structure IT (X : Cx) (E : EX) (e : Expr) (m : MT) : Prop where
  ex : ∃ t, PT X e t ∧ ImpT X.K E t m
structure IW (X : Cx) (E : EX) (e : Expr) (m : MT) : Prop where
  ex : ∃ t, PW X e t ∧ ImpT X.K E t m
structure IA (X : Cx) (E : EX) (es : List Expr) (m : MA) : Prop where
  ex : ∃ t, PA X es t ∧ ImpA X.K E t m
  len : ∀ ρ S ds S', m ρ S = .ok ds S' → ds.length = es.length
structure IS (X : Cx) (E : EX) (st : Stmt) (m : MS) : Prop where
  ex : ∃ t, PS X st t ∧ ImpS X.K E t m
structure ISs (X : Cx) (E : EX) (st : List Stmt) (m : MS) : Prop where
  ex : ∃ t, PSs X st t ∧ ImpS X.K E t m
structure IG (X : Cx) (E : EX) (ws : List Nat) (e : Expr) (g : MG) : Prop where
  ex : ∃ t, PG X e t ∧ ImpG X.K E ws t g
structure II (X : Cx) (E : EX) (tg e : Expr) (m : MI) : Prop where
  ex : ∃ t, PI X tg e t ∧ ImpI X.K E t m

/-! ### names and constants -/
def mC (x : PyData) : ME := fun _ S => .ok (.p x) S
def mVar (i : Nat) : ME := fun ρ S => match ρ[i]? with
  | some (some d) => .ok d S
  | _ => .stuck
section
variable {X : Cx} {E : EX} {pos : Pos} {a b c e : Expr} {es : List Expr} {ma mb mc : ME}
theorem impC {K : PySem.W.Frag} {v : V} {x : PyData} (h : ∀ F, Rp K F v x) : ImpE K E (tC v) (mC x) := fun U S H σ ρ Q s _ w => (w.ok s) v (h _)
theorem ie_var {i : Nat} {x : Str} (h : PE X (.Name x pos) (tVar i)) : IE X E (.Name x pos) (mVar i) := by
  refine ⟨_, h, fun U S H σ ρ Q s rl w => ?_⟩
  unfold mVar at w
  split at w
  · next d e =>
    obtain ⟨v, q, r⟩ := rl.get i d e
    exact ⟨v, q, (w.ok s) v r⟩
  · exact False.elim w
theorem iv (i : Nat) {x : Str} (hN : X.N[i]? = some x := by rfl) (hv : Vis X.env.scope x := by first | exact Or.inl rfl | exact Or.inr (Or.inl rfl) | exact Or.inr (Or.inr rfl)) (hd : (x == ("__debug__" : Str)) = false := by decide)
    (hcd : (x == ("__classdict__" : Str)) = false := by decide) : IE X E (.Name x pos) (mVar i) := ie_var (pe_var hN hv hd hcd)
theorem ie_int {i : Int} {j : Nat} : IE X E (.Constant (.int i) j pos) (mC (.int i)) := ⟨_, pe_int, impC fun _ => .int i⟩
theorem ie_bl {i : Bool} {j : Nat} : IE X E (.Constant (.bool i) j pos) (mC (.bool i)) := ⟨_, pe_bl, impC fun _ => .bl i⟩
theorem ie_non {j : Nat} : IE X E (.Constant .none j pos) (mC .none) := ⟨_, pe_non, impC fun _ => .non⟩
theorem ie_str {x : Str} {j : Nat} : IE X E (.Constant (.str x) j pos) (mC (.str x)) := ⟨_, pe_str, impC fun _ => .str x⟩
theorem ie_globI {x : Str} {i : Int} {u : Value} (hg : Gl X x) (hm : X.mg x = some u) (r : RelV (.int i) u) (hd : (x == ("__debug__" : Str)) = false := by decide) : IE X E (.Name x pos) (mC (.int i)) := ⟨_, pe_glob hg hm r hd, impC fun _ => .int i⟩

/-! ### operators -/
def m2 (g : D → D → Sto → Res D) (ma mb : ME) : ME := fun ρ S => (ma ρ S).bind fun d S1 => (mb ρ S1).bind fun e S2 => g d e S2
def m1 (g : D → Sto → Res D) (ma : ME) : ME := fun ρ S => (ma ρ S).bind fun d S1 => g d S1
def ImpO (K : PySem.W.Frag) (E : EX) (r : R2) (g : D → D → Sto → Res D) : Prop := ∀ (U : Wd) (S : Sto) (H : Hp) (x y : V) (d e : D) (Q : VK), Sat K U S H → RelD K U d x → RelD K U e y → Wants K E U H (g d e S) (KD K Q) → r x y H Q
def ImpU (K : PySem.W.Frag) (E : EX) (r : V → Hp → VK → Prop) (g : D → Sto → Res D) : Prop := ∀ (U : Wd) (S : Sto) (H : Hp) (x : V) (d : D) (Q : VK), Sat K U S H → RelD K U d x → Wants K E U H (g d S) (KD K Q) → r x H Q
theorem imp2 {K : PySem.W.Frag} {r : R2} {g : D → D → Sto → Res D} {ta tb : TE} (hg : ImpO K E r g) (ia : ImpE K E ta ma) (ib : ImpE K E tb mb) : ImpE K E (tOp r ta tb) (m2 g ma mb) :=
  fun U S H σ ρ Q s rl w => ia U S H σ ρ _ s rl (w.bind.mono fun U1 S1 H1 d st1 s1 w1 v rv => ib U1 S1 H1 σ ρ _ s1 (rl.step st1) (w1.bind.mono fun U2 S2 H2 e st2 s2 w2 u ru => hg U2 S2 H2 v u d e Q s2 (rv.step st2) ru w2))
theorem ie_op {op : Operator} {r : R2} {g : D → D → Sto → Res D} (ho : OpR X (binaryOp op) r) (hg : ImpO X.K E r g) (ha : IE X E a ma) (hb : IE X E b mb) : IE X E (.BinOp a op b pos) (m2 g ma mb) := by
  obtain ⟨ta, pa, ia⟩ := ha
  obtain ⟨tb, pb, ib⟩ := hb
  exact ⟨_, pe_op ho pa pb, imp2 hg ia ib⟩
theorem ie_un {op : UnaryOp} {r : V → Hp → VK → Prop} {g : D → Sto → Res D} (ho : UnR X (unaryOp op) r) (hg : ImpU X.K E r g) (ha : IE X E a ma) : IE X E (.UnaryOp op a pos) (m1 g ma) := by
  obtain ⟨ta, pa, ia⟩ := ha
  exact ⟨_, pe_un ho pa, fun U S H σ ρ Q s rl w => ia U S H σ ρ _ s rl (w.bind.mono fun U1 S1 H1 d st1 s1 w1 v rv => hg U1 S1 H1 v d Q s1 rv w1)⟩
theorem ie_cmp {op : CmpOp} {r : R2} {g : D → D → Sto → Res D} (ho : OpR X (compareOp op) r) (hg : ImpO X.K E r g) (ha : IE X E a ma) (hb : IE X E b mb) (hm : behindInMarks op b = false) : IE X E (.Compare a [op] [b] pos) (m2 g ma mb) := by
  obtain ⟨ta, pa, ia⟩ := ha
  obtain ⟨tb, pb, ib⟩ := hb
  exact ⟨_, pe_cmpR ho pa pb hm, imp2 hg ia ib⟩
theorem ie_ix {r : R2} {g : D → D → Sto → Res D} (ho : IxR X r) (hg : ImpO X.K E r g) (ha : IE X E a ma) (hb : IE X E b mb) (hs : PlainIx b) : IE X E (.Subscript a b pos) (m2 g ma mb) := by
  obtain ⟨ta, pa, ia⟩ := ha
  obtain ⟨tb, pb, ib⟩ := hb
  exact ⟨_, pe_ix ho pa pb hs, imp2 hg ia ib⟩

/-! ### tests -/
def toB (d : D) (S : Sto) : Res Bool := match d with
  | .p (.bool b) => .ok b S
  | _ => .stuck
def mTest (m : ME) : MT := fun ρ S => (m ρ S).bind toB
theorem impTest {K : PySem.W.Frag} {t : TE} (h : ImpE K E t ma) : ImpT K E (fun σ H Q => t σ H fun x H' => ∃ k, x = .bl k ∧ Q k H') (mTest ma) := by
  intro U S H σ ρ Q s rl w
  refine h U S H σ ρ _ s rl (w.bind.mono fun U1 S1 H1 d st1 s1 w1 v rv => ?_)
  unfold toB at w1
  split at w1
  · next b =>
    cases rv
    exact ⟨b, rfl, w1.ok s1⟩
  · exact False.elim w1
theorem it_val (h : IE X E e ma) (he : ∀ whole, isTrue e X.env whole = (do let v ← whole; standAt e.pos; holding [v] (truthy v)) := by intro _; rfl) : IT X E e (mTest ma) := by
  obtain ⟨t, p, i⟩ := h
  exact ⟨_, pt_val p he, impTest i⟩
theorem it_cmp {op : CmpOp} {r : R2} {g : D → D → Sto → Res D} (ho : OpR X (compareOp op) r) (hg : ImpO X.K E r g) (ha : IE X E a ma) (hb : IE X E b mb) (hm : behindInMarks op b = false) : IT X E (.Compare a [op] [b] pos) (mTest (m2 g ma mb)) := by
  obtain ⟨ta, pa, ia⟩ := ha
  obtain ⟨tb, pb, ib⟩ := hb
  exact ⟨_, pt_cmpR ho pa pb hm, impTest (imp2 hg ia ib)⟩
def mChain (g g' : D → D → Sto → Res D) (ma mb mc : ME) : ME := fun ρ S => (ma ρ S).bind fun d S1 => (mb ρ S1).bind fun e S2 => (g d e S2).bind fun z S3 => (toB z S3).bind fun k S4 =>
  if k = true then (mc ρ S4).bind fun f S5 => g' e f S5 else .ok (.p (.bool false)) S4
theorem impChain {K : PySem.W.Frag} {r r' : R2} {g g' : D → D → Sto → Res D} {ta tb tc : TE} (hg : ImpO K E r g) (hg' : ImpO K E r' g') (ia : ImpE K E ta ma) (ib : ImpE K E tb mb) (ic : ImpE K E tc mc) : ImpE K E (tChain r r' ta tb tc) (mChain g g' ma mb mc) := by
  intro U S H σ ρ Q s rl w
  refine ia U S H σ ρ _ s rl (w.bind.mono fun U1 S1 H1 d st1 s1 w1 v rv => ib U1 S1 H1 σ ρ _ s1 (rl.step st1) (w1.bind.mono fun U2 S2 H2 e st2 s2 w2 u ru => ?_))
  refine hg U2 S2 H2 v u d e _ s2 (rv.step st2) ru (w2.bind.mono fun U3 S3 H3 z st3 s3 w3 y ry => ?_)
  unfold toB at w3
  split at w3
  · next k =>
    cases ry
    refine ⟨k, rfl, ?_⟩
    cases k with
    | true =>
      exact ic U3 S3 H3 σ ρ _ s3 (((rl.step st1).step st2).step st3) (Wants.mono (Wants.bind w3) fun U4 S4 H4 f st4 s4 w4 q rq => hg' U4 S4 H4 u q e f Q s4 ((ru.step st3).step st4) rq w4)
    | false => exact (Wants.ok w3 s3) _ (.bl false)
  · exact False.elim w3
theorem ie_chain {op op' : CmpOp} {r r' : R2} {g g' : D → D → Sto → Res D} (ho : OpR X (compareOp op) r) (hg : ImpO X.K E r g) (ho' : OpR X (compareOp op') r') (hg' : ImpO X.K E r' g') (ha : IE X E a ma) (hb : IE X E b mb) (hc : IE X E c mc)
    (hm : lastMarks [op, op'] [b, c] = false := by with_unfolding_all rfl) : IE X E (.Compare a [op, op'] [b, c] pos) (mChain g g' ma mb mc) := by
  obtain ⟨ta, pa, ia⟩ := ha
  obtain ⟨tb, pb, ib⟩ := hb
  obtain ⟨tc, pc, ic⟩ := hc
  exact ⟨_, pe_chain ho ho' pa pb pc hm, impChain hg hg' ia ib ic⟩
theorem it_chain {op op' : CmpOp} {r r' : R2} {g g' : D → D → Sto → Res D} (ho : OpR X (compareOp op) r) (hg : ImpO X.K E r g) (ho' : OpR X (compareOp op') r') (hg' : ImpO X.K E r' g') (ha : IE X E a ma) (hb : IE X E b mb) (hc : IE X E c mc)
    (hm : lastMarks [op, op'] [b, c] = false := by with_unfolding_all rfl) : IT X E (.Compare a [op, op'] [b, c] pos) (mTest (mChain g g' ma mb mc)) := by
  obtain ⟨ta, pa, ia⟩ := ha
  obtain ⟨tb, pb, ib⟩ := hb
  obtain ⟨tc, pc, ic⟩ := hc
  exact ⟨_, pt_chain ho ho' pa pb pc hm, impTest (impChain hg hg' ia ib ic)⟩
variable {na nb : MT} {rest : List Expr}
def mNot (m : MT) : MT := fun ρ S => (m ρ S).bind fun b S1 => .ok (!b) S1
def mAnd (m n : MT) : MT := fun ρ S => (m ρ S).bind fun b S1 => if b = true then n ρ S1 else .ok false S1
def mOr (m n : MT) : MT := fun ρ S => (m ρ S).bind fun b S1 => if b = true then .ok true S1 else n ρ S1
theorem it_not (ha : IT X E a na) : IT X E (.UnaryOp .Not a pos) (mNot na) := by
  obtain ⟨t, p, i⟩ := ha
  exact ⟨_, pt_not p, fun U S H σ ρ Q s rl w => i U S H σ ρ _ s rl (w.bind.mono fun U1 S1 H1 b st1 s1 w1 => w1.ok s1)⟩
theorem iw_and1 (ha : IT X E a na) : IW X E (.BoolOp .And [a] pos) na := by
  obtain ⟨t, p, i⟩ := ha
  exact ⟨_, pw_and1 p, i⟩
theorem iw_or1 (ha : IT X E a na) : IW X E (.BoolOp .Or [a] pos) na := by
  obtain ⟨t, p, i⟩ := ha
  exact ⟨_, pw_or1 p, i⟩
theorem iw_and (ha : IT X E a na) (hb : IW X E (.BoolOp .And (b :: rest) pos) nb) : IW X E (.BoolOp .And (a :: b :: rest) pos) (mAnd na nb) := by
  obtain ⟨t, p, i⟩ := ha
  obtain ⟨u, q, j⟩ := hb
  refine ⟨_, pw_and p q, fun U S H σ ρ Q s rl w => i U S H σ ρ _ s rl (w.bind.mono fun U1 S1 H1 b st1 s1 w1 => ?_)⟩
  cases b with
  | true => exact j U1 S1 H1 σ ρ _ s1 (rl.step st1) w1
  | false => exact Wants.ok w1 s1
theorem iw_or (ha : IT X E a na) (hb : IW X E (.BoolOp .Or (b :: rest) pos) nb) : IW X E (.BoolOp .Or (a :: b :: rest) pos) (mOr na nb) := by
  obtain ⟨t, p, i⟩ := ha
  obtain ⟨u, q, j⟩ := hb
  refine ⟨_, pw_or p q, fun U S H σ ρ Q s rl w => i U S H σ ρ _ s rl (w.bind.mono fun U1 S1 H1 b st1 s1 w1 => ?_)⟩
  cases b with
  | true => exact Wants.ok w1 s1
  | false => exact j U1 S1 H1 σ ρ _ s1 (rl.step st1) w1
theorem IW.it (h : IW X E a na) : IT X E a na := by
  obtain ⟨t, p, i⟩ := h
  exact ⟨_, p.pt, i⟩
/-- as values -/
def mNotV (m : ME) : ME := fun ρ S => (m ρ S).bind fun d S1 => (toB d S1).bind fun b S2 => .ok (.p (.bool !b)) S2
def mAndV (m n : ME) : ME := fun ρ S => (m ρ S).bind fun d S1 => (toB d S1).bind fun b S2 => if b = true then n ρ S2 else .ok (.p (.bool false)) S2
def mOrV (m n : ME) : ME := fun ρ S => (m ρ S).bind fun d S1 => (toB d S1).bind fun b S2 => if b = true then .ok (.p (.bool true)) S2 else n ρ S2
theorem ie_one {op : BoolOp} (h : IE X E a ma) : IE X E (.BoolOp op [a] pos) ma := by
  obtain ⟨t, p, i⟩ := h
  exact ⟨_, pe_one p, i⟩
theorem ie_and (ha : IE X E a ma) (hb : IE X E (.BoolOp .And (b :: rest) pos) mb) : IE X E (.BoolOp .And (a :: b :: rest) pos) (mAndV ma mb) := by
  obtain ⟨t, p, i⟩ := ha
  obtain ⟨u, q, j⟩ := hb
  refine ⟨_, pe_and p q, fun U S H σ ρ Q s rl w => i U S H σ ρ _ s rl (w.bind.mono fun U1 S1 H1 d st1 s1 w1 v rv => ?_)⟩
  unfold toB at w1
  split at w1
  · next b =>
    cases rv
    refine ⟨b, rfl, ?_⟩
    cases b with
    | true => exact j U1 S1 H1 σ ρ _ s1 (rl.step st1) w1
    | false => exact (Wants.ok w1 s1) _ (.bl false)
  · exact False.elim w1
theorem ie_or (ha : IE X E a ma) (hb : IE X E (.BoolOp .Or (b :: rest) pos) mb) : IE X E (.BoolOp .Or (a :: b :: rest) pos) (mOrV ma mb) := by
  obtain ⟨t, p, i⟩ := ha
  obtain ⟨u, q, j⟩ := hb
  refine ⟨_, pe_or p q, fun U S H σ ρ Q s rl w => i U S H σ ρ _ s rl (w.bind.mono fun U1 S1 H1 d st1 s1 w1 v rv => ?_)⟩
  unfold toB at w1
  split at w1
  · next b =>
    cases rv
    refine ⟨b, rfl, ?_⟩
    cases b with
    | true => exact (Wants.ok w1 s1) _ (.bl true)
    | false => exact j U1 S1 H1 σ ρ _ s1 (rl.step st1) w1
  · exact False.elim w1
theorem ie_not (ha : IE X E a ma) : IE X E (.UnaryOp .Not a pos) (mNotV ma) := by
  obtain ⟨t, p, i⟩ := ha
  refine ⟨_, pe_not p, fun U S H σ ρ Q s rl w => i U S H σ ρ _ s rl (w.bind.mono fun U1 S1 H1 d st1 s1 w1 v rv => ?_)⟩
  unfold toB at w1
  split at w1
  · next b =>
    cases rv
    exact ⟨b, rfl, (Wants.ok w1 s1) _ (.bl !b)⟩
  · exact False.elim w1
def mIfE (c : MT) (m n : ME) : ME := fun ρ S => (c ρ S).bind fun b S1 => if b = true then m ρ S1 else n ρ S1
theorem ie_if (hc : IT X E c na) (ha : IE X E a ma) (hb : IE X E b mb) : IE X E (.IfExp c a b pos) (mIfE na ma mb) := by
  obtain ⟨t, p, i⟩ := ha
  obtain ⟨u, q, j⟩ := hb
  obtain ⟨z, r, k⟩ := hc
  refine ⟨_, pe_ifExp r p q, fun U S H σ ρ Q s rl w => k U S H σ ρ _ s rl (w.bind.mono fun U1 S1 H1 b st1 s1 w1 => ?_)⟩
  cases b with
  | true => exact i U1 S1 H1 σ ρ _ s1 (rl.step st1) w1
  | false => exact j U1 S1 H1 σ ρ _ s1 (rl.step st1) w1

/-! ### argument lists, displays -/
def mNil : MA := fun _ S => .ok [] S
def mCons (m : ME) (n : MA) : MA := fun ρ S => (m ρ S).bind fun d S1 => (n ρ S1).bind fun ds S2 => .ok (d :: ds) S2
theorem ia_nil : IA X E [] mNil := ⟨⟨_, pa_nil, fun U S H σ ρ Q s rl w => (w.ok s) _ .nil⟩, fun ρ S ds S' h => by cases h; rfl⟩
theorem bind_ok {α β : Type} {r : Res α} {f : α → Sto → Res β} {b : β} {S' : Sto} (h : r.bind f = .ok b S') : ∃ a S, r = .ok a S ∧ f a S = .ok b S' := by
  cases r with
  | ok a S => exact ⟨a, S, rfl, h⟩
  | exc c S => cases h
  | stuck => cases h
theorem ia_cons {n : MA} (ha : IE X E e ma) (hr : IA X E es n) (hs : starEach (e :: es) X.env = (false, eval e X.env) :: starEach es X.env := by rfl) : IA X E (e :: es) (mCons ma n) := by
  obtain ⟨t, p, i⟩ := ha
  obtain ⟨⟨u, q, j⟩, hl⟩ := hr
  refine ⟨⟨_, pa_cons p q hs, fun U S H σ ρ Q s rl w => i U S H σ ρ _ s rl (w.bind.mono fun U1 S1 H1 d st1 s1 w1 v rv => j U1 S1 H1 σ ρ _ s1 (rl.step st1) (w1.bind.mono fun U2 S2 H2 ds st2 s2 w2 vs rvs => (w2.ok s2) _ (.cons (rv.step st2) rvs)))⟩, fun ρ S ds S' h => ?_⟩
  obtain ⟨d, S1, _, h⟩ := bind_ok h
  obtain ⟨ds', S2, h1, h⟩ := bind_ok h
  cases h
  rw [List.length_cons, List.length_cons, hl _ _ _ _ h1]
def pures : List D → Option (List PyData)
  | [] => some []
  | .p x :: ds => (pures ds).map (x :: ·)
  | .r _ :: _ => none
theorem pures_rel {K : PySem.W.Frag} {U : Wd} : ∀ {ds : List D} {xs : List PyData} {vs : List V}, pures ds = some xs → RelDs K U ds vs → RpAll K U.F vs xs
  | [], _, _, h, .nil => by cases h; exact .nil
  | .p x :: ds, xs, _, h, .cons r t => by
    unfold pures at h
    obtain ⟨ys, e, rfl⟩ := Option.map_eq_some_iff.mp h
    exact .cons r (pures_rel e t)
  | .r _ :: _, _, _, h, _ => by cases h
def mTup (n : MA) : ME := fun ρ S => (n ρ S).bind fun ds S1 => match pures ds with
  | some xs => if xs.length ≤ 1000 then .ok (.p (.tuple xs)) S1 else .stuck
  | none => .stuck
/-- a list that is new -/
abbrev ML := Loc → Sto → Res (List PyData)
def KL (K : PySem.W.Frag) (H : Hp) (Q : VK) : Wd → Sto → Hp → List PyData → Prop := fun U' _ H' ys => ∀ p vs, H p = none → U'.F p = none → (∀ l, U'.io l ≠ some p) → H' p = some (.lst vs) → RpAll K U'.F vs ys → Q (.ref p) H'
def ImpL (K : PySem.W.Frag) (E : EX) (t : TE) (m : ML) : Prop := ∀ (U : Wd) (S : Sto) (H : Hp) (σ : L2.St) (ρ : Loc) (Q : VK), Sat K U S H → RelL K U ρ σ → Wants K E U H (m ρ S) (KL K H Q) → t σ H Q
structure IL (X : Cx) (E : EX) (e : Expr) (m : ML) : Prop where
  ex : ∃ t, PE X e t ∧ ImpL X.K E t m
/-- nobody changes it -/
def mP (m : ML) : ME := fun ρ S => (m ρ S).bind fun ys S1 => .ok (.p (.list ys)) S1
/-- it will be changed -/
def mR (m : ML) : ME := fun ρ S => (m ρ S).bind fun ys S1 => .ok (.r S1.length) (S1 ++ [some (.lst ys)])
def mLst (n : MA) : ML := fun ρ S => (n ρ S).bind fun ds S1 => match pures ds with
  | some xs => if xs.length ≤ 1000 then .ok xs S1 else .stuck
  | none => .stuck
theorem line1000 {n : Nat} (h : n ≤ 1000) : n ≤ sizeLine := Nat.le_of_lt (small1000 h)
theorem newT {K : PySem.W.Frag} {U : Wd} {S : Sto} {H : Hp} {Q : VK} {xs : List V} {ds : List PyData} {p : Addr} (s : Sat K U S H) (r : RpAll K U.F xs ds) (hp : H p = none) (w : Wants K E U H (.ok (.p (.tuple ds)) S) (KD K Q)) : Q (.ref p) (upd H p (.tup xs)) :=
  w _ _ (Step.alloc hp (s.no hp)) (s.alloc hp) _ (.tup (SqT.of upd_same) (r.sub (Sub.upd (s.no hp))))
theorem newL {K : PySem.W.Frag} {U : Wd} {S : Sto} {H : Hp} {Q : VK} {xs : List V} {ds : List PyData} {p : Addr} (s : Sat K U S H) (r : RpAll K U.F xs ds) (hp : H p = none) (w : Wants K E U H (.ok (.p (.list ds)) S) (KD K Q)) : Q (.ref p) (upd H p (.lst xs)) :=
  w _ _ (Step.alloc hp (s.no hp)) (s.alloc hp) _ (.lst (.inl upd_same) (r.sub (Sub.upd (s.no hp))))
theorem newR {K : PySem.W.Frag} {U : Wd} {S : Sto} {H : Hp} {Q : VK} {o : HO} {b : Ob} {p : Addr} (s : Sat K U S H) (r : ObIs K U p o b) (hr : RfOk S.length b) (hp : H p = none) (w : Wants K E U H (.ok (.r S.length) (S ++ [some b])) (KD K Q)) : Q (.ref p) (upd H p o) :=
  w _ _ (Step.new s hp) (s.new hp r hr) _ ⟨p, Wd.more_last _ _ _, rfl⟩
theorem ie_tup {n : MA} {x1 : _} (h : IA X E es n) : IE X E (.Tuple es x1 pos) (mTup n) := by
  obtain ⟨⟨t, p, i⟩, _⟩ := h
  refine ⟨_, pe_tup p, fun U S H σ ρ Q s rl w => i U S H σ ρ _ s rl (w.bind.mono fun U1 S1 H1 ds st1 s1 w1 vs rv => ?_)⟩
  split at w1
  · next xs hx =>
    split at w1
    · next hl =>
      have r := pures_rel hx rv
      exact ⟨by rw [r.length]; exact line1000 hl, fun q hq => newT s1 r hq w1⟩
    · exact False.elim w1
  · exact False.elim w1
/-- a thing that is neither frozen nor of the store is changed -/
theorem Sat.aside {K : PySem.W.Frag} {U : Wd} {S : Sto} {H : Hp} {p : Addr} {o : HO} (s : Sat K U S H) (hF : U.F p = none) (hi : ∀ l, U.io l ≠ some p) : Sat K U S (upd H p o) := by
  refine ⟨fun a u h => ?_, s.dom, s.tot, s.inj, fun l a b h q => ?_, fun l a h => ?_, s.rf⟩
  · have ne : a ≠ p := fun e => by rw [e, hF] at h; cases h
    rcases s.fz a u h with z | ⟨z', z, iz⟩
    · exact .inl (by rw [upd_ne ne]; exact z)
    · exact .inr ⟨z', by rw [upd_ne ne]; exact z, iz⟩
  · obtain ⟨z1, u, z2, z3⟩ := s.ob l a b h q
    have ne : a ≠ p := fun e => hi l (by rw [← e]; exact h)
    exact ⟨z1, u, by rw [upd_ne ne]; exact z2, z3⟩
  · have ne : a ≠ p := fun e => hi l (by rw [← e]; exact h)
    obtain ⟨u, z⟩ := s.hs l a h
    exact ⟨u, by rw [upd_ne ne]; exact z⟩
theorem Step.aside {U U' : Wd} {H H' : Hp} {p : Addr} {o : HO} (t : Step U H U' H') (hp : H p = none) : Step U H U' (upd H' p o) :=
  ⟨t.ef, t.ei, fun a u h n => by rw [upd_ne (ne_of_none h hp)]; exact t.fr a u h n, t.ni, t.nf, fun a u h => by
    obtain ⟨u', q⟩ := t.dm a u h
    have ne : a ≠ p := ne_of_none h hp
    exact ⟨u', by rw [upd_ne ne]; exact q⟩, fun a u u' f h => by rw [upd_ne (ne_of_none h hp)]; exact t.ff a u u' f h⟩
theorem Step.old {U U' : Wd} {H H' : Hp} {p : Addr} (t : Step U H U' H') (hp : H' p = none) : H p = none := by
  cases e : H p with
  | none => rfl
  | some o =>
    obtain ⟨o', q⟩ := t.dm p o e
    rw [hp] at q; cases q
/-- .. and frozen in the end -/
theorem Step.asideF {U U' : Wd} {H H' : Hp} {p : Addr} {o : HO} (t : Step U H U' H') (hp : H p = none) (hF : U'.F p = none) : Step U H ⟨upd U'.F p o, U'.io⟩ H' :=
  ⟨t.ef.trans (Sub.upd hF), t.ei, t.fr, t.ni, fun a u h => by
    by_cases e : a = p
    · subst e; exact .inr (.inl hp)
    · have h' : upd U'.F p o a = some u := h
      rw [upd_ne e] at h'; exact t.nf a u h', t.dm, t.ff⟩
theorem Sat.asideF {K : PySem.W.Frag} {U : Wd} {S : Sto} {H : Hp} {p : Addr} {o : HO} (s : Sat K U S H) (hF : U.F p = none) (hi : ∀ l, U.io l ≠ some p) (ho : H p = some o) : Sat K ⟨upd U.F p o, U.io⟩ S H := by
  refine ⟨fun a u h => ?_, s.dom, s.tot, s.inj, fun l a b h q => ?_, s.hs, s.rf⟩
  · have h' : upd U.F p o a = some u := h
    by_cases e : a = p
    · subst e; rw [upd_same] at h'; cases h'; exact .inl ho
    · rw [upd_ne e] at h'; exact s.fz a u h'
  · obtain ⟨z1, u, z2, z3⟩ := s.ob l a b h q
    have ne : a ≠ p := fun e => hi l (by rw [← e]; exact h)
    exact ⟨by show upd U.F p o a = none; rw [upd_ne ne]; exact z1, u, z2, z3.sub (Sub.upd hF)⟩
/-- .. or of the store in the end -/
theorem Step.asideN {K : PySem.W.Frag} {U U' : Wd} {S : Sto} {H H' : Hp} {p : Addr} (t : Step U H U' H') (s : Sat K U' S H') (hp : H p = none) : Step U H (U'.more S.length p) H' :=
  ⟨t.ef, fun l a h => by
    show (if l = S.length then some p else U'.io l) = some a
    rw [if_neg (Nat.ne_of_lt (s.dom l a (t.ei l a h)))]; exact t.ei l a h, t.fr, fun l a h => by
    have h' : (if l = S.length then some p else U'.io l) = some a := h
    by_cases e : l = S.length
    · rw [if_pos e] at h'; cases h'; exact .inr hp
    · rw [if_neg e] at h'; exact t.ni l a h', t.nf, t.dm, t.ff⟩
theorem Sat.asideN {K : PySem.W.Frag} {U : Wd} {S : Sto} {H : Hp} {p : Addr} {o : HO} {b : Ob} (s : Sat K U S H) (hF : U.F p = none) (hi : ∀ l, U.io l ≠ some p) (ho : H p = some o) (hb : ObIs K U p o b) (hr : RfOk S.length b) : Sat K (U.more S.length p) (S ++ [some b]) H :=
  have more : ∀ l a, U.io l = some a → (U.more S.length p).io l = some a := fun l a h => by
    show (if l = S.length then some p else U.io l) = some a
    rw [if_neg (Nat.ne_of_lt (s.dom l a h))]; exact h
  {
  fz := s.fz
  dom := fun l a h => by
    have h' : (if l = S.length then some p else U.io l) = some a := h
    rw [List.length_append, List.length_singleton]
    by_cases e : l = S.length
    · omega
    · rw [if_neg e] at h'
      have := s.dom l a h'; omega
  tot := fun l h => by
    rw [List.length_append, List.length_singleton] at h
    show ∃ a, (if l = S.length then some p else U.io l) = some a
    by_cases e : l = S.length
    · exact ⟨p, if_pos e⟩
    · rw [if_neg e]; exact s.tot l (by omega)
  inj := fun l l' a h h' => by
    have h1 : (if l = S.length then some p else U.io l) = some a := h
    have h2 : (if l' = S.length then some p else U.io l') = some a := h'
    by_cases e : l = S.length
    · by_cases e' : l' = S.length
      · rw [e, e']
      · rw [if_pos e] at h1; rw [if_neg e'] at h2
        cases h1
        exact absurd h2 (hi l')
    · by_cases e' : l' = S.length
      · rw [if_neg e] at h1; rw [if_pos e'] at h2
        cases h2
        exact absurd h1 (hi l)
      · rw [if_neg e] at h1; rw [if_neg e'] at h2
        exact s.inj l l' a h1 h2
  ob := fun l a c h q => by
    have h1 : (if l = S.length then some p else U.io l) = some a := h
    by_cases e : l = S.length
    · rw [if_pos e] at h1; cases h1
      subst e
      rw [List.getElem?_append_right (Nat.le_refl _)] at q
      simp at q
      subst q
      exact ⟨hF, o, ho, ObIs.grow (U := U) (U' := U.more S.length p) (Sub.refl _) more hb⟩
    · rw [if_neg e] at h1
      have hl := s.dom l a h1
      rw [List.getElem?_append_left hl] at q
      obtain ⟨z1, u, z2, z3⟩ := s.ob l a c h1 q
      exact ⟨z1, u, z2, ObIs.grow (U := U) (U' := U.more S.length p) (Sub.refl _) more z3⟩
  hs := fun l a h => by
    have h1 : (if l = S.length then some p else U.io l) = some a := h
    by_cases e : l = S.length
    · rw [if_pos e] at h1; cases h1
      exact ⟨o, ho⟩
    · rw [if_neg e] at h1
      exact s.hs l a h1
  rf := fun l c q => by
    by_cases e : l < S.length
    · rw [List.getElem?_append_left e] at q
      exact s.rf l c q
    · have hl := (List.getElem?_eq_some_iff.mp q).1
      rw [List.length_append, List.length_singleton] at hl
      have : l = S.length := by omega
      subst this
      rw [List.getElem?_append_right (Nat.le_refl _)] at q
      simp at q
      subst q
      exact hr
  }
/-- a list is laid -/
theorem layL {K : PySem.W.Frag} {U U1 : Wd} {S : Sto} {H H1 : Hp} {Q : VK} {xs : List V} {ys : List PyData} {p : Addr} (st : Step U H U1 H1) (s : Sat K U1 S H1) (r : RpAll K U1.F xs ys) (hp : H1 p = none) (w : Wants K E U H (.ok ys S) (KL K H Q)) : Q (.ref p) (upd H1 p (.lst xs)) :=
  w U1 _ (st.aside (st.old hp)) (s.aside (s.no hp) (s.noi hp)) p xs (st.old hp) (s.no hp) (s.noi hp) upd_same r
theorem ImpL.p {K : PySem.W.Frag} {t : TE} {m : ML} (h : ImpL K E t m) : ImpE K E t (mP m) := by
  intro U S H σ ρ Q s rl w
  refine h U S H σ ρ Q s rl ?_
  unfold mP at w
  cases hh : m ρ S with
  | stuck => rw [hh] at w; exact w
  | exc c S' => rw [hh] at w; exact w
  | ok ys S' =>
    rw [hh] at w
    intro U' H' st s' p vs hp hF hi ho r
    exact w _ _ (st.asideF hp hF) (s'.asideF hF hi ho) _ (.lst (.inl upd_same) (r.sub (Sub.upd hF)))
theorem ImpL.r {K : PySem.W.Frag} {t : TE} {m : ML} (h : ImpL K E t m) : ImpE K E t (mR m) := by
  intro U S H σ ρ Q s rl w
  refine h U S H σ ρ Q s rl ?_
  unfold mR at w
  cases hh : m ρ S with
  | stuck => rw [hh] at w; exact w
  | exc c S' => rw [hh] at w; exact w
  | ok ys S' =>
    rw [hh] at w
    intro U' H' st s' p vs hp hF hi ho r
    exact w _ _ (st.asideN s' hp) (s'.asideN (b := .lst ys) hF hi ho ⟨_, rfl, r⟩ trivial) _ ⟨p, Wd.more_last _ _ _, rfl⟩
theorem IL.p {m : ML} (h : IL X E e m) : IE X E e (mP m) := by
  obtain ⟨t, p, i⟩ := h
  exact ⟨_, p, i.p⟩
theorem IL.r {m : ML} (h : IL X E e m) : IE X E e (mR m) := by
  obtain ⟨t, p, i⟩ := h
  exact ⟨_, p, i.r⟩
/-- through steps that lead to a list -/
theorem Wants.bindL {α : Type} {K : PySem.W.Frag} {U : Wd} {H : Hp} {r : Res α} {f : α → Sto → Res (List PyData)} {Q : VK} (h : Wants K E U H (r.bind f) (KL K H Q)) : Wants K E U H r fun U' S' H' a => Step U H U' H' ∧ Wants K E U H (f a S') (KL K H Q) := by
  cases r with
  | ok a S => exact fun U' H' s q => ⟨s, h⟩
  | exc c S => exact h
  | stuck => exact h
theorem il_lst {n : MA} (h : IA X E es n) : IL X E (.List es pos) (mLst n) := by
  obtain ⟨⟨t, p, i⟩, _⟩ := h
  refine ⟨_, pe_lst p, fun U S H σ ρ Q s rl w => i U S H σ ρ _ s rl (w.bindL.mono fun U1 S1 H1 ds st1 s1 w1 vs rv => ?_)⟩
  obtain ⟨_, w1⟩ := w1
  split at w1
  · next xs hx =>
    split at w1
    · next hl =>
      have r := pures_rel hx rv
      exact ⟨by rw [r.length]; exact line1000 hl, fun q hq => layL st1 s1 r hq w1⟩
    · exact False.elim w1
  · exact False.elim w1
end

/-! ### statements -/
def mNext : MS := fun ρ S => .ok (.nx, ρ) S
def mStuck : MS := fun _ _ => .stuck
def mSeq (m n : MS) : MS := fun ρ S => (m ρ S).bind fun r S1 => match r.1 with
  | .nx => n r.2 S1
  | _ => .ok r S1
def mIf (c : MT) (m n : MS) : MS := fun ρ S => (c ρ S).bind fun b S1 => if b = true then m ρ S1 else n ρ S1
def mRet (m : ME) : MS := fun ρ S => (m ρ S).bind fun d S1 => .ok (.rt d, ρ) S1
def mRetN : MS := fun ρ S => .ok (.rt (.p .none), ρ) S
def mDrop (m : ME) : MS := fun ρ S => (m ρ S).bind fun _ S1 => .ok (.nx, ρ) S1
def mBreak : MS := fun ρ S => .ok (.bk, ρ) S
def mCont : MS := fun ρ S => .ok (.ct, ρ) S
def mAsg (m : ME) (g : MG) : MS := fun ρ S => (m ρ S).bind fun d S1 => (g d ρ S1).bind fun ρ' S2 => .ok (.nx, ρ') S2
def gN (i : Nat) : MG := fun d ρ S => .ok (ρ.set i (some d)) S
abbrev MGs := List D → Loc → Sto → Res Loc
def gsNil : MGs := fun ds ρ S => match ds with
  | [] => .ok ρ S
  | _ => .stuck
def gsCons (g : MG) (h : MGs) : MGs := fun ds ρ S => match ds with
  | d :: r => (g d ρ S).bind fun ρ' S' => h r ρ' S'
  | [] => .stuck
def gT (n : Nat) (g : MGs) : MG := fun d ρ S => match d with
  | .p (.tuple xs) => if xs.length = n then g (xs.map .p) ρ S else .stuck
  | _ => .stuck
def ImpGs (K : PySem.W.Frag) (E : EX) (ws : List Nat) (t : TGs) (g : MGs) : Prop := ∀ (U : Wd) (S : Sto) (H : Hp) (σ : L2.St) (ρ : Loc) (vs : List V) (ds : List D) (Q : L2.St → Hp → Prop), Sat K U S H → RelL K U ρ σ → RelDs K U ds vs →
  Wants K E U H (g ds ρ S) (fun U' _ H' ρ' => ∀ σ', RelL K U' ρ' σ' → Only ws σ σ' → Q σ' H') → t vs σ H Q
structure IGs (X : Cx) (E : EX) (ws : List Nat) (es : List Expr) (g : MGs) : Prop where
  ex : ∃ t, PGs X es t ∧ ImpGs X.K E ws t g
section
variable {X : Cx} {E : EX} {pos : Pos} {a b c e : Expr} {es : List Expr} {ma mb mc : ME} {st : Stmt} {rest : List Stmt} {m n : MS} {nc : MT}
theorem Only.refl {ws : List Nat} {σ : L2.St} : Only ws σ σ := ⟨rfl, fun _ _ => rfl⟩
theorem Only.trans {ws : List Nat} {σ σ1 σ2 : L2.St} (h : Only ws σ σ1) (k : Only ws σ1 σ2) : Only ws σ σ2 := ⟨k.1.trans h.1, fun i hi => (k.2 i hi).trans (h.2 i hi)⟩
theorem Only.mono {ws vs : List Nat} {σ σ1 : L2.St} (h : Only ws σ σ1) (k : ∀ i ∈ ws, i ∈ vs) : Only vs σ σ1 := ⟨h.1, fun i hi => h.2 i fun q => hi (k i q)⟩
theorem iss_nil : ISs X E [] mNext := ⟨_, pss_nil, fun U S H σ ρ N s rl w => (w.ok s) σ rl⟩
theorem iss_one (h : IS X E st m) : ISs X E [st] m := by
  obtain ⟨t, p, i⟩ := h
  exact ⟨_, pss_one p, i⟩
theorem iss_cons (h : IS X E st m) (k : ISs X E rest n) : ISs X E (st :: rest) (mSeq m n) := by
  obtain ⟨t, p, i⟩ := h
  obtain ⟨u, q, j⟩ := k
  refine ⟨_, pss_cons p q, fun U S H σ ρ N s rl w => i U S H σ ρ _ s rl (w.bind.mono fun U1 S1 H1 r st1 s1 w1 σ' rl' => ?_)⟩
  obtain ⟨f, ρ'⟩ := r
  cases f with
  | nx => exact j U1 S1 H1 σ' ρ' N s1 rl' w1
  | rt d => exact (Wants.ok w1 s1) σ' rl'
  | bk => exact (Wants.ok w1 s1) σ' rl'
  | ct => exact (Wants.ok w1 s1) σ' rl'
theorem is_pass : IS X E (.Pass pos) mNext := ⟨_, ps_pass, fun U S H σ ρ N s rl w => (w.ok s) σ rl⟩
theorem is_break : IS X E (.Break pos) mBreak := ⟨_, ps_break, fun U S H σ ρ N s rl w => (w.ok s) σ rl⟩
theorem is_continue : IS X E (.Continue pos) mCont := ⟨_, ps_continue, fun U S H σ ρ N s rl w => (w.ok s) σ rl⟩
theorem is_never : IS X E st mStuck := ⟨_, ps_never, fun U S H σ ρ N s rl w => w⟩
theorem is_ret (h : IE X E e ma) : IS X E (.Return (some e) pos) (mRet ma) := by
  obtain ⟨t, p, i⟩ := h
  exact ⟨_, ps_ret p, fun U S H σ ρ N s rl w => i U S H σ ρ _ s rl (w.bind.mono fun U1 S1 H1 d st1 s1 w1 v rv => (w1.ok s1) σ (rl.step st1) v rv)⟩
theorem is_retN : IS X E (.Return none pos) mRetN := ⟨_, ps_retN, fun U S H σ ρ N s rl w => (w.ok s) σ rl _ .non⟩
theorem is_expr (h : IE X E e ma) (hs : swapsWith e none pos.line X.env = pure false := by rfl) : IS X E (.Expr e pos) (mDrop ma) := by
  obtain ⟨t, p, i⟩ := h
  exact ⟨_, ps_expr p hs, fun U S H σ ρ N s rl w => i U S H σ ρ _ s rl (w.bind.mono fun U1 S1 H1 d st1 s1 w1 v rv => (w1.ok s1) σ (rl.step st1))⟩
theorem is_if {sa sb : List Stmt} (hc : IT X E c nc) (ha : ISs X E sa m) (hb : ISs X E sb n) : IS X E (.If c sa sb pos) (mIf nc m n) := by
  obtain ⟨t, p, i⟩ := ha
  obtain ⟨u, q, j⟩ := hb
  obtain ⟨z, r, k⟩ := hc
  refine ⟨_, ps_if r p q, fun U S H σ ρ N s rl w => k U S H σ ρ _ s rl (w.bind.mono fun U1 S1 H1 b st1 s1 w1 => ?_)⟩
  cases b with
  | true => exact i U1 S1 H1 σ ρ _ s1 (rl.step st1) w1
  | false => exact j U1 S1 H1 σ ρ _ s1 (rl.step st1) w1
theorem impGN {K : PySem.W.Frag} (i : Nat) : ImpG K E [i] (gName i) (gN i) := fun U S H σ ρ v d Q s rl rv w => (w.ok s) _ (rl.set i rv) ⟨by simp, fun j hj => by
  rw [List.getElem?_set_ne]; intro e; exact hj (by simp [e])⟩
theorem ig_name {i : Nat} {x : Str} (hN : X.N.Nodup) (hi : X.N[i]? = some x) (hx : L2.Loc X.env.scope x) (hf : X.fn x = true ∨ X.env.scope.names.lookup x = some .local := by first | exact .inl rfl | exact .inr rfl | assumption) : IG X E [i] (.Name x pos) (gN i) :=
  ⟨_, pg_name hN hi hx hf, impGN i⟩
theorem igs_nil : IGs X E [] [] gsNil := by
  refine ⟨_, pgs_nil, fun U S H σ ρ vs ds Q s rl rv w => ?_⟩
  cases rv with
  | nil => exact ⟨rfl, (Wants.ok w s) σ rl Only.refl⟩
  | cons r t => exact False.elim w
theorem igs_cons {g : MG} {h : MGs} {ws vs : List Nat} (ha : IG X E ws e g) (hb : IGs X E vs es h)
    (hs : (assignEach (e :: es) X.env).map (·.2) = assign e X.env :: (assignEach es X.env).map (·.2) := by rfl) : IGs X E (ws ++ vs) (e :: es) (gsCons g h) := by
  obtain ⟨t, p, i⟩ := ha
  obtain ⟨u, q, j⟩ := hb
  refine ⟨_, pgs_cons p q hs, fun U S H σ ρ xs ds Q s rl rv w => ?_⟩
  cases rv with
  | nil => exact False.elim w
  | cons r rt =>
    refine ⟨_, _, rfl, i U S H σ ρ _ _ _ s rl r (Wants.mono (Wants.bind w) fun U1 S1 H1 ρ1 st1 s1 w1 σ1 rl1 o1 => ?_)⟩
    exact j U1 S1 H1 σ1 ρ1 _ _ Q s1 rl1 (RelDs.step st1 rt) (w1.mono fun U2 S2 H2 ρ2 st2 s2 w2 σ2 rl2 o2 => w2 σ2 rl2 ((o1.mono fun i hi => List.mem_append_left _ hi).trans (o2.mono fun i hi => List.mem_append_right _ hi)))
theorem relDs_p {K : PySem.W.Frag} {U : Wd} : ∀ {vs : List V} {ds : List PyData}, RpAll K U.F vs ds → RelDs K U (ds.map .p) vs
  | _, _, .nil => .nil
  | _, _, .cons r t => .cons r (relDs_p t)
theorem ig_tup {g : MGs} {ws : List Nat} {k n : Nat} (hc : X.calm = true) (h : IGs X E ws es g) (hn : (assignEach es X.env).length = n := by rfl) (hst : (assignEach es X.env).findIdx? (·.1) = none := by rfl) : IG X E ws (.Tuple es k pos) (gT n g) := by
  obtain ⟨t, p, i⟩ := h
  refine ⟨_, pg_tup hc p hn hst, fun U S H σ ρ v d Q s rl rv w => ?_⟩
  unfold gT at w
  split at w
  · next xs =>
    split at w
    · next hl =>
      cases rv with
      | tup hq ha => exact ⟨_, _, rfl, SqT.le s.fz hq, by rw [ha.length]; exact hl, i U S H σ ρ _ _ Q s rl (relDs_p ha) w⟩
    · exact False.elim w
  · exact False.elim w
theorem is_asg {tg : Expr} {g : MG} {ws : List Nat} (he : IE X E e ma) (hg : IG X E ws tg g) (hs : swapsWithSole [tg] e pos.line X.env = pure false := by rfl) (hw : swappedStores [tg] e X.env = pure none := by rfl)
    (h1 : (assignEach [tg] X.env).map (·.2) = [assign tg X.env] := by rfl) : IS X E (.Assign [tg] e pos) (mAsg ma g) := by
  obtain ⟨t, p, i⟩ := he
  obtain ⟨u, q, j⟩ := hg
  exact ⟨_, ps_asg p q hs hw h1, fun U S H σ ρ N s rl w => i U S H σ ρ _ s rl (w.bind.mono fun U1 S1 H1 d st1 s1 w1 v rv => j U1 S1 H1 σ ρ v d _ s1 (rl.step st1) rv (w1.bind.mono fun U2 S2 H2 ρ2 st2 s2 w2 σ2 rl2 _ => (w2.ok s2) σ2 rl2))⟩
theorem impS_asg {K : PySem.W.Frag} {i : Nat} {t : TE} (h : ImpE K E t ma) : ImpS K E (tAsg t (gName i)) (mAsg ma (gN i)) :=
  fun U S H σ ρ N s rl w => h U S H σ ρ _ s rl (w.bind.mono fun U1 S1 H1 d st1 s1 w1 v rv => (w1.bind.ok s1).ok s1 _ ((rl.step st1).set i rv))
theorem is_set {i : Nat} {x : Str} {pos' : Pos} (hN : X.N.Nodup) (hi : X.N[i]? = some x) (hx : L2.Loc X.env.scope x) (he : IE X E e ma) (hs : swapsWith e (some (.Name x pos')) pos.line X.env = pure false := by rfl) (hf : X.fn x = true ∨ X.env.scope.names.lookup x = some .local := by first | exact .inl rfl | exact .inr rfl | assumption) :
    IS X E (.Assign [.Name x pos'] e pos) (mAsg ma (gN i)) := by
  obtain ⟨t, p, j⟩ := he
  exact ⟨_, ps_set hN hi hx p hs hf, fun U S H σ ρ N s rl w => j U S H σ ρ _ s rl (w.bind.mono fun U1 S1 H1 d st1 s1 w1 v rv => (w1.bind.ok s1).ok s1 _ ((rl.step st1).set i rv))⟩
end
end G


namespace G
open PySem L2

/-! ### loops -/
def mLoop (g : MG) (b : MS) : List PyData → Loc → Sto → Res (Fl × Loc)
  | [], ρ, S => .ok (.nx, ρ) S
  | x :: xs, ρ, S => (g (.p x) ρ S).bind fun ρ1 S1 => (b ρ1 S1).bind fun r S2 => match r.1 with
    | .nx => mLoop g b xs r.2 S2
    | .ct => mLoop g b xs r.2 S2
    | .bk => .ok (.nx, r.2) S2
    | .rt d => .ok (.rt d, r.2) S2
def mFor (mi : MI) (g : MG) (b : MS) : MS := fun ρ S => (mi ρ S).bind fun xs S1 => mLoop g b xs ρ S1
def mWhile (c : MT) (b : MS) : Nat → Loc → Sto → Res (Fl × Loc)
  | 0, _, _ => .stuck
  | n + 1, ρ, S => (c ρ S).bind fun t S1 => if t = true then (b ρ S1).bind fun r S2 => match r.1 with
    | .nx => mWhile c b n r.2 S2
    | .ct => mWhile c b n r.2 S2
    | .bk => .ok (.nx, r.2) S2
    | .rt d => .ok (.rt d, r.2) S2
    else .ok (.nx, ρ) S1
section
variable {X : Cx} {E : EX} {pos : Pos}
theorem drop_cons {α : Type} {xs : List α} {i : Nat} {x : α} (h : xs[i]? = some x) : xs.drop i = x :: xs.drop (i + 1) := by
  have hl := (List.getElem?_eq_some_iff.mp h)
  obtain ⟨hl, e⟩ := hl
  rw [List.drop_eq_getElem_cons hl, e]
theorem is_for {tg iter : Expr} {body : List Stmt} {mi : MI} {g : MG} {b : MS} {ws : List Nat} (hp : PassesOwn (model X.prog X.w) X.A X.env X.xe) (hc : X.calm = true) (hi : II X E tg iter mi) (hg : IG X E ws tg g) (hb : ISs X E body b)
    (hs : ∀ x, foldedSetIterable iter X.env x = pure x := by intro _; rfl) : IS X E (.For tg iter body [] pos) (mFor mi g b) := by
  obtain ⟨t, p, i⟩ := hi
  obtain ⟨u, q, j⟩ := hg
  obtain ⟨z, r, k⟩ := hb
  refine ⟨_, ps_for hp hc p q r hs, fun U S H σ ρ N s rl w => i U S H σ ρ _ s rl (w.bind.mono fun U1 S1 H1 xs st1 s1 w1 J RJ => ?_)⟩
  refine ⟨fun n m σ' H' => m = xs.length - n ∧ n ≤ xs.length ∧ ∃ U' S' ρ', Step U1 H1 U' H' ∧ Sat X.K U' S' H' ∧ RelL X.K U' ρ' σ' ∧ Wants X.K E U' H' (mLoop g b (xs.drop n) ρ' S') (KS X.K N), ⟨xs.length, by simp, Nat.zero_le _, U1, S1, ρ, Step.refl _ _, s1, rl.step st1, by rw [List.drop_zero]; exact w1⟩, ?_⟩
  rintro n m σ' H' ⟨rfl, hn, U', S', ρ', st, s', rl', w'⟩
  obtain ⟨stop, go⟩ := RJ U' S' H' n st.p s'
  by_cases hlt : n < xs.length
  · have hx : xs[n]? = some xs[n] := by simp [hlt]
    obtain ⟨hgo, yl⟩ := go _ hx
    refine .inr ⟨hgo, fun σ3 H3 => ∃ U3 S3 ρ3, Step U1 H1 U3 H3 ∧ Sat X.K U3 S3 H3 ∧ RelL X.K U3 ρ3 σ3 ∧ Wants X.K E U3 H3 (mLoop g b (xs.drop (n + 1)) ρ3 S3) (KS X.K N), fun σ3 H3 h3 => ⟨xs.length - (n + 1), by omega, rfl, hlt, h3⟩, fun v H'' y => ?_⟩
    obtain ⟨U'', st2, s'', rv⟩ := yl v H'' y
    rw [drop_cons hx] at w'
    refine j U'' S' H'' σ' ρ' v (.p xs[n]) _ s'' (rl'.step st2) rv (Wants.mono (Wants.bind (Wants.step st2 w')) fun U3 S3 H3 ρ3 st3 s3 w3 σ3 rl3 _ => ?_)
    refine k U3 S3 H3 σ3 ρ3 _ s3 rl3 (w3.bind.mono fun U4 S4 H4 rr st4 s4 w4 σ4 rl4 => ?_)
    obtain ⟨f, ρ4⟩ := rr
    have all := ((st.trans st2).trans st3).trans st4
    cases f with
    | nx => exact ⟨U4, S4, ρ4, all, s4, rl4, w4⟩
    | ct => exact ⟨U4, S4, ρ4, all, s4, rl4, w4⟩
    | bk => exact (Wants.ok w4 s4) σ4 rl4
    | rt d => exact (Wants.ok w4 s4) σ4 rl4
  · have e : n = xs.length := by omega
    subst e
    rw [List.drop_length] at w'
    exact .inl ⟨stop rfl, (Wants.ok w' s') σ' rl'⟩
theorem is_while {c : Expr} {body : List Stmt} {mc : MT} {b : MS} (n : Nat) (hp : PassesOwn (model X.prog X.w) X.A X.env X.xe) (hc : IT X E c mc) (hb : ISs X E body b) : IS X E (.While c body [] pos) (mWhile mc b n) := by
  obtain ⟨t, p, i⟩ := hc
  obtain ⟨z, r, k⟩ := hb
  refine ⟨_, ps_while hp p r, fun U S H σ ρ N s rl w => ?_⟩
  refine ⟨fun m σ' H' => ∃ U' S' ρ', Step U H U' H' ∧ Sat X.K U' S' H' ∧ RelL X.K U' ρ' σ' ∧ Wants X.K E U' H' (mWhile mc b m ρ' S') (KS X.K N), ⟨n, U, S, ρ, Step.refl _ _, s, rl, w⟩, ?_⟩
  rintro m σ' H' ⟨U', S', ρ', st, s', rl', w'⟩
  cases m with
  | zero => exact False.elim w'
  | succ m =>
    refine i U' S' H' σ' ρ' _ s' rl' (Wants.mono (Wants.bind w') fun U1 S1 H1 c st1 s1 w1 => ?_)
    cases c with
    | true =>
      rw [if_pos rfl] at w1 ⊢
      refine ⟨fun σ3 H3 => ∃ U3 S3 ρ3, Step U H U3 H3 ∧ Sat X.K U3 S3 H3 ∧ RelL X.K U3 ρ3 σ3 ∧ Wants X.K E U3 H3 (mWhile mc b m ρ3 S3) (KS X.K N), fun σ3 H3 h3 => ⟨m, Nat.lt_succ_self m, h3⟩, ?_⟩
      refine k U1 S1 H1 σ' ρ' _ s1 (rl'.step st1) (w1.bind.mono fun U4 S4 H4 rr st4 s4 w4 σ4 rl4 => ?_)
      obtain ⟨f, ρ4⟩ := rr
      have all := (st.trans st1).trans st4
      cases f with
      | nx => exact ⟨U4, S4, ρ4, all, s4, rl4, w4⟩
      | ct => exact ⟨U4, S4, ρ4, all, s4, rl4, w4⟩
      | bk => exact (Wants.ok w4 s4) σ4 rl4
      | rt d => exact (Wants.ok w4 s4) σ4 rl4
    | false =>
      rw [if_neg Bool.false_ne_true] at w1 ⊢
      exact (Wants.ok w1 s1) σ' (rl'.step st1)

/-! ### what is walked -/
def mItems (m : ME) : MI := fun ρ S => (m ρ S).bind fun d S1 => match d with
  | .p (.list xs) => .ok xs S1
  | .p (.tuple xs) => .ok xs S1
  | _ => .stuck
theorem runsL {K : PySem.W.Frag} {U : Wd} {H : Hp} {a : Addr} {vs : List V} {xs : List PyData} (h : Rd U.F a (.lst vs)) (r : RpAll K U.F vs xs) : Runs K U H (Itl K a) xs := by
  intro U' S' H' i st s'
  have q : SqL K H' a vs := .inl (Rd.le s'.fz (Rd.sub st.ef h))
  refine ⟨fun hl => ⟨vs, q, by rw [r.length, hl]; exact Nat.le_refl _⟩, fun x hx => ?_⟩
  obtain ⟨v, hv, rv⟩ := r.get hx
  refine ⟨⟨vs, v, q, hv⟩, fun v' H'' y => ?_⟩
  obtain ⟨rfl, y⟩ := y
  have e := y vs q
  rw [hv] at e; cases e
  exact ⟨U', Step.refl _ _, s', rv.sub st.ef⟩
theorem runsT {K : PySem.W.Frag} {U : Wd} {H : Hp} {a : Addr} {vs : List V} {xs : List PyData} (h : SqT K U.F a vs) (r : RpAll K U.F vs xs) : Runs K U H (Itt K a) xs := by
  intro U' S' H' i st s'
  have q : SqT K H' a vs := SqT.le s'.fz (SqT.sub st.ef h)
  refine ⟨fun hl => ⟨vs, q, by rw [r.length, hl]; exact Nat.le_refl _⟩, fun x hx => ?_⟩
  obtain ⟨v, hv, rv⟩ := r.get hx
  refine ⟨⟨vs, v, q, hv⟩, fun v' H'' y => ?_⟩
  obtain ⟨rfl, y⟩ := y
  have e := y vs q
  rw [hv] at e; cases e
  exact ⟨U', Step.refl _ _, s', rv.sub st.ef⟩
def mItL (m : ME) : MI := fun ρ S => (m ρ S).bind fun d S1 => match d with
  | .p (.list xs) => .ok xs S1
  | _ => .stuck
def mItT (m : ME) : MI := fun ρ S => (m ρ S).bind fun d S1 => match d with
  | .p (.tuple xs) => .ok xs S1
  | _ => .stuck
theorem ii_list {tg e : Expr} {m : ME} (h : IE X E e m) : II X E tg e (mItL m) := by
  obtain ⟨t, p, i⟩ := h
  refine ⟨_, pi_list p, fun U S H σ ρ R s rl w => i U S H σ ρ _ s rl (w.bind.mono fun U1 S1 H1 d st1 s1 w1 v rv => ?_)⟩
  split at w1
  · next xs =>
    cases rv with
    | lst hq ha => exact ⟨_, rfl, ⟨_, .inl (Rd.le s1.fz hq)⟩, (Wants.ok w1 s1) _ (runsL hq ha)⟩
  · exact False.elim w1
theorem ii_tup {tg e : Expr} {m : ME} (h : IE X E e m) : II X E tg e (mItT m) := by
  obtain ⟨t, p, i⟩ := h
  refine ⟨_, pi_tup p, fun U S H σ ρ R s rl w => i U S H σ ρ _ s rl (w.bind.mono fun U1 S1 H1 d st1 s1 w1 v rv => ?_)⟩
  split at w1
  · next xs =>
    cases rv with
    | tup hq ha => exact ⟨_, rfl, ⟨_, SqT.le s1.fz hq⟩, (Wants.ok w1 s1) _ (runsT hq ha)⟩
  · exact False.elim w1
/-- lo, lo + 1, .. -/
def rangeP (lo : Int) : Nat → List PyData
  | 0 => []
  | n + 1 => .int lo :: rangeP (lo + 1) n
theorem rangeP_length (n : Nat) : ∀ lo : Int, (rangeP lo n).length = n := by
  induction n with
  | zero => intro lo; rfl
  | succ n ih => intro lo; unfold rangeP; rw [List.length_cons, ih]
theorem rangeP_get (n : Nat) : ∀ (lo : Int) (i : Nat), (rangeP lo n)[i]? = if i < n then some (.int (lo + i)) else none := by
  induction n with
  | zero => intro lo i; simp [rangeP]
  | succ n ih =>
    intro lo i
    unfold rangeP
    cases i with
    | zero => simp
    | succ i =>
      rw [List.getElem?_cons_succ, ih]
      by_cases h : i < n
      · rw [if_pos h, if_pos (by omega)]; congr 2; omega
      · rw [if_neg h, if_neg (by omega)]
theorem runsR {K : PySem.W.Frag} {U : Wd} {H : Hp} {lo : Int} {n : Nat} : Runs K U H (Itr lo n) (rangeP lo n) := by
  intro U' S' H' i st s'
  refine ⟨fun hl => by rw [rangeP_length] at hl; exact Nat.le_of_eq hl.symm, fun x hx => ?_⟩
  rw [rangeP_get] at hx
  by_cases h : i < n
  · rw [if_pos h] at hx; cases hx
    refine ⟨h, fun v H'' y => ?_⟩
    obtain ⟨rfl, rfl⟩ := y
    exact ⟨U', Step.refl _ _, s', .int _⟩
  · rw [if_neg h] at hx; cases hx
def inB (i : Int) : Bool := decide (-1000000 ≤ i) && decide (i ≤ 1000000)
theorem inB_of {i : Int} (h : inB i = true) : -(2 ^ 62) ≤ i ∧ i < 2 ^ 62 := by
  unfold inB at h
  simp only [Bool.and_eq_true, decide_eq_true_eq] at h
  omega
def mRng1 (n : MA) : MI := fun ρ S => (n ρ S).bind fun ds S1 => match ds with
  | [.p (.int j)] => if inB j = true then .ok (rangeP 0 j.toNat) S1 else .stuck
  | _ => .stuck
def mRng2 (n : MA) : MI := fun ρ S => (n ρ S).bind fun ds S1 => match ds with
  | [.p (.int i), .p (.int j)] => if (inB i && inB j) = true then .ok (rangeP i (j - i).toNat) S1 else .stuck
  | _ => .stuck
theorem rel1 {K : PySem.W.Frag} {U : Wd} {x : D} {vs : List V} (h : RelDs K U [x] vs) : ∃ v, vs = [v] ∧ RelD K U x v := by
  cases h with
  | cons r t => cases t; exact ⟨_, rfl, r⟩
theorem rel2 {K : PySem.W.Frag} {U : Wd} {x y : D} {vs : List V} (h : RelDs K U [x, y] vs) : ∃ v u, vs = [v, u] ∧ RelD K U x v ∧ RelD K U y u := by
  cases h with
  | cons r t =>
    obtain ⟨u, rfl, q⟩ := rel1 t
    exact ⟨_, u, rfl, r, q⟩
theorem rel3 {K : PySem.W.Frag} {U : Wd} {x y z : D} {vs : List V} (h : RelDs K U [x, y, z] vs) : ∃ v u w, vs = [v, u, w] ∧ RelD K U x v ∧ RelD K U y u ∧ RelD K U z w := by
  cases h with
  | cons r t =>
    obtain ⟨u, w, rfl, q, q'⟩ := rel2 t
    exact ⟨_, u, w, rfl, r, q, q'⟩
theorem ii_rng1 {tg a : Expr} {p pos : Pos} {n : MA} (hg : Gl X "range") (hm : X.mg "range" = none) (ha : IA X E [a] n) (hs : starEach [a] X.env = [(false, eval a X.env)] := by rfl) : II X E tg (.Call (.Name "range" p) [a] [] pos) (mRng1 n) := by
  obtain ⟨⟨t, p, i⟩, _⟩ := ha
  refine ⟨_, pi_range1 hg hm p hs, fun U S H σ ρ R s rl w => i U S H σ ρ _ s rl (w.bind.mono fun U1 S1 H1 ds st1 s1 w1 vs rv => ?_)⟩
  split at w1
  · next j =>
    split at w1
    · next hj =>
      obtain ⟨v, rfl, r⟩ := rel1 rv
      cases r
      exact ⟨j, rfl, (inB_of hj).1, (inB_of hj).2, (Wants.ok w1 s1) _ runsR⟩
    · exact False.elim w1
  · exact False.elim w1
theorem ii_rng2 {tg a b : Expr} {p pos : Pos} {n : MA} (hg : Gl X "range") (hm : X.mg "range" = none) (ha : IA X E [a, b] n) (hs : starEach [a, b] X.env = [(false, eval a X.env), (false, eval b X.env)] := by rfl) (hs2 : starEach [b] X.env = [(false, eval b X.env)] := by rfl) : II X E tg (.Call (.Name "range" p) [a, b] [] pos) (mRng2 n) := by
  obtain ⟨⟨t, p, i⟩, _⟩ := ha
  refine ⟨_, pi_range2 hg hm p hs hs2, fun U S H σ ρ R s rl w => i U S H σ ρ _ s rl (w.bind.mono fun U1 S1 H1 ds st1 s1 w1 vs rv => ?_)⟩
  split at w1
  · next j k =>
    split at w1
    · next hj =>
      obtain ⟨v, u, rfl, r, r'⟩ := rel2 rv
      cases r; cases r'
      rw [Bool.and_eq_true] at hj
      exact ⟨j, k, rfl, ⟨(inB_of hj.1).1, (inB_of hj.1).2, (inB_of hj.2).1, (inB_of hj.2).2⟩, (Wants.ok w1 s1) _ runsR⟩
    · exact False.elim w1
  · exact False.elim w1
end

/-! ### list comprehensions -/
def wipeL (ρ : Loc) : List Nat → Loc
  | [] => ρ
  | v :: vs => (wipeL ρ vs).set v none
def mLcL (g : MG) (tt : MT) (te : ME) (ρ : Loc) : List PyData → Sto → Res (List PyData)
  | [], S => .ok [] S
  | x :: xs, S => (g (.p x) ρ S).nox.bind fun ρ1 S1 => (tt ρ1 S1).nox.bind fun b S2 => if b = true then (te ρ1 S2).nox.bind fun d S3 => match d with
      | .p y => (mLcL g tt te ρ xs S3).bind fun ys S4 => .ok (y :: ys) S4
      | .r _ => .stuck
    else mLcL g tt te ρ xs S2
def mLc (mi : MI) (g : MG) (tt : MT) (te : ME) (vs : List Nat) : ML := fun ρ S => (mi ρ S).bind fun xs S1 => if xs.length ≤ 1000000 then mLcL g tt te (wipeL ρ vs) xs S1 else .stuck
def mYes : MT := fun _ S => .ok true S
structure ITs (X : Cx) (E : EX) (es : List Expr) (m : MT) : Prop where
  ex : ∃ t, PTs X es t ∧ ImpT X.K E t m
section
variable {X : Cx} {E : EX} {pos : Pos}
theorem its_nil : ITs X E [] mYes := ⟨_, pts_nil, fun U S H σ ρ Q s rl w => w.ok s⟩
theorem its_one {c : Expr} {m : MT} (h : IT X E c m) : ITs X E [c] m := by
  obtain ⟨t, p, i⟩ := h
  exact ⟨_, pts_one p, i⟩
theorem RelL.wipe {K : PySem.W.Frag} {U : Wd} {ρ : Loc} {σ : L2.St} (h : RelL K U ρ σ) : ∀ vs : List Nat, RelL K U (wipeL ρ vs) (L2.wipe σ vs)
  | [] => h
  | v :: vs => (RelL.wipe h vs).setNone v
theorem wipe_get (σ : L2.St) : ∀ (vs : List Nat) (i : Nat), (L2.wipe σ vs)[i]? = if i ∈ vs then (if i < σ.length then some none else none) else σ[i]?
  | [], i => by simp [L2.wipe]
  | v :: vs, i => by
    unfold L2.wipe
    by_cases h : v = i
    · subst h
      by_cases hl : v < σ.length
      · rw [List.getElem?_set_self (by rw [wipe_length]; exact hl)]; simp [hl]
      · rw [List.getElem?_eq_none (by rw [List.length_set, wipe_length]; omega)]; simp [hl]
    · rw [List.getElem?_set_ne h, wipe_get σ vs i]
      have : (i ∈ v :: vs) ↔ i ∈ vs := by
        rw [List.mem_cons]; exact ⟨fun q => q.elim (fun e => absurd e.symm h) id, .inr⟩
      simp only [this]
theorem wipe_only {σ σ' : L2.St} {ws vs : List Nat} (h : Only ws (L2.wipe σ vs) σ') (k : ∀ i ∈ ws, i ∈ vs) : L2.wipe σ' vs = L2.wipe σ vs := by
  apply List.ext_getElem?
  intro i
  rw [wipe_get, wipe_get]
  have hl : σ'.length = σ.length := by rw [h.1, wipe_length]
  by_cases hi : i ∈ vs
  · rw [if_pos hi, if_pos hi, hl]
  · rw [if_neg hi, if_neg hi, h.2 i fun q => hi (k i q), wipe_get, if_neg hi]
theorem Wants.at {α β : Type} {K : PySem.W.Frag} {E E' : EX} {U U' : Wd} {H H' : Hp} {r : Res α} {f : α → Sto → Res β} {k : Wd → Sto → Hp → β → Prop} (h : Wants K E U H (r.nox.bind f) k) : Wants K E' U' H' r fun _ S' _ a => Wants K E U H (f a S') k := by
  cases r with
  | ok a S => exact fun _ _ _ _ => h
  | exc c S => exact False.elim h
  | stuck => exact h
theorem Step.aloof {Ua Ub : Wd} {Ha Hb : Hp} {p : Addr} {o : HO} (t : Step Ua Ha Ub Hb) (h1 : Ha p = some o) (h2 : Ua.F p = none) (h3 : ∀ l, Ua.io l ≠ some p) : Hb p = some o ∧ Ub.F p = none ∧ ∀ l, Ub.io l ≠ some p := by
  refine ⟨t.fr _ _ h1 h3, ?_, fun l e => ?_⟩
  · cases e : Ub.F p with
    | none => rfl
    | some o =>
      rcases t.nf _ _ e with q | q | ⟨l, q⟩
      · rw [h2] at q; cases q
      · rw [h1] at q; cases q
      · exact absurd q (h3 l)
  · rcases t.ni _ _ e with q | q
    · exact h3 l q
    · rw [h1] at q; cases q
/-! the reading that says just what the function says -/
def canE (K : PySem.W.Frag) (E : EX) (m : ME) : TE := fun σ H Q => ∃ U S ρ, Sat K U S H ∧ RelL K U ρ σ ∧ Wants K E U H (m ρ S) (KD K Q)
def canT (K : PySem.W.Frag) (E : EX) (m : MT) : TT := fun σ H Q => ∃ U S ρ, Sat K U S H ∧ RelL K U ρ σ ∧ Wants K E U H (m ρ S) (fun _ _ H' b => Q b H')
def canG (K : PySem.W.Frag) (E : EX) (ws : List Nat) (g : MG) : TG := fun v σ H Q => ∃ U S ρ d, Sat K U S H ∧ RelL K U ρ σ ∧ RelD K U d v ∧ Wants K E U H (g d ρ S) (fun U' _ H' ρ' => ∀ σ', RelL K U' ρ' σ' → Only ws σ σ' → Q σ' H')
def canI (K : PySem.W.Frag) (E : EX) (m : MI) : TI := fun σ H R => ∃ U S ρ, Sat K U S H ∧ RelL K U ρ σ ∧ Wants K E U H (m ρ S) (fun U' _ H' xs => ∀ J, Runs K U' H' J xs → R J H')
theorem IE.can {e : Expr} {m : ME} (h : IE X E e m) : PE X e (canE X.K E m) := by
  obtain ⟨t, p, i⟩ := h
  exact ⟨fun pins s σ H Q I ⟨U, S, ρ, a, b, c⟩ => p.run pins s σ H Q I (i U S H σ ρ Q a b c)⟩
theorem ITs.can {e : List Expr} {m : MT} (h : ITs X E e m) : PTs X e (canT X.K E m) := by
  obtain ⟨t, p, i⟩ := h
  exact ⟨fun pins s σ H Q I ⟨U, S, ρ, a, b, c⟩ => p.run pins s σ H Q I (i U S H σ ρ Q a b c)⟩
theorem IG.can {e : Expr} {ws : List Nat} {g : MG} (h : IG X E ws e g) : PG X e (canG X.K E ws g) := by
  obtain ⟨t, p, i⟩ := h
  exact ⟨fun pins s σ H v u Q I r ⟨U, S, ρ, d, a, b, rd, c⟩ => p.run pins s σ H v u Q I r (i U S H σ ρ v d Q a b rd c)⟩
theorem II.can {tg e : Expr} {m : MI} (h : II X E tg e m) : PI X tg e (canI X.K E m) := by
  obtain ⟨t, p, i⟩ := h
  exact ⟨fun pins s σ H R I ⟨U, S, ρ, a, b, c⟩ => p.run pins s σ H R I (i U S H σ ρ R a b c)⟩
theorem impCanE {K : PySem.W.Frag} {m : ME} : ImpE K E (canE K E m) m := fun U S H σ ρ Q a b c => ⟨U, S, ρ, a, b, c⟩
theorem impCanT {K : PySem.W.Frag} {m : MT} : ImpT K E (canT K E m) m := fun U S H σ ρ Q a b c => ⟨U, S, ρ, a, b, c⟩
theorem impCanG {K : PySem.W.Frag} {ws : List Nat} {g : MG} : ImpG K E ws (canG K E ws g) g := fun U S H σ ρ v d Q a b r c => ⟨U, S, ρ, d, a, b, r, c⟩
theorem impCanI {K : PySem.W.Frag} {m : MI} : ImpI K E (canI K E m) m := fun U S H σ ρ R a b c => ⟨U, S, ρ, a, b, c⟩
/-- the heart: the turns of a comprehension -/
theorem lc_turns {K : PySem.W.Frag} {J : It} {g : TG} {tt : TT} {te : TE} {mg : MG} {mt : MT} {me : ME} {ws vs : List Nat} (hws : ∀ i ∈ ws, i ∈ vs) (ig : ImpG K E1 ws g mg) (it : ImpT K E1 tt mt) (ie : ImpE K E1 te me)
    {U1 : Wd} {S1 : Sto} {H1 : Hp} {σ : L2.St} {ρ : Loc} {xs : List PyData} {Q : VK} (s1 : Sat K U1 S1 H1) (rl : RelL K U1 ρ σ) (RJ : Runs K U1 H1 J xs) (hz : xs.length ≤ 1000000)
    {U0 : Wd} {H0 : Hp} (st01 : Step U0 H0 U1 H1) (w : Wants K E U0 H0 (mLcL mg mt me (wipeL ρ vs) xs S1) (KL K H0 Q)) (Dd : Addr) (hD : H1 Dd = none) :
    ∃ W : Nat → Nat → Hp → Prop, (∃ m, W 0 m (upd H1 Dd (.lst []))) ∧ ∀ i m H, W i m H →
      (J.stop i H ∧ Q (.ref Dd) H) ∨ (J.go i H ∧ ∃ Nx : Hp → Prop, (∀ H', Nx H' → ∃ m', m' < m ∧ W (i + 1) m' H') ∧ ∀ x H', J.yld i H x H' → g x (L2.wipe σ vs) H' fun σ2 H2 => L2.wipe σ2 vs = L2.wipe σ vs ∧ tt σ2 H2 fun b H3 =>
        if b = true then te σ2 H3 fun y H4 => ∃ acc, H4 Dd = some (.lst acc) ∧ acc.length < sizeLine ∧ Nx (upd H4 Dd (.lst (acc ++ [y]))) else Nx H3) := by
  let St' : Nat → Hp → Prop := fun n H' => ∃ (U' : Wd) (S' : Sto) (acc : List V) (accP : List PyData), Step U1 H1 U' H' ∧ Sat K U' S' H' ∧ U'.F Dd = none ∧ (∀ l, U'.io l ≠ some Dd) ∧ H' Dd = some (.lst acc) ∧ RpAll K U'.F acc accP ∧ acc.length ≤ n ∧
    Wants K E U0 H0 ((mLcL mg mt me (wipeL ρ vs) (xs.drop n) S').bind fun ys S2 => .ok (accP ++ ys) S2) (KL K H0 Q)
  refine ⟨fun n m H' => m = xs.length - n ∧ n ≤ xs.length ∧ St' n H', ⟨xs.length, by simp, Nat.zero_le _, U1, S1, [], [], Step.aside (Step.refl _ _) hD, s1.aside (s1.no hD) (s1.noi hD), s1.no hD, s1.noi hD, upd_same, .nil, Nat.le_refl _, by
    rw [List.drop_zero]
    cases hh : mLcL mg mt me (wipeL ρ vs) xs S1 with
    | ok a S => rw [hh] at w; exact w
    | exc c S => rw [hh] at w; exact w
    | stuck => rw [hh] at w; exact w⟩, ?_⟩
  rintro n m H' ⟨rfl, hn, U', S', acc, accP, st, s', hF, hio, hacc, racc, hlen, w'⟩
  obtain ⟨stop, go⟩ := RJ U' S' H' n st.p s'
  by_cases hlt : n < xs.length
  · have hx : xs[n]? = some xs[n] := by simp [hlt]
    obtain ⟨hgo, yl⟩ := go _ hx
    refine .inr ⟨hgo, St' (n + 1), fun H3 h3 => ⟨xs.length - (n + 1), by omega, rfl, hlt, h3⟩, fun v H'' y => ?_⟩
    obtain ⟨U2, st2, s2, rv⟩ := yl v H'' y
    obtain ⟨d2, f2, i2⟩ := st2.aloof hacc hF hio
    rw [drop_cons hx] at w'
    have w2 : Wants K E U0 H0 ((mg (.p xs[n]) (wipeL ρ vs) S').nox.bind fun ρ1 S1 => ((mt ρ1 S1).nox.bind fun b S2 => if b = true then (me ρ1 S2).nox.bind fun d S3 => match d with
      | .p y => (mLcL mg mt me (wipeL ρ vs) (xs.drop (n + 1)) S3).bind fun ys S4 => .ok (y :: ys) S4
      | .r _ => .stuck
      else mLcL mg mt me (wipeL ρ vs) (xs.drop (n + 1)) S2).bind fun ys S2 => .ok (accP ++ ys) S2) (KL K H0 Q) := by
      have e : ∀ {α β γ : Type} (r : Res α) (f : α → Sto → Res β) (h : β → Sto → Res γ), (r.bind f).bind h = r.bind fun a S => (f a S).bind h := fun r f h => by cases r <;> rfl
      unfold mLcL at w'
      rw [e] at w'
      exact w'
    refine ig U2 S' H'' (L2.wipe σ vs) (wipeL ρ vs) v (.p xs[n]) _ s2 ((((rl.step st).step st2)).wipe vs) rv (Wants.mono (Wants.at w2) fun U3 S3 H3 ρ3 st3 s3 w3 σ3 rl3 o3 => ⟨wipe_only o3 hws, ?_⟩)
    obtain ⟨d3, f3, i3⟩ := st3.aloof d2 f2 i2
    have w3' : Wants K E U0 H0 ((mt ρ3 S3).nox.bind fun b S2 => (if b = true then (me ρ3 S2).nox.bind fun d S3 => match d with
      | .p y => (mLcL mg mt me (wipeL ρ vs) (xs.drop (n + 1)) S3).bind fun ys S4 => .ok (y :: ys) S4
      | .r _ => .stuck
      else mLcL mg mt me (wipeL ρ vs) (xs.drop (n + 1)) S2).bind fun ys S2 => .ok (accP ++ ys) S2) (KL K H0 Q) := by
      cases hh : (mt ρ3 S3).nox with
      | ok b S => rw [hh] at w3; exact w3
      | exc c S => rw [hh] at w3; exact w3
      | stuck => rw [hh] at w3; exact w3
    refine it U3 S3 H3 σ3 ρ3 _ s3 rl3 (Wants.mono (Wants.at w3') fun U4 S4 H4 b st4 s4 w4 => ?_)
    obtain ⟨d4, f4, i4⟩ := st4.aloof d3 f3 i3
    have all4 := (((st.trans st2).trans st3).trans st4)
    have ef4 : Sub U'.F U4.F := ((st2.trans st3).trans st4).ef
    cases b with
    | true =>
      rw [if_pos rfl] at w4 ⊢
      have w4' : Wants K E U0 H0 ((me ρ3 S4).nox.bind fun d S3 => (match d with
        | .p y => (mLcL mg mt me (wipeL ρ vs) (xs.drop (n + 1)) S3).bind fun ys S4 => .ok (y :: ys) S4
        | .r _ => .stuck).bind fun ys S2 => .ok (accP ++ ys) S2) (KL K H0 Q) := by
        cases hh : (me ρ3 S4).nox with
        | ok b S => rw [hh] at w4; exact w4
        | exc c S => rw [hh] at w4; exact w4
        | stuck => rw [hh] at w4; exact w4
      refine ie U4 S4 H4 σ3 ρ3 _ s4 (rl3.step st4) (Wants.mono (Wants.at w4') fun U5 S5 H5 d st5 s5 w5 u ru => ?_)
      obtain ⟨d5, f5, i5⟩ := st5.aloof d4 f4 i4
      refine ⟨acc, d5, Nat.lt_of_le_of_lt (by omega : acc.length ≤ 1000000) (by decide), ?_⟩
      cases d with
      | r l => exact False.elim w5
      | p y =>
        refine ⟨U5, S5, acc ++ [u], accP ++ [y], (all4.trans st5).aside hD, s5.aside f5 i5, f5, i5, upd_same, RpAll.append (racc.sub (ef4.trans st5.ef)) (.cons ru .nil), by rw [List.length_append, List.length_singleton]; omega, ?_⟩
        cases hh : mLcL mg mt me (wipeL ρ vs) (xs.drop (n + 1)) S5 with
        | ok b S =>
          have w6 : Wants K E U0 H0 (((mLcL mg mt me (wipeL ρ vs) (xs.drop (n + 1)) S5).bind fun ys S4 => Res.ok (y :: ys) S4).bind fun ys S2 => .ok (accP ++ ys) S2) (KL K H0 Q) := w5
          rw [hh] at w6
          have w7 : Wants K E U0 H0 (.ok (accP ++ y :: b) S) (KL K H0 Q) := w6
          show Wants K E U0 H0 (.ok (accP ++ [y] ++ b) S) (KL K H0 Q)
          rw [List.append_assoc]; exact w7
        | exc c S =>
          have w6 : Wants K E U0 H0 (((mLcL mg mt me (wipeL ρ vs) (xs.drop (n + 1)) S5).bind fun ys S4 => Res.ok (y :: ys) S4).bind fun ys S2 => .ok (accP ++ ys) S2) (KL K H0 Q) := w5
          rw [hh] at w6; exact w6
        | stuck =>
          have w6 : Wants K E U0 H0 (((mLcL mg mt me (wipeL ρ vs) (xs.drop (n + 1)) S5).bind fun ys S4 => Res.ok (y :: ys) S4).bind fun ys S2 => .ok (accP ++ ys) S2) (KL K H0 Q) := w5
          rw [hh] at w6; exact w6
    | false =>
      rw [if_neg Bool.false_ne_true] at w4 ⊢
      exact ⟨U4, S4, acc, accP, all4, s4, f4, i4, d4, racc.sub ef4, by omega, w4⟩
  · have e : n = xs.length := by omega
    subst e
    rw [List.drop_length] at w'
    have w7 : Wants K E U0 H0 (.ok (accP ++ []) S') (KL K H0 Q) := w'
    rw [List.append_nil] at w7
    exact .inl ⟨stop rfl, w7 _ _ (st01.trans st) s' Dd acc (st01.old hD) hF hio hacc racc⟩
theorem il_lc {elt tg iter : Expr} {ifs : List Expr} {scope : Scope} {own : List (Str × Nat)} {mi : MI} {g : MG} {tt : MT} {te : ME} {ws : List Nat} (hc : X.calm = true) (hN : X.N.Nodup) (hi : II X E tg iter mi) (ok : BlkOk X.N X.env.scope scope own)
    (hws : ∀ i ∈ ws, i ∈ own.map (·.2))
    (hg : ∀ (s : Shared) (H : Hp) (C : Addr) (cl : List (Str × Addr)) (fp : List Addr), IG (X.blk s H scope (compEnvC scope cl C X.env) fp) E1 ws tg g)
    (ht : ∀ (s : Shared) (H : Hp) (C : Addr) (cl : List (Str × Addr)) (fp : List Addr), ITs (X.blk s H scope (compEnvC scope cl C X.env) fp) E1 ifs tt)
    (he : ∀ (s : Shared) (H : Hp) (C : Addr) (cl : List (Str × Addr)) (fp : List Addr), IE (X.blk s H scope (compEnvC scope cl C X.env) fp) E1 elt te)
    (hs : ∀ x, foldedSetIterable iter X.env x = pure x := by intro _; rfl) :
    IL X E (.ListComp elt [⟨tg, iter, ifs, 0⟩] scope pos) (mLc mi g tt te (own.map (·.2))) := by
  obtain ⟨t, p, i⟩ := hi
  refine ⟨_, pe_lc hc hN p ok (fun s H C cl fp => (hg s H C cl fp).can) (fun s H C cl fp => (ht s H C cl fp).can) (g := canG X.K E1 ws g) (tt := canT X.K E1 tt) (te := canE X.K E1 te) (fun s H C cl fp => (he s H C cl fp).can) hs, fun U S H σ ρ Q s rl w => i U S H σ ρ _ s rl (w.bindL.mono fun U1 S1 H1 xs st1 s1 w1 J RJ Dd hD => ?_)⟩
  obtain ⟨_, w1⟩ := w1
  split at w1
  · next hz => exact lc_turns hws impCanG impCanT impCanE s1 (rl.step st1) RJ hz st1 w1 Dd hD
  · exact False.elim w1
/-- name = [..] on one line: f is mP or mR -/
theorem is_setLc {i : Nat} {y : Str} {py spos : Pos} {elt tg iter : Expr} {ifs : List Expr} {scope : Scope} {own : List (Str × Nat)} {mi : MI} {g : MG} {tt : MT} {te : ME} {ws : List Nat} {f : ML → ME} (hf : ∀ (t : TE) (m : ML), ImpL X.K E t m → ImpE X.K E t (f m)) (hc : X.calm = true) (hN : X.N.Nodup) (hy : X.N[i]? = some y) (hyl : X.env.scope.names.lookup y = some .local)
    (hsw : swapsWith (.ListComp elt [⟨tg, iter, ifs, 0⟩] scope pos) (some (.Name y py)) spos.line X.env = pure true) (hi : II X E tg iter mi) (ok : BlkOk X.N X.env.scope scope own)
    (hws : ∀ i ∈ ws, i ∈ own.map (·.2))
    (hg : ∀ (s : Shared) (H : Hp) (C : Addr) (cl : List (Str × Addr)) (fp : List Addr), IG (X.blk s H scope (compEnvC scope cl C X.env) fp) E1 ws tg g)
    (ht : ∀ (s : Shared) (H : Hp) (C : Addr) (cl : List (Str × Addr)) (fp : List Addr), ITs (X.blk s H scope (compEnvC scope cl C X.env) fp) E1 ifs tt)
    (he : ∀ (s : Shared) (H : Hp) (C : Addr) (cl : List (Str × Addr)) (fp : List Addr), IE (X.blk s H scope (compEnvC scope cl C X.env) fp) E1 elt te)
    (hs : ∀ x, foldedSetIterable iter X.env x = pure x := by intro _; rfl) :
    IS X E (.Assign [.Name y py] (.ListComp elt [⟨tg, iter, ifs, 0⟩] scope pos) spos) (mAsg (f (mLc mi g tt te (own.map (·.2)))) (gN i)) := by
  obtain ⟨t, p, j⟩ := hi
  refine ⟨_, ps_setLc hc hN hy hyl hsw p ok (fun s H C cl fp => (hg s H C cl fp).can) (fun s H C cl fp => (ht s H C cl fp).can) (g := canG X.K E1 ws g) (tt := canT X.K E1 tt) (te := canE X.K E1 te) (fun s H C cl fp => (he s H C cl fp).can) hs, impS_asg (hf _ _ fun U S H σ ρ Q s rl w => j U S H σ ρ _ s rl (w.bindL.mono fun U1 S1 H1 xs st1 s1 w1 J RJ Dd hD => ?_))⟩
  obtain ⟨_, w1⟩ := w1
  split at w1
  · next hz => exact lc_turns hws impCanG impCanT impCanE s1 (rl.step st1) RJ hz st1 w1 Dd hD
  · exact False.elim w1

/-! ### defs -/
/-- what may be handed back -/
@[simp] def mov : Option Ob → Bool
  | some (.ins _ _) => false
  | some (.tab _ _) => false
  | _ => true
def finish (n : Nat) (r : Res (Fl × Loc)) : Res D := match r with
  | .ok (.rt (.p x), _) S' => .ok (.p x) (S'.take n)
  | .ok (.rt (.r l), _) S' => if l < n then .ok (.r l) (S'.take n) else (match S'[l]? with
    | some o => if (decide (n ≤ S'.length) && mov o) = true then .ok (.r n) (S'.take n ++ [o]) else .stuck
    | none => .stuck)
  | .ok (.nx, _) S' => .ok (.p .none) (S'.take n)
  | .ok (.bk, _) _ => .stuck
  | .ok (.ct, _) _ => .stuck
  | .exc c S' => .exc c (S'.take n)
  | .stuck => .stuck
def startL (n : Nat) (ds : List D) : Loc := ds.map some ++ List.replicate (n - ds.length) none
/-- a def: so many names, its body -/
def fnOf (n : Nat) (m : MS) : Fn := fun ds S => finish S.length (m (startL n ds) S)
/-- the promise of a def that does as fn -/
def spF (K : PySem.W.Frag) (cl : Nat → Value) (n : Nat) (fn : Fn) : Sp := fun vs H Q Ex => vs.length = n ∧ ∃ U S ds, Sat K U S H ∧ RelDs K U ds vs ∧ Wants K (fun c H' => Ex (cl c) none H') U H (fn ds S) (KD K Q)
theorem relStart {K : PySem.W.Frag} {U : Wd} {ds : List D} {vs : List V} {N : List Str} (r : RelDs K U ds vs) : RelL K U (startL N.length ds) (L2.start N vs) := by
  have hl : ds.length = vs.length := Paired.length r
  refine ⟨by unfold startL L2.start; simp [hl], fun i d h => ?_⟩
  unfold startL at h
  unfold L2.start
  by_cases hi : i < ds.length
  · rw [List.getElem?_append_left (by simpa using hi)] at h
    rw [List.getElem?_append_left (by simpa [← hl] using hi)]
    have aux : ∀ {ds : List D} {vs : List V} {i : Nat}, RelDs K U ds vs → (ds.map some)[i]? = some (some d) → ∃ v, (vs.map some)[i]? = some (some v) ∧ RelD K U d v := by
      intro ds vs i r
      induction r generalizing i with
      | nil => intro h; simp at h
      | cons r0 t ih =>
        intro h
        cases i with
        | zero => simp at h; subst h; exact ⟨_, rfl, r0⟩
        | succ i => simpa using ih (i := i) (by simpa using h)
    exact aux r h
  · rw [List.getElem?_append_right (by simpa using hi)] at h
    rw [List.getElem?_replicate] at h
    split at h <;> cases h
/-- one of them is handed back -/
def Wd.cutK (U : Wd) (n l : Nat) : Wd := ⟨U.F, fun k => if k < n then U.io k else if k = n then U.io l else none⟩
theorem Sat.cutK {K : PySem.W.Frag} {U : Wd} {S : Sto} {H : Hp} (s : Sat K U S H) {n l : Nat} {o : Option Ob} (hl : n ≤ l) (hn : n ≤ S.length) (ho : S[l]? = some o) (hm : mov o = true) : Sat K (U.cutK n l) (S.take n ++ [o]) H := by
  have hlen : (S.take n).length = n := by rw [List.length_take]; omega
  have at_ : ∀ k a, (U.cutK n l).io k = some a → (k < n ∧ U.io k = some a) ∨ (k = n ∧ U.io l = some a) := fun k a h => by
    have h' : (if k < n then U.io k else if k = n then U.io l else none) = some a := h
    by_cases e : k < n
    · rw [if_pos e] at h'; exact .inl ⟨e, h'⟩
    · rw [if_neg e] at h'
      by_cases e2 : k = n
      · rw [if_pos e2] at h'; exact .inr ⟨e2, h'⟩
      · rw [if_neg e2] at h'; cases h'
  have up : ∀ k a, k < n → U.io k = some a → (U.cutK n l).io k = some a := fun k a hk h => by
    show (if k < n then U.io k else if k = n then U.io l else none) = some a
    rw [if_pos hk]; exact h
  refine ⟨s.fz, fun k a h => ?_, fun k h => ?_, fun k k' a h h' => ?_, fun k a b h q => ?_, fun k a h => ?_, fun k b q => ?_⟩
  · rw [List.length_append, hlen, List.length_singleton]
    rcases at_ k a h with ⟨e, _⟩ | ⟨e, _⟩ <;> omega
  · rw [List.length_append, hlen, List.length_singleton] at h
    show ∃ a, (if k < n then U.io k else if k = n then U.io l else none) = some a
    by_cases e : k < n
    · rw [if_pos e]; exact s.tot k (by omega)
    · rw [if_neg e, if_pos (by omega)]
      exact s.tot l (List.getElem?_eq_some_iff.mp ho).1
  · rcases at_ k a h with ⟨e, q⟩ | ⟨e, q⟩
    · rcases at_ k' a h' with ⟨e', q'⟩ | ⟨e', q'⟩
      · exact s.inj k k' a q q'
      · have := s.inj k l a q q'; omega
    · rcases at_ k' a h' with ⟨e', q'⟩ | ⟨e', q'⟩
      · have := s.inj l k' a q q'; omega
      · rw [e, e']
  · rcases at_ k a h with ⟨e, z⟩ | ⟨e, z⟩
    · rw [List.getElem?_append_left (by rw [hlen]; exact e), List.getElem?_take_of_lt e] at q
      obtain ⟨z1, u, z2, z3⟩ := s.ob k a b z q
      exact ⟨z1, u, z2, ObIs.few (U := U) (U' := U.cutK n l) (n := k) rfl (fun j x hj hx => up j x (by omega) hx) (s.rf k b q) z3⟩
    · subst e
      rw [List.getElem?_append_right (by rw [hlen]; exact Nat.le_refl _), hlen, Nat.sub_self] at q
      have q' : o = some b := by simpa using q
      subst q'
      obtain ⟨z1, u, z2, z3⟩ := s.ob l a b z ho
      have hr0 : RfOk 0 b := by
        cases b with
        | ins _ _ => cases hm
        | _ => trivial
      exact ⟨z1, u, z2, ObIs.few (U := U) (U' := U.cutK k l) (n := 0) rfl (fun j x hj hx => absurd hj (Nat.not_lt_zero _)) hr0 z3⟩
  · rcases at_ k a h with ⟨e, z⟩ | ⟨e, z⟩
    · exact s.hs k a z
    · exact s.hs l a z
  · by_cases e : k < n
    · rw [List.getElem?_append_left (by rw [hlen]; exact e), List.getElem?_take_of_lt e] at q
      exact s.rf k b q
    · have hl' := (List.getElem?_eq_some_iff.mp q).1
      rw [List.length_append, hlen, List.length_singleton] at hl'
      have : k = n := by omega
      subst this
      rw [List.getElem?_append_right (by rw [hlen]; exact Nat.le_refl _), hlen, Nat.sub_self] at q
      have q' : o = some b := by simpa using q
      subst q'
      cases b with
      | ins _ _ => cases hm
      | _ => trivial
theorem Step.cutK {U0 U : Wd} {H0 H : Hp} {n l : Nat} (t : Step U0 H0 U H) (d : ∀ k a, U0.io k = some a → k < n) (hl : n ≤ l) : Step U0 H0 (U.cutK n l) H where
  ef := t.ef
  ei := fun k a h => by
    show (if k < n then U.io k else if k = n then U.io l else none) = some a
    rw [if_pos (d k a h)]; exact t.ei k a h
  fr := t.fr
  ni := fun k a h => by
    have h' : (if k < n then U.io k else if k = n then U.io l else none) = some a := h
    by_cases e : k < n
    · rw [if_pos e] at h'; exact t.ni k a h'
    · rw [if_neg e] at h'
      by_cases e2 : k = n
      · rw [if_pos e2] at h'
        rcases t.ni l a h' with q | q
        · have := d l a q; omega
        · exact .inr q
      · rw [if_neg e2] at h'; cases h'
  nf := t.nf
  dm := t.dm
  ff := t.ff
theorem wants_finish {K : PySem.W.Frag} {E : EX} {U : Wd} {S : Sto} {H : Hp} {r : Res (Fl × Loc)} {Q : VK} (s : Sat K U S H) (w : Wants K E U H (finish S.length r) (KD K Q)) : Wants K E U H r (KS K { nx := fun _ H' => Q .non H', rt := Q }) := by
  cases r with
  | stuck => exact w
  | exc c S' => exact fun U' H' st s' => w _ _ (st.cut s.dom) (s'.cut _)
  | ok a S' =>
    obtain ⟨f, ρ⟩ := a
    intro U' H' st s' σ' rl'
    cases f with
    | nx => exact w _ _ (st.cut s.dom) (s'.cut _) _ .non
    | bk => exact False.elim w
    | ct => exact False.elim w
    | rt d =>
      intro v rv
      cases d with
      | p x => exact w _ _ (st.cut s.dom) (s'.cut _) v rv
      | r l =>
        obtain ⟨a, e, q⟩ := rv
        have w' : Wants K E U H (if l < S.length then .ok (.r l) (S'.take S.length) else (match S'[l]? with
          | some o => if (decide (S.length ≤ S'.length) && mov o) = true then .ok (.r S.length) (S'.take S.length ++ [o]) else .stuck
          | none => .stuck)) (KD K Q) := w
        split at w'
        · next hl => exact w' _ _ (st.cut s.dom) (s'.cut _) v ⟨a, by show (if l < S.length then U'.io l else none) = some a; rw [if_pos hl]; exact e, q⟩
        · next hl =>
          split at w'
          · next o ho =>
            split at w'
            · next hn =>
              rw [Bool.and_eq_true, decide_eq_true_eq] at hn
              refine w' _ _ (st.cutK s.dom (Nat.le_of_not_lt hl)) (s'.cutK (Nat.le_of_not_lt hl) hn.1 ho hn.2) v ⟨a, ?_, q⟩
              show (if S.length < S.length then U'.io S.length else if S.length = S.length then U'.io l else none) = some a
              rw [if_neg (Nat.lt_irrefl _), if_pos rfl]; exact e
            · exact False.elim w'
          · exact False.elim w'
section
variable {P : Program} {w : World} {K : PySem.W.Frag} {mg : Str → Option Value} {base : Heap} {cl : Nat → Value}
/-- THE RULE for a def that lets no exception out -/
theorem fn_ok {x qual : Str} {st : Stmt} {f : Addr} {fd : FuncData} {N ps : List Str} {k : Nat} {m : MS} (F : Fun K x qual st f fd) (S : FnScope N ps (defScope st))
    (hbody : ∀ (cdv : Value) (A : Around) (outer : List Env) (s : Shared) (H : Hp) (E : XK), Room k (A.deeper (PyProof.Rows.envOfC qual (defScope st) s.heap.objs.size f cdv)) →
      ISs (cxOf CX0 P w K mg base N qual (defScope st) f cdv A outer s H E).nox E1 (defBody st) m) :
    FnOk P w K mg base CX0 (k + 1) f fd ps (spF K cl ps.length fun ds S => (fnOf N.length m ds S).nox) := by
  refine F.ok S (fun vs H Q E h => h.1) fun cdv A outer s H vs Q E hr h => ?_
  obtain ⟨t, p, i⟩ := hbody cdv A outer s H E hr
  obtain ⟨_, U, So, ds, sat, r, w⟩ := h
  exact ⟨t, p, i U So H _ _ _ sat (relStart r) (wants_finish sat (Wants.nox w))⟩
end
def mCall (fn : Fn) (n : MA) : ME := fun ρ S => (n ρ S).bind fun ds S1 => (fn ds S1).nox
/-- calls of a def that lets no exception out -/
theorem ie_call {cl : Nat → Value} {k n : Nat} {f : Addr} {fd : FuncData} {ps : List Str} {fn : Fn} {x : Str} {p : Pos} {e : Expr} {es : List Expr} {na : MA} (F : FnOk X.prog X.w X.K X.mg X.base CX0 k f fd ps (spF X.K cl n fn)) (hr : Room k X.A) (hg : Gl X x) (hm : X.mg x = some (.ref f)) (hk : PySem.W.keepIn X.K (.ref f) = true) (hb : Binds X.K fd ps [])
    (ha : IA X E (e :: es) na) (hl : (e :: es).length = n := by rfl) (hdb : (x == ("__debug__" : Str)) = false := by decide) (he : starEach (e :: es) X.env = (false, eval e X.env) :: starEach es X.env := by rfl) (hpl : (backTo pos (starEach es X.env)).any (·.1) = false := by rfl) :
    IE X E (.Call (.Name x p) (e :: es) [] pos) (mCall fn na) := by
  obtain ⟨⟨t, pt, i⟩, hln⟩ := ha
  refine ⟨_, pe_call F hr hg hm hk hb .nil pass0 pt hdb he hpl, fun U S H σ ρ Q s rl w => i U S H σ ρ _ s rl ?_⟩
  unfold mCall at w
  cases hh : na ρ S with
  | stuck => rw [hh] at w; exact w
  | exc c S' => rw [hh] at w; exact w
  | ok ds S' =>
    rw [hh] at w
    have hd : ds.length = n := (hln ρ S ds S' hh).trans hl
    intro U1 H1 st1 s1 vs rv
    rw [List.append_nil]
    have hv : ds.length = vs.length := Paired.length rv
    exact ⟨by rw [← hv]; exact hd, U1, S', ds, s1, rv, Wants.nox (Wants.step st1 w)⟩
/-- a def that can be called -/
structure Cal (P : Program) (w : World) (K : PySem.W.Frag) (mg : Str → Option Value) (base : Heap) (x : Str) (ps : List Str) (k : Nat) (fn : Fn) : Prop where
  ex : ∃ f fd, FnOk P w K mg base CX0 k f fd ps (spF K (fun _ => .none) ps.length fn) ∧ mg x = some (.ref f) ∧ PySem.W.keepIn K (.ref f) = true ∧ Binds K fd ps []
theorem ie_own {k : Nat} {ps : List Str} {fn : Fn} {x : Str} {p : Pos} {e : Expr} {es : List Expr} {na : MA} (C : Cal X.prog X.w X.K X.mg X.base x ps k fn) (hr : Room k X.A) (hg : Gl X x)
    (ha : IA X E (e :: es) na) (hl : (e :: es).length = ps.length := by rfl) (hdb : (x == ("__debug__" : Str)) = false := by decide) (he : starEach (e :: es) X.env = (false, eval e X.env) :: starEach es X.env := by rfl) (hpl : (backTo pos (starEach es X.env)).any (·.1) = false := by rfl) :
    IE X E (.Call (.Name x p) (e :: es) [] pos) (mCall fn na) := by
  obtain ⟨f, fd, F, hm, hk, hb⟩ := C
  exact ie_call F hr hg hm hk hb ha hl hdb he hpl
/-- a def stands where the top left it -/
structure DefAt (K : PySem.W.Frag) (mg : Str → Option Value) (x nm : Str) (ps : List Str) (st : Stmt) : Prop where
  ex : ∃ f fd, Fun K nm nm st f fd ∧ mg x = some (.ref f) ∧ Binds K fd ps []
theorem cal_mk {P : Program} {w : World} {K : PySem.W.Frag} {mg : Str → Option Value} {base : Heap} {x nm : Str} {st : Stmt} {N ps : List Str} {k : Nat} {m : MS} (F : DefAt K mg x nm ps st) (S : FnScope N ps (defScope st))
    (hbody : ∀ (cdv : Value) (A : Around) (outer : List Env) (s : Shared) (H : Hp) (E : XK) (f : Addr), Room k (A.deeper (PyProof.Rows.envOfC nm (defScope st) s.heap.objs.size f cdv)) →
      ISs (cxOf CX0 P w K mg base N nm (defScope st) f cdv A outer s H E).nox E1 (defBody st) m) : Cal P w K mg base x ps (k + 1) (fun ds S => (fnOf N.length m ds S).nox) := by
  obtain ⟨f, fd, F1, hm, hb⟩ := F
  exact ⟨f, fd, fn_ok F1 S fun cdv A outer s H E hr => hbody cdv A outer s H E f hr, hm, F1.kp, hb⟩
theorem Cal.mono {P : Program} {w : World} {K : PySem.W.Frag} {mg : Str → Option Value} {base : Heap} {x : Str} {ps : List Str} {j k : Nat} {fn : Fn} (C : Cal P w K mg base x ps j fn) (h : j ≤ k) : Cal P w K mg base x ps k fn := by
  obtain ⟨f, fd, F, q⟩ := C
  exact ⟨f, fd, F.mono h, q⟩
theorem u65 {k : Nat} {A : Around} (r : Room k A) : A.units + 65 < cLine := by have := r.un; omega
theorem u100 {k : Nat} {A : Around} (r : Room k A) : A.units + 100 < cLine := by have := r.un; omega
end
end G


namespace G
open PySem L2

/-! ### sequences and data -/
def seqOf (d : D) (S : Sto) : Option (Bool × List PyData) := match d with
  | .p (.list xs) => some (true, xs)
  | .p (.tuple xs) => some (false, xs)
  | .p _ => none
  | .r l => match S[l]? with
    | some (some (.lst xs)) => some (true, xs)
    | _ => none
def SqB (K : PySem.W.Frag) (H : Hp) (a : Addr) (vs : List V) : Bool → Prop
  | true => Rd H a (.lst vs)
  | false => SqT K H a vs
section
variable {K : PySem.W.Frag} {U : Wd} {S : Sto} {H : Hp}
theorem Sat.lst (s : Sat K U S H) {l : Nat} {a : Addr} {xs : List PyData} (h : U.io l = some a) (e : S[l]? = some (some (.lst xs))) : ∃ vs, H a = some (.lst vs) ∧ RpAll K U.F vs xs := by
  obtain ⟨_, o, h1, vs, rfl, r⟩ := s.ob l a _ h e
  exact ⟨vs, h1, r⟩
theorem seq_rel (s : Sat K U S H) {d : D} {v : V} {k : Bool} {xs : List PyData} (r : RelD K U d v) (h : seqOf d S = some (k, xs)) : ∃ a vs, v = .ref a ∧ SqB K H a vs k ∧ RpAll K U.F vs xs := by
  cases d with
  | p x =>
    cases x with
    | list ys =>
      cases h
      cases r with
      | lst hq ha => exact ⟨_, _, rfl, Rd.le s.fz hq, ha⟩
    | tuple ys =>
      cases h
      cases r with
      | tup hq ha => exact ⟨_, _, rfl, SqT.le s.fz hq, ha⟩
    | _ => cases h
  | r l =>
    obtain ⟨a, e, rfl⟩ := r
    unfold seqOf at h
    simp only at h
    split at h
    · next ys hy =>
      cases h
      obtain ⟨vs, h1, r⟩ := s.lst e hy
      exact ⟨a, vs, rfl, .inl h1, r⟩
    · cases h
theorem SqB.or {a : Addr} {vs : List V} {k : Bool} (h : SqB K H a vs k) : SqL K H a vs ∨ SqT K H a vs := by
  cases k with
  | true => exact .inl (.inl h)
  | false => exact .inr h
mutual
theorem Rp.dp {F : Hp} (le : Le F H) : ∀ {v : V} {x : PyData}, Rp K F v x → x.canLay0 = true → Dp K H v x
  | _, _, .non, _ => .non
  | _, _, .bl b, _ => .bl b
  | _, _, .int i, _ => .int i
  | _, _, .str x, _ => .str x
  | _, _, .lst h t, c => .lst (.inl (Rd.le le h)) (RpAll.dp le t (by simpa [PyData.canLay0] using c))
  | _, _, .tup h t, c => .tup (SqT.le le h) (RpAll.dp le t (by simpa [PyData.canLay0] using c))
  | _, _, .dK _ _, c => by cases c
  | _, _, .dN _ _ _ _ _, c => by cases c
theorem RpAll.dp {F : Hp} (le : Le F H) : ∀ {vs : List V} {xs : List PyData}, RpAll K F vs xs → PyData.canLayAll0 xs = true → DpAll K H vs xs
  | _, _, .nil, _ => .nil
  | _, _, .cons h t, c => by
    rw [PyData.canLayAll0, Bool.and_eq_true] at c
    exact .cons (Rp.dp le h c.1) (RpAll.dp le t c.2)
end
def datOf (d : D) (S : Sto) : Option PyData := match d with
  | .p x => some x
  | .r l => match S[l]? with
    | some (some (.lst xs)) => some (.list xs)
    | _ => none
theorem dat_rel (s : Sat K U S H) {d : D} {v : V} {x : PyData} (r : RelD K U d v) (h : datOf d S = some x) (hc : x.canLay0 = true) : Dp K H v x := by
  cases d with
  | p y => cases h; exact Rp.dp s.fz r hc
  | r l =>
    obtain ⟨a, e, rfl⟩ := r
    unfold datOf at h
    simp only at h
    split at h
    · next ys hy =>
      cases h
      obtain ⟨vs, h1, r⟩ := s.lst e hy
      exact .lst (SqL.of h1) (RpAll.dp s.fz r (by simpa [PyData.canLay0] using hc))
    · cases h
theorem rp_int {F : Hp} {i : Int} {v : V} (h : Rp K F v (.int i)) : v = .int i := by cases h; rfl
end

/-! ### arithmetic -/
def okB (b : Bool) (d : PyData) (S : Sto) : Res D := if b = true then .ok (.p d) S else .stuck
def i2 (f : Int → Int → Bool) (g : Int → Int → PyData) : D → D → Sto → Res D := fun d e S => match d, e with
  | .p (.int i), .p (.int j) => okB (f i j) (g i j) S
  | _, _ => .stuck
def cTrue (_ _ : Int) : Bool := true
def cMul (i j : Int) : Bool := (decide (-18446744073709551616 < i) && decide (i < 18446744073709551616)) || (decide (-18446744073709551616 < j) && decide (j < 18446744073709551616))
def cPow (i j : Int) : Bool := decide (0 ≤ j) && (decide (j ≤ 1000000) && decide (i.natAbs < 18446744073709551616))
def cDiv (_ j : Int) : Bool := decide (0 < j) && decide (j < 1073741824)
def cPos (_ j : Int) : Bool := decide (0 < j)
section
variable {K : PySem.W.Frag} {E : EX}
theorem imp_rI {C : Int → Int → Prop} {f : Int → Int → Bool} {g : Int → Int → V} {g' : Int → Int → PyData} (hf : ∀ i j, f i j = true → C i j) (hg : ∀ i j F, Rp K F (g i j) (g' i j)) : ImpO K E (rI C g) (i2 f g') := by
  intro U S H x y d e Q s rx ry w
  unfold i2 at w
  split at w
  · next i j =>
    unfold okB at w
    split at w
    · next h =>
      cases rx; cases ry
      exact ⟨i, j, rfl, rfl, hf i j h, (w.ok s) _ (hg i j _)⟩
    · exact False.elim w
  · exact False.elim w
theorem imp_rI0 {g : Int → Int → V} {g' : Int → Int → PyData} (hg : ∀ i j F, Rp K F (g i j) (g' i j)) : ImpO K E (rI0 g) (i2 cTrue g') := by
  intro U S H x y d e Q s rx ry w
  unfold i2 at w
  split at w
  · next i j =>
    cases rx; cases ry
    exact ⟨i, j, rfl, rfl, (Wants.ok w s) _ (hg i j _)⟩
  · exact False.elim w
def gSub : D → D → Sto → Res D := i2 cTrue fun i j => .int (i - j)
def gDiv : D → D → Sto → Res D := i2 cDiv fun i j => .int (i / j)
def gMod : D → D → Sto → Res D := i2 cPos fun i j => .int (i % j)
def gPow : D → D → Sto → Res D := i2 cPow fun i j => .int (i ^ j.toNat)
theorem imp_sub : ImpO K E (rI0 fun i j => .int (i - j)) gSub := imp_rI0 fun _ _ _ => .int _
theorem imp_div : ImpO K E (rI CDiv fun i j => .int (i / j)) gDiv := imp_rI (fun i j h => by
  unfold cDiv at h
  simp only [Bool.and_eq_true, decide_eq_true_eq] at h
  exact h) fun _ _ _ => .int _
theorem imp_mod : ImpO K E (rI (fun _ j => 0 < j) fun i j => .int (i % j)) gMod := imp_rI (fun i j h => of_decide_eq_true h) fun _ _ _ => .int _
theorem imp_pow : ImpO K E (rI CPow fun i j => .int (i ^ j.toNat)) gPow := imp_rI (fun i j h => by
  unfold cPow at h
  simp only [Bool.and_eq_true, decide_eq_true_eq] at h
  exact ⟨h.1, h.2.1, h.2.2⟩) fun _ _ _ => .int _
theorem cMul_of {i j : Int} (h : cMul i j = true) : CMul i j := by
  unfold cMul at h
  simp only [Bool.or_eq_true, Bool.and_eq_true, decide_eq_true_eq] at h
  unfold CMul
  omega
/-- union of rules, by the first that is for it -/
theorem ImpO.or {r r' : R2} {g : D → D → Sto → Res D} (h : ∀ d e S, (∀ U H x y Q, Sat K U S H → RelD K U d x → RelD K U e y → Wants K E U H (g d e S) (KD K Q) → r x y H Q) ∨ (∀ U H x y Q, Sat K U S H → RelD K U d x → RelD K U e y → Wants K E U H (g d e S) (KD K Q) → r' x y H Q)) : ImpO K E (fun x y H Q => r x y H Q ∨ r' x y H Q) g :=
  fun U S H x y d e Q s rx ry w => (h d e S).elim (fun k => .inl (k U H x y Q s rx ry w)) fun k => .inr (k U H x y Q s rx ry w)
end



/-! ### + -/
section
variable {X : Cx}
def rCatL : R2 := fun x y H Q => ∃ l b xs zs, x = .ref l ∧ y = .ref b ∧ Rd H l (.lst xs) ∧ Rd H b (.lst zs) ∧ xs.length + zs.length ≤ sizeLine ∧ ∀ p, H p = none → Q (.ref p) (upd H p (.lst (xs ++ zs)))
theorem op_catL : OpR X (binaryOp .Add) rCatL := by
  intro pins s σ H x y v u Q I rx ry h
  obtain ⟨l, b, xs, zs, rfl, rfl, hH, hB, hz, q⟩ := h
  cases rx
  cases ry
  obtain ⟨z, its, n, r, e⟩ := hH.ok I.hok
  obtain ⟨z2, its2, n2, r2, e2⟩ := hB.ok I.hok
  have hl := r.length
  have hl2 := r2.length
  refine PySem.P.add_list e e2 ?_ (by rw [List.size_toArray, List.size_toArray]; omega)
  have ea : its.toArray ++ its2.toArray = (its ++ its2).toArray := by simp
  rw [ea]
  exact ⟨.ref _, _, I.lnew (t' := s.toks) (r.append r2) (by rw [List.length_append]; omega), rfl, q _ I.fresh⟩
def rAddA (K : PySem.W.Frag) : R2 := fun x y H Q => (rI0 (fun i j => .int (i + j)) x y H Q ∨ rCatL x y H Q) ∨ (rCatA K x y H Q ∨ ∃ i j, x = .str i ∧ y = .str j ∧ i.length + j.length ≤ sizeLine ∧ Q (.str (i ++ j)) H)
theorem op_addA : OpR X (binaryOp .Add) (rAddA X.K) := (op_add.or op_catL).or (op_catA.or op_add_str)
end
def gAdd : D → D → Sto → Res D := fun d e S => match d, e with
  | .p (.int i), .p (.int j) => .ok (.p (.int (i + j))) S
  | .p (.str i), .p (.str j) => if i.length + j.length ≤ 1000 then .ok (.p (.str (i ++ j))) S else .stuck
  | d, e => match seqOf d S, seqOf e S with
    | some (true, xs), some (true, ys) => if xs.length + ys.length ≤ 1000000 then .ok (.p (.list (xs ++ ys))) S else .stuck
    | some (false, xs), some (false, ys) => if xs.length + ys.length ≤ 1000000 then .ok (.p (.tuple (xs ++ ys))) S else .stuck
    | _, _ => .stuck
theorem line6 {n : Nat} (h : n ≤ 1000000) : n ≤ sizeLine := Nat.le_trans h (by decide)
section
variable {K : PySem.W.Frag} {E : EX}
theorem nil_iff {F : Hp} {vs : List V} {ds : List PyData} (h : RpAll K F vs ds) : vs = [] ↔ ds = [] := by
  cases h with
  | nil => simp
  | cons _ _ => simp
theorem rp_tup {F H : Hp} (le : Le F H) {a : Addr} {vs : List V} {xs : List PyData} {d : D} {U : Wd} {v : V} (h : SqB K H a vs false) : SqT K H a vs := h
theorem imp_add : ImpO K E (rAddA K) gAdd := by
  intro U S H x y d e Q s rx ry w
  unfold gAdd at w
  split at w
  · next i j => cases rx; cases ry; exact .inl (.inl ⟨i, j, rfl, rfl, (w.ok s) _ (.int _)⟩)
  · next i j =>
    split at w
    · next hl => cases rx; cases ry; exact .inr (.inr ⟨i, j, rfl, rfl, line1000 hl, (w.ok s) _ (.str _)⟩)
    · exact False.elim w
  · split at w
    · next xs ys h1 h2 =>
      split at w
      · next hl =>
        obtain ⟨a, vs, rfl, q, r⟩ := seq_rel s rx h1
        obtain ⟨b, us, rfl, q', r'⟩ := seq_rel s ry h2
        exact .inl (.inr ⟨a, b, vs, us, rfl, rfl, q, q', by rw [r.length, r'.length]; exact line6 hl, fun p hp => newL s (RpAll.append r r') hp w⟩)
      · exact False.elim w
    · next xs ys h1 h2 =>
      split at w
      · next hl =>
        have h1' : d = .p (.tuple xs) := by
          cases d with
          | p x => cases x <;> cases h1; rfl
          | r l =>
            unfold seqOf at h1
            simp only at h1
            split at h1 <;> cases h1
        have h2' : e = .p (.tuple ys) := by
          cases e with
          | p x => cases x <;> cases h2; rfl
          | r l =>
            unfold seqOf at h2
            simp only at h2
            split at h2 <;> cases h2
        subst h1' h2'
        cases rx with
        | tup hq ha =>
          cases ry with
          | tup hq' ha' =>
            refine .inr (.inl ⟨_, _, _, _, rfl, rfl, SqT.le s.fz hq, SqT.le s.fz hq', by rw [ha.length, ha'.length]; exact line6 hl, fun e1 => ?_, fun e1 e2 => ?_, fun e1 e2 p hp => ?_⟩)
            · have e1' := (nil_iff ha).mp e1
              subst e1'
              exact (w.ok s) _ (.tup hq' ha')
            · have e2' := (nil_iff ha').mp e2
              subst e2'
              rw [List.append_nil] at w
              exact (w.ok s) _ (.tup hq ha)
            · exact newT s (RpAll.append ha ha') hp w
      · exact False.elim w
    · exact False.elim w
end
section
variable {X : Cx} {E : EX} {pos : Pos} {a b c e : Expr} {es : List Expr} {ma mb mc : ME}
theorem ie_add (ha : IE X E a ma) (hb : IE X E b mb) : IE X E (.BinOp a .Add b pos) (m2 gAdd ma mb) := ie_op op_addA imp_add ha hb
theorem ie_sub (ha : IE X E a ma) (hb : IE X E b mb) : IE X E (.BinOp a .Sub b pos) (m2 gSub ma mb) := ie_op op_sub imp_sub ha hb
theorem ie_div (ha : IE X E a ma) (hb : IE X E b mb) : IE X E (.BinOp a .FloorDiv b pos) (m2 gDiv ma mb) := ie_op op_fdiv imp_div ha hb
theorem ie_mod (ha : IE X E a ma) (hb : IE X E b mb) : IE X E (.BinOp a .Mod b pos) (m2 gMod ma mb) := ie_op op_mod imp_mod ha hb
theorem ie_pow (ha : IE X E a ma) (hb : IE X E b mb) : IE X E (.BinOp a .Pow b pos) (m2 gPow ma mb) := ie_op op_pow imp_pow ha hb
/-- list + list, a new one -/
def gCat (d e : D) (S : Sto) : Res (List PyData) := match seqOf d S, seqOf e S with
  | some (true, xs), some (true, ys) => if xs.length + ys.length ≤ 1000000 then .ok (xs ++ ys) S else .stuck
  | _, _ => .stuck
def ml2 (g : D → D → Sto → Res (List PyData)) (ma mb : ME) : ML := fun ρ S => (ma ρ S).bind fun d S1 => (mb ρ S1).bind fun e S2 => g d e S2
theorem il_cat (ha : IE X E a ma) (hb : IE X E b mb) : IL X E (.BinOp a .Add b pos) (ml2 gCat ma mb) := by
  obtain ⟨ta, pa, ia⟩ := ha
  obtain ⟨tb, pb, ib⟩ := hb
  refine ⟨_, pe_op op_catL pa pb, fun U S H σ ρ Q s rl w => ia U S H σ ρ _ s rl (w.bindL.mono fun U1 S1 H1 d st1 s1 w1 v rv => ib U1 S1 H1 σ ρ _ s1 (rl.step st1) ?_)⟩
  obtain ⟨_, w1⟩ := w1
  cases hh : mb ρ S1 with
  | stuck => rw [hh] at w1; exact w1
  | exc c S' => rw [hh] at w1; exact fun U' H' st s' => w1 U' H' (st1.trans st) s'
  | ok e S2 =>
    rw [hh] at w1
    intro U2 H2 st2 s2 u ru
    have w2 : Wants X.K E U H (gCat d e S2) (KL X.K H Q) := w1
    unfold gCat at w2
    split at w2
    · next xs ys h1 h2 =>
      split at w2
      · next hl =>
        obtain ⟨a, vs, rfl, q, r⟩ := seq_rel s2 (rv.step st2) h1
        obtain ⟨b, us, rfl, q', r'⟩ := seq_rel s2 ru h2
        exact ⟨a, b, vs, us, rfl, rfl, q, q', by rw [r.length, r'.length]; exact line6 hl, fun p hp => layL (st1.trans st2) s2 (RpAll.append r r') hp w2⟩
      · exact False.elim w2
    · exact False.elim w2
end
end G


namespace G
open PySem L2

/-! ### comparisons of data -/
def lay (x : PyData) : Bool := SeqAt.shaped x
def g2 (f : PyData → PyData → Bool) (g : PyData → PyData → PyData) : D → D → Sto → Res D := fun d e S => match datOf d S, datOf e S with
  | some x, some y => okB (f x y) (g x y) S
  | _, _ => .stuck
def lay2 (x y : PyData) : Bool := lay x && lay y
def gEq : D → D → Sto → Res D := g2 lay2 fun x y => .bool (PyData.eqv x y)
def gNe : D → D → Sto → Res D := g2 lay2 fun x y => .bool (!PyData.eqv x y)
def isNone : PyData → Bool
  | .none => true
  | _ => false
def lay3 (x y : PyData) : Bool := (lay x && lay y) && (PySem.W.alike x y && !isNone x)
def gLt : D → D → Sto → Res D := fun d e S => match d, e with
  | .p (.int i), .p (.int j) => .ok (.p (.bool (decide (i < j)))) S
  | d, e => g2 lay3 (fun x y => .bool (PySem.W.dataLt x y)) d e S
def gLe : D → D → Sto → Res D := fun d e S => match d, e with
  | .p (.int i), .p (.int j) => .ok (.p (.bool (decide (i ≤ j)))) S
  | d, e => g2 lay3 (fun x y => .bool (!PySem.W.dataLt y x)) d e S
def gGt : D → D → Sto → Res D := fun d e S => match d, e with
  | .p (.int i), .p (.int j) => .ok (.p (.bool (decide (j < i)))) S
  | d, e => g2 lay3 (fun x y => .bool (PySem.W.dataLt y x)) d e S
def gGe : D → D → Sto → Res D := fun d e S => match d, e with
  | .p (.int i), .p (.int j) => .ok (.p (.bool (decide (j ≤ i)))) S
  | d, e => g2 lay3 (fun x y => .bool (!PySem.W.dataLt x y)) d e S
section
variable {K : PySem.W.Frag} {E : EX}
/-- what two data ask of a heap -/
def rD2 (K : PySem.W.Frag) (f : PyData → PyData → Bool) (g : PyData → PyData → Bool) : R2 := fun x y H Q => ∃ d e, Dp K H x d ∧ Dp K H y e ∧ f d e = true ∧ Q (.bl (g d e)) H
theorem lay_can {x : PyData} (h : lay x = true) : x.canLay0 = true := SeqAt.canLay_of_shaped h
theorem imp_D2 {f g : PyData → PyData → Bool} (hf : ∀ x y, f x y = true → lay x = true ∧ lay y = true) : ImpO K E (rD2 K f g) (g2 f fun x y => .bool (g x y)) := by
  intro U S H x y d e Q s rx ry w
  unfold g2 at w
  split at w
  · next a b h1 h2 =>
    unfold okB at w
    split at w
    · next hh =>
      obtain ⟨l1, l2⟩ := hf _ _ hh
      exact ⟨a, b, dat_rel s rx h1 (lay_can l1), dat_rel s ry h2 (lay_can l2), hh, (w.ok s) _ (.bl _)⟩
    · exact False.elim w
  · exact False.elim w
theorem lay2_of (x y : PyData) (h : lay2 x y = true) : lay x = true ∧ lay y = true := by
  unfold lay2 at h
  rw [Bool.and_eq_true] at h
  exact h
theorem lay3_of (x y : PyData) (h : lay3 x y = true) : lay x = true ∧ lay y = true := by
  unfold lay3 at h
  simp only [Bool.and_eq_true] at h
  exact h.1
theorem isNone_of {x : PyData} (h : (!isNone x) = true) : x ≠ .none := by
  intro e
  subst e
  cases h
variable {X : Cx}
theorem op_eqA (hu : X.A.units + 64 < cLine) : OpR X (compareOp .Eq) (rD2 X.K lay2 PyData.eqv) := fun pins s σ H x y v u Q I rx ry ⟨d, e, hd, he, hf, q⟩ =>
  op_eqD hu pins s σ H x y v u Q I rx ry ⟨d, e, hd, he, (lay2_of _ _ hf).1, (lay2_of _ _ hf).2, q⟩
theorem op_neA (hu : X.A.units + 64 < cLine) : OpR X (compareOp .NotEq) (rD2 X.K lay2 fun x y => !PyData.eqv x y) := fun pins s σ H x y v u Q I rx ry ⟨d, e, hd, he, hf, q⟩ =>
  op_neD hu pins s σ H x y v u Q I rx ry ⟨d, e, hd, he, (lay2_of _ _ hf).1, (lay2_of _ _ hf).2, q⟩
theorem room3 {x y : PyData} (h : lay3 x y = true) {A : Around} (hu : A.units + 64 < cLine) : A.units + min x.depth y.depth < cLine := SeqAt.room_of_shaped (lay3_of _ _ h).1 hu
theorem lay3_al {x y : PyData} (h : lay3 x y = true) : PySem.W.alike x y = true ∧ x ≠ .none := by
  unfold lay3 at h
  simp only [Bool.and_eq_true] at h
  exact ⟨h.2.1, isNone_of h.2.2⟩
theorem op_ltA (hu : X.A.units + 64 < cLine) : OpR X (compareOp .Lt) (fun x y H Q => rI0 (fun i j => .bl (decide (i < j))) x y H Q ∨ rD2 X.K lay3 PySem.W.dataLt x y H Q) := op_lt.or fun pins s σ H x y v u Q I rx ry ⟨d, e, hd, he, hf, q⟩ => by
  obtain ⟨as, r1⟩ := Dp.reads I d x v hd rx
  obtain ⟨bs, r2⟩ := Dp.reads I e y u he ry
  exact PySem.W.lt_data r1 r2 (lay3_al hf).1 (lay3_al hf).2 (room3 hf hu) ⟨.bl _, H, I, rfl, q⟩
theorem op_gtA (hu : X.A.units + 64 < cLine) : OpR X (compareOp .Gt) (fun x y H Q => rI0 (fun i j => .bl (decide (j < i))) x y H Q ∨ rD2 X.K lay3 (fun x y => PySem.W.dataLt y x) x y H Q) := op_gt.or fun pins s σ H x y v u Q I rx ry ⟨d, e, hd, he, hf, q⟩ => by
  obtain ⟨as, r1⟩ := Dp.reads I d x v hd rx
  obtain ⟨bs, r2⟩ := Dp.reads I e y u he ry
  exact PySem.W.gt_data r1 r2 (lay3_al hf).1 (lay3_al hf).2 (room3 hf hu) ⟨.bl _, H, I, rfl, q⟩
theorem op_leA (hu : X.A.units + 64 < cLine) : OpR X (compareOp .LtE) (fun x y H Q => rI0 (fun i j => .bl (decide (i ≤ j))) x y H Q ∨ rD2 X.K lay3 (fun x y => !PySem.W.dataLt y x) x y H Q) := op_le.or fun pins s σ H x y v u Q I rx ry ⟨d, e, hd, he, hf, q⟩ => by
  obtain ⟨as, r1⟩ := Dp.reads I d x v hd rx
  obtain ⟨bs, r2⟩ := Dp.reads I e y u he ry
  exact PySem.W.le_data r1 r2 (lay3_al hf).1 (lay3_al hf).2 (room3 hf hu) ⟨.bl _, H, I, rfl, q⟩
theorem op_geA (hu : X.A.units + 64 < cLine) : OpR X (compareOp .GtE) (fun x y H Q => rI0 (fun i j => .bl (decide (j ≤ i))) x y H Q ∨ rD2 X.K lay3 (fun x y => !PySem.W.dataLt x y) x y H Q) := op_ge.or fun pins s σ H x y v u Q I rx ry ⟨d, e, hd, he, hf, q⟩ => by
  obtain ⟨as, r1⟩ := Dp.reads I d x v hd rx
  obtain ⟨bs, r2⟩ := Dp.reads I e y u he ry
  exact PySem.W.ge_data r1 r2 (lay3_al hf).1 (lay3_al hf).2 (room3 hf hu) ⟨.bl _, H, I, rfl, q⟩
theorem imp_cmp {h : Int → Int → Bool} {f g : PyData → PyData → Bool} {G : D → D → Sto → Res D} (hf : ∀ x y, f x y = true → lay x = true ∧ lay y = true)
    (hG : ∀ d e S, (∃ i j, d = .p (.int i) ∧ e = .p (.int j) ∧ G d e S = .ok (.p (.bool (h i j))) S) ∨ G d e S = g2 f (fun x y => .bool (g x y)) d e S) :
    ImpO K E (fun x y H Q => rI0 (fun i j => .bl (h i j)) x y H Q ∨ rD2 K f g x y H Q) G := by
  intro U S H x y d e Q s rx ry w
  rcases hG d e S with ⟨i, j, rfl, rfl, q⟩ | q
  · rw [q] at w
    cases rx; cases ry
    exact .inl ⟨i, j, rfl, rfl, (w.ok s) _ (.bl _)⟩
  · rw [q] at w
    exact .inr (imp_D2 hf U S H x y d e Q s rx ry w)
theorem imp_lt : ImpO K E (fun x y H Q => rI0 (fun i j => .bl (decide (i < j))) x y H Q ∨ rD2 K lay3 PySem.W.dataLt x y H Q) gLt := imp_cmp lay3_of fun d e S => by
  unfold gLt
  split
  · exact .inl ⟨_, _, rfl, rfl, rfl⟩
  · exact .inr rfl
theorem imp_le : ImpO K E (fun x y H Q => rI0 (fun i j => .bl (decide (i ≤ j))) x y H Q ∨ rD2 K lay3 (fun x y => !PySem.W.dataLt y x) x y H Q) gLe := imp_cmp lay3_of fun d e S => by
  unfold gLe
  split
  · exact .inl ⟨_, _, rfl, rfl, rfl⟩
  · exact .inr rfl
theorem imp_gt : ImpO K E (fun x y H Q => rI0 (fun i j => .bl (decide (j < i))) x y H Q ∨ rD2 K lay3 (fun x y => PySem.W.dataLt y x) x y H Q) gGt := imp_cmp lay3_of fun d e S => by
  unfold gGt
  split
  · exact .inl ⟨_, _, rfl, rfl, rfl⟩
  · exact .inr rfl
theorem imp_ge : ImpO K E (fun x y H Q => rI0 (fun i j => .bl (decide (j ≤ i))) x y H Q ∨ rD2 K lay3 (fun x y => !PySem.W.dataLt x y) x y H Q) gGe := imp_cmp lay3_of fun d e S => by
  unfold gGe
  split
  · exact .inl ⟨_, _, rfl, rfl, rfl⟩
  · exact .inr rfl
theorem imp_eq : ImpO K E (rD2 K lay2 PyData.eqv) gEq := imp_D2 lay2_of
theorem imp_ne : ImpO K E (rD2 K lay2 fun x y => !PyData.eqv x y) gNe := imp_D2 lay2_of

/-! in -/
def itemsOf : PyData → Option (List PyData)
  | .list xs => some xs
  | .tuple xs => some xs
  | _ => none
def layIn (x y : PyData) : Bool := (lay x && lay y) && (itemsOf y).isSome
def isIn (x y : PyData) : Bool := match itemsOf y with
  | some xs => xs.any fun z => PyData.eqv z x
  | none => false
def gIn : D → D → Sto → Res D := g2 layIn fun x y => .bool (isIn x y)
def gNotIn : D → D → Sto → Res D := g2 layIn fun x y => .bool (!isIn x y)
theorem layIn_of (x y : PyData) (h : layIn x y = true) : lay x = true ∧ lay y = true := by
  unfold layIn at h
  simp only [Bool.and_eq_true] at h
  exact h.1
theorem layIn_its {x y : PyData} (h : layIn x y = true) : (∃ xs, y = .list xs) ∨ ∃ xs, y = .tuple xs := by
  unfold layIn at h
  simp only [Bool.and_eq_true] at h
  cases y with
  | list xs => exact .inl ⟨xs, rfl⟩
  | tuple xs => exact .inr ⟨xs, rfl⟩
  | _ => exact absurd h.2 (by simp [itemsOf])
theorem op_inA (hu : X.A.units + 65 < cLine) : OpR X (compareOp .In) (rD2 X.K layIn isIn) := fun pins s σ H x y v u Q I rx ry ⟨d, e, hd, he, hf, q⟩ => by
  obtain ⟨as, r1⟩ := Dp.reads I d x v hd rx
  obtain ⟨bs, r2⟩ := Dp.reads I e y u he ry
  obtain ⟨l1, l2⟩ := layIn_of _ _ hf
  rcases layIn_its hf with ⟨xs, rfl⟩ | ⟨xs, rfl⟩
  · exact SeqAt.in_list_reads r2 r1 (lay_can l2) (lay_can l1) (PyProof.Rows.room_in_shaped l1 hu) ⟨.bl _, H, I, rfl, q⟩
  · exact SeqAt.in_tuple_reads r2 r1 (lay_can l2) (lay_can l1) (PyProof.Rows.room_in_shaped l1 hu) ⟨.bl _, H, I, rfl, q⟩
theorem op_notInA (hu : X.A.units + 65 < cLine) : OpR X (compareOp .NotIn) (rD2 X.K layIn fun x y => !isIn x y) := fun pins s σ H x y v u Q I rx ry ⟨d, e, hd, he, hf, q⟩ => by
  obtain ⟨as, r1⟩ := Dp.reads I d x v hd rx
  obtain ⟨bs, r2⟩ := Dp.reads I e y u he ry
  obtain ⟨l1, l2⟩ := layIn_of _ _ hf
  rcases layIn_its hf with ⟨xs, rfl⟩ | ⟨xs, rfl⟩
  · exact SeqAt.notIn_list_reads r2 r1 (lay_can l2) (lay_can l1) (PyProof.Rows.room_in_shaped l1 hu) ⟨.bl _, H, I, rfl, q⟩
  · exact SeqAt.notIn_tuple_reads r2 r1 (lay_can l2) (lay_can l1) (PyProof.Rows.room_in_shaped l1 hu) ⟨.bl _, H, I, rfl, q⟩

/-! is -/
def gIs (neg : Bool) : D → D → Sto → Res D := fun d e S => match e with
  | .p .none => (match d with
    | .p x => .ok (.p (.bool (if neg then !isNone x else isNone x))) S
    | .r _ => .ok (.p (.bool neg)) S)
  | .p (.bool b) => (match d with
    | .p (.bool a) => .ok (.p (.bool (if neg then !decide (a = b) else decide (a = b)))) S
    | _ => .stuck)
  | _ => .stuck
def rIsA (neg : Bool) : R2 := fun x y H Q => (y = .non ∧ Q (.bl (if neg then !decide (x = .non) else decide (x = .non))) H) ∨ ∃ a b : Bool, x = .bl a ∧ y = .bl b ∧ Q (.bl (if neg then !decide (a = b) else decide (a = b))) H
theorem op_isA : OpR X (compareOp .Is) (rIsA false) := op_isN.or op_isBl
theorem op_notA : OpR X (compareOp .IsNot) (rIsA true) := op_notN.or op_notBl
theorem isN_rel {F : Hp} {v : V} {x : PyData} (h : Rp K F v x) : decide (v = .non) = isNone x := by
  cases h <;> first | rfl | exact decide_eq_false (fun e => nomatch e)
theorem imp_is {neg : Bool} : ImpO K E (rIsA neg) (gIs neg) := by
  intro U S H x y d e Q s rx ry w
  unfold gIs at w
  split at w
  · cases ry
    split at w
    · next z => exact .inl ⟨rfl, (w.ok s) _ (by rw [isN_rel rx]; exact .bl _)⟩
    · obtain ⟨a, _, rfl⟩ := rx
      refine .inl ⟨rfl, (w.ok s) _ ?_⟩
      have : decide ((V.ref a) = V.non) = false := decide_eq_false fun e => nomatch e
      rw [this]
      cases neg <;> exact .bl _
  · cases ry
    split at w
    · next a => cases rx; exact .inr ⟨a, _, rfl, rfl, (w.ok s) _ (.bl _)⟩
    · exact False.elim w
  · exact False.elim w
end
section
variable {X : Cx} {E : EX} {pos : Pos} {a b c e : Expr} {ma mb mc : ME}
theorem ie_eq (hu : X.A.units + 64 < cLine) (ha : IE X E a ma) (hb : IE X E b mb) : IE X E (.Compare a [.Eq] [b] pos) (m2 gEq ma mb) := ie_cmp (op_eqA hu) imp_eq ha hb (nomark _)
theorem ie_ne (hu : X.A.units + 64 < cLine) (ha : IE X E a ma) (hb : IE X E b mb) : IE X E (.Compare a [.NotEq] [b] pos) (m2 gNe ma mb) := ie_cmp (op_neA hu) imp_ne ha hb (nomark _)
theorem ie_lt (hu : X.A.units + 64 < cLine) (ha : IE X E a ma) (hb : IE X E b mb) : IE X E (.Compare a [.Lt] [b] pos) (m2 gLt ma mb) := ie_cmp (op_ltA hu) imp_lt ha hb (nomark _)
theorem ie_le (hu : X.A.units + 64 < cLine) (ha : IE X E a ma) (hb : IE X E b mb) : IE X E (.Compare a [.LtE] [b] pos) (m2 gLe ma mb) := ie_cmp (op_leA hu) imp_le ha hb (nomark _)
theorem ie_gt (hu : X.A.units + 64 < cLine) (ha : IE X E a ma) (hb : IE X E b mb) : IE X E (.Compare a [.Gt] [b] pos) (m2 gGt ma mb) := ie_cmp (op_gtA hu) imp_gt ha hb (nomark _)
theorem ie_ge (hu : X.A.units + 64 < cLine) (ha : IE X E a ma) (hb : IE X E b mb) : IE X E (.Compare a [.GtE] [b] pos) (m2 gGe ma mb) := ie_cmp (op_geA hu) imp_ge ha hb (nomark _)
theorem ie_in (hu : X.A.units + 65 < cLine) (ha : IE X E a ma) (hb : IE X E b mb) (hm : behindInMarks .In b = false := by rfl) : IE X E (.Compare a [.In] [b] pos) (m2 gIn ma mb) := ie_cmp (op_inA hu) (imp_D2 layIn_of) ha hb hm
theorem ie_notIn (hu : X.A.units + 65 < cLine) (ha : IE X E a ma) (hb : IE X E b mb) (hm : behindInMarks .NotIn b = false := by rfl) : IE X E (.Compare a [.NotIn] [b] pos) (m2 gNotIn ma mb) := ie_cmp (op_notInA hu) (imp_D2 layIn_of) ha hb hm
theorem ie_is (ha : IE X E a ma) (hb : IE X E b mb) : IE X E (.Compare a [.Is] [b] pos) (m2 (gIs false) ma mb) := ie_cmp op_isA imp_is ha hb (nomark _)
theorem ie_isNot (ha : IE X E a ma) (hb : IE X E b mb) : IE X E (.Compare a [.IsNot] [b] pos) (m2 (gIs true) ma mb) := ie_cmp op_notA imp_is ha hb (nomark _)
theorem it_eq (hu : X.A.units + 64 < cLine) (ha : IE X E a ma) (hb : IE X E b mb) : IT X E (.Compare a [.Eq] [b] pos) (mTest (m2 gEq ma mb)) := it_cmp (op_eqA hu) imp_eq ha hb (nomark _)
theorem it_ne (hu : X.A.units + 64 < cLine) (ha : IE X E a ma) (hb : IE X E b mb) : IT X E (.Compare a [.NotEq] [b] pos) (mTest (m2 gNe ma mb)) := it_cmp (op_neA hu) imp_ne ha hb (nomark _)
theorem it_lt (hu : X.A.units + 64 < cLine) (ha : IE X E a ma) (hb : IE X E b mb) : IT X E (.Compare a [.Lt] [b] pos) (mTest (m2 gLt ma mb)) := it_cmp (op_ltA hu) imp_lt ha hb (nomark _)
theorem it_le (hu : X.A.units + 64 < cLine) (ha : IE X E a ma) (hb : IE X E b mb) : IT X E (.Compare a [.LtE] [b] pos) (mTest (m2 gLe ma mb)) := it_cmp (op_leA hu) imp_le ha hb (nomark _)
theorem it_gt (hu : X.A.units + 64 < cLine) (ha : IE X E a ma) (hb : IE X E b mb) : IT X E (.Compare a [.Gt] [b] pos) (mTest (m2 gGt ma mb)) := it_cmp (op_gtA hu) imp_gt ha hb (nomark _)
theorem it_ge (hu : X.A.units + 64 < cLine) (ha : IE X E a ma) (hb : IE X E b mb) : IT X E (.Compare a [.GtE] [b] pos) (mTest (m2 gGe ma mb)) := it_cmp (op_geA hu) imp_ge ha hb (nomark _)
theorem it_in (hu : X.A.units + 65 < cLine) (ha : IE X E a ma) (hb : IE X E b mb) (hm : behindInMarks .In b = false := by rfl) : IT X E (.Compare a [.In] [b] pos) (mTest (m2 gIn ma mb)) := it_cmp (op_inA hu) (imp_D2 layIn_of) ha hb hm
theorem it_notIn (hu : X.A.units + 65 < cLine) (ha : IE X E a ma) (hb : IE X E b mb) (hm : behindInMarks .NotIn b = false := by rfl) : IT X E (.Compare a [.NotIn] [b] pos) (mTest (m2 gNotIn ma mb)) := it_cmp (op_notInA hu) (imp_D2 layIn_of) ha hb hm
theorem it_is (ha : IE X E a ma) (hb : IE X E b mb) : IT X E (.Compare a [.Is] [b] pos) (mTest (m2 (gIs false) ma mb)) := it_cmp op_isA imp_is ha hb (nomark _)
theorem it_isNot (ha : IE X E a ma) (hb : IE X E b mb) : IT X E (.Compare a [.IsNot] [b] pos) (mTest (m2 (gIs true) ma mb)) := it_cmp op_notA imp_is ha hb (nomark _)

/-! ### items and slices -/
def gIx : D → D → Sto → Res D := fun d e S => match e with
  | .p (.int i) => (match seqOf d S with
    | some (_, xs) => (match atI xs i with
      | some x => .ok (.p x) S
      | none => .stuck)
    | none => .stuck)
  | _ => .stuck
theorem atI_rel {K : PySem.W.Frag} {F : Hp} {vs : List V} {xs : List PyData} {i : Int} {x : PyData} (r : RpAll K F vs xs) (h : atI xs i = some x) : ∃ v, atI vs i = some v ∧ Rp K F v x := by
  unfold atI at h ⊢
  rw [r.length]
  cases e : ixN xs.length i with
  | none => rw [e] at h; cases h
  | some j =>
    rw [e] at h
    obtain ⟨v, h1, h2⟩ := r.get h
    exact ⟨v, h1, h2⟩
theorem imp_ix {K : PySem.W.Frag} : ImpO K E (fun x y H Q => rIxL K x y H Q ∨ rIxT K x y H Q) gIx := by
  intro U S H x y d e Q s rx ry w
  unfold gIx at w
  split at w
  · next i =>
    split at w
    · next k xs hs =>
      split at w
      · next z hz =>
        cases ry
        obtain ⟨a, vs, rfl, q, r⟩ := seq_rel s rx hs
        obtain ⟨v, h1, h2⟩ := atI_rel r hz
        cases k with
        | true => exact .inl ⟨a, vs, i, v, rfl, rfl, .inl q, h1, (w.ok s) _ h2⟩
        | false => exact .inr ⟨a, vs, i, v, rfl, rfl, q, h1, (w.ok s) _ h2⟩
      · exact False.elim w
    · exact False.elim w
  · exact False.elim w
theorem ie_item (ha : IE X E a ma) (hb : IE X E b mb) (hs : PlainIx b := by exact fun _ _ => rfl) : IE X E (.Subscript a b pos) (m2 gIx ma mb) := ie_ix (ix_list.or ix_tup) imp_ix ha hb hs
abbrev MO := Loc → Sto → Res (Option Int)
def mPart : Option ME → MO
  | none => fun _ S => .ok none S
  | some m => fun ρ S => (m ρ S).bind fun d S1 => match d with
    | .p (.int i) => .ok (some i) S1
    | _ => .stuck
def ImpP (K : PySem.W.Frag) (E : EX) (t : TO) (m : MO) : Prop := ∀ (U : Wd) (S : Sto) (H : Hp) (σ : L2.St) (ρ : Loc) (Q : Option Int → Hp → Prop), Sat K U S H → RelL K U ρ σ → Wants K E U H (m ρ S) (fun _ _ H' o => Q o H') → t σ H Q
structure IPo (X : Cx) (E : EX) (e : Option Expr) (m : MO) : Prop where
  ex : ∃ t, PO X e t ∧ ImpP X.K E t m
theorem ip_none : IPo X E none (mPart none) := ⟨_, po_none, fun U S H σ ρ Q s rl w => w.ok s⟩
theorem ip_some (h : IE X E e ma) : IPo X E (some e) (mPart (some ma)) := by
  obtain ⟨t, p, i⟩ := h
  refine ⟨_, po_some p, fun U S H σ ρ Q s rl w => i U S H σ ρ _ s rl (Wants.mono (Wants.bind w) fun U1 S1 H1 d st1 s1 w1 v rv => ?_)⟩
  split at w1
  · next j => cases rv; exact ⟨j, rfl, w1.ok s1⟩
  · exact False.elim w1
/-- the part of a list -/
def cutP (xs : List PyData) (lo hi : Option Int) : List PyData := (xs.drop (HT.sIx xs.length 0 lo)).take (HT.sIx xs.length xs.length hi - HT.sIx xs.length 0 lo)
theorem cut_rel {K : PySem.W.Frag} {F : Hp} {vs : List V} {xs : List PyData} {lo hi : Option Int} (r : RpAll K F vs xs) : RpAll K F (cutV vs lo hi) (cutP xs lo hi) := by
  unfold cutV cutP
  rw [r.length]
  exact (r.drop _).take _
theorem cutP_whole {xs : List PyData} {lo hi : Option Int} (h : HT.sIx xs.length 0 lo = 0 ∧ HT.sIx xs.length xs.length hi = xs.length) : cutP xs lo hi = xs := by
  unfold cutP
  rw [h.1, h.2, List.drop_zero, Nat.sub_zero, List.take_length]
def gSl (d : D) (lo hi : Option Int) (S : Sto) : Res D := match seqOf d S with
  | some (true, xs) => .ok (.p (.list (cutP xs lo hi))) S
  | some (false, xs) => .ok (.p (.tuple (cutP xs lo hi))) S
  | none => .stuck
def mSl (m : ME) (lo hi : MO) : ME := fun ρ S => (m ρ S).bind fun d S1 => (lo ρ S1).bind fun l S2 => (hi ρ S2).bind fun h S3 => gSl d l h S3
theorem seq_tup {d : D} {S : Sto} {xs : List PyData} (h : seqOf d S = some (false, xs)) : d = .p (.tuple xs) := by
  cases d with
  | p x => cases x <;> cases h; rfl
  | r l =>
    unfold seqOf at h
    simp only at h
    split at h <;> cases h
theorem ie_slice {lo hi : Option Expr} {p2 : Pos} {ml mh : MO} (ha : IE X E a ma) (hl : IPo X E lo ml) (hh : IPo X E hi mh) : IE X E (.Subscript a (.Slice lo hi none p2) pos) (mSl ma ml mh) := by
  obtain ⟨t, p, i⟩ := ha
  obtain ⟨tl, pl, il⟩ := hl
  obtain ⟨th, ph, ih⟩ := hh
  refine ⟨_, pe_slice (sl_list.or sl_tupA) p pl ph, fun U S H σ ρ Q s rl w => i U S H σ ρ _ s rl (w.bind.mono fun U1 S1 H1 d st1 s1 w1 v rv => il U1 S1 H1 σ ρ _ s1 (rl.step st1) (w1.bind.mono fun U2 S2 H2 l st2 s2 w2 => ih U2 S2 H2 σ ρ _ s2 ((rl.step st1).step st2) (w2.bind.mono fun U3 S3 H3 h st3 s3 w3 => ?_)))⟩
  have rv3 := (rv.step st2).step st3
  unfold gSl at w3
  split at w3
  · next xs hs =>
    obtain ⟨a, vs, rfl, q, r⟩ := seq_rel s3 rv3 hs
    exact .inl ⟨a, vs, rfl, .inl q, fun p hp => newL s3 (cut_rel r) hp w3⟩
  · next xs hs =>
    have e := seq_tup hs
    subst e
    cases rv3 with
    | tup hq ha =>
      refine .inr ⟨_, _, rfl, SqT.le s3.fz hq, fun hw => ?_, fun hw p hp => newT s3 (cut_rel ha) hp w3⟩
      rw [ha.length] at hw
      rw [cutP_whole hw] at w3
      exact (w3.ok s3) _ (.tup hq ha)
  · exact False.elim w3
end
end G


namespace G
open PySem L2

/-! ### calls of built-ins -/
abbrev GC := List D → Sto → Res D
abbrev GL := List D → Sto → Res (List PyData)
def mCB (g : GC) (n : MA) : ME := fun ρ S => (n ρ S).bind g
def mCL (g : GL) (n : MA) : ML := fun ρ S => (n ρ S).bind g
def ImpC (K : PySem.W.Frag) (E : EX) (r : List V → Hp → VK → Prop) (g : GC) : Prop := ∀ (U : Wd) (S : Sto) (H : Hp) (vs : List V) (ds : List D) (Q : VK), Sat K U S H → RelDs K U ds vs → Wants K E U H (g ds S) (KD K Q) → r vs H Q
def ImpCL (K : PySem.W.Frag) (E : EX) (r : List V → Hp → VK → Prop) (g : GL) : Prop := ∀ (U U0 : Wd) (S : Sto) (H H0 : Hp) (vs : List V) (ds : List D) (Q : VK), Step U0 H0 U H → Sat K U S H → RelDs K U ds vs → Wants K E U0 H0 (g ds S) (KL K H0 Q) → r vs H Q
section
variable {X : Cx} {E : EX} {x : Str} {p pos : Pos} {e : Expr} {es : List Expr} {na : MA} {id T : String} {r : List V → Hp → VK → Prop}
theorem ie_cb {g : GC} (hc : CallR X (.builtin id) r) (hi : ImpC X.K E r g) (hg : Gl X x) (hm : X.mg x = none) (hv : bootBuiltins x = some (.builtin id)) (ha : IA X E (e :: es) na) (hn : x ≠ "__name__" := by decide) (hdb : (x == ("__debug__" : Str)) = false := by decide)
    (he : starEach (e :: es) X.env = (false, eval e X.env) :: starEach es X.env := by rfl) (hpl : (backTo pos (starEach es X.env)).any (·.1) = false := by rfl) : IE X E (.Call (.Name x p) (e :: es) [] pos) (mCB g na) := by
  obtain ⟨⟨t, pt, i⟩, _⟩ := ha
  exact ⟨_, pe_callB hc hg hm hv pt hn hdb he hpl, fun U S H σ ρ Q s rl w => i U S H σ ρ _ s rl (w.bind.mono fun U1 S1 H1 ds st1 s1 w1 vs rv => hi U1 S1 H1 vs ds Q s1 rv w1)⟩
theorem ie_ct {g : GC} (hc : CallR X (.type T) r) (hi : ImpC X.K E r g) (hg : Gl X x) (hm : X.mg x = none) (hv : bootBuiltins x = some (.type T)) (ha : IA X E (e :: es) na) (hn : x ≠ "__name__" := by decide) (hdb : (x == ("__debug__" : Str)) = false := by decide)
    (he : starEach (e :: es) X.env = (false, eval e X.env) :: starEach es X.env := by rfl) (hpl : (backTo pos (starEach es X.env)).any (·.1) = false := by rfl) : IE X E (.Call (.Name x p) (e :: es) [] pos) (mCB g na) := by
  obtain ⟨⟨t, pt, i⟩, _⟩ := ha
  exact ⟨_, pe_callTy hc hg hm hv pt hn hdb he hpl, fun U S H σ ρ Q s rl w => i U S H σ ρ _ s rl (w.bind.mono fun U1 S1 H1 ds st1 s1 w1 vs rv => hi U1 S1 H1 vs ds Q s1 rv w1)⟩
theorem il_cb {g : GL} (hc : CallR X (.builtin id) r) (hi : ImpCL X.K E r g) (hg : Gl X x) (hm : X.mg x = none) (hv : bootBuiltins x = some (.builtin id)) (ha : IA X E (e :: es) na) (hn : x ≠ "__name__" := by decide) (hdb : (x == ("__debug__" : Str)) = false := by decide)
    (he : starEach (e :: es) X.env = (false, eval e X.env) :: starEach es X.env := by rfl) (hpl : (backTo pos (starEach es X.env)).any (·.1) = false := by rfl) : IL X E (.Call (.Name x p) (e :: es) [] pos) (mCL g na) := by
  obtain ⟨⟨t, pt, i⟩, _⟩ := ha
  exact ⟨_, pe_callB hc hg hm hv pt hn hdb he hpl, fun U S H σ ρ Q s rl w => i U S H σ ρ _ s rl (w.bindL.mono fun U1 S1 H1 ds st1 s1 w1 vs rv => hi U1 U S1 H1 H vs ds Q w1.1 s1 rv w1.2)⟩
theorem il_ct {g : GL} (hc : CallR X (.type T) r) (hi : ImpCL X.K E r g) (hg : Gl X x) (hm : X.mg x = none) (hv : bootBuiltins x = some (.type T)) (ha : IA X E (e :: es) na) (hn : x ≠ "__name__" := by decide) (hdb : (x == ("__debug__" : Str)) = false := by decide)
    (he : starEach (e :: es) X.env = (false, eval e X.env) :: starEach es X.env := by rfl) (hpl : (backTo pos (starEach es X.env)).any (·.1) = false := by rfl) : IL X E (.Call (.Name x p) (e :: es) [] pos) (mCL g na) := by
  obtain ⟨⟨t, pt, i⟩, _⟩ := ha
  exact ⟨_, pe_callTy hc hg hm hv pt hn hdb he hpl, fun U S H σ ρ Q s rl w => i U S H σ ρ _ s rl (w.bindL.mono fun U1 S1 H1 ds st1 s1 w1 vs rv => hi U1 U S1 H1 H vs ds Q w1.1 s1 rv w1.2)⟩
end
/-- one sequence as the argument -/
def gSeq (g : Bool → List PyData → Sto → Res D) : GC := fun ds S => match ds with
  | [d] => (match seqOf d S with
    | some (k, xs) => g k xs S
    | none => .stuck)
  | _ => .stuck
def gSeqL (g : Bool → List PyData → Sto → Res (List PyData)) : GL := fun ds S => match ds with
  | [d] => (match seqOf d S with
    | some (k, xs) => g k xs S
    | none => .stuck)
  | _ => .stuck
section
variable {K : PySem.W.Frag} {E : EX}
theorem imp_seq {r : List V → Hp → VK → Prop} {g : Bool → List PyData → Sto → Res D}
    (h : ∀ (U : Wd) (S : Sto) (H : Hp) (a : Addr) (k : Bool) (vs : List V) (xs : List PyData) (Q : VK), Sat K U S H → SqB K H a vs k → RpAll K U.F vs xs → Wants K E U H (g k xs S) (KD K Q) → r [.ref a] H Q) : ImpC K E r (gSeq g) := by
  intro U S H vs ds Q s rv w
  unfold gSeq at w
  split at w
  · next d =>
    split at w
    · next k xs hs =>
      obtain ⟨v, rfl, r1⟩ := rel1 rv
      obtain ⟨a, us, rfl, q, ra⟩ := seq_rel s r1 hs
      exact h U S H a k us xs Q s q ra w
    · exact False.elim w
  · exact False.elim w
theorem imp_seqL {r : List V → Hp → VK → Prop} {g : Bool → List PyData → Sto → Res (List PyData)}
    (h : ∀ (U U0 : Wd) (S : Sto) (H H0 : Hp) (a : Addr) (k : Bool) (vs : List V) (xs : List PyData) (Q : VK), Step U0 H0 U H → Sat K U S H → SqB K H a vs k → RpAll K U.F vs xs → Wants K E U0 H0 (g k xs S) (KL K H0 Q) → r [.ref a] H Q) : ImpCL K E r (gSeqL g) := by
  intro U U0 S H H0 vs ds Q st s rv w
  unfold gSeqL at w
  split at w
  · next d =>
    split at w
    · next k xs hs =>
      obtain ⟨v, rfl, r1⟩ := rel1 rv
      obtain ⟨a, us, rfl, q, ra⟩ := seq_rel s r1 hs
      exact h U U0 S H H0 a k us xs Q st s q ra w
    · exact False.elim w
  · exact False.elim w

/-! len, list(), tuple() -/
def gLen : GC := gSeq fun _ xs S => .ok (.p (.int xs.length)) S
theorem imp_len : ImpC K E (fun xs H Q => ∃ p ys, xs = [.ref p] ∧ (SqL K H p ys ∨ SqT K H p ys) ∧ Q (.int ys.length) H) gLen :=
  imp_seq fun U S H a k vs xs Q s q r w => ⟨a, vs, rfl, q.or, by rw [r.length]; exact (w.ok s) _ (.int _)⟩
def gList : GL := gSeqL fun _ xs S => .ok xs S
theorem imp_list : ImpCL K E (fun xs H Q => ∃ p ys, xs = [.ref p] ∧ (SqL K H p ys ∨ SqT K H p ys) ∧ ∀ l, H l = none → Q (.ref l) (upd H l (.lst ys))) gList :=
  imp_seqL fun U U0 S H H0 a k vs xs Q st s q r w => ⟨a, vs, rfl, q.or, fun l hl => layL st s r hl w⟩
def gTuple : GC := gSeq fun _ xs S => .ok (.p (.tuple xs)) S
theorem imp_tuple : ImpC K E (fun xs H Q => ∃ p ys, xs = [.ref p] ∧ ((SqL K H p ys ∧ ∀ l, H l = none → Q (.ref l) (upd H l (.tup ys))) ∨ (SqT K H p ys ∧ Q (.ref p) H))) gTuple := by
  intro U S H vs ds Q s rv w
  unfold gTuple gSeq at w
  split at w
  · next d =>
    split at w
    · next k xs hs =>
      obtain ⟨v, rfl, r1⟩ := rel1 rv
      cases k with
      | true =>
        obtain ⟨a, us, rfl, q, ra⟩ := seq_rel s r1 hs
        exact ⟨a, us, rfl, .inl ⟨.inl q, fun l hl => newT s ra hl w⟩⟩
      | false =>
        have e := seq_tup hs
        subst e
        cases r1 with
        | tup hq ha => exact ⟨_, _, rfl, .inr ⟨SqT.le s.fz hq, (w.ok s) _ (.tup hq ha)⟩⟩
    · exact False.elim w
  · exact False.elim w

/-! all, any, sum -/
def bools : List PyData → Option (List Bool)
  | [] => some []
  | .bool b :: xs => (bools xs).map (b :: ·)
  | _ :: _ => none
def intsOf : List PyData → Option (List Int)
  | [] => some []
  | .int b :: xs => (intsOf xs).map (b :: ·)
  | _ :: _ => none
theorem bools_rel {F : Hp} : ∀ {xs : List PyData} {bs : List Bool} {vs : List V}, bools xs = some bs → RpAll K F vs xs → vs = bs.map V.bl
  | [], _, _, h, .nil => by cases h; rfl
  | x :: xs, bs, _, h, .cons r t => by
    cases x with
    | bool b =>
      obtain ⟨bs', e, rfl⟩ := Option.map_eq_some_iff.mp (show (bools xs).map (b :: ·) = some bs from h)
      cases r
      rw [List.map_cons, bools_rel e t]
    | _ => cases h
theorem intsOf_rel {F : Hp} : ∀ {xs : List PyData} {bs : List Int} {vs : List V}, intsOf xs = some bs → RpAll K F vs xs → vs = bs.map V.int
  | [], _, _, h, .nil => by cases h; rfl
  | x :: xs, bs, _, h, .cons r t => by
    cases x with
    | int b =>
      obtain ⟨bs', e, rfl⟩ := Option.map_eq_some_iff.mp (show (intsOf xs).map (b :: ·) = some bs from h)
      cases r
      rw [List.map_cons, intsOf_rel e t]
    | _ => cases h
def gAll : GC := gSeq fun k xs S => match k, bools xs with
  | true, some bs => .ok (.p (.bool (bs.all id))) S
  | _, _ => .stuck
def gAny : GC := gSeq fun k xs S => match k, bools xs with
  | true, some bs => .ok (.p (.bool (bs.any id))) S
  | _, _ => .stuck
def gSum : GC := gSeq fun k xs S => match k, intsOf xs with
  | true, some bs => .ok (.p (.int bs.sum)) S
  | _, _ => .stuck
theorem imp_all : ImpC K E (rAll K) gAll := imp_seq fun U S H a k vs xs Q s q r w => by
  split at w
  · next bs hb =>
    have e := bools_rel hb r
    subst e
    exact ⟨a, bs, rfl, .inl q, (w.ok s) _ (.bl _)⟩
  · exact False.elim w
theorem imp_any : ImpC K E (rAny K) gAny := imp_seq fun U S H a k vs xs Q s q r w => by
  split at w
  · next bs hb =>
    have e := bools_rel hb r
    subst e
    exact ⟨a, bs, rfl, .inl q, (w.ok s) _ (.bl _)⟩
  · exact False.elim w
theorem imp_sum : ImpC K E (rSum K) gSum := imp_seq fun U S H a k vs xs Q s q r w => by
  split at w
  · next bs hb =>
    have e := intsOf_rel hb r
    subst e
    exact ⟨a, bs, rfl, .inl q, (w.ok s) _ (.int _)⟩
  · exact False.elim w

/-! min, max of two intsOf; str of an int -/
def gI2 (f : Int → Int → Int) : GC := fun ds S => match ds with
  | [.p (.int i), .p (.int j)] => .ok (.p (.int (f i j))) S
  | _ => .stuck
def gMin : GC := gI2 fun i j => if j < i then j else i
def gMax : GC := gI2 fun i j => if j > i then j else i
theorem imp_I2 {f : Int → Int → Int} : ImpC K E (fun xs H Q => ∃ i j, xs = [.int i, .int j] ∧ Q (.int (f i j)) H) (gI2 f) := by
  intro U S H vs ds Q s rv w
  unfold gI2 at w
  split at w
  · next i j =>
    obtain ⟨v, u, rfl, r1, r2⟩ := rel2 rv
    cases r1; cases r2
    exact ⟨i, j, rfl, (w.ok s) _ (.int _)⟩
  · exact False.elim w
def gStr : GC := fun ds S => match ds with
  | [.p (.int i)] => if i.natAbs.log2 < 1920 then .ok (.p (.str (toString i))) S else .stuck
  | _ => .stuck
theorem imp_str : ImpC K E (fun xs H Q => ∃ i, xs = [.int i] ∧ i.natAbs.log2 < 1920 ∧ Q (.str (toString i)) H) gStr := by
  intro U S H vs ds Q s rv w
  unfold gStr at w
  split at w
  · next i =>
    split at w
    · next hl =>
      obtain ⟨v, rfl, r1⟩ := rel1 rv
      cases r1
      exact ⟨i, rfl, hl, (w.ok s) _ (.str _)⟩
    · exact False.elim w
  · exact False.elim w

/-! isinstance -/
inductive Ty where
  | int | bool | str | list | tuple
def Ty.name : Ty → String
  | .int => "int"
  | .bool => "bool"
  | .str => "str"
  | .list => "list"
  | .tuple => "tuple"
def isT : Ty → PyData → Option Bool
  | .int, .int _ => some true
  | .int, .bool _ => some true
  | .bool, .bool _ => some true
  | .str, .str _ => some true
  | .list, .list _ => some true
  | .tuple, .tuple _ => some true
  | _, .dict _ => none
  | _, _ => some false
def isTs : List Ty → PyData → Option Bool
  | [], .dict _ => none
  | [], _ => some false
  | t :: ts, x => match isT t x with
    | some true => some true
    | some false => isTs ts x
    | none => none
def tyNm : PyData → String
  | .none => "NoneType"
  | .bool _ => "bool"
  | .int _ => "int"
  | .str _ => "str"
  | .list _ => "list"
  | .tuple _ => "tuple"
  | .dict _ => "dict"
theorem tupTy {H : Hp} {a : Addr} {xs : List V} (h : SqT K H a xs) : TyX K H (.ref a) (.type "tuple") := by
  rcases h with (h | ⟨o, h⟩) | ⟨o, _, _, h, hc, _⟩
  · exact .base (.tup h)
  · exact .fTuple h
  · exact .kTuple h hc
theorem lstTy {H : Hp} {a : Addr} {xs : List V} (h : Rd H a (.lst xs)) : TyX K H (.ref a) (.type "list") := by
  rcases h with h | ⟨o, h⟩
  · exact .base (.lst h)
  · exact .base (.frz h)
theorem tyOf {F H : Hp} (le : Le F H) {v : V} {x : PyData} (r : Rp K F v x) (hx : ∀ kvs, x ≠ .dict kvs) : TyX K H v (.type (tyNm x)) := by
  cases r with
  | non => exact .base .non
  | bl b => exact .base (.bl b)
  | int i => exact .base (.int i)
  | str i => exact .base (.str i)
  | lst h _ => exact lstTy (Rd.le le h)
  | tup h _ => exact tupTy (SqT.le le h)
  | dK h _ => exact absurd rfl (hx _)
  | dN h _ _ _ _ => exact absurd rfl (hx _)
def gTy (d : D) (S : Sto) : Option PyData := datOf d S
theorem kit1 (t : Ty) (x : PyData) {b : Bool} (h : isT t x = some b) : PySem.W.kitOne K (.type (tyNm x)) (.type t.name) = some b ∧ ∀ kvs, x ≠ .dict kvs := by
  cases t <;> cases x <;> cases h <;> (refine ⟨?_, fun _ e => nomatch e⟩; dsimp only [tyNm, Ty.name]; exact kit_ty (by decide +kernel))
theorem kitN : ∀ (ts : List Ty) (x : PyData) {b : Bool}, isTs ts x = some b → PySem.W.kitAny K (.type (tyNm x)) (ts.map fun t => Value.type t.name) = some b ∧ ∀ kvs, x ≠ .dict kvs
  | [], x, b, h => by
    cases x <;> cases h <;> exact ⟨kitAny_nil, fun _ e => nomatch e⟩
  | t :: ts, x, b, h => by
    unfold isTs at h
    split at h
    · next h1 =>
      cases h
      obtain ⟨k1, k2⟩ := kit1 (K := K) t x h1
      exact ⟨kitAny_cons k1 (fun e => nomatch e) fun _ => rfl, k2⟩
    · next h1 =>
      obtain ⟨k1, k2⟩ := kit1 (K := K) t x h1
      obtain ⟨k3, _⟩ := kitN ts x h
      exact ⟨kitAny_cons k1 (fun _ => k3) (fun e => nomatch e), k2⟩
    · cases h
def mIsi (ts : List Ty) (m : ME) : ME := fun ρ S => (m ρ S).bind fun d S1 => match datOf d S1 with
  | some x => (match isTs ts x with
    | some b => .ok (.p (.bool b)) S1
    | none => .stuck)
  | none => .stuck
theorem tyD {U : Wd} {S : Sto} {H : Hp} (s : Sat K U S H) {d : D} {v : V} {x : PyData} (r : RelD K U d v) (h : datOf d S = some x) (hx : ∀ kvs, x ≠ .dict kvs) : TyX K H v (.type (tyNm x)) := by
  cases d with
  | p y => cases h; exact tyOf s.fz r hx
  | r l =>
    obtain ⟨a, e, rfl⟩ := r
    unfold datOf at h
    simp only at h
    split at h
    · next ys hy =>
      cases h
      obtain ⟨vs, h1, r⟩ := s.lst e hy
      exact .base (.lst h1)
    · cases h
end
theorem boot_isinst : bootBuiltins (Str.ofString "isinstance") = some (.builtin "isinstance") := by decide +kernel
section
variable {X : Cx} {E : EX} {pos p : Pos} {a b c e : Expr} {ma mb mc : ME}
theorem ie_isi {t : Ty} {tn : Str} {p1 p2 : Pos} (hg : Gl X "isinstance") (hm : X.mg "isinstance" = none) (hg1 : Gl X tn) (hm1 : X.mg tn = none) (hv1 : bootBuiltins tn = some (.type t.name)) (ha : IE X E a ma)
    (hn : tn ≠ "__name__" := by decide) (hdb : (tn == ("__debug__" : Str)) = false := by decide)
    (hs1 : starEach [a, .Name tn p2] X.env = (false, eval a X.env) :: starEach [.Name tn p2] X.env := by rfl) (hs2 : starEach [.Name tn p2] X.env = (false, eval (.Name tn p2) X.env) :: starEach [] X.env := by rfl) (hpl : (backTo pos (starEach [.Name tn p2] X.env)).any (·.1) = false := by rfl) :
    IE X E (.Call (.Name "isinstance" p1) [a, .Name tn p2] [] pos) (mIsi [t] ma) := by
  obtain ⟨ta, pa, ia⟩ := ha
  refine ⟨_, pe_callB call_isi hg hm boot_isinst (pa_cons pa (pa_cons (pe_bltn (v := .ty t.name) hg1 hm1 hv1 rfl hn hdb) pa_nil hs2) hs1) (by decide) (by decide) hs1 hpl, fun U S H σ ρ Q s rl w => ia U S H σ ρ _ s rl (w.bind.mono fun U1 S1 H1 d st1 s1 w1 v rv => ?_)⟩
  split at w1
  · next x hx =>
    split at w1
    · next bb hb =>
      have hb' : isT t x = some bb := by
        unfold isTs at hb
        split at hb
        · next h => rw [h]; exact hb
        · next h =>
          rw [h]
          cases x <;> first | exact hb | cases hb
        · cases hb
      obtain ⟨k1, k2⟩ := kit1 (K := X.K) t x hb'
      exact ⟨v, .ty t.name, _, _, bb, rfl, .ty _, tyD s1 rv hx k2, k1, (w1.ok s1) _ (.bl _)⟩
    · exact False.elim w1
  · exact False.elim w1
theorem ie_isi2 {t u : Ty} {tn un : Str} {p1 p2 p3 p4 : Pos} {kk : _} (hg : Gl X "isinstance") (hm : X.mg "isinstance" = none) (hg1 : Gl X tn) (hm1 : X.mg tn = none) (hv1 : bootBuiltins tn = some (.type t.name)) (hg2 : Gl X un) (hm2 : X.mg un = none) (hv2 : bootBuiltins un = some (.type u.name)) (ha : IE X E a ma)
    (hn : tn ≠ "__name__" := by decide) (hdb : (tn == ("__debug__" : Str)) = false := by decide) (hn2 : un ≠ "__name__" := by decide) (hdb2 : (un == ("__debug__" : Str)) = false := by decide)
    (hs1 : starEach [a, .Tuple [.Name tn p2, .Name un p3] kk p4] X.env = (false, eval a X.env) :: starEach [.Tuple [.Name tn p2, .Name un p3] kk p4] X.env := by rfl)
    (hs2 : starEach [.Tuple [.Name tn p2, .Name un p3] kk p4] X.env = (false, eval (.Tuple [.Name tn p2, .Name un p3] kk p4) X.env) :: starEach [] X.env := by rfl)
    (hs3 : starEach [.Name tn p2, .Name un p3] X.env = (false, eval (.Name tn p2) X.env) :: starEach [.Name un p3] X.env := by rfl) (hs4 : starEach [.Name un p3] X.env = (false, eval (.Name un p3) X.env) :: starEach [] X.env := by rfl)
    (hpl : (backTo pos (starEach [.Tuple [.Name tn p2, .Name un p3] kk p4] X.env)).any (·.1) = false := by rfl) :
    IE X E (.Call (.Name "isinstance" p1) [a, .Tuple [.Name tn p2, .Name un p3] kk p4] [] pos) (mIsi [t, u] ma) := by
  obtain ⟨ta, pa, ia⟩ := ha
  refine ⟨_, pe_callB call_isiT hg hm boot_isinst (pa_cons pa (pa_cons (pe_tup (pa_cons (pe_bltn (v := .ty t.name) hg1 hm1 hv1 rfl hn hdb) (pa_cons (pe_bltn (v := .ty u.name) hg2 hm2 hv2 rfl hn2 hdb2) pa_nil hs4) hs3)) pa_nil hs2) hs1) (by decide) (by decide) hs1 hpl, fun U S H σ ρ Q s rl w => ia U S H σ ρ _ s rl (w.bind.mono fun U1 S1 H1 d st1 s1 w1 v rv => ⟨by show 2 ≤ sizeLine; decide, fun q hq => ?_⟩)⟩
  split at w1
  · next x hx =>
    split at w1
    · next bb hb =>
      obtain ⟨k1, k2⟩ := kitN (K := X.K) [t, u] x hb
      have s2 : Sat X.K U1 S1 (upd H1 q (.tup [.ty t.name, .ty u.name])) := s1.aside (s1.no hq) (s1.noi hq)
      have w2 := Wants.step ((Step.refl U1 H1).aside (o := .tup [.ty t.name, .ty u.name]) hq) w1
      exact ⟨v, q, _, _, _, bb, rfl, upd_same, .cons (.ty _) (.cons (.ty _) .nil), tyD s2 rv hx k2, k1, (Wants.ok w2 s2) _ (.bl _)⟩
    · exact False.elim w1
  · exact False.elim w1
end
end G


namespace G
open PySem L2

/-! ### sorted of a list or a tuple -/
section
variable {prog : Program} {w : World} {A : Around} {E : Value → Shared → Prop} {s : Shared}
open PyProof.Rows in
theorem collectT {l : Addr} {vs : List Value} {o : Obj} {n : Nat} {Q : List Value → Shared → Prop} (ho : s.heap.get? l = some o) (hc : o.cls = .type "tuple") (hd : o.data = .seq vs.toArray n) (hz : vs.length ≤ sizeLine)
    (q : Q vs { s with heap := (s.heap.push (seqObj "list" #[] 0)).update s.heap.objs.size (Obj.mapSeq (· ++ vs.toArray)) }) : wpAny (model prog w) A (collect (.ref l)) Q E s := by
  have k1 : (s.heap.push (seqObj "list" #[] 0)).get? l = some o := Heap.get?_push_of_some _ ho
  have k2 : (s.heap.push (seqObj "list" #[] 0)).get? s.heap.objs.size = some (seqObj "list" #[] 0) := Heap.get?_push_size _ rfl
  unfold collect
  refine wpAny_bind (wpAny_runValue (codeAny_builtin entry_proto_collect' (wpAny_bind (wpAny_newList (wpAny_pure ⟨Code.quiet_builtin _ (by decide +kernel), codeAny_builtin entry_list_iadd' ?_⟩)))))
  show wpAny _ _ (Builtin.List.listExtendWith (.ref s.heap.objs.size) (.ref l) (.ref s.heap.objs.size)) _ _ _
  unfold Builtin.List.listExtendWith
  refine wpAny_bind (wpAny_typeOf (T := "tuple") ⟨o, k1, hc⟩ ?_)
  have ht : (Value.type "tuple" == Value.type "tuple") = true := rfl
  rw [if_pos (by rw [ht, Bool.or_true])]
  refine wpAny_bind (listItems_at k1 hd (wpAny_bind (listItems_at k2 rfl ?_)))
  rw [if_neg (by simp)]
  refine wpAny_bind (listUpdate_at k2 rfl (wpAny_pure ?_) (Nat.zero_le _) (by simp only [Array.size_append, List.size_toArray, List.length_nil]; omega))
  refine wpAny_bind (m := load _) (wpAny_load (get?_update_seq k2 _) ?_)
  have e : ((#[] : Array Value) ++ vs.toArray).toList = vs := by simp
  show wpAny _ _ (pure ((#[] : Array Value) ++ vs.toArray).toList) Q E _
  rw [e]
  exact wpAny_pure q
open PyProof.Rows PySem.W in
theorem sortedT {l : Addr} {o : Obj} {vs : List Value} {n : Nat} {κ : PyProof.Rows.KeyKind} {Q : Value → Shared → Prop} (ho : s.heap.get? l = some o) (hc : o.cls = .type "tuple") (hd : o.data = .seq vs.toArray n)
    (S : SortsAt prog w A.in1.in1 { s with heap := sortingHeap (copyHeap s.heap vs) (s.heap.objs.size + 1) vs } κ vs) (hL : vs.length ≤ sizeLine)
    (h : Q (.ref (s.heap.objs.size + 1)) { s with heap := sortedAll s.heap vs (sortVals κ false vs vs).toArray }) : wpAny (model prog w) A (call (.builtin "sorted") [.ref l]) Q E s := by
  refine call_function_entry_kw kind_sorted plain_sorted entry_sorted (args_sorted1 _) ?_
  unfold Builtin.«sorted»
  refine wpAny_bind (m := checkCount "sorted" 1 1 _) (wpAny_pure (wpAny_bind (collectT ho hc hd hL (wpAny_bind (wpAny_newList ?_ hL)))))
  have z : ((s.heap.push (seqObj "list" #[] 0)).update s.heap.objs.size (Obj.mapSeq (· ++ vs.toArray))).objs.size = s.heap.objs.size + 1 := by rw [Heap.size_update, size_push']
  show wpAny _ _ _ _ _ { s with heap := copyHeap s.heap vs }
  rw [z]
  refine wpAny_bind (wpAny_holding (wpAny_call_entry_kw slot_list_sort ⟨_, copyHeap_at s.heap vs, rfl⟩ entry_list_sort ?_ (args_list_sort _)))
  refine wpAny_mono (list_sort_vals (A := A.in1.in1) (s := { s with heap := copyHeap s.heap vs }) (P := fun f s' => f = .done (.ret .none) ∧ Q (.ref (s.heap.objs.size + 1)) s') (copyHeap_at s.heap vs) S hL ⟨rfl, h⟩) (fun f s' hf => ?_) fun _ _ e => e
  obtain ⟨rfl, hq⟩ := hf
  exact ⟨_, rfl, wpAny_pure ⟨_, rfl, hq⟩⟩
end
/-! the data sorted -/
def srtAlike : List PyData → Bool
  | [] => true
  | x :: xs => xs.all (fun y => PySem.W.alike x y) && srtAlike xs
def srtKind (xs : List PyData) : Bool := xs.all (fun x => match x with | .tuple (_ :: _) => true | _ => false) || xs.all (fun x => match x with | .tuple _ => false | .none => false | _ => true)
/-- at most one: nothing is compared -/
def srtOne (xs : List PyData) : Bool := decide (xs.length ≤ 1) && xs.all (fun x => match x with | .none => false | _ => true)
def srtOk (xs : List PyData) : Bool := (lay (.list xs) && decide (xs.length ≤ 1000000)) && ((xs.all (fun x => PySem.W.alike x x) && srtAlike xs) && (srtKind xs || srtOne xs))
/-- insertion, structural: for evaluation -/
def ins1 (x : PyData) : List PyData → List PyData
  | [] => [x]
  | y :: ys => if PySem.W.dataLt y x = true then y :: ins1 x ys else x :: y :: ys
def isort : List PyData → List PyData
  | [] => []
  | x :: xs => ins1 x (isort xs)
def sortP (xs : List PyData) : List PyData := isort xs
theorem ins1_app {x : PyData} : ∀ {l1 l2 : List PyData}, (∀ b ∈ l1, PySem.W.dataLt b x = true) → (∀ c ∈ l2, PySem.W.dataLt c x = false) → ins1 x (l1 ++ l2) = l1 ++ x :: l2
  | [], [], _, _ => rfl
  | [], c :: l2, _, h => by
    show (if PySem.W.dataLt c x = true then c :: ins1 x l2 else x :: c :: l2) = x :: c :: l2
    rw [h c (List.mem_cons_self ..)]
    rfl
  | b :: l1, l2, h1, h2 => by
    show (if PySem.W.dataLt b x = true then b :: ins1 x (l1 ++ l2) else x :: b :: (l1 ++ l2)) = b :: (l1 ++ x :: l2)
    rw [h1 b (List.mem_cons_self ..), if_pos rfl, ins1_app (fun c hc => h1 c (List.mem_cons_of_mem _ hc)) h2]
theorem sortP_eq (xs : List PyData) : sortP xs = xs.mergeSort (PySem.W.dataLe false id) := by
  have ht : PySem.W.TotalLe (PySem.W.dataLe (β := PyData) false id) := PySem.W.sortLe_total _ _ _
  have tr : ∀ a b c : PyData, PySem.W.dataLe false id a b = true → PySem.W.dataLe false id b c = true → PySem.W.dataLe false id a c = true := fun a b c h1 h2 => ht.trans _ _ _ h1 h2
  have to : ∀ a b : PyData, (PySem.W.dataLe false id a b || PySem.W.dataLe false id b a) = true := fun a b => by rw [Bool.or_eq_true]; exact ht.total _ _
  have le_lt : ∀ a b : PyData, PySem.W.dataLe false id a b = !PySem.W.dataLt b a := fun a b => rfl
  induction xs with
  | nil => simp [sortP, isort]
  | cons x xs ih =>
    obtain ⟨l1, l2, e1, e2, h⟩ := List.mergeSort_cons (le := PySem.W.dataLe false id) tr to x xs
    have hp := List.pairwise_mergeSort (le := PySem.W.dataLe false id) tr to (x :: xs)
    rw [e1, List.pairwise_append] at hp
    show ins1 x (isort xs) = _
    rw [show isort xs = _ from ih, e1, e2]
    refine ins1_app (fun b hb => ?_) fun c hc => ?_
    · have := h b hb
      rw [le_lt] at this
      simpa using this
    · have := (List.pairwise_cons.mp hp.2.1).1 c hc
      rw [le_lt] at this
      simpa using this
theorem alike_all {xs : List PyData} (h1 : xs.all (fun x => PySem.W.alike x x) = true) (h2 : srtAlike xs = true) : PySem.W.AllAlike xs := by
  induction xs with
  | nil => intro d hd; cases hd
  | cons x xs ih =>
    simp only [srtAlike, List.all_cons, Bool.and_eq_true] at h1 h2
    have h3 := List.all_eq_true.mp h2.1
    have k := ih h1.2 h2.2
    intro d hd d' hd'
    rcases List.mem_cons.mp hd with e | q
    · rcases List.mem_cons.mp hd' with e' | q'
      · rw [e, e']; exact h1.1
      · rw [e]; exact h3 d' q'
    · rcases List.mem_cons.mp hd' with e' | q'
      · rw [PySem.W.alike_comm, e']; exact h3 d q
      · exact k d q d' q'
theorem kind_all {xs : List PyData} (h : srtKind xs = true) : PySem.W.Sortable xs := by
  unfold srtKind at h
  rw [Bool.or_eq_true] at h
  rcases h with h | h
  · refine .inl fun d hd => ?_
    have q := List.all_eq_true.mp h d hd
    cases d with
    | tuple ys =>
      cases ys with
      | nil => cases q
      | cons y ys => exact ⟨y, ys, rfl⟩
    | _ => cases q
  · refine .inr fun d hd => ?_
    have q := List.all_eq_true.mp h d hd
    cases d with
    | tuple ys => cases q
    | none => cases q
    | _ => exact ⟨fun e => (nomatch e), fun _ e => (nomatch e)⟩
def SrtAny (xs : List PyData) : Prop := PySem.W.Sortable xs ∨ (xs.length ≤ 1 ∧ ∀ d ∈ xs, d ≠ .none)
theorem kind_any {xs : List PyData} (h : (srtKind xs || srtOne xs) = true) : SrtAny xs := by
  rw [Bool.or_eq_true] at h
  rcases h with h | h
  · exact .inl (kind_all h)
  · unfold srtOne at h
    rw [Bool.and_eq_true, decide_eq_true_eq] at h
    refine .inr ⟨h.1, fun d hd e => ?_⟩
    subst e
    have q := List.all_eq_true.mp h.2 _ hd
    cases q
theorem sortsAny {prog : Program} {w : World} {A : Around} {s : Shared} {vs : List Value} {ds : List PyData} (e : PySem.W.EachIs (fun v d => ∃ as, Reads s.heap v d as) vs ds) (hal : PySem.W.AllAlike ds) (hk : SrtAny ds) (hu : ∀ d, d ∈ ds → A.units + d.depth < cLine) : PySem.W.SortsAt prog w A s (PySem.W.dataKind s.heap ds) vs := by
  rcases hk with hk | ⟨hl, hn⟩
  · exact PySem.W.SortsAt.data e hal hk hu
  · refine ⟨fun v hv => ?_, PyProof.Rows.general', fun E x y a b Q ha hb hq => ?_, fun h2 => absurd h2 (by rw [e.length]; omega)⟩
    · obtain ⟨d, hd, as, r⟩ := e.left v hv
      exact ⟨_, PySem.W.dataKind_some hal hd r⟩
    · obtain ⟨d, as, hd, ra, rfl⟩ := PySem.W.dataKind_inv ha
      obtain ⟨d', as', hd', rb, rfl⟩ := PySem.W.dataKind_inv hb
      exact PySem.W.oneLt_alike (f := false) (fun z => by cases z) ra rb (hal d hd d' hd') (hn d hd) (Nat.lt_of_le_of_lt (Nat.add_le_add_left (Nat.min_le_left _ _) _) (hu d hd)) hq
def gSorted : GL := gSeqL fun _ xs S => if srtOk xs = true then .ok (sortP xs) S else .stuck
section
variable {X : Cx} {E : EX}
theorem each_reads {h : Heap} : ∀ {vs : List Value} {ds : List PyData} {as : List Addr}, ReadsAll h vs ds as → PySem.W.EachIs (fun v b => ∃ as, Reads h v b as) vs ds
  | _, _, _, .nil => .nil
  | _, _, _, .cons h1 h2 => .cons ⟨_, h1⟩ (each_reads h2)
theorem each_vals {K : PySem.W.Frag} {F : Hp} : ∀ {vs : List V} {us : List Value} {ds : List PyData}, Vals vs us → RpAll K F vs ds → PySem.W.EachIs (fun (u : Value) (d : PyData) => ∃ v, RelV v u ∧ Rp K F v d) us ds
  | _, _, _, .nil, .nil => .nil
  | _, _, _, .cons r t, .cons q z => .cons ⟨_, r, q⟩ (each_vals t z)
theorem vals_each {K : PySem.W.Frag} {F : Hp} : ∀ {us : List Value} {ds : List PyData}, PySem.W.EachIs (fun (u : Value) (d : PyData) => ∃ v, RelV v u ∧ Rp K F v d) us ds → ∃ vs, Vals vs us ∧ RpAll K F vs ds
  | _, _, .nil => ⟨[], .nil, .nil⟩
  | _, _, .cons ⟨v, r, q⟩ t => by
    obtain ⟨vs, h1, h2⟩ := vals_each t
    exact ⟨v :: vs, .cons r h1, .cons q h2⟩
/-- what sorted wants: the items are data; a new list of SOME values that stand for the sorted data -/
def rSrt (K : PySem.W.Frag) : List V → Hp → VK → Prop := fun vs H Q => ∃ (a : Addr) (k : Bool) (xs : List V) (ds : List PyData) (F : Hp), vs = [V.ref a] ∧ SqB K H a xs k ∧ Le F H ∧ RpAll K F xs ds ∧ srtOk ds = true ∧
  ∀ ys p, H p = none → RpAll K F ys (sortP ds) → Q (.ref p) (upd H p (.lst ys))
theorem depth_mem {xs : List PyData} {x : PyData} (h : x ∈ xs) : x.depth ≤ PyData.depthAll xs := by
  induction xs with
  | nil => cases h
  | cons y ys ih =>
    rw [PyData.depthAll]
    rcases List.mem_cons.mp h with rfl | h
    · exact Nat.le_max_left _ _
    · exact Nat.le_trans (ih h) (Nat.le_max_right _ _)
theorem cr_srt (hu : X.A.units + 100 < cLine) : CallR X (.builtin "sorted") (rSrt X.K) := by
  intro pins s σ H vs us Q I r h
  obtain ⟨a, k, xs, ds, F, rfl, hq, hF, ra, ok, q⟩ := h
  rw [Vals.ref1 r]
  unfold srtOk at ok
  simp only [Bool.and_eq_true, decide_eq_true_eq] at ok
  obtain ⟨⟨l1, l2⟩, ⟨l3, l4⟩, l5⟩ := ok
  have hal := alike_all l3 l4
  have hk := kind_any l5
  have dp : DpAll X.K H xs ds := RpAll.dp hF ra (lay_can l1)
  have hdep : ∀ d, d ∈ ds → X.A.units + 2 + d.depth < cLine := fun d hd => by
    have h1 := SeqAt.depth_of_shaped l1
    rw [PyData.depth] at h1
    have h2 := depth_mem hd
    omega
  -- what is left: the values of the items
  have fin : ∀ (its : List Value), Vals xs its → (∀ Q' : Value → Shared → Prop, (∀ out : List Value, out.length = ds.length → PySem.W.EachIs (fun (u : Value) (d : PyData) => ∃ v, RelV v u ∧ Rp X.K F v d) out (ds.mergeSort (PySem.W.dataLe false id)) → Q' (.ref (s.heap.objs.size + 1)) { s with heap := PyProof.Rows.sortedAll s.heap its out.toArray }) → wpAny (model X.prog X.w) X.A (call (.builtin "sorted") [.ref a]) Q' X.xe s) → wpAny (model X.prog X.w) X.A (call (.builtin "sorted") [.ref a]) (EP X pins σ Q) X.xe s := fun its rv run => by
    refine run _ fun out hl ho => ?_
    obtain ⟨ys, v1, v2⟩ := vals_each ho
    obtain ⟨ep, he⟩ := PyProof.Rows.sortedAll_at s.heap its out.toArray
    have hy : ys.length ≤ sizeLine := by
      rw [v2.length, List.length_mergeSort]; exact line6 l2
    exact ⟨.ref _, upd H (s.heap.objs.size + 1) (.lst ys), I.laid (t' := s.toks) (fun _ _ => PyProof.Rows.sortedAll_old) (Nat.le_succ _) ⟨hy, out, ep, v1, by simpa using he⟩, rfl, q ys _ (I.hok.fresh (Nat.le_succ _)) (by rw [sortP_eq]; exact v2)⟩
  cases k with
  | true =>
    obtain ⟨z, its, n, rv, e⟩ := hq.ok I.hok
    obtain ⟨as, hr⟩ := Dp.readsAll I ds xs its dp rv
    have hlen : its.length = ds.length := by rw [← rv.length]; exact ra.length
    refine fin its rv fun Q' hQ => ?_
    have er := each_reads hr
    have er' : PySem.W.EachIs (fun v b => ∃ as, Reads (PySem.W.sortingHeap (PySem.W.copyHeap s.heap its) (s.heap.objs.size + 1) its) v b as) its ds := er.mono fun _ _ ⟨as, r⟩ => ⟨as, PyProof.Rows.Reads.keeps (fun _ _ => PySem.W.sorting_copy_old) r⟩
    refine PySem.W.sorted_vals (vs := its) ⟨_, e, rfl, n, rfl⟩ (sortsAny (s := { s with heap := PySem.W.sortingHeap (PySem.W.copyHeap s.heap its) (s.heap.objs.size + 1) its }) er' hal hk fun d hd => ?_) (by rw [hlen]; exact line6 l2) ?_
    · have := hdep d hd
      show X.A.units + 1 + 1 + d.depth < cLine
      omega
    · refine hQ _ (by rw [PySem.W.sortVals_length false rfl]; exact hlen) ?_
      have h1 := PySem.W.sortVals_data (enc := id) false (each_vals rv ra) (show PySem.W.EachIs (fun v b => ∃ as, Reads (PySem.W.sortingHeap (PySem.W.copyHeap s.heap its) (s.heap.objs.size + 1) its) v (id b) as) its ds from er') (by rw [List.map_id]; exact hal)
      rw [List.map_id] at h1
      exact h1
  | false =>
    obtain ⟨its, rv, ⟨o, ho, hc, n, hd⟩, hz⟩ := I.tuple hq
    obtain ⟨as, hr⟩ := Dp.readsAll I ds xs its dp rv
    have hlen : its.length = ds.length := by rw [← rv.length]; exact ra.length
    refine fin its rv fun Q' hQ => ?_
    have er := each_reads hr
    have er' : PySem.W.EachIs (fun v b => ∃ as, Reads (PySem.W.sortingHeap (PySem.W.copyHeap s.heap its) (s.heap.objs.size + 1) its) v b as) its ds := er.mono fun _ _ ⟨as, r⟩ => ⟨as, PyProof.Rows.Reads.keeps (fun _ _ => PySem.W.sorting_copy_old) r⟩
    refine sortedT ho hc hd (sortsAny (s := { s with heap := PySem.W.sortingHeap (PySem.W.copyHeap s.heap its) (s.heap.objs.size + 1) its }) er' hal hk fun d hd => ?_) (by rw [hlen]; exact line6 l2) ?_
    · have := hdep d hd
      show X.A.units + 1 + 1 + d.depth < cLine
      omega
    · refine hQ _ (by rw [PySem.W.sortVals_length false rfl]; exact hlen) ?_
      have h1 := PySem.W.sortVals_data (enc := id) false (each_vals rv ra) (show PySem.W.EachIs (fun v b => ∃ as, Reads (PySem.W.sortingHeap (PySem.W.copyHeap s.heap its) (s.heap.objs.size + 1) its) v (id b) as) its ds from er') (by rw [List.map_id]; exact hal)
      rw [List.map_id] at h1
      exact h1
theorem imp_srt {K : PySem.W.Frag} : ImpCL K E (rSrt K) gSorted := imp_seqL fun U U0 S H H0 a k vs xs Q st s q r w => by
  split at w
  · next hok => exact ⟨a, k, vs, xs, U.F, rfl, q, s.fz, r, hok, fun ys p hp ry => layL st s ry hp w⟩
  · exact False.elim w
end
end G


namespace G
open PySem L2

/-! ### comparisons in a chain of any length -/
structure CH (X : Cx) (ops : List CmpOp) (rs : List Expr) (t : V → L2.St → Hp → VK → Prop) : Prop where
  run : ∀ (pos : Pos) (pins : List (Addr × Obj)) (s : Shared) (σ : L2.St) (H : Hp) (x : V) (v : Value) (Q : VK), L2.Inv X pins σ H s → RelV x v → t x σ H Q → wpAny (model X.prog X.w) X.A (compareChain pos v ops (evalEach rs X.env)) (EP X pins σ Q) X.xe s
  runT : ∀ (pos : Pos) (pins : List (Addr × Obj)) (s : Shared) (σ : L2.St) (H : Hp) (x : V) (v : Value) (Q : Bool → Hp → Prop), L2.Inv X pins σ H s → RelV x v → t x σ H (fun z H' => ∃ k, z = .bl k ∧ Q k H') → wpAny (model X.prog X.w) X.A (testChain pos v ops (evalEach rs X.env)) (TP X pins σ Q) X.xe s
abbrev MCh := D → ME
structure ICH (X : Cx) (E : EX) (ops : List CmpOp) (rs : List Expr) (m : MCh) : Prop where
  ex : ∃ t, CH X ops rs t ∧ ∀ (U : Wd) (S : Sto) (H : Hp) (σ : L2.St) (ρ : Loc) (x : V) (d : D) (Q : VK), Sat X.K U S H → RelL X.K U ρ σ → RelD X.K U d x → Wants X.K E U H (m d ρ S) (KD X.K Q) → t x σ H Q
def cLast (g : D → D → Sto → Res D) (mb : ME) : MCh := fun d ρ S => (mb ρ S).bind fun e S1 => g d e S1
def cLink (g : D → D → Sto → Res D) (mb : ME) (mc : MCh) : MCh := fun d ρ S => (mb ρ S).bind fun e S1 => (g d e S1).bind fun z S2 => (toB z S2).bind fun k S3 => if k = true then mc e ρ S3 else .ok (.p (.bool false)) S3
def mCh (ma : ME) (mc : MCh) : ME := fun ρ S => (ma ρ S).bind fun d S1 => mc d ρ S1
section
variable {X : Cx} {E : EX} {pos : Pos} {a b c e : Expr} {es : List Expr} {ma mb : ME} {op op' : CmpOp} {ops : List CmpOp} {r' : Expr} {rs : List Expr} {r : R2} {g : D → D → Sto → Res D} {mc : MCh}
open PyProof.Rows in
theorem ch_last (ho : OpR X (compareOp op) r) (hg : ImpO X.K E r g) (hb : IE X E b mb) : ICH X E [op] [b] (cLast g mb) := by
  obtain ⟨t, p, i⟩ := hb
  refine ⟨fun x σ H Q => t σ H fun y H1 => r x y H1 Q, ⟨fun pos pins s σ H x v Q I rx h => ?_, fun pos pins s σ H x v Q I rx h => ?_⟩, fun U S H σ ρ x d Q s rl rd w => i U S H σ ρ _ s rl (w.bind.mono fun U1 S1 H1 e st1 s1 w1 v rv => hg U1 S1 H1 x v d e Q s1 (rd.step st1) rv w1)⟩
  · exact chain_last (thn (p.run pins s σ H _ I h) fun u s1 ⟨y, H1, I1, r1, q1⟩ => ho pins s1 σ H1 x y v u Q I1 rx r1 q1)
  · refine test_last (thn (p.run pins s σ H _ I h) fun u s1 ⟨y, H1, I1, r1, q1⟩ => thn (ho pins s1 σ H1 x y v u _ I1 rx r1 q1) fun z s2 ⟨zv, H2, I2, r2, k, e, q2⟩ => ?_)
    subst e
    cases r2
    exact wpAny_truthy_bool ⟨H2, I2, q2⟩
open PyProof.Rows in
theorem ch_link (ho : OpR X (compareOp op) r) (hg : ImpO X.K E r g) (hb : IE X E b mb) (hc : ICH X E (op' :: ops) (r' :: rs) mc) : ICH X E (op :: op' :: ops) (b :: r' :: rs) (cLink g mb mc) := by
  obtain ⟨t, p, i⟩ := hb
  obtain ⟨u, c1, j⟩ := hc
  refine ⟨fun x σ H Q => t σ H fun y H1 => r x y H1 fun z H2 => ∃ k, z = .bl k ∧ if k = true then u y σ H2 Q else Q (.bl false) H2, ⟨fun pos pins s σ H x v Q I rx h => ?_, fun pos pins s σ H x v Q I rx h => ?_⟩, fun U S H σ ρ x d Q s rl rd w => ?_⟩
  · refine chain_link (thn (p.run pins s σ H _ I h) fun uu s1 ⟨y, H1, I1, r1, q1⟩ => thn (ho pins s1 σ H1 x y v uu _ I1 rx r1 q1) fun z s2 ⟨zv, H2, I2, r2, k, e, q2⟩ => ?_)
    subst e
    cases r2
    refine wpAny_truthy_bool ?_
    cases k with
    | false => exact ite_ff ⟨.bl false, H2, I2, rfl, q2⟩
    | true => exact ite_tt (c1.run pos pins s2 σ H2 y uu Q I2 r1 q2)
  · refine test_link (thn (p.run pins s σ H _ I h) fun uu s1 ⟨y, H1, I1, r1, q1⟩ => thn (ho pins s1 σ H1 x y v uu _ I1 rx r1 q1) fun z s2 ⟨zv, H2, I2, r2, k, e, q2⟩ => ?_)
    subst e
    cases r2
    refine wpAny_truthy_bool ?_
    cases k with
    | false =>
      obtain ⟨k', e', q'⟩ := q2
      cases e'
      exact ite_ff ⟨H2, I2, q'⟩
    | true => exact ite_tt (c1.runT pos pins s2 σ H2 y uu Q I2 r1 q2)
  · refine i U S H σ ρ _ s rl (w.bind.mono fun U1 S1 H1 e st1 s1 w1 v rv => hg U1 S1 H1 x v d e _ s1 (rd.step st1) rv (w1.bind.mono fun U2 S2 H2 z st2 s2 w2 y ry => ?_))
    unfold toB at w2
    split at w2
    · next k =>
      cases ry
      refine ⟨k, rfl, ?_⟩
      cases k with
      | true => exact j U2 S2 H2 σ ρ v e Q s2 ((rl.step st1).step st2) (rv.step st2) w2
      | false => exact (Wants.ok w2 s2) _ (.bl false)
    · exact False.elim w2
theorem imp_mCh {t : TE} {u : V → L2.St → Hp → VK → Prop} (i : ImpE X.K E t ma) (j : ∀ (U : Wd) (S : Sto) (H : Hp) (σ : L2.St) (ρ : Loc) (x : V) (d : D) (Q : VK), Sat X.K U S H → RelL X.K U ρ σ → RelD X.K U d x → Wants X.K E U H (mc d ρ S) (KD X.K Q) → u x σ H Q) :
    ImpE X.K E (fun σ H Q => t σ H fun x H1 => u x σ H1 Q) (mCh ma mc) := fun U S H σ ρ Q s rl w => i U S H σ ρ _ s rl (w.bind.mono fun U1 S1 H1 d st1 s1 w1 v rv => j U1 S1 H1 σ ρ v d Q s1 (rl.step st1) rv w1)
open PyProof.Rows in
theorem ie_ch (ha : IE X E a ma) (hc : ICH X E (op :: op' :: ops) (b :: r' :: rs) mc) (hm : lastMarks (op :: op' :: ops) (b :: r' :: rs) = false := by with_unfolding_all rfl) : IE X E (.Compare a (op :: op' :: ops) (b :: r' :: rs) pos) (mCh ma mc) := by
  obtain ⟨t, p, i⟩ := ha
  obtain ⟨u, c1, j⟩ := hc
  exact ⟨_, ⟨fun pins s σ H Q I h => Compare_chain (thn (p.run pins s σ H _ I h) fun v s1 ⟨x, H1, I1, r1, q1⟩ => c1.run pos pins s1 σ H1 x v Q I1 r1 q1) hm⟩, imp_mCh i j⟩
open PyProof.Rows in
theorem it_ch (ha : IE X E a ma) (hc : ICH X E (op :: op' :: ops) (b :: r' :: rs) mc) (hm : lastMarks (op :: op' :: ops) (b :: r' :: rs) = false := by with_unfolding_all rfl) : IT X E (.Compare a (op :: op' :: ops) (b :: r' :: rs) pos) (mTest (mCh ma mc)) := by
  obtain ⟨t, p, i⟩ := ha
  obtain ⟨u, c1, j⟩ := hc
  exact ⟨_, ⟨fun pins s σ H Q I h => isTrue_chain (thn (p.run pins s σ H _ I h) fun v s1 ⟨x, H1, I1, r1, q1⟩ => c1.runT pos pins s1 σ H1 x v Q I1 r1 q1) hm⟩, impTest (imp_mCh i j)⟩
theorem cl_lt (hu : X.A.units + 64 < cLine) (hb : IE X E b mb) : ICH X E [.Lt] [b] (cLast gLt mb) := ch_last (op_ltA hu) imp_lt hb
theorem cl_le (hu : X.A.units + 64 < cLine) (hb : IE X E b mb) : ICH X E [.LtE] [b] (cLast gLe mb) := ch_last (op_leA hu) imp_le hb
theorem ck_lt (hu : X.A.units + 64 < cLine) (hb : IE X E b mb) (hc : ICH X E (op' :: ops) (r' :: rs) mc) : ICH X E (.Lt :: op' :: ops) (b :: r' :: rs) (cLink gLt mb mc) := ch_link (op_ltA hu) imp_lt hb hc
theorem ck_le (hu : X.A.units + 64 < cLine) (hb : IE X E b mb) (hc : ICH X E (op' :: ops) (r' :: rs) mc) : ICH X E (.LtE :: op' :: ops) (b :: r' :: rs) (cLink gLe mb mc) := ch_link (op_leA hu) imp_le hb hc
end

/-! ### * -/
section
variable {K : PySem.W.Frag} {E : EX}
def gMul : D → D → Sto → Res D := i2 cMul fun i j => .int (i * j)
theorem imp_mul : ImpO K E (rI CMul fun i j => .int (i * j)) gMul := imp_rI (fun _ _ h => cMul_of h) fun _ _ _ => .int _
/-- a display times an int -/
def mRep (m : ML) (n : ME) : ML := fun ρ S => (m ρ S).bind fun xs S1 => (n ρ S1).bind fun d S2 => match d with
  | .p (.int k) => if (inB k && decide (xs.length * k.toNat ≤ 1000000)) = true then .ok (List.replicate k.toNat xs).flatten S2 else .stuck
  | _ => .stuck
theorem RpAll.rep {F : Hp} {vs : List V} {xs : List PyData} (h : RpAll K F vs xs) : ∀ k : Nat, RpAll K F (List.replicate k vs).flatten (List.replicate k xs).flatten
  | 0 => .nil
  | k + 1 => by
    rw [List.replicate_succ, List.replicate_succ, List.flatten_cons, List.flatten_cons]
    exact RpAll.append h (RpAll.rep h k)
end
section
variable {X : Cx} {E : EX} {pos : Pos} {a b c e : Expr} {es : List Expr} {ma mb mc : ME}
theorem ie_mul (ha : IE X E a ma) (hb : IE X E b mb) : IE X E (.BinOp a .Mult b pos) (m2 gMul ma mb) := ie_op op_mul imp_mul ha hb
theorem il_rep {m : ML} (ha : IL X E a m) (hb : IE X E b mb) : IL X E (.BinOp a .Mult b pos) (mRep m mb) := by
  obtain ⟨ta, pa, ia⟩ := ha
  obtain ⟨tb, pb, ib⟩ := hb
  refine ⟨_, pe_op op_rep pa pb, fun U S H σ ρ Q s rl w => ia U S H σ ρ _ s rl ?_⟩
  unfold mRep at w
  cases hh : m ρ S with
  | stuck => rw [hh] at w; exact w
  | exc c S' => rw [hh] at w; exact w
  | ok xs S1 =>
    rw [hh] at w
    intro U1 H1 st1 s1 p vs hp hF hi ho r
    have w1 : Wants X.K E U H ((mb ρ S1).bind fun d S2 => match d with
      | .p (.int k) => if (inB k && decide (xs.length * k.toNat ≤ 1000000)) = true then .ok (List.replicate k.toNat xs).flatten S2 else .stuck
      | _ => .stuck) (KL X.K H Q) := w
    refine ib U1 S1 H1 σ ρ _ s1 (rl.step st1) ?_
    cases hh2 : mb ρ S1 with
    | stuck => rw [hh2] at w1; exact w1
    | exc c S' => rw [hh2] at w1; exact fun U' H' st s' => w1 U' H' (st1.trans st) s'
    | ok d S2 =>
      rw [hh2] at w1
      intro U2 H2 st2 s2 v rv
      obtain ⟨h2, f2, i2⟩ := st2.aloof ho hF hi
      cases d with
      | r l => exact False.elim w1
      | p y =>
        cases y with
        | int k =>
          cases rv
          have w2 : Wants X.K E U H (if (inB k && decide (xs.length * k.toNat ≤ 1000000)) = true then .ok (List.replicate k.toNat xs).flatten S2 else .stuck) (KL X.K H Q) := w1
          split at w2
          · next hk =>
            rw [Bool.and_eq_true, decide_eq_true_eq] at hk
            have hb := inB_of hk.1
            exact ⟨p, k, vs, rfl, rfl, h2, by omega, by omega, by rw [r.length]; exact line6 hk.2, fun q hq => layL (st1.trans st2) s2 ((r.sub st2.ef).rep k.toNat) hq w2⟩
          · exact False.elim w2
        | _ => exact False.elim w1

/-! ### freezing, from a statement on -/
def thaw (o : Ob) : PyData := match o with
  | .lst xs => .list xs
  | .dct kvs => .dict kvs
  | .ins _ _ => .none
  | .tab _ _ => .none
  | .drs _ => .none
def mFz (i : Nat) (m : MS) : MS := fun ρ S => match ρ[i]? with
  | some (some (.r l)) => (match S[l]? with
    | some (some (.ins _ _)) => .stuck
    | some (some (.tab _ _)) => .stuck
    | some (some (.drs _)) => .stuck
    | some (some o) => m (ρ.set i (some (.p (thaw o)))) (S.set l none)
    | _ => .stuck)
  | _ => .stuck
theorem ob_rp {K : PySem.W.Frag} {U : Wd} {a : Addr} {o : HO} {b : Ob} (ho : ObIs K U a o b) (hF : U.F a = none) (hb : ∀ C fs, b ≠ .ins C fs) (hb2 : ∀ P q, b ≠ .tab P q) (hb3 : ∀ ds, b ≠ .drs ds) : Rp K (upd U.F a o) (.ref a) (thaw b) := by
  have sb : Sub U.F (upd U.F a o) := Sub.upd hF
  cases b with
  | lst xs =>
    obtain ⟨vs, rfl, r⟩ := ho
    exact .lst (.inl upd_same) (r.sub sb)
  | dct kvs =>
    cases o with
    | dK ks => obtain ⟨ds, r, rfl⟩ := ho; exact .dK upd_same (r.sub sb)
    | ext φ => obtain ⟨xs, vs, ds, rfl, v, r, k, rfl, n⟩ := ho; exact .dN upd_same v (r.sub sb) (k.sub sb) n
    | _ => exact ho.elim
  | ins C fs => exact absurd rfl (hb C fs)
  | tab P q => exact absurd rfl (hb2 P q)
  | drs ds => exact absurd rfl (hb3 ds)
theorem imp_fz {K : PySem.W.Frag} {i : Nat} {t : TS} {m : MS} (h : ImpS K E t m) : ImpS K E t (mFz i m) := by
  intro U S H σ ρ N s rl w
  unfold mFz at w
  split at w
  · next l hl =>
    split at w
    · exact False.elim w
    · exact False.elim w
    · exact False.elim w
    · next o hno hno2 hno3 ho =>
      obtain ⟨v, hv, a, ha, rfl⟩ := rl.get i _ hl
      obtain ⟨hF, oo, h1, h2⟩ := s.ob l a o ha ho
      have st : Step U H ⟨upd U.F a oo, U.io⟩ H := Step.freeze ha hF
      have s' : Sat K ⟨upd U.F a oo, U.io⟩ (S.set l none) H := s.freeze ha ho h1
      refine h _ _ H σ _ N s' ((rl.step st).setL i (d := .p (thaw o)) (fun u hu => ?_) ⟨_, hl⟩) (Wants.step st w)
      rw [hv] at hu
      cases hu
      exact ob_rp h2 hF (fun C fs e => hno C fs (by rw [e])) (fun P q e => hno2 P q (by rw [e])) (fun ds e => hno3 ds (by rw [e]))
    · exact False.elim w
  · exact False.elim w
theorem is_fz {st : Stmt} {m : MS} (i : Nat) (h : IS X E st m) : IS X E st (mFz i m) := by
  obtain ⟨t, p, j⟩ := h
  exact ⟨_, p, imp_fz j⟩

/-! ### methods of lists -/
abbrev GM := D → List D → Sto → Res D
def isLst (d : D) (S : Sto) : Bool := match seqOf d S with
  | some (true, _) => true
  | _ => false
def mMth (g : GM) (mo : ME) (na : MA) : ME := fun ρ S => (mo ρ S).bind fun d S1 => if isLst d S1 = true then (na ρ S1).bind fun ds S2 => g d ds S2 else .stuck
def ImpM (K : PySem.W.Frag) (E : EX) (r : V → List V → Hp → VK → Prop) (g : GM) : Prop := ∀ (U : Wd) (S : Sto) (H : Hp) (x : V) (d : D) (vs : List V) (ds : List D) (Q : VK), Sat K U S H → RelD K U d x → RelDs K U ds vs → Wants K E U H (g d ds S) (KD K Q) → r x vs H Q
theorem lst_ty {K : PySem.W.Frag} {U : Wd} {S : Sto} {H : Hp} {d : D} {x : V} (s : Sat K U S H) (r : RelD K U d x) (h : isLst d S = true) : tyV K "list" x H := by
  unfold isLst at h
  split at h
  · next xs hs =>
    obtain ⟨a, vs, rfl, q, _⟩ := seq_rel s r hs
    exact .inl ⟨rfl, vs, .inl q⟩
  · cases h
theorem ie_mth {o : Expr} {id : String} {name : Str} {apos cpos : Pos} {mo : ME} {na : MA} {r : V → List V → Hp → VK → Prop} {g : GM} (hm : MtR X id r) (hi : ImpM X.K E r g) (slot : Slot "list" name id) (hty : typeOf (.builtin id) = pure (.type "method_descriptor")) (ho : IE X E o mo) (ha : IA X E (e :: es) na)
    (hbase : attributeBase o name X.env (eval o X.env) = eval o X.env := by rfl)
    (hfew : ((backTo cpos (starEach (e :: es) X.env)).all (fun x => !x.1) && (backToKw cpos (keywordEach [] X.env)).all (fun x => x.1.isSome) && decide ((e :: es).length + ([] : List Keyword).length + (if ([] : List Keyword).isEmpty then 0 else 1) < 30)) = true := by rfl)
    (hline : (apos.endLine == cpos.line) = true := by rfl) (hs : starEach (e :: es) X.env = (false, eval e X.env) :: starEach es X.env := by rfl) (hplain : (backTo cpos (starEach es X.env)).any (·.1) = false := by rfl) :
    IE X E (.Call (.Attribute o name apos) (e :: es) [] cpos) (mMth g mo na) := by
  obtain ⟨t, p, i⟩ := ho
  obtain ⟨⟨u, q, j⟩, _⟩ := ha
  refine ⟨_, pe_bm PySem.F.plainAttrs_list slot hty hm p q hbase hfew hline hs hplain, fun U S H σ ρ Q s rl w => i U S H σ ρ _ s rl (w.bind.mono fun U1 S1 H1 d st1 s1 w1 v rv => ?_)⟩
  split at w1
  · next hl => exact ⟨lst_ty s1 rv hl, j U1 S1 H1 σ ρ _ s1 (rl.step st1) (w1.bind.mono fun U2 S2 H2 ds st2 s2 w2 vs rvs => hi U2 S2 H2 v d vs ds Q s2 (rv.step st2) rvs w2)⟩
  · exact False.elim w1
theorem ie_mth0 {o : Expr} {id : String} {name : Str} {apos cpos : Pos} {mo : ME} {r : V → List V → Hp → VK → Prop} {g : GM} (hm : MtR X id r) (hi : ImpM X.K E r g) (slot : Slot "list" name id) (hty : typeOf (.builtin id) = pure (.type "method_descriptor")) (ho : IE X E o mo)
    (hbase : attributeBase o name X.env (eval o X.env) = eval o X.env := by rfl) (hline : (apos.endLine == cpos.line) = true := by rfl) :
    IE X E (.Call (.Attribute o name apos) [] [] cpos) (mMth g mo mNil) := by
  obtain ⟨t, p, i⟩ := ho
  refine ⟨_, pe_bm0 PySem.F.plainAttrs_list slot hty hm p hbase hline, fun U S H σ ρ Q s rl w => i U S H σ ρ _ s rl (w.bind.mono fun U1 S1 H1 d st1 s1 w1 v rv => ?_)⟩
  split at w1
  · next hl => exact ⟨lst_ty s1 rv hl, hi U1 S1 H1 v d [] [] Q s1 rv .nil w1⟩
  · exact False.elim w1
end
section
variable {K : PySem.W.Frag} {E : EX}
/-- a list of the store is changed -/
def gPut (f : List PyData → List PyData → Option (D × List PyData)) : GM := fun d ds S => match d, pures ds with
  | .r l, some ys => (match S[l]? with
    | some (some (.lst xs)) => (match f xs ys with
      | some (d', zs) => .ok d' (S.set l (some (.lst zs)))
      | none => .stuck)
    | _ => .stuck)
  | _, _ => .stuck
theorem imp_put {f : List PyData → List PyData → Option (D × List PyData)} {r : V → List V → Hp → VK → Prop}
    (h : ∀ (U : Wd) (H : Hp) (a : Addr) (vs us : List V) (xs ys zs : List PyData) (d : D) (Q : VK), Le U.F H → H a = some (.lst vs) → RpAll K U.F vs xs → RpAll K U.F us ys → f xs ys = some (d, zs) → (∀ ws v, RpAll K U.F ws zs → RelD K U d v → Q v (upd H a (.lst ws))) → r (.ref a) us H Q) : ImpM K E r (gPut f) := by
  intro U S H x d vs ds Q s rx rv w
  unfold gPut at w
  split at w
  · next l ys hy =>
    split at w
    · next xs hx =>
      split at w
      · next d' zs hf =>
        obtain ⟨a, ha, rfl⟩ := rx
        obtain ⟨us, h1, h2⟩ := s.lst ha hx
        exact h U H a us vs xs ys zs d' Q s.fz h1 h2 (pures_rel hy rv) hf fun ws v rw rd => w _ _ (Step.put ha (s.ob _ _ _ ha hx).1) (s.put (c := .lst _) ha hx ⟨ws, rfl, rw⟩ trivial) v rd
      · exact False.elim w
    · exact False.elim w
  · exact False.elim w
def gApp : GM := gPut fun xs ys => match ys with
  | [y] => if xs.length ≤ 1000000 then some (.p .none, xs ++ [y]) else none
  | _ => none
theorem imp_app : ImpM K E rAppend gApp := imp_put fun U H a vs us xs ys zs d Q le ha r1 r2 hf k => by
  split at hf
  · next y =>
    split at hf
    · next hl =>
      cases hf
      cases r2 with
      | cons q t =>
        cases t
        exact ⟨a, vs, _, rfl, rfl, ha, Nat.lt_of_le_of_lt (by rw [r1.length]; exact hl) (by decide), k _ _ (RpAll.append r1 (.cons q .nil)) .non⟩
    · cases hf
  · cases hf
def gPop : GM := gPut fun xs ys => match ys with
  | [] => (xs[xs.length - 1]?).map fun y => (.p y, xs.dropLast)
  | _ => none
theorem RpAll.dropLast {F : Hp} {vs : List V} {ds : List PyData} (h : RpAll K F vs ds) : RpAll K F vs.dropLast ds.dropLast := by
  rw [List.dropLast_eq_take, List.dropLast_eq_take, h.length]
  exact h.take _
theorem imp_pop : ImpM K E rPop gPop := imp_put fun U H a vs us xs ys zs d Q le ha r1 r2 hf k => by
  split at hf
  · cases r2
    obtain ⟨y, hy, e⟩ := Option.map_eq_some_iff.mp hf
    cases e
    obtain ⟨v, hv, rv⟩ := r1.get hy
    exact ⟨a, vs, v, rfl, rfl, ha, by rw [r1.length]; exact hv, k _ _ r1.dropLast rv⟩
  · cases hf
variable {X : Cx}
def plain1 (x : PyData) : Bool := x.plain
/-- l.remove(x), data -/
def rRemD (K : PySem.W.Frag) : V → List V → Hp → VK → Prop := fun x xs H Q => ∃ (a : Addr) (vs : List V) (ds : List PyData) (y : V) (d : PyData) (j : Nat), x = .ref a ∧ xs = [y] ∧ H a = some (.lst vs) ∧ DpAll K H vs ds ∧ Dp K H y d ∧ lay (.list ds) = true ∧ lay d = true ∧ PyData.plainAll ds = true ∧ d.plain = true ∧
  SeqAt.dataPlace ds d = some j ∧ Q .non (upd H a (.lst (vs.eraseIdx j)))
theorem mt_remD (hu : X.A.units + 65 < cLine) : MtM X "list.remove" (rRemD X.K) := by
  intro pins s σ H x xs v us Q I rx rxs h
  obtain ⟨a, vs, ds, y, d, j, rfl, rfl, hH, hds, hy, l1, l2, p1, p2, hj, q⟩ := h
  cases rx
  obtain ⟨u, rfl, ru⟩ := rxs.one
  obtain ⟨z, its, n, r, hl, e⟩ := I.lstM hH
  obtain ⟨bs, r1⟩ := Dp.reads I d y u hy ru
  obtain ⟨as, r2⟩ := Dp.readsAll I ds vs its hds r
  refine SeqAt.remove_list_data (vs := its.toArray) ⟨_, e, rfl, n, rfl⟩ (by simpa using r2) r1 p1 p2 (PyProof.Rows.room_in_shaped l2 hu) hj (by rw [List.size_toArray]; omega) ?_
  refine ⟨.non, _, I.lset (its' := its.eraseIdx j) (t' := s.toks) hH e ?_ (r.eraseIdx j) ?_, rfl, q⟩
  · exact List.eraseIdxIfInBounds_toArray ..
  · have := len_erase vs j
    omega
def gRem : GM := gPut fun xs ys => match ys with
  | [y] => if ((lay (.list xs) && lay y) && (PyData.plainAll xs && y.plain)) = true then (SeqAt.dataPlace xs y).map fun j => (.p .none, xs.eraseIdx j) else none
  | _ => none
theorem RpAll.erase {F : Hp} : ∀ {vs : List V} {ds : List PyData} (i : Nat), RpAll K F vs ds → RpAll K F (vs.eraseIdx i) (ds.eraseIdx i)
  | _, _, _, .nil => .nil
  | _, _, 0, .cons _ t => t
  | _, _, i + 1, .cons r t => .cons r (RpAll.erase i t)
theorem imp_rem : ImpM K E (rRemD K) gRem := imp_put fun U H a vs us xs ys zs d Q le ha r1 r2 hf k => by
  split at hf
  · next y =>
    split at hf
    · next hl =>
      obtain ⟨j, hj, e⟩ := Option.map_eq_some_iff.mp hf
      cases e
      simp only [Bool.and_eq_true] at hl
      cases r2 with
      | cons q t =>
        cases t
        exact ⟨a, vs, xs, _, y, j, rfl, rfl, ha, RpAll.dp le r1 (lay_can hl.1.1), Rp.dp le q (lay_can hl.1.2), hl.1.1, hl.1.2, hl.2.1, hl.2.2, hj, k _ _ (r1.erase j) .non⟩
    · cases hf
  · cases hf
/-- l.index(x), l.count(x), data -/
def gIndex : GM := fun d ds S => match seqOf d S, ds with
  | some (true, xs), [e] => (match datOf e S with
    | some y => if (lay (.list xs) && lay y) = true then (match SeqAt.dataPlace xs y with
      | some j => .ok (.p (.int j)) S
      | none => .stuck) else .stuck
    | none => .stuck)
  | _, _ => .stuck
theorem place_get {xs : List PyData} {y : PyData} {j : Nat} (h : SeqAt.dataPlace xs y = some j) : ∃ z, xs[j]? = some z ∧ PyData.eqv z y = true ∧ ∀ (m : Nat) (z' : PyData), m < j → xs[m]? = some z' → PyData.eqv z' y = false := by
  unfold SeqAt.dataPlace at h
  rw [List.findIdx?_eq_some_iff_getElem] at h
  obtain ⟨h1, h2, h3⟩ := h
  refine ⟨xs[j], by simp [h1], h2, fun m z' hm hz => ?_⟩
  have q := h3 m hm
  obtain ⟨hm', e⟩ := List.getElem?_eq_some_iff.mp hz
  rw [← e]
  simpa using q
theorem lstD {U : Wd} {S : Sto} {H : Hp} (s : Sat K U S H) {d : D} {x : V} {xs : List PyData} (r : RelD K U d x) (h : seqOf d S = some (true, xs)) (hl : lay (.list xs) = true) : ∃ a, x = .ref a ∧ Dp K H x (.list xs) := by
  obtain ⟨a, vs, rfl, q, ra⟩ := seq_rel s r h
  exact ⟨a, rfl, .lst (.inl q) (RpAll.dp s.fz ra (lay_can hl))⟩
theorem imp_index : ImpM K E (rIndexD K) gIndex := by
  intro U S H x d vs ds Q s rx rv w
  unfold gIndex at w
  split at w
  · next xs e hs =>
    split at w
    · next y hy =>
      split at w
      · next hl =>
        split at w
        · next j hj =>
          rw [Bool.and_eq_true] at hl
          obtain ⟨a, rfl, da⟩ := lstD s rx hs hl.1
          obtain ⟨v, rfl, r1⟩ := rel1 rv
          obtain ⟨z, z1, z2, z3⟩ := place_get hj
          exact ⟨a, v, y, xs, j, z, rfl, rfl, da, dat_rel s r1 hy (lay_can hl.2), hl.1, hl.2, z1, z2, z3, (w.ok s) _ (.int _)⟩
        · exact False.elim w
      · exact False.elim w
    · exact False.elim w
  · exact False.elim w
def rCntD (K : PySem.W.Frag) : V → List V → Hp → VK → Prop := fun x xs H Q => ∃ (a : Addr) (vs : List V) (ds : List PyData) (y : V) (d : PyData), x = .ref a ∧ xs = [y] ∧ Rd H a (.lst vs) ∧ DpAll K H vs ds ∧ Dp K H y d ∧ lay d = true ∧ PyData.plainAll ds = true ∧ d.plain = true ∧ Q (.int ((ds.countP fun z => PyData.eqv z d : Nat) : Int)) H
theorem mt_cntD (hu : X.A.units + 65 < cLine) : MtR X "list.count" (rCntD X.K) := by
  intro pins s σ H x xs v us Q I rx rxs h
  obtain ⟨a, vs, ds, y, d, rfl, rfl, hH, hds, hy, l2, p1, p2, q⟩ := h
  cases rx
  obtain ⟨u, rfl, ru⟩ := rxs.one
  obtain ⟨z, its, n, r, e⟩ := hH.ok I.hok
  obtain ⟨bs, r1⟩ := Dp.reads I d y u hy ru
  obtain ⟨as, r2⟩ := Dp.readsAll I ds vs its hds r
  exact SeqAt.count_list_data (vs := its.toArray) ⟨_, e, rfl, n, rfl⟩ (by simpa using r2) r1 p1 p2 (PyProof.Rows.room_in_shaped l2 hu) ⟨.int _, H, I.tok _, ⟨_, rfl⟩, q⟩
def gCount : GM := fun d ds S => match seqOf d S, ds with
  | some (true, xs), [e] => (match datOf e S with
    | some y => if ((lay (.list xs) && lay y) && (PyData.plainAll xs && y.plain)) = true then .ok (.p (.int ((xs.countP fun z => PyData.eqv z y : Nat) : Int))) S else .stuck
    | none => .stuck)
  | _, _ => .stuck
theorem imp_count : ImpM K E (rCntD K) gCount := by
  intro U S H x d vs ds Q s rx rv w
  unfold gCount at w
  split at w
  · next xs e hs =>
    split at w
    · next y hy =>
      split at w
      · next hl =>
        simp only [Bool.and_eq_true] at hl
        obtain ⟨a, us, rfl, q, ra⟩ := seq_rel s rx hs
        obtain ⟨v, rfl, r1⟩ := rel1 rv
        exact ⟨a, us, xs, v, y, rfl, rfl, q, RpAll.dp s.fz ra (lay_can hl.1.1), dat_rel s r1 hy (lay_can hl.1.2), hl.1.2, hl.2.1, hl.2.2, (w.ok s) _ (.int _)⟩
      · exact False.elim w
    · exact False.elim w
  · exact False.elim w
end

/-! ### a[i] = e, x op= e, a[i] op= e -/
section
variable {X : Cx} {E : EX} {pos : Pos} {a b c e o i : Expr} {es : List Expr} {ma mb mc mo mi : ME}
def gSet (d e v : D) (S : Sto) : Res Unit := match d, e, v with
  | .r l, .p (.int i), .p x => (match S[l]? with
    | some (some (.lst xs)) => (match ixN xs.length i with
      | some j => .ok () (S.set l (some (.lst (xs.set j x))))
      | none => .stuck)
    | _ => .stuck)
  | _, _, _ => .stuck
def ImpSet (K : PySem.W.Frag) (E : EX) (t : TSet) (g : D → D → D → Sto → Res Unit) : Prop := ∀ (U : Wd) (S : Sto) (H : Hp) (x y z : V) (d e f : D) (Q : Hp → Prop), Sat K U S H → RelD K U d x → RelD K U e y → RelD K U f z → Wants K E U H (g d e f S) (fun _ _ H' _ => Q H') → t x y z H Q
theorem imp_set {K : PySem.W.Frag} : ImpSet K E rSetL gSet := by
  intro U S H x y z d e f Q s rx ry rz w
  unfold gSet at w
  split at w
  · next l k v =>
    split at w
    · next xs hx =>
      split at w
      · next j hj =>
        obtain ⟨a, ha, rfl⟩ := rx
        cases ry
        obtain ⟨vs, h1, h2⟩ := s.lst ha hx
        exact ⟨a, vs, k, j, rfl, rfl, h1, by rw [h2.length]; exact hj, w _ _ (Step.put ha (s.ob _ _ _ ha hx).1) (s.put (c := .lst _) ha hx ⟨_, rfl, RpAll.set rz j h2⟩ trivial)⟩
      · exact False.elim w
    · exact False.elim w
  · exact False.elim w
def gSubT (mo mi : ME) (g : D → D → D → Sto → Res Unit) : MG := fun v ρ S => (mo ρ S).bind fun d S1 => (mi ρ S1).bind fun e S2 => (g d e v S2).bind fun _ S3 => .ok ρ S3
theorem ig_sub {t : TSet} {g : D → D → D → Sto → Res Unit} (ho : IE X E o mo) (hi : IE X E i mi) (hs : PSet X t) (hg : ImpSet X.K E t g)
    (ha : ∀ v, assign (.Subscript o i pos) X.env v = (do
      let ov ← holding [v] (eval o X.env)
      let iv ← holding [v, ov] (eval i X.env)
      standAt pos
      holding [v, ov, iv] (setItem ov iv v)
      release [v, ov, iv] []) := by intro _; rfl) : IG X E [] (.Subscript o i pos) (gSubT mo mi g) := by
  obtain ⟨t1, p1, i1⟩ := ho
  obtain ⟨t2, p2, i2⟩ := hi
  exact ⟨_, pg_sub p1 p2 hs ha, fun U S H σ ρ v d Q s rl rv w => i1 U S H σ ρ _ s rl (w.bind.mono fun U1 S1 H1 d1 st1 s1 w1 v1 r1 => i2 U1 S1 H1 σ ρ _ s1 (rl.step st1) (w1.bind.mono fun U2 S2 H2 d2 st2 s2 w2 v2 r2 =>
    hg U2 S2 H2 v1 v2 v d1 d2 d _ s2 (r1.step st2) r2 ((rv.step st1).step st2) (w2.bind.mono fun U3 S3 H3 _ st3 s3 w3 => (w3.ok s3) σ (((rl.step st1).step st2).step st3) Only.refl)))⟩
theorem ig_item (ho : IE X E o mo) (hi : IE X E i mi)
    (ha : ∀ v, assign (.Subscript o i pos) X.env v = (do
      let ov ← holding [v] (eval o X.env)
      let iv ← holding [v, ov] (eval i X.env)
      standAt pos
      holding [v, ov, iv] (setItem ov iv v)
      release [v, ov, iv] []) := by intro _; rfl) : IG X E [] (.Subscript o i pos) (gSubT mo mi gSet) := ig_sub ho hi set_list imp_set ha
def mAug (k : Nat) (m : ME) (g : D → D → Sto → Res D) : MS := fun ρ S => match ρ[k]? with
  | some (some d) => (m ρ S).bind fun e S1 => (g d e S1).bind fun z S2 => .ok (.nx, ρ.set k (some z)) S2
  | _ => .stuck
theorem is_aug {k : Nat} {x : Str} {op : Operator} {r : R2} {g : D → D → Sto → Res D} {pos' : Pos} (hop : OpR X (inplaceOp op) r) (hg : ImpO X.K E r g) (hN : X.N.Nodup) (hk : X.N[k]? = some x) (hx : L2.Loc X.env.scope x) (he : IE X E e ma) (hf : X.fn x = true ∨ X.env.scope.names.lookup x = some .local := by first | exact .inl rfl | exact .inr rfl | assumption) :
    IS X E (.AugAssign (.Name x pos') op e pos) (mAug k ma g) := by
  obtain ⟨t, p, j⟩ := he
  refine ⟨_, ps_aug (ti := r) hN hk hx p hop hf, fun U S H σ ρ N s rl w => ?_⟩
  unfold mAug at w
  split at w
  · next d hd =>
    obtain ⟨v, hv, rv⟩ := rl.get k d hd
    exact ⟨v, hv, j U S H σ ρ _ s rl (w.bind.mono fun U1 S1 H1 d1 st1 s1 w1 u ru => hg U1 S1 H1 v u d d1 _ s1 (rv.step st1) ru (w1.bind.mono fun U2 S2 H2 z st2 s2 w2 y ry => (w2.ok s2) _ (((rl.step st1).step st2).set k ry)))⟩
  · exact False.elim w
/-- += of ints; of lists of the store by lists -/
def gIAdd : D → D → Sto → Res D := fun d e S => match d, e with
  | .p (.int i), .p (.int j) => .ok (.p (.int (i + j))) S
  | .r l, .p (.list ys) => (match S[l]? with
    | some (some (.lst xs)) => if xs.length + ys.length ≤ 1000000 then .ok (.r l) (S.set l (some (.lst (xs ++ ys)))) else .stuck
    | _ => .stuck)
  | _, _ => .stuck
def rExtR : R2 := fun x y H Q => ∃ l b xs zs, x = .ref l ∧ y = .ref b ∧ H l = some (.lst xs) ∧ Rd H b (.lst zs) ∧ xs.length + zs.length ≤ sizeLine ∧ Q (.ref l) (upd H l (.lst (xs ++ zs)))
theorem iop_extR : OpR X (inplaceOp .Add) rExtR := fun pins s σ H x y v u Q I rx ry ⟨l, b, xs, zs, ex, ey, hl, hb, hz, q⟩ => by
  subst ex ey
  cases rx
  cases ry
  obtain ⟨_, us, n, ru, e⟩ := I.hok l _ hl
  obtain ⟨_, ws, n2, rw', e2⟩ := hb.ok I.hok
  have k1 := ru.length
  have k2 := rw'.length
  have big : us.toArray.size + ws.toArray.size ≤ sizeLine := by simp only [List.size_toArray]; omega
  have door : ¬ (!us.toArray.isEmpty && Builtin.List.listTooLong (us.toArray.size + ws.toArray.size)) = true := by
    rw [notLongL big, Bool.and_false]
    decide
  exact iadd_road ⟨_, e, rfl⟩ ⟨_, e2, rfl⟩ (call_meets PySem.F.slot_list_iadd ⟨_, e, rfl⟩ PySem.F.entry_list_iadd (PySem.F.args_list_iadd_2 _ _) (AutoSeq1.list___iadd___list_list_0 l us.toArray n b ws.toArray n2 door (by simp only [List.size_toArray]; omega) (by omega))
    ⟨e, e2, .ref l, _, I.lset (its' := us ++ ws) (t' := s.toks) hl e (by simp) (ru.append rw') (by rw [List.length_append]; exact hz), rfl, q⟩)
theorem imp_iadd {K : PySem.W.Frag} : ImpO K E (fun x y H Q => rI0 (fun i j => .int (i + j)) x y H Q ∨ rExtR x y H Q) gIAdd := by
  intro U S H x y d e Q s rx ry w
  unfold gIAdd at w
  split at w
  · next i j => cases rx; cases ry; exact .inl ⟨i, j, rfl, rfl, (w.ok s) _ (.int _)⟩
  · next l ys =>
    split at w
    · next xs hx =>
      split at w
      · next hl =>
        obtain ⟨a, ha, rfl⟩ := rx
        obtain ⟨vs, h1, h2⟩ := s.lst ha hx
        cases ry with
        | lst hq hr =>
          exact .inr ⟨a, _, vs, _, rfl, rfl, h1, Rd.le s.fz hq, by rw [h2.length, hr.length]; exact line6 hl, w _ _ (Step.put ha (s.ob _ _ _ ha hx).1) (s.put (c := .lst _) ha hx ⟨_, rfl, RpAll.append h2 hr⟩ trivial) _ ⟨a, ha, rfl⟩⟩
      · exact False.elim w
    · exact False.elim w
  · exact False.elim w
theorem is_iadd {k : Nat} {x : Str} {pos' : Pos} (hN : X.N.Nodup) (hk : X.N[k]? = some x) (hx : L2.Loc X.env.scope x) (he : IE X E e ma) (hf : X.fn x = true ∨ X.env.scope.names.lookup x = some .local := by first | exact .inl rfl | exact .inr rfl | assumption) :
    IS X E (.AugAssign (.Name x pos') .Add e pos) (mAug k ma gIAdd) := is_aug (iop_add.or iop_extR) imp_iadd hN hk hx he hf
theorem is_imul {k : Nat} {x : Str} {pos' : Pos} (hN : X.N.Nodup) (hk : X.N[k]? = some x) (hx : L2.Loc X.env.scope x) (he : IE X E e ma) (hf : X.fn x = true ∨ X.env.scope.names.lookup x = some .local := by first | exact .inl rfl | exact .inr rfl | assumption) :
    IS X E (.AugAssign (.Name x pos') .Mult e pos) (mAug k ma gMul) := is_aug iop_mul imp_mul hN hk hx he hf
theorem is_idiv {k : Nat} {x : Str} {pos' : Pos} (hN : X.N.Nodup) (hk : X.N[k]? = some x) (hx : L2.Loc X.env.scope x) (he : IE X E e ma) (hf : X.fn x = true ∨ X.env.scope.names.lookup x = some .local := by first | exact .inl rfl | exact .inr rfl | assumption) :
    IS X E (.AugAssign (.Name x pos') .FloorDiv e pos) (mAug k ma gDiv) := is_aug iop_fdiv imp_div hN hk hx he hf
end
end G


namespace G
open PySem L2

/-! ### a tuple backwards -/
section
variable {prog : Program} {w : World} {A : Around} {E : Value → Shared → Prop} {s : Shared}
theorem fm_map {α β : Type} {f : α → Option β} {g : α → β} : ∀ {l : List α}, (∀ k ∈ l, f k = some (g k)) → l.filterMap f = l.map g
  | [], _ => rfl
  | a :: l, h => by
    rw [List.filterMap_cons, h a (List.mem_cons_self ..), List.map_cons, fm_map fun k hk => h k (List.mem_cons_of_mem _ hk)]
theorem pick_rev (xs : List Value) : ((List.range xs.length).filterMap fun (k : Nat) => xs.toArray[(((xs.length : Int) - 1) + (k : Int) * (-1)).toNat]?) = xs.reverse := by
  apply List.ext_getElem?
  intro i
  have e : ((List.range xs.length).filterMap fun (k : Nat) => xs.toArray[(((xs.length : Int) - 1) + (k : Int) * (-1)).toNat]?) = (List.range xs.length).map fun k => xs.getD (xs.length - 1 - k) .none := by
    apply fm_map
    intro k hk
    have hk := List.mem_range.mp hk
    have e1 : (((xs.length : Int) - 1) + (k : Int) * (-1)).toNat = xs.length - 1 - k := by omega
    rw [e1]
    have h2 : xs.length - 1 - k < xs.length := by omega
    simp [List.getD, h2]
  rw [e]
  by_cases h : i < xs.length
  · have h2 : xs.length - 1 - i < xs.length := by omega
    rw [List.getElem?_map, List.getElem?_range h, List.getElem?_reverse h]
    simp [List.getD, h2]
  · rw [List.getElem?_eq_none (by simpa using h), List.getElem?_eq_none (by simpa using h)]
open PyProof.Rows in
theorem getItem_rev {t sl : Addr} {xs : List Value} {vl vu vs : Value} {Q : Value → Shared → Prop} (ht : IsTup s.heap t xs.toArray) (hs : s.heap.IsSliceOf sl vl vu vs) (pl : IsPart vl none) (pu : IsPart vu none) (ps : IsPart vs (some (-1)))
    (hz : xs.length ≤ sizeLine) (h : Q (.ref s.heap.objs.size) { s with heap := s.heap.push { cls := .type "tuple", data := .seq xs.reverse.toArray } }) : wpAny (model prog w) A (getItem (.ref t) (.ref sl)) Q E s := by
  obtain ⟨os, h1, h2, h3⟩ := id hs
  have room : sizeOk (.seq xs.reverse.toArray) := by
    show xs.reverse.toArray.size ≤ sizeLine
    simpa using hz
  have ap : ∀ {A' : Around} {E' : Value → Shared → Prop} {Q' : Int × Int × Nat → Shared → Prop}, Q' ((xs.length : Int) - 1, -1, xs.length) s → wpAny (model prog w) A' (Builtin.Slice.sliceApplied (.ref sl) (pure (xs.length : Int))) Q' E' s := fun {A' E' Q'} q => by
    unfold Builtin.Slice.sliceApplied Builtin.Slice.sliceFields
    refine wpAny_bind (wpAny_bind (wpAny_field h1 h3 (x := vl) rfl (wpAny_bind (wpAny_field h1 h3 (x := vu) rfl (wpAny_bind (wpAny_field h1 h3 (x := vs) rfl (wpAny_pure ?_)))))))
    refine wpAny_bind (HT.slicePart_ ps ?_)
    show wpAny _ _ (if ((-1 : Int) == 0) = true then _ else _) _ _ s
    rw [if_neg (by decide)]
    refine wpAny_bind (HT.slicePart_ pl (wpAny_bind (HT.slicePart_ pu (wpAny_bind (wpAny_pure ?_)))))
    have e : Builtin.Slice.slicePlaces ((xs.length : Int) - 1) (-1) (-1) = xs.length := by
      unfold Builtin.Slice.slicePlaces
      have a1 : ¬ ((-1 : Int) > 0) := by omega
      rw [if_neg a1]
      by_cases hl : xs.length = 0
      · rw [hl]; rfl
      · rw [if_pos (by omega)]
        have : ((xs.length : Int) - 1 - (-1) - 1) / (- -1) + 1 = xs.length := by
          have e1 : (- -1 : Int) = 1 := rfl
          rw [e1, Int.ediv_one]; omega
        rw [this]; rfl
    show wpAny _ _ (pure (((xs.length : Int) - 1), (-1 : Int), Builtin.Slice.slicePlaces ((xs.length : Int) - 1) (-1) (-1))) _ _ s
    rw [e]
    exact wpAny_pure q
  unfold getItem
  try with_reducible refine wpAny_holding ?_
  first | refine wpAny_bind (wpAny_pure ?_) | skip
  refine wpAny_bind (wpAny_sequenceKey ht.typeIs (by decide) (wpAny_bind (wpAny_callSpecial?_slot (name := Str.ofString "__getitem__") ht.typeIs slot_tuple_getitem (wpAny_call_entry slot_tuple_getitem ht.typeIs entry_tuple_getitem ?_ (args_tuple_getitem _ _)))))
  show wpAny _ _ (Builtin.Tuple.tupleItemsOf (.ref t) >>= _) _ _ s
  refine wpAny_bind (tupleItemsOf_ ht (wpAny_bind (wpAny_typeOf ⟨os, h1, h2⟩ ?_)))
  rw [if_pos (by decide)]
  have ez : (xs.toArray.size : Int) = (xs.length : Int) := by simp
  rw [ez]
  refine wpAny_bind (ap ?_)
  have no : ¬ (((((xs.length : Int) - 1) == 0) && ((-1 : Int) == 1) && (xs.length == xs.toArray.size)) = true) := by simp
  show wpAny _ _ (if ((((xs.length : Int) - 1) == 0) && ((-1 : Int) == 1) && (xs.length == xs.toArray.size)) = true then _ else _) _ _ s
  rw [if_neg no, pick_rev]
  first
    | exact wpAny_bind (m := Builtin.Tuple.tupleExact _) (wpAny_newObj_type (wpAny_pure ⟨_, rfl, wpAny_pure h⟩) room)
    | exact wpAny_bind (m := Builtin.Tuple.tupleExact _) (wpAny_newObj_type (wpAny_bind (wpAny_pure (wpAny_pure ⟨_, rfl, wpAny_pure h⟩))) room)
    | exact wpAny_bind (wpAny_bind (m := Builtin.Tuple.tupleExact _) (wpAny_newObj_type (wpAny_pure ⟨_, rfl, wpAny_pure h⟩) room))
end

section
variable {X : Cx}
/-- e[::-1] of a list or a tuple -/
def tRev (K : PySem.W.Frag) (te : TE) : TE := fun σ H Q => te σ H fun x H1 => ∃ a xs, x = .ref a ∧ ((SqL K H1 a xs ∧ ∀ p, H1 p = none → Q (.ref p) (upd H1 p (.lst xs.reverse))) ∨ (SqT K H1 a xs ∧ ∀ p, H1 p = none → Q (.ref p) (upd H1 p (.tup xs.reverse))))
open PyProof.Rows in
theorem pe_revT {e : Expr} {te : TE} {k : Nat} {p1 p2 p3 pos : Pos} (he : PE X e te) : PE X (.Subscript e (.Slice none none (some (.UnaryOp .USub (.Constant (.int 1) k p1) p2)) p3) pos) (fun σ H Q => te σ H fun x H1 => ∃ a xs, x = .ref a ∧ SqT X.K H1 a xs ∧ ∀ p, H1 p = none → Q (.ref p) (upd H1 p (.tup xs.reverse))) := by
  refine ⟨fun pins s σ H Q I h => Subscript_ (thn (he.run pins s σ H _ I h) fun v s1 ⟨x, H1, I1, r1, a, xs, ex, hx, q⟩ => ?_)⟩
  subst ex
  cases r1
  have step : PO X (some (.UnaryOp .USub (.Constant (.int 1) k p1) p2)) (tPart (tUn (rU fun i => .int (-i)) (tC (.int 1)))) := po_some (pe_un un_neg pe_int)
  refine wpAny_Slice (thn (po_none.run pins s1 σ H1 (fun o H2 => o = none ∧ H2 = H1) I1 ⟨rfl, rfl⟩) fun vl s2 ⟨l, H2, I2, pl, el, e2⟩ => ?_)
  subst el e2
  refine thn (po_none.run pins s2 σ H2 (fun o H3 => o = none ∧ H3 = H2) I2 ⟨rfl, rfl⟩) fun vu s3 ⟨u, H3, I3, pu, eu, e3⟩ => ?_
  subst eu e3
  refine thn (step.run pins s3 σ H3 (fun o H4 => o = some (-1) ∧ H4 = H3) I3 ⟨1, rfl, -1, rfl, rfl, rfl⟩) fun vs s4 ⟨o, H4, I4, ps, eo, e4⟩ => ?_
  subst eo e4
  have I5 : L2.Inv X pins σ H4 { s4 with heap := s4.heap.push { cls := .type "slice", data := .fields #[vl, vu, vs] } } := I4.kept (t' := s4.toks) fun b ob q => Heap.get?_push_of_some _ q
  obtain ⟨its, r, ht, hz⟩ := I5.tuple hx
  refine tail_any (ops := [.ref a, .ref s4.heap.objs.size]) ht.typeIs slot_tuple_getitem.lookup ?_ (by with_unfolding_all rfl)
  refine getItem_rev ht (Heap.IsSliceOf.new _ vl vu vs) pl pu ps (by rw [← r.length]; exact hz) ?_
  exact ⟨.ref _, _, I5.laid (t' := s4.toks) (o := .tup xs.reverse) (fun b ob q => Heap.get?_push_of_some _ q) (Nat.le_refl _) ⟨by rw [List.length_reverse]; exact hz, _, r.reverse, IsTup.new _ _⟩, rfl, q _ (I5.hok.fresh (Nat.le_refl _))⟩
theorem pe_or2 {e : Expr} {t u : TE} (h : PE X e t) (k : PE X e u) : PE X e (fun σ H Q => t σ H Q ∨ u σ H Q) := ⟨fun pins s σ H Q I q => q.elim (h.run pins s σ H Q I) (k.run pins s σ H Q I)⟩
variable {E : EX} {pos : Pos} {a b c e : Expr} {ma mb mc : ME}
def gRev (d : D) (S : Sto) : Res D := match seqOf d S with
  | some (true, xs) => .ok (.p (.list xs.reverse)) S
  | some (false, xs) => .ok (.p (.tuple xs.reverse)) S
  | none => .stuck
/-- by the value: a reading that is split only behind the expression -/
theorem ie_rev {k : Nat} {p1 p2 p3 : Pos} (he : IE X E e ma) : IE X E (.Subscript e (.Slice none none (some (.UnaryOp .USub (.Constant (.int 1) k p1) p2)) p3) pos) (m1 gRev ma) := by
  have p := he.can
  refine ⟨_, pe_or2 (pe_revL p) (pe_revT p), fun U S H σ ρ Q s rl w => ?_⟩
  -- which of the two it is, the function tells
  unfold m1 at w
  cases hh : ma ρ S with
  | stuck => rw [hh] at w; exact False.elim w
  | exc c S' =>
    rw [hh] at w
    exact .inl ⟨U, S, ρ, s, rl, by rw [hh]; exact w⟩
  | ok d S1 =>
    rw [hh] at w
    have w1 : Wants X.K E U H (gRev d S1) (KD X.K Q) := w
    unfold gRev at w1
    split at w1
    · next xs hs =>
      refine .inl ⟨U, S, ρ, s, rl, ?_⟩
      rw [hh]
      intro U1 H1 st1 s1 v rv
      obtain ⟨a, vs, rfl, q, r⟩ := seq_rel s1 rv hs
      exact ⟨a, vs, rfl, .inl q, fun p hp => newL s1 r.reverse hp (Wants.step st1 w1)⟩
    · next xs hs =>
      refine .inr ⟨U, S, ρ, s, rl, ?_⟩
      rw [hh]
      intro U1 H1 st1 s1 v rv
      obtain ⟨a, vs, rfl, q, r⟩ := seq_rel s1 rv hs
      exact ⟨a, vs, rfl, q, fun p hp => newT s1 r.reverse hp (Wants.step st1 w1)⟩
    · exact False.elim w1
end

/-! ### enumerate -/
open PyProof.Rows in
theorem meets_enumT (l : Addr) (items : Array Value) :
    Meets (Builtin.«enumerate.__new__» ⟨[.type "enumerate", .ref l], []⟩) (fun _ R s => s.heap.IsTuple l items ∧
      R (.ok (.ret (.ref (s.heap.push { cls := .type "tuple_iterator", data := .fields #[.ref l, .int 0 0] }).objs.size)))
        { s with heap := (s.heap.push { cls := .type "tuple_iterator", data := .fields #[.ref l, .int 0 0] }).push { cls := .type "enumerate", data := .fields #[.none, .bool false, .ref s.heap.objs.size, rawInt 0, .none, .none] } }) :=
  .of_wp fun prog w A R s h => by
    obtain ⟨hp, g, d, tk, os⟩ := s
    obtain ⟨h1, h⟩ := h
    have sb := sub_enumerate
    have go : ∀ {A' : Around} {E : Value → Shared → Prop} {Q : Value → Shared → Prop}, Q (.ref hp.objs.size) ⟨hp.push { cls := .type "tuple_iterator", data := .fields #[.ref l, .int 0 0] }, g, d, tk, os⟩ → wpAny (model prog w) A' (pyIter (.ref l)) Q E ⟨hp, g, d, tk, os⟩ :=
      fun q => (begins_tuple l items).iter prog w _ _ ⟨hp, g, d, tk, os⟩ _ h1 q
    wp_walk using go
    refine wpAny_stack_any fun st => wpAny_pure ?_
    split
    · rename_i c _ _ _ _ _
      cases (c == Value.type "enumerate") <;> (wp_walk using go; exact ⟨_, rfl, h⟩)
    · wp_walk using go
      exact ⟨_, rfl, h⟩
end G


namespace G
open PySem L2

/-- the tuple at a, each item in a new pair -/
def IteT (K : PySem.W.Frag) (a : Addr) : It :=
  ⟨fun i H => ∃ xs x, SqT K H a xs ∧ xs[i]? = some x, fun i H v H' => ∃ T x, v = .ref T ∧ H T = none ∧ H' = upd H T (.tup [.int (i : Nat), x]) ∧ ∀ xs, SqT K H a xs → xs[i]? = some x, fun i H => ∃ xs, SqT K H a xs ∧ xs.length = i⟩
theorem two_mem {b e it : Addr} (h : b ∈ [e, it]) : b = e ∨ b = it := by simpa using h
theorem sqT_inj {X : Cx} {pins : List (Addr × Obj)} {σ : L2.St} {H : Hp} {s : Shared} {a : Addr} {xs ys : List V} (I : L2.Inv X pins σ H s) (h : SqT X.K H a xs) (k : SqT X.K H a ys) : xs = ys := by
  obtain ⟨u, r1, ⟨o, h1, _, n, d1⟩, _⟩ := I.tuple h
  obtain ⟨w, r2, ⟨o', h2, _, n', d2⟩, _⟩ := I.tuple k
  rw [h1] at h2; cases h2
  rw [d1] at d2
  injection d2 with e _
  have e' : u = w := by simpa using e
  subst e'
  exact r1.inj r2
open PyProof.Rows in
theorem turn_enumT {P : Program} {w : World} {K : PySem.W.Frag} {elts : List Expr} {kk : Nat} {tpos : Pos} (a e it : Addr) (hai : a ≠ it) (hae : a ≠ e) :
    Turn P w K (.Tuple elts kk tpos) (IteT K a) [e, it] e (fun i h => (∃ old, IsEnum h e it ((i : Nat) : Int) old) ∧ h.IsTupleIter it a i ∧ e ≠ it) where
  mem := List.mem_cons_self ..
  obj := fun i h ⟨⟨old, he⟩, ⟨o, ho, hc, hd⟩, _⟩ b hb => by
    rcases two_mem hb with rfl | rfl
    · exact ⟨_, he, fun v q => nomatch q⟩
    · exact ⟨o, ho, fun v q => by rw [hd] at q; cases q⟩
  keep := fun i h h' ⟨⟨old, he⟩, hi, hne⟩ k => ⟨⟨old, k e (List.mem_cons_self ..) _ he⟩, hi.at fun o q => k it (by simp) o q, hne⟩
  item := by
    intro X hP hw hK hc i pins s σ H E I hf st hg
    subst hP hw hK
    obtain ⟨⟨old, he⟩, hit, hne⟩ := st
    obtain ⟨xs, x, hq, hx⟩ := hg
    obtain ⟨its, rv, p, hz⟩ := I.tuple hq
    obtain ⟨u, hu, ru⟩ := rv.get hx
    have l1 : e < s.heap.objs.size := Heap.lt_size he
    have l2 : it < s.heap.objs.size := by obtain ⟨_, q, _⟩ := hit; exact Heap.lt_size q
    have hil : i < its.toArray.size := by
      have := (List.getElem?_eq_some_iff.mp hu).1
      simpa using this
    have tup : s.heap.IsTuple a its.toArray := p
    refine wpAny_pyNext_enum_itemD (Draws.tuple (A := X.A.in1) (I.ok.hd hc) it a hai its.toArray) he ⟨hit, tup⟩ hil hne (fun q => (two_mem q).elim (fun z => hne z) fun z => hae z.symm) fun y h' tk hy ho hit' hT hsz hk => ?_
    have ey : y = u := by
      have : its.toArray[i]? = some u := by simpa using hu
      rw [this] at hy; exact (Option.some.inj hy).symm
    subst ey
    refine ⟨_, rfl, wpAny_letOwnedTupleGo_enum (s := { s with heap := h', toks := tk + 1 }) ho fun h'' he' sb => ?_⟩
    have t2 : h''.get? s.heap.objs.size = some { cls := .type "tuple", data := .seq #[.int i tk, y] } := (sb.2 _ (Nat.ne_of_gt l1)).trans hT
    have new : ObjOk X.prog X.w (upd H s.heap.objs.size (.tup [.int (i : Nat), x])) h'' s.heap.objs.size (.tup [.int (i : Nat), x]) := ⟨(by decide : 2 ≤ sizeLine), [.int i tk, y], .cons ⟨_, rfl⟩ (.cons ru .nil), ⟨_, t2, rfl, _, rfl⟩⟩
    have I1 := I.turnedNew (ch := [e, it]) (t' := tk + 1) (fun b ob hb q => (sb.2 b (fun z => hb (by simp [z]))).trans (hk b ob (fun z => hb (by simp [z])) (fun z => hb (by simp [z])) q)) hf (Nat.le_refl _) new
    refine ⟨.ref s.heap.objs.size, _, I1, rfl, ⟨_, x, rfl, I.hok.fresh (Nat.le_refl _), rfl, fun ys hy => by rw [sqT_inj I hy hq]; exact hx⟩, ⟨⟨y, by simpa using he'⟩, hit'.1.at fun o q => (sb.2 it (Ne.symm hne)).trans q, hne⟩, fun b hb => ?_⟩
    have lb : b < s.heap.objs.size := by
      rcases two_mem hb with rfl | rfl
      · exact l1
      · exact l2
    rw [upd_ne (Nat.ne_of_lt lb)]
    exact (hf b hb).1
  done := by
    intro X hP hw hK hc i pins s σ H E I hf st hg
    subst hP hw hK
    obtain ⟨⟨old, he⟩, hit, hne⟩ := st
    obtain ⟨xs, hq, hx⟩ := hg
    obtain ⟨its, rv, p, hz⟩ := I.tuple hq
    obtain ⟨f0, f1, f2, f3, f4, f5⟩ := hf it (by simp)
    have hl := rv.length
    have tup : s.heap.IsTuple a its.toArray := p
    have ei : i = its.toArray.size := by rw [List.size_toArray]; omega
    subst ei
    exact wpAny_pyNext_enum_endD (Draws.tuple (A := X.A.in1) (I.ok.hd hc) it a hai its.toArray) he ⟨hit, tup⟩ fun h' eb => ⟨rfl, I.turned (t' := s.toks) (fun b o hb q => eb b o hb q) f0 f1 f3 f4 f5⟩
  self := fun A i s Q E ⟨⟨_, he⟩, _⟩ h => wpAny_pyIter_enum he h

section
variable {X : Cx} {E : EX}
open PyProof.Rows in
theorem call_enumT {prog : Program} {w : World} {A : Around} {E : Value → Shared → Prop} {s : Shared} {l : Addr} {items : Array Value} {Q : Value → Shared → Prop} (ht : s.heap.IsTuple l items)
    (h : ∀ h', IsEnum h' (s.heap.objs.size + 1) s.heap.objs.size 0 .none → h'.IsTupleIter s.heap.objs.size l 0 → (∀ b o, s.heap.get? b = some o → h'.get? b = some o) → Q (.ref (s.heap.objs.size + 1)) { s with heap := h' }) :
    wpAny (model prog w) A (call (.type "enumerate") [.ref l]) Q E s := by
  refine callType_new F.called_enumerate (by decide) (F.typeCall_enumerate_1 _) (F.newCall_enumerate_1 _) (fun obj => F.args_object_init_2 obj _) F.entry_enumerate_new (meets_enumT l items) ⟨ht, ?_⟩
  have z : (s.heap.push { cls := .type "tuple_iterator", data := .fields #[.ref l, .int 0 0] }).objs.size = s.heap.objs.size + 1 := Heap.size_push ..
  show _ ∧ _
  rw [z]
  have he : IsEnum ((s.heap.push { cls := .type "tuple_iterator", data := .fields #[.ref l, .int 0 0] }).push { cls := .type "enumerate", data := .fields #[.none, .bool false, .ref s.heap.objs.size, rawInt 0, .none, .none] }) (s.heap.objs.size + 1) s.heap.objs.size 0 .none := by
    have q := Heap.get?_push_size (s.heap.push { cls := .type "tuple_iterator", data := .fields #[.ref l, .int 0 0] }) (o := { cls := .type "enumerate", data := .fields #[.none, .bool false, .ref s.heap.objs.size, rawInt 0, .none, .none] }) rfl
    rw [z] at q
    exact q
  exact ⟨⟨_, he, rfl⟩, h _ he ⟨_, Heap.get?_push_of_some _ (Heap.get?_push_size _ rfl), rfl, rfl⟩ fun b o x => Heap.get?_push_of_some _ (Heap.get?_push_of_some _ x)⟩
def iEnumA (K : PySem.W.Frag) (ta : TA) : TI := fun σ H R => ta σ H fun vs H1 => ∃ a xs, vs = [.ref a] ∧ ((SqL K H1 a xs ∧ R (Ite K a) H1) ∨ (SqT K H1 a xs ∧ R (IteT K a) H1))
open PyProof.Rows in
theorem pi_enumA {e : Expr} {ta : TA} {p pos tpos : Pos} {elts : List Expr} {kk : Nat} (hg : Gl X "enumerate") (hm : X.mg "enumerate" = none) (ha : PA X [e] ta) (hs : starEach [e] X.env = [(false, eval e X.env)] := by rfl) :
    PI X (.Tuple elts kk tpos) (.Call (.Name "enumerate" p) [e] [] pos) (iEnumA X.K ta) := by
  refine ⟨fun pins s σ H R I h => Call_ (ld_blt I hg hm boot_enumerate (callWith_type1 (thn (ha.run pos pins s σ H _ I h) fun us s1 ⟨vs, H1, I1, r1, q1⟩ => ?_) hs rfl))⟩
  obtain ⟨a, xs, rfl, q1⟩ := q1
  rw [Vals.ref1 r1]
  have two : ∀ b, b ∈ [s1.heap.objs.size + 1, s1.heap.objs.size] → s1.heap.objs.size ≤ b := fun b hb => by
    rcases two_mem hb with rfl | rfl
    · exact Nat.le_add_right _ _
    · exact Nat.le_refl _
  rcases q1 with ⟨hq, q⟩ | ⟨hq, q⟩
  · obtain ⟨its, rv, p', hz⟩ := I1.list hq
    exact call_enumerate_list p'.isList fun h' he hit hsz hk => wpAny_pyIter_enum he ⟨s1.heap.objs.size + 1, [s1.heap.objs.size + 1, s1.heap.objs.size], _, _, H1, rfl, I1.kept (t' := s1.toks) hk, turn_enum a (s1.heap.objs.size + 1) s1.heap.objs.size, ⟨⟨.none, he⟩, hit, Nat.succ_ne_self _⟩, fun b hb => I1.fpOk (two b hb) (I1.hok.fresh (two b hb)), q⟩
  · obtain ⟨its, rv, p', hz⟩ := I1.tuple hq
    obtain ⟨ob, hob, _⟩ := id p'
    have la : a < s1.heap.objs.size := Heap.lt_size hob
    exact call_enumT (items := its.toArray) p' fun h' he hit hk => wpAny_pyIter_enum he ⟨s1.heap.objs.size + 1, [s1.heap.objs.size + 1, s1.heap.objs.size], _, _, H1, rfl, I1.kept (t' := s1.toks) hk, turn_enumT a (s1.heap.objs.size + 1) s1.heap.objs.size (Nat.ne_of_lt la) (Nat.ne_of_lt (Nat.lt_succ_of_lt la)), ⟨⟨.none, he⟩, hit, Nat.succ_ne_self _⟩, fun b hb => I1.fpOk (two b hb) (I1.hok.fresh (two b hb)), q⟩
def enumP : Nat → List PyData → List PyData
  | _, [] => []
  | n, x :: xs => .tuple [.int (n : Nat), x] :: enumP (n + 1) xs
theorem enumP_get : ∀ (xs : List PyData) (n i : Nat), (enumP n xs)[i]? = (xs[i]?).map fun x => .tuple [.int ((n + i : Nat) : Int), x]
  | [], n, i => by simp [enumP]
  | x :: xs, n, 0 => by simp [enumP]
  | x :: xs, n, i + 1 => by
    rw [enumP, List.getElem?_cons_succ, List.getElem?_cons_succ, enumP_get xs (n + 1) i]
    have : n + 1 + i = n + (i + 1) := by omega
    rw [this]
theorem enumP_length : ∀ (xs : List PyData) (n : Nat), (enumP n xs).length = xs.length
  | [], n => rfl
  | x :: xs, n => by rw [enumP, List.length_cons, List.length_cons, enumP_length]
def mEnum (n : MA) : MI := fun ρ S => (n ρ S).bind fun ds S1 => match ds with
  | [.p (.list xs)] => .ok (enumP 0 xs) S1
  | [.p (.tuple xs)] => .ok (enumP 0 xs) S1
  | _ => .stuck
/-- a new pair at each turn -/
theorem runsPair {K : PySem.W.Frag} {U : Wd} {H : Hp} {J : It} {xs : List PyData} (hst : ∀ H' U' S', Stp U H U' H' → Sat K U' S' H' → J.stop xs.length H')
    (hgo : ∀ (i : Nat) (x : PyData) (H' : Hp) (U' : Wd) (S' : Sto), xs[i]? = some x → Stp U H U' H' → Sat K U' S' H' → J.go i H' ∧ ∀ v H'', J.yld i H' v H'' → ∃ T vs ds, v = .ref T ∧ H' T = none ∧ H'' = upd H' T (.tup vs) ∧ RpAll K U'.F vs ds ∧ x = .tuple ds) : Runs K U H J xs := by
  intro U' S' H' i st s'
  refine ⟨fun e => by rw [e]; exact hst H' U' S' st s', fun x hx => ?_⟩
  obtain ⟨h1, h2⟩ := hgo i x H' U' S' hx st s'
  refine ⟨h1, fun v H'' y => ?_⟩
  obtain ⟨T, vs, ds, rfl, hT, rfl, r, rfl⟩ := h2 v H'' y
  exact ⟨_, Step.alloc hT (s'.no hT), s'.alloc hT, .tup (SqT.of upd_same) (r.sub (Sub.upd (s'.no hT)))⟩
theorem ii_enum {e : Expr} {n : MA} {p pos tpos : Pos} {elts : List Expr} {kk : Nat} (hg : Gl X "enumerate") (hm : X.mg "enumerate" = none) (ha : IA X E [e] n) (hs : starEach [e] X.env = [(false, eval e X.env)] := by rfl) :
    II X E (.Tuple elts kk tpos) (.Call (.Name "enumerate" p) [e] [] pos) (mEnum n) := by
  obtain ⟨⟨t, pt, i⟩, _⟩ := ha
  refine ⟨_, pi_enumA hg hm pt hs, fun U S H σ ρ R s rl w => i U S H σ ρ _ s rl (w.bind.mono fun U1 S1 H1 ds st1 s1 w1 vs rv => ?_)⟩
  split at w1
  · next xs =>
    obtain ⟨v, rfl, r1⟩ := rel1 rv
    cases r1 with
    | @lst a us _ hq hr =>
      refine ⟨a, us, rfl, .inl ⟨.inl (Rd.le s1.fz hq), (w1.ok s1) _ (runsPair (fun H' U' S' st s' => ?_) fun j x H' U' S' hx st s' => ?_)⟩⟩
      · exact ⟨us, .inl (Rd.le s'.fz (Rd.sub st.ef hq)), by rw [hr.length, enumP_length]; exact Nat.le_refl _⟩
      · have q' : SqL X.K H' a us := .inl (Rd.le s'.fz (Rd.sub st.ef hq))
        rw [enumP_get] at hx
        obtain ⟨y, hy, rfl⟩ := Option.map_eq_some_iff.mp hx
        obtain ⟨u, hu, ru⟩ := hr.get hy
        refine ⟨⟨us, u, q', hu⟩, fun v H'' ⟨T, z, e1, e2, e3, e4⟩ => ⟨T, _, _, e1, e2, e3, .cons (.int _) (.cons ?_ .nil), by rw [Nat.zero_add]⟩⟩
        have := e4 us q'
        rw [hu] at this; cases this
        exact ru.sub st.ef
  · next xs =>
    obtain ⟨v, rfl, r1⟩ := rel1 rv
    cases r1 with
    | @tup a us _ hq hr =>
      refine ⟨a, us, rfl, .inr ⟨SqT.le s1.fz hq, (w1.ok s1) _ (runsPair (fun H' U' S' st s' => ?_) fun j x H' U' S' hx st s' => ?_)⟩⟩
      · exact ⟨us, SqT.le s'.fz (SqT.sub st.ef hq), by rw [hr.length, enumP_length]⟩
      · have q' : SqT X.K H' a us := SqT.le s'.fz (SqT.sub st.ef hq)
        rw [enumP_get] at hx
        obtain ⟨y, hy, rfl⟩ := Option.map_eq_some_iff.mp hx
        obtain ⟨u, hu, ru⟩ := hr.get hy
        refine ⟨⟨us, u, q', hu⟩, fun v H'' ⟨T, z, e1, e2, e3, e4⟩ => ⟨T, _, _, e1, e2, e3, .cons (.int _) (.cons ?_ .nil), by rw [Nat.zero_add]⟩⟩
        have := e4 us q'
        rw [hu] at this; cases this
        exact ru.sub st.ef
  · exact False.elim w1

/-! ### zip of two lists or two tuples -/
def zipP : List PyData → List PyData → List PyData
  | x :: xs, y :: ys => .tuple [x, y] :: zipP xs ys
  | _, _ => []
theorem zipP_get : ∀ (xs ys : List PyData) (i : Nat), (zipP xs ys)[i]? = (match xs[i]?, ys[i]? with | some x, some y => some (.tuple [x, y]) | _, _ => none)
  | [], ys, i => by simp [zipP]
  | x :: xs, [], i => by
    simp only [zipP, List.getElem?_nil]
    cases (x :: xs)[i]? <;> rfl
  | x :: xs, y :: ys, 0 => by simp [zipP]
  | x :: xs, y :: ys, i + 1 => by
    rw [zipP, List.getElem?_cons_succ, List.getElem?_cons_succ, List.getElem?_cons_succ, zipP_get xs ys i]
theorem zipP_length : ∀ (xs ys : List PyData), (zipP xs ys).length = min xs.length ys.length
  | [], ys => by simp [zipP]
  | x :: xs, [] => by simp [zipP]
  | x :: xs, y :: ys => by rw [zipP, List.length_cons, List.length_cons, List.length_cons, zipP_length]; omega
def mZip (n : MA) : MI := fun ρ S => (n ρ S).bind fun ds S1 => match ds with
  | [.p (.list xs), .p (.list ys)] => .ok (zipP xs ys) S1
  | [.p (.tuple xs), .p (.tuple ys)] => .ok (zipP xs ys) S1
  | _ => .stuck
theorem ii_zip {e e2 : Expr} {n : MA} {p pos tpos : Pos} {elts : List Expr} {kk : Nat} (hg : Gl X "zip") (hm : X.mg "zip" = none) (ha : IA X E [e, e2] n)
    (hs : starEach [e, e2] X.env = (false, eval e X.env) :: starEach [e2] X.env := by rfl) (hpl : (backTo pos (starEach [e2] X.env)).any (·.1) = false := by rfl) :
    II X E (.Tuple elts kk tpos) (.Call (.Name "zip" p) [e, e2] [] pos) (mZip n) := by
  obtain ⟨⟨t, pt, i⟩, _⟩ := ha
  refine ⟨_, RZ.pi_zipA hg hm pt hs hpl, fun U S H σ ρ R s rl w => i U S H σ ρ _ s rl (w.bind.mono fun U1 S1 H1 ds st1 s1 w1 vs rv => ?_)⟩
  have fin : ∀ {us ws : List V} {xs ys : List PyData} {U' : Wd} {F : Hp} {j : Nat} {x : PyData}, RpAll X.K F us xs → RpAll X.K F ws ys → Sub F U'.F → (zipP xs ys)[j]? = some x → ∃ u w, us[j]? = some u ∧ ws[j]? = some w ∧ ∃ ds, RpAll X.K U'.F [u, w] ds ∧ x = .tuple ds := fun {us ws xs ys U' F j x} r1 r2 sb hx => by
    rw [zipP_get] at hx
    split at hx
    · next a b ha hb =>
      cases hx
      obtain ⟨u, hu, ru⟩ := r1.get ha
      obtain ⟨w, hw, rw'⟩ := r2.get hb
      exact ⟨u, w, hu, hw, _, .cons (ru.sub sb) (.cons (rw'.sub sb) .nil), rfl⟩
    · cases hx
  split at w1
  · next xs ys =>
    obtain ⟨v, u, rfl, r1, r2⟩ := rel2 rv
    cases r1 with
    | @lst a us _ hq hr =>
      cases r2 with
      | @lst b ws _ hq2 hr2 =>
        refine ⟨a, b, us, ws, rfl, .inl ⟨.inl (Rd.le s1.fz hq), .inl (Rd.le s1.fz hq2), (w1.ok s1) _ (runsPair (fun H' U' S' st s' => ?_) fun j x H' U' S' hx st s' => ?_)⟩⟩
        · exact ⟨us, ws, .inl (Rd.le s'.fz (Rd.sub st.ef hq)), .inl (Rd.le s'.fz (Rd.sub st.ef hq2)), by rw [hr.length, hr2.length, zipP_length]; omega⟩
        · have q1 : SqL X.K H' a us := .inl (Rd.le s'.fz (Rd.sub st.ef hq))
          have q2 : SqL X.K H' b ws := .inl (Rd.le s'.fz (Rd.sub st.ef hq2))
          obtain ⟨u, w, hu, hw, ds, rd, rfl⟩ := fin (U' := U') hr hr2 st.ef hx
          refine ⟨⟨us, ws, u, w, q1, q2, hu, hw⟩, fun v H'' ⟨T, z, z', e1, e2, e3, e4, e5⟩ => ?_⟩
          have k1 := e4 us q1
          have k2 := e5 ws q2
          rw [hu] at k1; cases k1
          rw [hw] at k2; cases k2
          exact ⟨T, _, ds, e1, e2, e3, rd, rfl⟩
  · next xs ys =>
    obtain ⟨v, u, rfl, r1, r2⟩ := rel2 rv
    cases r1 with
    | @tup a us _ hq hr =>
      cases r2 with
      | @tup b ws _ hq2 hr2 =>
        refine ⟨a, b, us, ws, rfl, .inr ⟨SqT.le s1.fz hq, SqT.le s1.fz hq2, (w1.ok s1) _ (runsPair (fun H' U' S' st s' => ?_) fun j x H' U' S' hx st s' => ?_)⟩⟩
        · exact ⟨us, ws, SqT.le s'.fz (SqT.sub st.ef hq), SqT.le s'.fz (SqT.sub st.ef hq2), by rw [hr.length, hr2.length, zipP_length]; omega⟩
        · have q1 : SqT X.K H' a us := SqT.le s'.fz (SqT.sub st.ef hq)
          have q2 : SqT X.K H' b ws := SqT.le s'.fz (SqT.sub st.ef hq2)
          obtain ⟨u, w, hu, hw, ds, rd, rfl⟩ := fin (U' := U') hr hr2 st.ef hx
          refine ⟨⟨us, ws, u, w, q1, q2, hu, hw⟩, fun v H'' ⟨T, z, z', e1, e2, e3, e4, e5⟩ => ?_⟩
          have k1 := e4 us q1
          have k2 := e5 ws q2
          rw [hu] at k1; cases k1
          rw [hw] at k2; cases k2
          exact ⟨T, _, ds, e1, e2, e3, rd, rfl⟩
  · exact False.elim w1

/-! ### for over a list or a tuple -/
theorem pi_or {tg e : Expr} {t u : TI} (h : PI X tg e t) (k : PI X tg e u) : PI X tg e (fun σ H R => t σ H R ∨ u σ H R) := ⟨fun pins s σ H R I q => q.elim (h.run pins s σ H R I) (k.run pins s σ H R I)⟩
theorem ii_any {tg e : Expr} {m : ME} (h : IE X E e m) : II X E tg e (mItems m) := by
  have p := h.can
  refine ⟨_, pi_or (pi_list p) (pi_tup p), fun U S H σ ρ R s rl w => ?_⟩
  unfold mItems at w
  cases hh : m ρ S with
  | stuck => rw [hh] at w; exact False.elim w
  | exc c S' =>
    rw [hh] at w
    exact .inl ⟨U, S, ρ, s, rl, by rw [hh]; exact w⟩
  | ok d S1 =>
    rw [hh] at w
    cases d with
    | r l => exact False.elim w
    | p x =>
      cases x with
      | list xs =>
        refine .inl ⟨U, S, ρ, s, rl, ?_⟩
        rw [hh]
        intro U1 H1 st1 s1 v rv
        cases rv with
        | lst hq ha => exact ⟨_, rfl, ⟨_, .inl (Rd.le s1.fz hq)⟩, w U1 H1 st1 s1 _ (runsL hq ha)⟩
      | tuple xs =>
        refine .inr ⟨U, S, ρ, s, rl, ?_⟩
        rw [hh]
        intro U1 H1 st1 s1 v rv
        cases rv with
        | tup hq ha => exact ⟨_, rfl, ⟨_, SqT.le s1.fz hq⟩, w U1 H1 st1 s1 _ (runsT hq ha)⟩
      | _ => exact False.elim w

/-! ### a, b = x, y -/
def mPar (i j : Nat) (n : MA) : MS := fun ρ S => (n ρ S).bind fun ds S1 => match ds with
  | [d, e] => .ok (.nx, (ρ.set i (some d)).set j (some e)) S1
  | _ => .stuck
theorem is_par {i j : Nat} {x y : Str} {a b : Expr} {n : MA} {px py pt pos : Pos} {kt k2 : Nat} {pt2 : Pos} (hc : X.calm = true) (hN : X.N.Nodup) (hi : X.N[i]? = some x) (hj : X.N[j]? = some y) (hij : i ≠ j)
    (hx : X.env.scope.names.lookup x = some .local) (hy : X.env.scope.names.lookup y = some .local) (ha : IA X E [a, b] n)
    (hw : swappedStores [.Tuple [.Name x px, .Name y py] kt pt] (.Tuple [a, b] k2 pt2) X.env = pure (some [x, y]))
    (hs : swapsWithSole [.Tuple [.Name x px, .Name y py] kt pt] (.Tuple [a, b] k2 pt2) pos.line X.env = pure false := by rfl) :
    IS X E (.Assign [.Tuple [.Name x px, .Name y py] kt pt] (.Tuple [a, b] k2 pt2) pos) (mPar i j n) := by
  obtain ⟨⟨t, p, k⟩, _⟩ := ha
  refine ⟨_, ps_par hc hN hi hj hij hx hy p hw hs, fun U S H σ ρ N s rl w => k U S H σ ρ _ s rl (w.bind.mono fun U1 S1 H1 ds st1 s1 w1 vs rv => ?_)⟩
  split at w1
  · next d e =>
    obtain ⟨v, u, rfl, r1, r2⟩ := rel2 rv
    exact ⟨v, u, rfl, (w1.ok s1) _ (((rl.step st1).set i r1).set j r2)⟩
  · exact False.elim w1

/-! ### range as a value -/
def RgImp (K : PySem.W.Frag) (E : EX) (t : L2.St → Hp → (Int → Int → Hp → Prop) → Prop) (m : Loc → Sto → Res (Int × Int)) : Prop := ∀ (U : Wd) (S : Sto) (H : Hp) (σ : L2.St) (ρ : Loc) (Q : Int → Int → Hp → Prop), Sat K U S H → RelL K U ρ σ → Wants K E U H (m ρ S) (fun _ _ H' p => Q p.1 p.2 H') → t σ H Q
structure IRg (X : Cx) (E : EX) (e : Expr) (m : Loc → Sto → Res (Int × Int)) : Prop where
  ex : ∃ t, PRg X e t ∧ RgImp X.K E t m
def mRg1 (m : ME) : Loc → Sto → Res (Int × Int) := fun ρ S => (m ρ S).bind fun d S1 => match d with
  | .p (.int n) => .ok (0, n) S1
  | _ => .stuck
def mRg2 (m n : ME) : Loc → Sto → Res (Int × Int) := fun ρ S => (m ρ S).bind fun d S1 => (n ρ S1).bind fun e S2 => match d, e with
  | .p (.int a), .p (.int b) => .ok (a, b) S2
  | _, _ => .stuck
theorem irg_1 {a : Expr} {ma : ME} {p pos : Pos} (hg : Gl X "range") (hm : X.mg "range" = none) (ha : IE X E a ma) (na : starEach [a] X.env = (false, eval a X.env) :: starEach [] X.env := by rfl) : IRg X E (.Call (.Name "range" p) [a] [] pos) (mRg1 ma) := by
  obtain ⟨t, q, i⟩ := ha
  refine ⟨_, prg_1 hg hm q na, fun U S H σ ρ Q s rl w => i U S H σ ρ _ s rl (w.bind.mono fun U1 S1 H1 d st1 s1 w1 v rv => ?_)⟩
  split at w1
  · next n => cases rv; exact ⟨n, rfl, w1.ok s1⟩
  · exact False.elim w1
theorem irg_2 {a b : Expr} {ma mb : ME} {p pos : Pos} (hg : Gl X "range") (hm : X.mg "range" = none) (ha : IE X E a ma) (hb : IE X E b mb) (na : starEach [a, b] X.env = (false, eval a X.env) :: starEach [b] X.env := by rfl) (nb : starEach [b] X.env = (false, eval b X.env) :: starEach [] X.env := by rfl) (hpl : (backTo pos (starEach [b] X.env)).any (·.1) = false := by rfl) : IRg X E (.Call (.Name "range" p) [a, b] [] pos) (mRg2 ma mb) := by
  obtain ⟨t, q, i⟩ := ha
  obtain ⟨u, q2, j⟩ := hb
  refine ⟨_, prg_2 hg hm q q2 na nb hpl, fun U S H σ ρ Q s rl w => i U S H σ ρ _ s rl (w.bind.mono fun U1 S1 H1 d st1 s1 w1 v rv => j U1 S1 H1 σ ρ _ s1 (rl.step st1) (w1.bind.mono fun U2 S2 H2 e st2 s2 w2 v2 rv2 => ?_))⟩
  split at w2
  · next n m => cases rv; cases rv2; exact ⟨n, m, rfl, rfl, w2.ok s2⟩
  · exact False.elim w2
def rgOkB (a b : Int) : Bool := inB a && inB b
theorem rgOk_of {a b : Int} (h : rgOkB a b = true) : RgOk a b := by
  unfold rgOkB inB at h
  simp only [Bool.and_eq_true, decide_eq_true_eq] at h
  exact ⟨by omega, by omega, by omega, by omega, by omega⟩
theorem rg_rel {K : PySem.W.Frag} {F : Hp} (n : Nat) : ∀ (a : Int), RpAll K F ((List.range n).map fun i => V.int (a + (i : Nat))) (rangeP a n) := by
  induction n with
  | zero => intro a; exact .nil
  | succ n ih =>
    intro a
    rw [List.range_succ_eq_map, List.map_cons, List.map_map, rangeP]
    have h := ih (a + 1)
    have e : (List.range n).map ((fun i => V.int (a + (i : Nat))) ∘ Nat.succ) = (List.range n).map fun i => V.int (a + 1 + (i : Nat)) := List.map_congr_left fun i _ => by
      show V.int (a + ((i + 1 : Nat) : Int)) = V.int (a + 1 + (i : Int))
      congr 1; omega
    rw [e]
    exact .cons (by simpa using Rp.int (K := K) (F := F) a) h
def mTupRg (m : Loc → Sto → Res (Int × Int)) : ME := fun ρ S => (m ρ S).bind fun p S1 => if rgOkB p.1 p.2 = true then .ok (.p (.tuple (rangeP p.1 (p.2 - p.1).toNat))) S1 else .stuck
def mLstRg (m : Loc → Sto → Res (Int × Int)) : ML := fun ρ S => (m ρ S).bind fun p S1 => if rgOkB p.1 p.2 = true then .ok (rangeP p.1 (p.2 - p.1).toNat) S1 else .stuck
theorem ie_tupRg {e : Expr} {m : Loc → Sto → Res (Int × Int)} {p pos : Pos} (hc : X.calm = true) (hg : Gl X "tuple") (hm : X.mg "tuple" = none) (he : IRg X E e m) (na : starEach [e] X.env = (false, eval e X.env) :: starEach [] X.env := by rfl) : IE X E (.Call (.Name "tuple" p) [e] [] pos) (mTupRg m) := by
  obtain ⟨t, q, i⟩ := he
  refine ⟨_, pe_tupRg hc hg hm q na, fun U S H σ ρ Q s rl w => i U S H σ ρ _ s rl (w.bind.mono fun U1 S1 H1 d st1 s1 w1 => ?_)⟩
  split at w1
  · next h => exact ⟨rgOk_of h, fun q hq => newT s1 (rg_rel _ _) hq w1⟩
  · exact False.elim w1
theorem il_lstRg {e : Expr} {m : Loc → Sto → Res (Int × Int)} {p pos : Pos} (hc : X.calm = true) (hg : Gl X "list") (hm : X.mg "list" = none) (he : IRg X E e m) (na : starEach [e] X.env = (false, eval e X.env) :: starEach [] X.env := by rfl) : IL X E (.Call (.Name "list" p) [e] [] pos) (mLstRg m) := by
  obtain ⟨t, q, i⟩ := he
  refine ⟨_, pe_listRg hc hg hm q na, fun U S H σ ρ Q s rl w => i U S H σ ρ _ s rl (w.bindL.mono fun U1 S1 H1 d st1 s1 w1 => ?_)⟩
  obtain ⟨_, w1⟩ := w1
  split at w1
  · next h => exact ⟨rgOk_of h, fun q hq => layL st1 s1 (rg_rel _ _) hq w1⟩
  · exact False.elim w1
end
end G


namespace G
open PySem L2
section
variable {X : Cx} {E : EX} {pos : Pos} {a : Expr} {ma : ME}
theorem ie_globE {x : Str} {i : Int} (hg : Gl X x) (hm : ∃ t, X.mg x = some (.int i t)) (hd : (x == ("__debug__" : Str)) = false := by decide) : IE X E (.Name x pos) (mC (.int i)) := by
  obtain ⟨t, hm⟩ := hm
  exact ie_globI hg hm ⟨t, rfl⟩ hd
def gNeg (d : D) (S : Sto) : Res D := match d with
  | .p (.int i) => .ok (.p (.int (-i))) S
  | _ => .stuck
theorem ie_neg (ha : IE X E a ma) : IE X E (.UnaryOp .USub a pos) (m1 gNeg ma) := ie_un un_neg (fun U S H x d Q s r w => by
  unfold gNeg at w
  split at w
  · next i => cases r; exact ⟨i, rfl, (w.ok s) _ (.int _)⟩
  · exact False.elim w) ha
end
theorem boot_tlist : bootBuiltins (Str.ofString "list") = some (.type "list") := by decide +kernel
theorem boot_ttuple : bootBuiltins (Str.ofString "tuple") = some (.type "tuple") := by decide +kernel
theorem boot_tstr : bootBuiltins (Str.ofString "str") = some (.type "str") := by decide +kernel
theorem boot_sorted1 : bootBuiltins (Str.ofString "sorted") = some (.builtin "sorted") := by decide +kernel
theorem boot_all1 : bootBuiltins (Str.ofString "all") = some (.builtin "all") := by decide +kernel
theorem boot_any1 : bootBuiltins (Str.ofString "any") = some (.builtin "any") := by decide +kernel
theorem boot_sum1 : bootBuiltins (Str.ofString "sum") = some (.builtin "sum") := by decide +kernel
theorem boot_min1 : bootBuiltins (Str.ofString "min") = some (.builtin "min") := by decide +kernel
theorem boot_max1 : bootBuiltins (Str.ofString "max") = some (.builtin "max") := by decide +kernel
/-- nothing is claimed -/
theorem cal_none {P : Program} {w : World} {K : PySem.W.Frag} {mg : Str → Option Value} {base : Heap} {x nm : Str} {st : Stmt} {N ps : List Str} {k : Nat} (F : DefAt K mg x nm ps st) (S : FnScope N ps (defScope st)) : Cal P w K mg base x ps k (fun _ _ => .stuck) := by
  obtain ⟨f, fd, F1, hm, hb⟩ := F
  exact ⟨f, fd, ⟨fun vs H Q E h => h.1, fun A outer s H args us vs Q E _ _ _ _ ⟨_, U, So, ds, _, _, w⟩ => w.elim⟩, hm, F1.kp, hb⟩
end G


namespace G
open PySem L2
/-! ### data as keys of a dict -/
mutual
def nk : PyData → Option NestedKey
  | .none => some .none
  | .int i => some (.num i)
  | .tuple xs => (nkAll xs).map .tup
  | _ => none
def nkAll : List PyData → Option (List NestedKey)
  | [] => some []
  | x :: xs => match nk x, nkAll xs with
    | some k, some ks => some (k :: ks)
    | _, _ => none
end
theorem nkAll_cons {x : PyData} {xs : List PyData} {ks : List NestedKey} (h : nkAll (x :: xs) = some ks) : ∃ k ks', nk x = some k ∧ nkAll xs = some ks' ∧ ks = k :: ks' := by
  rw [nkAll] at h
  split at h
  · next k ks' e1 e2 => cases h; exact ⟨k, ks', e1, e2, rfl⟩
  · cases h
mutual
theorem nk_data : ∀ (d : PyData) {k : NestedKey}, nk d = some k → k.data = d ∧ ntK k = true
  | .none, k, h => by cases h; exact ⟨rfl, rfl⟩
  | .int i, k, h => by cases h; exact ⟨rfl, rfl⟩
  | .tuple xs, k, h => by
    rw [nk] at h
    obtain ⟨ks, e, rfl⟩ := Option.map_eq_some_iff.mp h
    obtain ⟨e1, e2⟩ := nkAll_data xs e
    exact ⟨by rw [NestedKey.data, e1], by rw [ntK]; exact e2⟩
  | .bool _, k, h => by cases h
  | .str _, k, h => by cases h
  | .list _, k, h => by cases h
  | .dict _, k, h => by cases h
theorem nkAll_data : ∀ (xs : List PyData) {ks : List NestedKey}, nkAll xs = some ks → NestedKey.datas ks = xs ∧ ntAll ks = true
  | [], ks, h => by cases h; exact ⟨rfl, rfl⟩
  | x :: xs, ks, h => by
    obtain ⟨k, ks', e1, e2, rfl⟩ := nkAll_cons h
    obtain ⟨f1, f2⟩ := nk_data x e1
    obtain ⟨g1, g2⟩ := nkAll_data xs e2
    exact ⟨by rw [NestedKey.datas, f1, g1], by rw [ntAll, f2, g2]; rfl⟩
end
mutual
theorem nk_of : ∀ k : NestedKey, ntK k = true → nk k.data = some k
  | .none, _ => rfl
  | .num _, _ => rfl
  | .text _, h => by cases h
  | .tup ks, h => by rw [NestedKey.data, nk, nkAll_of ks h]; rfl
theorem nkAll_of : ∀ ks : List NestedKey, ntAll ks = true → nkAll (NestedKey.datas ks) = some ks
  | [], _ => rfl
  | k :: ks, h => by
    rw [ntAll, Bool.and_eq_true] at h
    rw [NestedKey.datas, nkAll, nk_of k h.1, nkAll_of ks h.2]
end
mutual
theorem reads_nk {h : Heap} : ∀ (d : PyData) {u : Value} {as : List Addr} {k : NestedKey}, Reads h u d as → nk d = some k → NestedIs h k u
  | .none, u, as, k, r, e => by cases e; cases r; exact .none
  | .int i, u, as, k, r, e => by cases e; cases r; exact .int _ _
  | .tuple xs, u, as, k, r, e => by
    rw [nk] at e
    obtain ⟨ks, e1, rfl⟩ := Option.map_eq_some_iff.mp e
    cases r with
    | tuple h1 h2 h3 h4 => exact .tup h1 h2 h3 (readsAll_nk xs h4 e1)
  | .bool _, u, as, k, r, e => by cases e
  | .str _, u, as, k, r, e => by cases e
  | .list _, u, as, k, r, e => by cases e
  | .dict _, u, as, k, r, e => by cases e
theorem readsAll_nk {h : Heap} : ∀ (xs : List PyData) {us : List Value} {as : List Addr} {ks : List NestedKey}, ReadsAll h us xs as → nkAll xs = some ks → NestedAll h ks us
  | [], us, as, ks, r, e => by cases e; cases r; exact .nil
  | x :: xs, us, as, ks, r, e => by
    obtain ⟨k, ks', e1, e2, rfl⟩ := nkAll_cons e
    cases r with
    | cons r1 r2 => exact .cons (reads_nk x r1 e1) (readsAll_nk xs r2 e2)
end
/-- a tuple that may be a key -/
def tk (d : PyData) : Option NestedKey := match d with
  | .tuple xs => (match nkAll xs with
    | some ks => if (NestedKey.tup ks).depth ≤ 8 then some (.tup ks) else none
    | none => none)
  | _ => none
theorem tk_nk {d : PyData} {k : NestedKey} (h : tk d = some k) : nk d = some k ∧ k.depth ≤ 8 ∧ ∃ xs, d = .tuple xs := by
  unfold tk at h
  split at h
  · next xs =>
    split at h
    · next ks e =>
      split at h
      · next hd => cases h; exact ⟨by rw [nk, e]; rfl, hd, xs, rfl⟩
      · cases h
    · cases h
  · cases h
/-! ### the two kinds of dict, at a heap -/
def isK (H : Hp) (a : Addr) (kvs : List (Key × V)) : Prop := Rd H a (.dK kvs) ∨ (kvs = [] ∧ H a = some (dnO a []))
def isN (K : PySem.W.Frag) (H : Hp) (a : Addr) (xs : List NE) : Prop := (H a = some (dnO a xs) ∧ ∀ x ∈ xs, Dp K H (.ref x.2.1) x.1.data) ∨ (xs = [] ∧ Rd H a (.dK []))
section
variable {X : Cx} {pins : List (Addr × Obj)} {σ : L2.St} {H : Hp} {s : Shared} {a : Addr} {A : Around} {E : Value → Shared → Prop}
theorem dn_of (I : Inv X pins σ H s) {xs : List NE} (h : H a = some (dnO a xs)) : dnF a xs s.heap := (show ObjOk X.prog X.w H s.heap a (dnO a xs) from I.hok a _ h).1
theorem isK.of (I : Inv X pins σ H s) {kvs : List (Key × V)} (h : isK H a kvs) : kvs.length ≤ sizeLine ∧ (a == sysModules) = false ∧ ∃ vs, KV kvs vs ∧ s.heap.DictOf (mixKind X.prog X.w) a vs := by
  rcases h with h | ⟨rfl, h⟩
  · exact dk_rd I.hok h
  · obtain ⟨⟨h1, _, _⟩, o, es, ep, h2, h3, h4, h5, _⟩ := dn_of I h
    have he : es = #[] := by
      have := h5 X.prog X.w
      simpa using this
    subst he
    exact ⟨Nat.zero_le _, h1, [], .nil, o, #[], ep, h2, h3, h4, fun e he => absurd he (by simp), .nil, List.nodup_nil⟩
theorem isN.of (I : Inv X pins σ H s) {xs : List NE} (h : isN X.K H a xs) : xs.length ≤ sizeLine ∧ (a == sysModules) = false ∧ (∀ x ∈ xs, ntK x.1 = true ∧ x.1.depth ≤ 8) ∧ s.heap.DictOfH (nestedKind X.prog X.w) a xs := by
  rcases h with ⟨h, hk⟩ | ⟨rfl, h⟩
  · obtain ⟨⟨h1, h2, h3⟩, o, es, ep, h4, h5, h6, h7, h8⟩ := dn_of I h
    refine ⟨h2, h1, h3, o, es, ep, h4, h5, h6, h7 _ _, fun x hx => ?_, h8⟩
    obtain ⟨as, r⟩ := Dp.reads I _ _ (.ref x.2.1) (hk x hx) rfl
    exact ⟨reads_nk _ r (nk_of _ (h3 x hx).1), (h3 x hx).2⟩
  · obtain ⟨z, hd, vs, rel, o, es, ep, h1, h2, h3, h4, h5, h6⟩ := dk_rd I.hok h
    cases rel
    have he : es = #[] := by
      have := h5.length
      simpa using this
    subst he
    exact ⟨Nat.zero_le _, hd, fun _ h => (nomatch h), o, #[], ep, h1, h2, h3, rfl, fun _ h => (nomatch h), List.nodup_nil⟩
theorem key_at (I : Inv X pins σ H s) {y : V} {u : Value} {d : PyData} {k : NestedKey} (hd : Dp X.K H y d) (hk : tk d = some k) (ry : RelV y u) : ∃ b, u = .ref b ∧ y = .ref b ∧ (nestedKind X.prog X.w).is s.heap k b := by
  obtain ⟨h1, h2, xs, rfl⟩ := tk_nk hk
  obtain ⟨as, r⟩ := Dp.reads I _ _ u hd ry
  have hn := reads_nk _ r h1
  cases hd with
  | tup _ _ =>
    cases ry
    exact ⟨_, rfl, rfl, hn, h2⟩
theorem val_zip {k : NestedKey} : ∀ {xs : List NE} {vs : List V}, Vals vs (xs.map (·.2.2)) → RelO (valV ((xs.map (·.1)).zip vs) k) ((atKey xs k).map (·.2))
  | [], vs, h => by
    cases h
    exact True.intro
  | x :: xs, vs, h => by
    cases h with
    | cons h t =>
      have ih := val_zip (k := k) t
      unfold valV atKey at ih ⊢
      simp only [List.map_cons, List.zip_cons_cons, List.find?_cons]
      by_cases e : x.1 = k
      · simp only [e, decide_true, Option.map_some]
        exact h
      · simp only [e, decide_false]
        exact ih
/-- what the dict at a holds at the key y -/
def DGt (K : PySem.W.Frag) (H : Hp) (a : Addr) (y : V) (o : Option V) : Prop :=
  (∃ kvs k, isK H a kvs ∧ y = kV k ∧ o = valV kvs k) ∨ ∃ xs vs d k, isN K H a xs ∧ Vals vs (xs.map (·.2.2)) ∧ Dp K H y d ∧ tk d = some k ∧ o = valV ((xs.map (·.1)).zip vs) k
theorem DGt.ty (I : Inv X pins σ H s) {y : V} {o : Option V} (g : DGt X.K H a y o) : s.TypeIs (.ref a) "dict" := by
  rcases g with ⟨kvs, k, e, _⟩ | ⟨xs, vs, d, k, e, _⟩
  · obtain ⟨_, _, vs, _, dd⟩ := e.of I; exact dd.typeIs
  · obtain ⟨_, _, _, dd⟩ := e.of I; exact dd.typeIs
theorem room9 (hu : A.units + 65 < cLine) : (nestedKind X.prog X.w).room A.in1 := by
  show A.in1.units + 8 < cLine
  have : A.in1.units ≤ A.units + 1 := Nat.le_refl _
  omega
theorem g_getItem {y v : V} {u : Value} {Q : Value → Shared → Prop} (hu : A.units + 65 < cLine) (I : Inv X pins σ H s) (g : DGt X.K H a y (some v)) (ry : RelV y u) (h : ∀ w' s', Inv X pins σ H s' → RelV v w' → Q w' s') : wpAny (model X.prog X.w) A (getItem (.ref a) u) Q E s := by
  rcases g with ⟨kvs, k, e, ey, l⟩ | ⟨xs, vs, d, k, e, hv, hd, hk, l⟩
  · subst ey
    obtain ⟨z, hd, vs, rel, dd⟩ := e.of I
    obtain ⟨w', hw, rw'⟩ := RelO.some_of (v := v) (o := valueAt vs k) (by rw [l]; exact rel.val k)
    exact wpAny_getItem_of (kV_is ry) dd.mapOf hw (h w' _ (I.tok _) rw')
  · obtain ⟨z, hs, hn, dd⟩ := e.of I
    obtain ⟨b, rfl, _, hb⟩ := key_at I hd hk ry
    obtain ⟨w', hw, rw'⟩ := RelO.some_of (v := v) (o := (atKey xs k).map (·.2)) (by rw [l]; exact val_zip hv)
    obtain ⟨p, hp, hp2⟩ := Option.map_eq_some_iff.mp hw
    refine wpAny_getItem_heap (room9 hu) hb dd hp ?_
    rw [hp2]
    exact h w' _ (I.tok _) rw'
theorem g_in {y : V} {u : Value} {o : Option V} {Q : Value → Shared → Prop} (hu : A.units + 65 < cLine) (I : Inv X pins σ H s) (g : DGt X.K H a y o) (ry : RelV y u) (h : ∀ s', Inv X pins σ H s' → Q (.bool o.isSome) s') : wpAny (model X.prog X.w) A (compareOp .In u (.ref a)) Q E s := by
  rcases g with ⟨kvs, k, e, ey, l⟩ | ⟨xs, vs, d, k, e, hv, hd, hk, l⟩
  · subst ey
    obtain ⟨z, hd, vs, rel, dd⟩ := e.of I
    refine wpAny_in_of (kV_is ry) hd dd.mapOf ?_
    rw [← (rel.val k).isSome_eq, ← l]
    exact h _ (I.tok _)
  · obtain ⟨z, hs, hn, dd⟩ := e.of I
    obtain ⟨b, rfl, _, hb⟩ := key_at I hd hk ry
    refine wpAny_in_heap (room9 hu) hb hs dd ?_
    have q := (val_zip (k := k) hv).isSome_eq
    rw [Option.isSome_map] at q
    rw [← q, ← l]
    exact h _ (I.tok _)
theorem g_notIn {y : V} {u : Value} {o : Option V} {Q : Value → Shared → Prop} (hu : A.units + 65 < cLine) (I : Inv X pins σ H s) (g : DGt X.K H a y o) (ry : RelV y u) (h : ∀ s', Inv X pins σ H s' → Q (.bool (!o.isSome)) s') : wpAny (model X.prog X.w) A (compareOp .NotIn u (.ref a)) Q E s := by
  rcases g with ⟨kvs, k, e, ey, l⟩ | ⟨xs, vs, d, k, e, hv, hd, hk, l⟩
  · subst ey
    obtain ⟨z, hd, vs, rel, dd⟩ := e.of I
    refine wpAny_notIn_of (kV_is ry) hd dd.mapOf ?_
    rw [← (rel.val k).isSome_eq, ← l]
    exact h _ (I.tok _)
  · obtain ⟨z, hs, hn, dd⟩ := e.of I
    obtain ⟨b, rfl, _, hb⟩ := key_at I hd hk ry
    refine PyProof.Rows.wpAny_notIn_heap (room9 hu) hb hs dd ?_
    have q := (val_zip (k := k) hv).isSome_eq
    rw [Option.isSome_map] at q
    rw [← q, ← l]
    exact h _ (I.tok _)
end
end G


namespace G
open PySem L2
/-! ### dicts as data -/
def dctOf (d : D) (S : Sto) : Option (List (PyData × PyData)) := match d with
  | .p (.dict kvs) => some kvs
  | .p _ => none
  | .r l => match S[l]? with
    | some (some (.dct kvs)) => some kvs
    | _ => none
def lookP (kvs : List (PyData × PyData)) (k : PyData) : Option PyData := (kvs.find? fun p => PyData.eqv p.1 k).map (·.2)
def putP (kvs : List (PyData × PyData)) (k v : PyData) : List (PyData × PyData) :=
  if (kvs.any fun p => PyData.eqv p.1 k) = true then kvs.map (fun p => if PyData.eqv p.1 k = true then (p.1, v) else p) else kvs ++ [(k, v)]
def pk : PyData → Option Key
  | .int i => some (.inl i)
  | .str x => some (.inr x)
  | _ => none
theorem pk_keyP {d : PyData} {k : Key} (h : pk d = some k) : keyP k = d := by
  cases d <;> cases h <;> rfl
def kOk (kvs : List (PyData × PyData)) (k : PyData) : Bool := ((pk k).isSome && kvs.all fun p => (pk p.1).isSome) || ((tk k).isSome && kvs.all fun p => (tk p.1).isSome)
theorem eqv_keyP (a b : Key) : PyData.eqv (keyP a) (keyP b) = decide (a = b) := by
  cases a with
  | inl i => cases b with
    | inl j =>
      simp only [keyP, PyData.eqv]
      by_cases h : i = j <;> simp [h]
    | inr y => rfl
  | inr x => cases b with
    | inl j => rfl
    | inr y =>
      simp only [keyP, PyData.eqv]
      by_cases h : x = y <;> simp [h]
mutual
theorem eqv_nested : ∀ a b : NestedKey, PyData.eqv a.data b.data = NestedKey.beq a b
  | .none, b => by cases b <;> rfl
  | .num i, b => by
    cases b with
    | num j =>
      simp only [NestedKey.data, PyData.eqv, NestedKey.beq]
      by_cases h : i = j <;> simp [h]
    | _ => rfl
  | .text x, b => by
    cases b with
    | text y =>
      simp only [NestedKey.data, PyData.eqv, NestedKey.beq]
      by_cases h : x = y <;> simp [h]
    | _ => rfl
  | .tup ks, b => by
    cases b with
    | tup js =>
      simp only [NestedKey.data, PyData.eqv, NestedKey.beq]
      exact eqv_nesteds ks js
    | _ => rfl
theorem eqv_nesteds : ∀ as bs : List NestedKey, PyData.eqvAll (NestedKey.datas as) (NestedKey.datas bs) = NestedKey.beqAll as bs
  | [], [] => rfl
  | [], _ :: _ => rfl
  | _ :: _, [] => rfl
  | a :: as, b :: bs => by
    simp only [NestedKey.datas, PyData.eqvAll, NestedKey.beqAll]
    rw [eqv_nested a b, eqv_nesteds as bs]
end
theorem eqv_nk (a b : NestedKey) : PyData.eqv a.data b.data = decide (a = b) := by
  rw [eqv_nested, ← NestedKey.decide_eq]
section
variable {K : PySem.W.Frag} {F : Hp} {κ : Type} [DecidableEq κ]
theorem look_rel {f : κ → PyData} (hf : ∀ a b, PyData.eqv (f a) (f b) = decide (a = b)) (k : κ) : ∀ {qs : List (κ × V)} {ds : List PyData}, RpAll K F (qs.map (·.2)) ds →
    (∀ x, lookP ((qs.map fun q => f q.1).zip ds) (f k) = some x → ∃ v, valV qs k = some v ∧ Rp K F v x) ∧ (lookP ((qs.map fun q => f q.1).zip ds) (f k) = none → valV qs k = none)
  | [], ds, h => by
    cases h
    exact ⟨fun x e => (by cases e), fun _ => rfl⟩
  | q :: qs, ds, h => by
    cases h with
    | cons r t =>
      obtain ⟨i1, i2⟩ := look_rel hf k t
      unfold lookP valV at i1 i2 ⊢
      simp only [List.map_cons, List.zip_cons_cons, List.find?_cons, hf]
      by_cases e : q.1 = k
      · simp only [e, decide_true, Option.map_some]
        exact ⟨fun x h => (by cases h; exact ⟨_, rfl, r⟩), fun h => (by cases h)⟩
      · simp only [e, decide_false]
        exact ⟨i1, i2⟩
theorem any_rel {f : κ → PyData} (hf : ∀ a b, PyData.eqv (f a) (f b) = decide (a = b)) (k : κ) : ∀ {qs : List (κ × V)} {ds : List PyData}, RpAll K F (qs.map (·.2)) ds →
    (((qs.map fun q => f q.1).zip ds).any fun p => PyData.eqv p.1 (f k)) = qs.any fun q => decide (q.1 = k)
  | [], ds, h => rfl
  | q :: qs, ds, h => by
    cases h with
    | cons r t =>
      simp only [List.map_cons, List.zip_cons_cons, List.any_cons, hf, any_rel hf k t]
theorem repl_rel {f : κ → PyData} (hf : ∀ a b, PyData.eqv (f a) (f b) = decide (a = b)) (k : κ) {w : V} {x : PyData} (rw : Rp K F w x) : ∀ {qs : List (κ × V)} {ds : List PyData}, RpAll K F (qs.map (·.2)) ds →
    ∃ ds', RpAll K F ((qs.map fun q => if q.1 = k then (q.1, w) else q).map (·.2)) ds' ∧ ((qs.map fun q => f q.1).zip ds).map (fun p => if PyData.eqv p.1 (f k) = true then (p.1, x) else p) = ((qs.map fun q => if q.1 = k then (q.1, w) else q).map fun q => f q.1).zip ds'
  | [], ds, h => ⟨[], .nil, rfl⟩
  | q :: qs, ds, h => by
    cases h with
    | @cons v vs d ds r t =>
      obtain ⟨ds', i1, i2⟩ := repl_rel hf k rw t
      simp only [List.map_cons, List.zip_cons_cons, hf]
      by_cases e : q.1 = k
      · simp only [e, decide_true, if_true]
        exact ⟨x :: ds', .cons rw i1, by rw [i2]; rfl⟩
      · simp only [e, decide_false, if_false, Bool.false_eq_true]
        exact ⟨d :: ds', .cons r i1, by rw [i2]; rfl⟩
theorem RpAll.app {vs us : List V} {ds es : List PyData} (h : RpAll K F vs ds) (h' : RpAll K F us es) : RpAll K F (vs ++ us) (ds ++ es) := by
  induction vs generalizing ds with
  | nil => cases h; exact h'
  | cons v vs ih =>
    cases h with
    | cons r t => exact .cons r (ih t)
theorem zip_app {α β : Type} {as : List α} {bs : List β} {a : α} {b : β} (h : as.length = bs.length) : (as ++ [a]).zip (bs ++ [b]) = as.zip bs ++ [(a, b)] := by
  rw [List.zip_append h]; rfl
theorem put_rel {f : κ → PyData} (hf : ∀ a b, PyData.eqv (f a) (f b) = decide (a = b)) (k : κ) {w : V} {x : PyData} (rw : Rp K F w x) {qs : List (κ × V)} {ds : List PyData} (h : RpAll K F (qs.map (·.2)) ds) :
    ∃ ds', RpAll K F ((putK qs k w).map (·.2)) ds' ∧ putP ((qs.map fun q => f q.1).zip ds) (f k) x = ((putK qs k w).map fun q => f q.1).zip ds' := by
  unfold putP putK
  rw [any_rel hf k h]
  split
  · exact repl_rel hf k rw h
  · refine ⟨ds ++ [x], ?_, ?_⟩
    · rw [List.map_append]; exact h.app (.cons rw .nil)
    · rw [List.map_append, List.map_cons, List.map_nil, zip_app]
      rw [List.length_map]
      have := h.length
      rw [List.length_map] at this
      exact this
end
mutual
theorem nk_can : ∀ (d : PyData) {k : NestedKey}, nk d = some k → d.canLay0 = true
  | .none, k, h => rfl
  | .int i, k, h => rfl
  | .tuple xs, k, h => by
    rw [nk] at h
    obtain ⟨ks, e, rfl⟩ := Option.map_eq_some_iff.mp h
    rw [PyData.canLay0]
    exact nkAll_can xs e
  | .bool _, k, h => by cases h
  | .str _, k, h => by cases h
  | .list _, k, h => by cases h
  | .dict _, k, h => by cases h
theorem nkAll_can : ∀ (xs : List PyData) {ks : List NestedKey}, nkAll xs = some ks → PyData.canLayAll0 xs = true
  | [], ks, h => rfl
  | x :: xs, ks, h => by
    obtain ⟨k, ks', e1, e2, rfl⟩ := nkAll_cons h
    rw [PyData.canLayAll0, nk_can x e1, nkAll_can xs e2]
    rfl
end
section
variable {K : PySem.W.Frag} {U : Wd} {S : Sto} {H : Hp}
theorem rp_mem {α : Type} {F : Hp} {f : α → V} {g : α → PyData} : ∀ {xs : List α}, RpAll K F (xs.map f) (xs.map g) → ∀ x ∈ xs, Rp K F (f x) (g x)
  | [], _, x, h => by cases h
  | y :: xs, r, x, h => by
    cases r with
    | cons r t =>
      rcases List.mem_cons.mp h with rfl | h
      · exact r
      · exact rp_mem t x h
theorem dct_rel {d : D} {v : V} {kvs : List (PyData × PyData)} (s : Sat K U S H) (r : RelD K U d v) (h : dctOf d S = some kvs) : ∃ a, v = .ref a ∧
    ((∃ ks ds, Rd H a (.dK ks) ∧ RpAll K U.F (ks.map (·.2)) ds ∧ kvs = (ks.map fun q => keyP q.1).zip ds) ∨
      ∃ xs vs ds, H a = some (dnO a xs) ∧ Vals vs (xs.map (·.2.2)) ∧ RpAll K U.F vs ds ∧ RpAll K U.F (xs.map fun x => V.ref x.2.1) (xs.map fun x => x.1.data) ∧ kvs = (xs.map fun x => x.1.data).zip ds) := by
  cases d with
  | p x =>
    have r : Rp K U.F v x := r
    cases x with
    | dict kvs' =>
      cases h
      cases r with
      | @dK a ks ds h t =>
        refine ⟨a, rfl, .inl ⟨ks, ds, ?_, t, rfl⟩⟩
        rcases s.fz _ _ h with z | ⟨o, z, _⟩
        · exact .inl z
        · exact .inr ⟨o, z⟩
      | @dN a xs vs ds h hv t hk _ =>
        refine ⟨a, rfl, .inr ⟨xs, vs, ds, ?_, hv, t, hk, rfl⟩⟩
        rcases s.fz _ _ h with z | ⟨o, z, e⟩
        · exact z
        · cases e
    | _ => cases h
  | r l =>
    obtain ⟨a, ha, rfl⟩ := r
    unfold dctOf at h
    simp only at h
    split at h
    · next kvs' e =>
      cases h
      obtain ⟨_, o, ho, hd⟩ := s.ob l a _ ha e
      refine ⟨a, rfl, ?_⟩
      cases o with
      | dK ks => obtain ⟨ds, r, e⟩ := hd; exact .inl ⟨ks, ds, .inl ho, r, e⟩
      | ext φ => obtain ⟨xs, vs, ds, rfl, hv, r, k, e, _⟩ := hd; exact .inr ⟨xs, vs, ds, ho, hv, r, k, e⟩
      | _ => exact hd.elim
    · cases h
theorem tk_keyP (k : Key) : tk (keyP k) = none := by cases k <;> rfl
theorem pk_data {k : NestedKey} (h : (tk k.data).isSome = true) : pk k.data = none := by
  cases k <;> first | rfl | cases h
theorem zip_nil_of {α : Type} {f : α → PyData} {xs : List α} {ds : List PyData} (hl : xs.length = ds.length) {p : PyData × PyData → Bool} (ha : ((xs.map f).zip ds).all p = true) (hn : ∀ x ∈ xs, ∀ d, p (f x, d) = false) : xs = [] := by
  cases xs with
  | nil => rfl
  | cons x xs =>
    cases ds with
    | nil => cases hl
    | cons d ds =>
      rw [List.map_cons, List.zip_cons_cons, List.all_cons, Bool.and_eq_true] at ha
      rw [hn x (List.mem_cons_self ..)] at ha
      cases ha.1
theorem keyV {F : Hp} {y : V} {k : PyData} {key : Key} (r : Rp K F y k) (h : pk k = some key) : y = kV key := by
  cases r <;> cases h <;> rfl
theorem vals_len {vs : List V} {us : List Value} (h : Vals vs us) : vs.length = us.length := h.length
/-- what a dict holds at a key, by the data -/
theorem dgt_of {d : D} {v y : V} {k : PyData} {kvs : List (PyData × PyData)} (s : Sat K U S H) (r : RelD K U d v) (h : dctOf d S = some kvs) (ry : Rp K U.F y k) (ok : kOk kvs k = true) :
    ∃ a o, v = .ref a ∧ DGt K H a y o ∧ (∀ x, lookP kvs k = some x → ∃ v, o = some v ∧ Rp K U.F v x) ∧ (lookP kvs k = none → o = none) := by
  obtain ⟨a, rfl, h⟩ := dct_rel s r h
  refine ⟨a, ?_⟩
  unfold kOk at ok
  rw [Bool.or_eq_true, Bool.and_eq_true, Bool.and_eq_true] at ok
  rcases ok with ⟨o1, o2⟩ | ⟨o1, o2⟩
  · obtain ⟨key, hk⟩ := Option.isSome_iff_exists.mp o1
    have ek := pk_keyP hk
    have ey := keyV ry hk
    rcases h with ⟨ks, ds, rd, t, rfl⟩ | ⟨xs, vs, ds, ho, hv, t, hks, rfl⟩
    · obtain ⟨l1, l2⟩ := look_rel (f := keyP) eqv_keyP key t
      rw [← ek]
      exact ⟨valV ks key, rfl, .inl ⟨ks, key, .inl rd, ey, rfl⟩, l1, l2⟩
    · have hl : xs.length = ds.length := by
        have h1 := vals_len hv
        have h2 := t.length
        rw [List.length_map] at h1
        omega
      have hx : xs = [] := zip_nil_of hl (p := fun p => (pk p.1).isSome) o2 (fun x hx d => by
        show (pk x.1.data).isSome = false
        have r := rp_mem hks x hx
        generalize x.1.data = z at r
        cases r <;> rfl)
      subst hx
      exact ⟨none, rfl, .inl ⟨[], key, .inr ⟨rfl, ho⟩, ey, rfl⟩, fun x e => (by cases e), fun _ => rfl⟩
  · obtain ⟨key, hk⟩ := Option.isSome_iff_exists.mp o1
    obtain ⟨n1, n2, zs, rfl⟩ := tk_nk hk
    have hdp : Dp K H y (.tuple zs) := Rp.dp s.fz ry (nk_can _ n1)
    have ek := (nk_data _ n1).1
    rcases h with ⟨ks, ds, rd, t, rfl⟩ | ⟨xs, vs, ds, ho, hv, t, hks, rfl⟩
    · have hl : ks.length = ds.length := by
        have h2 := t.length
        rw [List.length_map] at h2
        exact h2
      have hx : ks = [] := zip_nil_of hl (p := fun p => (tk p.1).isSome) o2 (fun x _ d => by show (tk (keyP x.1)).isSome = false; rw [tk_keyP]; rfl)
      subst hx
      exact ⟨none, rfl, .inr ⟨[], [], _, key, .inr ⟨rfl, rd⟩, .nil, hdp, hk, rfl⟩, fun x e => (by cases e), fun _ => rfl⟩
    · have hl1 := vals_len hv
      rw [List.length_map] at hl1
      have hl2 := t.length
      have hq1 : ((xs.map (·.1)).zip vs).map (·.1) = xs.map (·.1) := List.map_fst_zip (by rw [List.length_map]; omega)
      have hq2 : ((xs.map (·.1)).zip vs).map (·.2) = vs := List.map_snd_zip (by rw [List.length_map]; omega)
      have hq3 : (((xs.map (·.1)).zip vs).map fun q => q.1.data) = xs.map fun x => x.1.data := by
        rw [show (((xs.map (·.1)).zip vs).map fun q => q.1.data) = (((xs.map (·.1)).zip vs).map (·.1)).map NestedKey.data by rw [List.map_map]; rfl, hq1, List.map_map]
        rfl
      obtain ⟨l1, l2⟩ := look_rel (K := K) (F := U.F) (f := NestedKey.data) eqv_nk key (qs := (xs.map (·.1)).zip vs) (ds := ds) (by rw [hq2]; exact t)
      rw [hq3, ek] at l1 l2
      refine ⟨_, rfl, .inr ⟨xs, vs, _, key, .inl ⟨ho, fun x hx => ?_⟩, hv, hdp, hk, rfl⟩, l1, l2⟩
      refine Rp.dp s.fz (rp_mem hks x hx) ?_
      have hz : (x.1.data) ∈ ((xs.map fun x => x.1.data).zip ds).map (·.1) := by
        rw [List.map_fst_zip (by rw [List.length_map]; omega)]
        exact List.mem_map.mpr ⟨x, hx, rfl⟩
      obtain ⟨p, hp, e⟩ := List.mem_map.mp hz
      have := List.all_eq_true.mp o2 p hp
      rw [e] at this
      obtain ⟨k', hk'⟩ := Option.isSome_iff_exists.mp this
      exact nk_can _ (tk_nk hk').1
end
end G


namespace G
open PySem L2
/-! ### rules of dicts -/
def isDA (H : Hp) (a : Addr) : Prop := (∃ kvs, Rd H a (.dK kvs)) ∨ ∃ xs, H a = some (dnO a xs)
def rDG (K : PySem.W.Frag) : R2 := fun x y H Q => ∃ a v, x = .ref a ∧ DGt K H a y (some v) ∧ Q v H
def rDI (K : PySem.W.Frag) : R2 := fun y x H Q => ∃ a o, x = .ref a ∧ DGt K H a y o ∧ Q (.bl o.isSome) H
def rDNI (K : PySem.W.Frag) : R2 := fun y x H Q => ∃ a o, x = .ref a ∧ DGt K H a y o ∧ Q (.bl (!o.isSome)) H
theorem dnF.mono {a : Addr} {xs : List NE} {h1 h2 : Heap} (h : dnF a xs h1) (k : ∀ o, h1.get? a = some o → h2.get? a = some o) : dnF a xs h2 := by
  obtain ⟨h0, o, es, ep, h3, r⟩ := h
  exact ⟨h0, o, es, ep, k o h3, r⟩
theorem dn_ok {P : Program} {w : World} {H : Hp} {h : Heap} {a : Addr} {xs : List NE} (x : dnF a xs h) : ObjOk P w H h a (dnO a xs) :=
  ⟨x, (by obtain ⟨_, o, _, _, h3, _⟩ := x; exact ⟨o, h3⟩), fun h1 h2 y k => y.mono k⟩
theorem dn_mk {P : Program} {w : World} {h : Heap} {a : Addr} {xs : List NE} (h1 : (a == sysModules) = false) (h2 : xs.length ≤ sizeLine) (h3 : ∀ x ∈ xs, ntK x.1 = true ∧ x.1.depth ≤ 8) (dd : h.DictOfH (nestedKind P w) a xs) : dnF a xs h := by
  obtain ⟨o, es, ep, e1, e2, e3, e4, _, e5⟩ := dd
  refine ⟨⟨h1, h2, h3⟩, o, es, ep, e1, e2, e3, fun P' w' => ?_, e5⟩
  rw [e4]
  refine List.map_congr_left fun x hx => ?_
  unfold entryOfKey
  show (⟨x.1.hash w, _, _⟩ : DictEntry) = ⟨x.1.hash w', _, _⟩
  rw [hash_nt w w' _ (h3 x hx).1]
section
variable {X : Cx}
theorem isDA_at {pins : List (Addr × Obj)} {σ : L2.St} {H : Hp} {s : Shared} {a : Addr} (I : Inv X pins σ H s) (d : isDA H a) : s.TypeIs (.ref a) "dict" ∧ (∀ b, Value.ref a = .ref b → ∃ ob, s.heap.get? b = some ob ∧ ob.dict = none) ∧ (a == sysModules) = false := by
  rcases d with ⟨kvs, e⟩ | ⟨xs, e⟩
  · obtain ⟨_, hd, vs, _, dd⟩ := dk_rd I.hok e
    refine ⟨dd.typeIs, fun b q => ?_, hd⟩
    cases q
    obtain ⟨ob, _, _, h1, h2, _⟩ := dd
    exact ⟨ob, h1, h2.2.1⟩
  · obtain ⟨⟨h1, _⟩, o, es, ep, e1, e2, _⟩ := dn_of I e
    refine ⟨⟨o, e1, e2.1⟩, fun b q => ?_, h1⟩
    cases q
    exact ⟨o, e1, e2.2.1⟩
theorem ix_dg (hu : X.A.units + 65 < cLine) : IxR X (rDG X.K) := by
  intro value slice pins s σ H x y v u Q I rx ry h hs
  obtain ⟨a, z, rfl, g, q⟩ := h
  cases rx
  have hT := g.ty I
  unfold PyProof.Rows.subscriptTail
  refine wpAny_bind ?_
  rw [getitemInPython_of_ne hT.not_modules]
  refine wpAny_bind (wpAny_specialOf hT PySem.F.slot_dict_getitem.lookup ?_)
  have fin : wpAny (model X.prog X.w) X.A (subscripted slice false (.ref a) u) (fun r s₃ => wpAny (model X.prog X.w) X.A (letTemporaryGo value (.ref a) r >>= fun _ => pure r) (EP X pins σ Q) X.xe s₃) X.xe s := by
    rw [hs]
    exact wpAny_operating (g_getItem hu I g ry fun w' s' I' rw' => wpAny_bind (wpAny_letTemporaryGo (wpAny_pure ⟨z, H, I', rw', q⟩)))
  first
    | exact wpAny_pure (wpAny_bind fin)
    | exact wpAny_bind (wpAny_pure (wpAny_bind fin))
    | exact wpAny_bind fin
theorem op_di (hu : X.A.units + 65 < cLine) : OpR X (compareOp .In) (rDI X.K) := fun pins s σ H y x u v Q I ry rx ⟨a, o, ex, g, q⟩ => by
  subst ex
  cases rx
  exact g_in hu I g ry fun s' I' => ⟨.bl o.isSome, H, I', rfl, q⟩
theorem op_dni (hu : X.A.units + 65 < cLine) : OpR X (compareOp .NotIn) (rDNI X.K) := fun pins s σ H y x u v Q I ry rx ⟨a, o, ex, g, q⟩ => by
  subst ex
  cases rx
  exact g_notIn hu I g ry fun s' I' => ⟨.bl (!o.isSome), H, I', rfl, q⟩
end
def gDGet : D → D → Sto → Res D := fun d e S => match dctOf d S, e with
  | some kvs, .p k => if kOk kvs k = true then (match lookP kvs k with
    | some x => .ok (.p x) S
    | none => .stuck) else .stuck
  | _, _ => .stuck
def gDIn (neg : Bool) : D → D → Sto → Res D := fun e d S => match dctOf d S, e with
  | some kvs, .p k => if kOk kvs k = true then .ok (.p (.bool (if neg = true then !(lookP kvs k).isSome else (lookP kvs k).isSome))) S else .stuck
  | _, _ => .stuck
section
variable {K : PySem.W.Frag} {E : EX}
theorem imp_dget : ImpO K E (rDG K) gDGet := by
  intro U S H x y d e Q s rx ry w
  unfold gDGet at w
  split at w
  · next kvs k hd =>
    split at w
    · next ok =>
      split at w
      · next z hz =>
        obtain ⟨a, o, rfl, g, l1, _⟩ := dgt_of s rx hd ry ok
        obtain ⟨v, rfl, rv⟩ := l1 z hz
        exact ⟨a, v, rfl, g, (w.ok s) _ rv⟩
      · exact False.elim w
    · exact False.elim w
  · exact False.elim w
theorem look_some {o : Option V} {l : Option PyData} {F : Hp} (l1 : ∀ x, l = some x → ∃ v, o = some v ∧ Rp K F v x) (l2 : l = none → o = none) : o.isSome = l.isSome := by
  cases l with
  | none => rw [l2 rfl]; rfl
  | some x => obtain ⟨v, e, _⟩ := l1 x rfl; rw [e]; rfl
theorem imp_din : ImpO K E (rDI K) (gDIn false) := by
  intro U S H x y d e Q s rx ry w
  unfold gDIn at w
  split at w
  · next kvs k hd =>
    split at w
    · next ok =>
      obtain ⟨a, o, rfl, g, l1, l2⟩ := dgt_of s ry hd rx ok
      refine ⟨a, o, rfl, g, (w.ok s) _ ?_⟩
      rw [look_some l1 l2]
      exact .bl _
    · exact False.elim w
  · exact False.elim w
theorem imp_dnin : ImpO K E (rDNI K) (gDIn true) := by
  intro U S H x y d e Q s rx ry w
  unfold gDIn at w
  split at w
  · next kvs k hd =>
    split at w
    · next ok =>
      obtain ⟨a, o, rfl, g, l1, l2⟩ := dgt_of s ry hd rx ok
      refine ⟨a, o, rfl, g, (w.ok s) _ ?_⟩
      rw [look_some l1 l2]
      exact .bl _
    · exact False.elim w
  · exact False.elim w
end
section
variable {X : Cx} {E : EX} {pos : Pos} {a b : Expr} {ma mb : ME}
theorem ie_dget (hu : X.A.units + 65 < cLine) (ha : IE X E a ma) (hb : IE X E b mb) (hs : PlainIx b := by exact fun _ _ => rfl) : IE X E (.Subscript a b pos) (m2 gDGet ma mb) := ie_ix (ix_dg hu) imp_dget ha hb hs
theorem ie_din (hu : X.A.units + 65 < cLine) (ha : IE X E a ma) (hb : IE X E b mb) (hm : behindInMarks .In b = false := by rfl) : IE X E (.Compare a [.In] [b] pos) (m2 (gDIn false) ma mb) := ie_cmp (op_di hu) imp_din ha hb hm
theorem ie_dnin (hu : X.A.units + 65 < cLine) (ha : IE X E a ma) (hb : IE X E b mb) (hm : behindInMarks .NotIn b = false := by rfl) : IE X E (.Compare a [.NotIn] [b] pos) (m2 (gDIn true) ma mb) := ie_cmp (op_dni hu) imp_dnin ha hb hm
theorem it_din (hu : X.A.units + 65 < cLine) (ha : IE X E a ma) (hb : IE X E b mb) (hm : behindInMarks .In b = false := by rfl) : IT X E (.Compare a [.In] [b] pos) (mTest (m2 (gDIn false) ma mb)) := it_cmp (op_di hu) imp_din ha hb hm
theorem it_dnin (hu : X.A.units + 65 < cLine) (ha : IE X E a ma) (hb : IE X E b mb) (hm : behindInMarks .NotIn b = false := by rfl) : IT X E (.Compare a [.NotIn] [b] pos) (mTest (m2 (gDIn true) ma mb)) := it_cmp (op_dni hu) imp_dnin ha hb hm
/-- {} -/
def mDNew : ME := fun _ S => .ok (.r S.length) (S ++ [some (.dct [])])
theorem ie_dnew : IE X E (.Dict [] [] pos) mDNew := ⟨_, pe_dnewK, fun U S H σ ρ Q s rl w p hp => newR s (show ObIs X.K U p (.dK []) (.dct []) from ⟨[], .nil, rfl⟩) trivial hp w⟩
end
end G


namespace G
open PySem L2
/-! ### d[k] = v -/
def isKw (H : Hp) (a : Addr) (kvs : List (Key × V)) : Prop := H a = some (.dK kvs) ∨ (kvs = [] ∧ H a = some (dnO a []))
def isNw (K : PySem.W.Frag) (H : Hp) (a : Addr) (xs : List NE) : Prop := (H a = some (dnO a xs) ∧ ∀ x ∈ xs, Dp K H (.ref x.2.1) x.1.data) ∨ (xs = [] ∧ H a = some (.dK []))
theorem isKw.k {H : Hp} {a : Addr} {kvs : List (Key × V)} (h : isKw H a kvs) : isK H a kvs ∧ Mut (H a) := by
  rcases h with h | ⟨e, h⟩
  · exact ⟨.inl (.inl h), by rw [h]; exact True.intro⟩
  · exact ⟨.inr ⟨e, h⟩, by rw [h]; exact True.intro⟩
theorem isNw.n {K : PySem.W.Frag} {H : Hp} {a : Addr} {xs : List NE} (h : isNw K H a xs) : isN K H a xs ∧ Mut (H a) := by
  rcases h with ⟨h, k⟩ | ⟨e, h⟩
  · exact ⟨.inl ⟨h, k⟩, by rw [h]; exact True.intro⟩
  · exact ⟨.inr ⟨e, .inl h⟩, by rw [h]; exact True.intro⟩
def rPut (K : PySem.W.Frag) : TSet := fun o i v H Q => ∃ a, o = .ref a ∧
  ((∃ kvs k, isKw H a kvs ∧ i = kV k ∧ kvs.length < sizeLine ∧ Q (upd H a (.dK (putK kvs k v)))) ∨
    ∃ xs b d k, isNw K H a xs ∧ i = .ref b ∧ Dp K H i d ∧ tk d = some k ∧ xs.length < sizeLine ∧ ∀ u, RelV v u → Q (upd H a (dnO a (storedH xs k b u))))
theorem stored_len (xs : List NE) (k : NestedKey) (b : Addr) (u : Value) : (storedH xs k b u).length ≤ xs.length + 1 := by
  unfold storedH
  split
  · rw [List.length_map]; omega
  · rw [List.length_append]; exact Nat.le_refl _
theorem stored_keys {xs : List NE} {k : NestedKey} {b : Addr} {u : Value} {p : NestedKey → Prop} (h : ∀ x ∈ xs, p x.1) (hk : p k) : ∀ x ∈ storedH xs k b u, p x.1 := by
  intro x hx
  unfold storedH at hx
  split at hx
  · obtain ⟨y, hy, rfl⟩ := List.mem_map.mp hx
    unfold putAt
    split
    · exact h y hy
    · exact h y hy
  · rcases List.mem_append.mp hx with hx | hx
    · exact h x hx
    · rw [List.mem_singleton] at hx; subst hx; exact hk
section
variable {X : Cx}
theorem set_dg (hu : X.A.units + 65 < cLine) : PSet X (rPut X.K) := by
  intro pins s σ H o i v ov iv u Q I ro ri rv h
  obtain ⟨a, eo, h⟩ := h
  subst eo
  cases (show ov = Value.ref a from ro)
  rcases h with ⟨kvs, k, e, ey, l, q⟩ | ⟨xs, b, d, k, e, ey, hd, hk, l, q⟩
  · subst ey
    obtain ⟨e1, e2⟩ := e.k
    obtain ⟨z, hd, vs, rel, dd⟩ := e1.of I
    have hz : vs.length ≤ sizeLine := by rw [← rel.length]; exact z
    have hl : (putK kvs k v).length ≤ sizeLine := by have := length_putK kvs k v; omega
    refine wpAny_setItem_pairs (hsz := hz) (kV_is ri) dd fun h' dd' hs => ⟨_, ?_, q⟩
    have he : ∃ q, h'.get? a = some q := let ⟨q, _, _, hq, _⟩ := dd'; ⟨q, hq⟩
    exact d_write I e2 hs he (dk_new hl hd (rel.put k rv) dd')
  · obtain ⟨e1, e2⟩ := e.n
    obtain ⟨z, hs, hn, dd⟩ := e1.of I
    obtain ⟨b', eu, ey', hb⟩ := key_at I hd hk ri
    subst eu
    rw [ey] at ey'
    cases ey'
    refine wpAny_setItem_heap (hsz := z) (room9 hu) hb dd fun h' dd' hs' => ⟨_, ?_, q u rv⟩
    have he : ∃ q, h'.get? a = some q := let ⟨q, _, _, hq, _⟩ := dd'; ⟨q, hq⟩
    obtain ⟨n1, n2, _⟩ := tk_nk hk
    exact d_write I e2 hs' he (dn_ok (dn_mk hs (by have := stored_len xs k b u; omega) (stored_keys (p := fun k => ntK k = true ∧ k.depth ≤ 8) hn ⟨(nk_data _ n1).2, n2⟩) dd'))
end
def gDPut (d e v : D) (S : Sto) : Res Unit := match d, e, v with
  | .r l, .p k, .p x => (match S[l]? with
    | some (some (.dct kvs)) => if (kOk kvs k && decide (kvs.length < 1000000)) = true then .ok () (S.set l (some (.dct (putP kvs k x)))) else .stuck
    | _ => .stuck)
  | _, _, _ => .stuck
section
variable {K : PySem.W.Frag} {E : EX}
theorem stored_vals {k : NestedKey} {b : Addr} {v : V} {u : Value} (ru : RelV v u) {xs : List NE} {vs : List V} (h : Vals vs (xs.map (·.2.2))) :
    Vals ((putK ((xs.map (·.1)).zip vs) k v).map (·.2)) ((storedH xs k b u).map (·.2.2)) ∧ (storedH xs k b u).map (·.1) = (putK ((xs.map (·.1)).zip vs) k v).map (·.1) := by
  have hany : (((xs.map (·.1)).zip vs).any fun kv => decide (kv.1 = k)) = (atKey xs k).isSome := by
    induction xs generalizing vs with
    | nil => rfl
    | cons x xs ih =>
      cases h with
      | cons r t =>
        unfold atKey at ih ⊢
        simp only [List.map_cons, List.zip_cons_cons, List.any_cons, List.find?_cons]
        by_cases e : x.1 = k
        · simp [e]
        · simp only [e, decide_false, Bool.false_or]
          exact ih t
  unfold putK storedH
  rw [hany]
  split
  · rename_i hsome
    clear hsome hany
    induction xs generalizing vs with
    | nil => cases h; exact ⟨.nil, rfl⟩
    | cons x xs ih =>
      cases h with
      | @cons w _ ws _ r t =>
        obtain ⟨i1, i2⟩ := ih t
        simp only [List.map_cons, List.zip_cons_cons]
        by_cases e : x.1 = k
        · refine ⟨.cons ?_ i1, ?_⟩
          · simp only [putAt, e, if_true]; exact ru
          · simp only [putAt, e, if_true]; rw [i2]
        · refine ⟨.cons ?_ i1, ?_⟩
          · simp only [putAt, e, if_false]; exact r
          · simp only [putAt, e, if_false]; rw [i2]
  · have hl := vals_len h
    rw [List.length_map] at hl
    rw [List.map_append, List.map_append, List.map_append, List.map_append, List.map_fst_zip (by rw [List.length_map]; omega), List.map_snd_zip (by rw [List.length_map]; omega)]
    exact ⟨h.append (.cons ru .nil), rfl⟩
theorem stored_refs {F : Hp} {k : NestedKey} {b : Addr} {u : Value} (rb : Rp K F (.ref b) k.data) {xs : List NE} (h : RpAll K F (xs.map fun x => V.ref x.2.1) (xs.map fun x => x.1.data)) :
    RpAll K F ((storedH xs k b u).map fun x => V.ref x.2.1) ((storedH xs k b u).map fun x => x.1.data) := by
  unfold storedH
  split
  · have e1 : ((xs.map (putAt k u)).map fun x => V.ref x.2.1) = xs.map fun x => V.ref x.2.1 := by
      rw [List.map_map]
      refine List.map_congr_left fun x _ => ?_
      show V.ref (putAt k u x).2.1 = _
      unfold putAt
      split <;> rfl
    have e2 : ((xs.map (putAt k u)).map fun x => x.1.data) = xs.map fun x => x.1.data := by
      rw [List.map_map]
      refine List.map_congr_left fun x _ => ?_
      show (putAt k u x).1.data = _
      unfold putAt
      split <;> rfl
    rw [e1, e2]
    exact h
  · rw [List.map_append, List.map_append]
    exact h.app (.cons rb .nil)
theorem putP_ne {kvs : List (PyData × PyData)} {k v : PyData} (h : putP kvs k v = []) : False := by
  unfold putP at h
  split at h
  · next ha =>
    rw [List.map_eq_nil_iff] at h
    subst h
    cases ha
  · simp at h
theorem imp_dput : ImpSet K E (rPut K) gDPut := by
  intro U S H x y z d e f Q s rx ry rz w
  unfold gDPut at w
  split at w
  · next l k v =>
    split at w
    · next kvs hx =>
      split at w
      · next ok =>
        rw [Bool.and_eq_true] at ok
        obtain ⟨ok, hlen⟩ := ok
        have hlen := of_decide_eq_true hlen
        obtain ⟨a, ha, rfl⟩ := rx
        have ry : Rp K U.F y k := ry
        have rz : Rp K U.F z v := rz
        obtain ⟨_, o, ho, hd⟩ := s.ob l a _ ha hx
        have line : ∀ {n : Nat}, n < 1000000 → n < sizeLine := fun h => Nat.lt_of_lt_of_le h (by decide)
        refine ⟨a, rfl, ?_⟩
        unfold kOk at ok
        rw [Bool.or_eq_true, Bool.and_eq_true, Bool.and_eq_true] at ok
        rcases ok with ⟨o1, o2⟩ | ⟨o1, o2⟩
        · obtain ⟨key, hk⟩ := Option.isSome_iff_exists.mp o1
          have ek := pk_keyP hk
          have ey := keyV ry hk
          have done : ∀ ks ds, isKw H a ks → RpAll K U.F (ks.map (·.2)) ds → kvs = (ks.map fun q => keyP q.1).zip ds → rPut K (.ref a) y z H Q := by
            intro ks ds hkw t ekv
            obtain ⟨ds', t', e'⟩ := put_rel (f := keyP) eqv_keyP key rz t
            rw [ek, ← ekv] at e'
            have hkl : ks.length < sizeLine := by
              have h2 := t.length
              rw [List.length_map] at h2
              rw [ekv, List.length_zip, List.length_map] at hlen
              exact line (by omega)
            exact ⟨a, rfl, .inl ⟨ks, key, hkw, ey, hkl, w _ _ (Step.put ha (s.ob _ _ _ ha hx).1) (s.put ha hx (show ObIs K U a (.dK (putK ks key z)) (.dct (putP kvs k v)) from ⟨ds', t', e'⟩) trivial)⟩⟩
          cases o with
          | dK ks =>
            obtain ⟨ds, t, ekv⟩ := hd
            obtain ⟨a', ea, h⟩ := done ks ds (.inl ho) t ekv
            cases ea
            exact h
          | ext φ =>
            obtain ⟨xs, vs, ds, rfl, hv, t, hks, ekv, hne⟩ := hd
            have hl : xs.length = ds.length := by
              have h1 := vals_len hv
              have h2 := t.length
              rw [List.length_map] at h1
              omega
            have hxs : xs = [] := zip_nil_of hl (p := fun p => (pk p.1).isSome) (by rw [← ekv]; exact o2) (fun x hx d => by
              show (pk x.1.data).isSome = false
              have r := rp_mem hks x hx
              generalize x.1.data = z at r
              cases r <;> rfl)
            subst hxs
            obtain ⟨a', ea, h⟩ := done [] [] (.inr ⟨rfl, ho⟩) .nil ekv
            cases ea
            exact h
          | _ => exact hd.elim
        · obtain ⟨key, hk⟩ := Option.isSome_iff_exists.mp o1
          obtain ⟨n1, n2, zs, rfl⟩ := tk_nk hk
          have hdp : Dp K H y (.tuple zs) := Rp.dp s.fz ry (nk_can _ n1)
          have ek := (nk_data _ n1).1
          obtain ⟨b, rfl⟩ : ∃ b, y = .ref b := by cases ry; exact ⟨_, rfl⟩
          have done : ∀ xs vs ds, isNw K H a xs → Vals vs (xs.map (·.2.2)) → RpAll K U.F vs ds → RpAll K U.F (xs.map fun x => V.ref x.2.1) (xs.map fun x => x.1.data) → kvs = (xs.map fun x => x.1.data).zip ds → rPut K (.ref a) (.ref b) z H Q := by
            intro xs vs ds hnw hv t hks ekv
            have hl1 := vals_len hv
            rw [List.length_map] at hl1
            have hl2 := t.length
            have hq2 : ((xs.map (·.1)).zip vs).map (·.2) = vs := List.map_snd_zip (by rw [List.length_map]; omega)
            have hq1 : ((xs.map (·.1)).zip vs).map (·.1) = xs.map (·.1) := List.map_fst_zip (by rw [List.length_map]; omega)
            have hq3 : (((xs.map (·.1)).zip vs).map fun q => q.1.data) = xs.map fun x => x.1.data := by
              rw [show (((xs.map (·.1)).zip vs).map fun q => q.1.data) = (((xs.map (·.1)).zip vs).map (·.1)).map NestedKey.data by rw [List.map_map]; rfl, hq1, List.map_map]
              rfl
            obtain ⟨ds', t', e'⟩ := put_rel (K := K) (F := U.F) (f := NestedKey.data) eqv_nk key rz (qs := (xs.map (·.1)).zip vs) (ds := ds) (by rw [hq2]; exact t)
            rw [hq3, ek, ← ekv] at e'
            have hxl : xs.length < sizeLine := by
              rw [ekv, List.length_zip, List.length_map] at hlen
              exact line (by omega)
            refine ⟨a, rfl, .inr ⟨xs, b, _, key, hnw, rfl, hdp, hk, hxl, fun u ru => ?_⟩⟩
            obtain ⟨v1, v2⟩ := stored_vals (k := key) (b := b) ru hv
            refine w _ _ (Step.put ha (s.ob _ _ _ ha hx).1) (s.put ha hx (show ObIs K U a (dnO a (storedH xs key b u)) (.dct (putP kvs (.tuple zs) v)) from ⟨storedH xs key b u, _, ds', rfl, v1, t', stored_refs (by rw [ek]; exact ry) hks, ?_, ?_⟩) trivial)
            rotate_left
            · intro hn
              have hn2 : ((storedH xs key b u).map (·.1)) = [] := by rw [hn]; rfl
              rw [v2] at hn2
              rw [List.map_eq_nil_iff] at hn2
              rw [hn2] at e'
              exact putP_ne e'
            rw [e']
            congr 1
            rw [show ((storedH xs key b u).map fun x => x.1.data) = ((storedH xs key b u).map (·.1)).map NestedKey.data by rw [List.map_map]; rfl, v2, List.map_map]
            rfl
          cases o with
          | dK ks =>
            obtain ⟨ds, t, ekv⟩ := hd
            have hl : ks.length = ds.length := by
              have h2 := t.length
              rw [List.length_map] at h2
              exact h2
            have hxs : ks = [] := zip_nil_of hl (p := fun p => (tk p.1).isSome) (by rw [← ekv]; exact o2) (fun x _ d => by show (tk (keyP x.1)).isSome = false; rw [tk_keyP]; rfl)
            subst hxs
            obtain ⟨a', ea, h⟩ := done [] [] [] (.inr ⟨rfl, ho⟩) .nil .nil .nil ekv
            cases ea
            exact h
          | ext φ =>
            obtain ⟨xs, vs, ds, rfl, hv, t, hks, ekv, hne⟩ := hd
            have hdk : ∀ x ∈ xs, Dp K H (.ref x.2.1) x.1.data := fun x hx => by
              refine Rp.dp s.fz (rp_mem hks x hx) ?_
              have hl1 := vals_len hv
              rw [List.length_map] at hl1
              have hl2 := t.length
              have hz : (x.1.data) ∈ ((xs.map fun x => x.1.data).zip ds).map (·.1) := by
                rw [List.map_fst_zip (by rw [List.length_map]; omega)]
                exact List.mem_map.mpr ⟨x, hx, rfl⟩
              rw [← ekv] at hz
              obtain ⟨p, hp, e⟩ := List.mem_map.mp hz
              have := List.all_eq_true.mp o2 p hp
              rw [e] at this
              obtain ⟨k', hk'⟩ := Option.isSome_iff_exists.mp this
              exact nk_can _ (tk_nk hk').1
            obtain ⟨a', ea, h⟩ := done xs vs ds (.inl ⟨ho, hdk⟩) hv t hks ekv
            cases ea
            exact h
          | _ => exact hd.elim
      · exact False.elim w
    · exact False.elim w
  · exact False.elim w
end
section
variable {X : Cx} {E : EX} {pos : Pos} {o i : Expr} {mo mi : ME}
theorem ig_dput (hu : X.A.units + 65 < cLine) (ho : IE X E o mo) (hi : IE X E i mi)
    (ha : ∀ v, assign (.Subscript o i pos) X.env v = (do
      let ov ← holding [v] (eval o X.env)
      let iv ← holding [v, ov] (eval i X.env)
      standAt pos
      holding [v, ov, iv] (setItem ov iv v)
      release [v, ov, iv] []) := by intro _; rfl) : IG X E [] (.Subscript o i pos) (gSubT mo mi gDPut) := ig_sub ho hi (set_dg hu) imp_dput ha
end
end G


namespace G
open PySem L2
/-! ### sorted(d), len(d), d.get(k, x) -/
def rSrtD (K : PySem.W.Frag) : List V → Hp → VK → Prop := fun vs H Q => ∃ (a : Addr) (xs : List NE) (F : Hp), vs = [V.ref a] ∧ H a = some (dnO a xs) ∧ Le F H ∧ RpAll K F (xs.map fun x => V.ref x.2.1) (xs.map fun x => x.1.data) ∧ srtOk (xs.map fun x => x.1.data) = true ∧
  ∀ ys p, H p = none → RpAll K F ys (sortP (xs.map fun x => x.1.data)) → Q (.ref p) (upd H p (.lst ys))
section
variable {X : Cx} {E : EX}
theorem refs_vals : ∀ (xs : List NE), Vals (xs.map fun x => V.ref x.2.1) (xs.map fun x => Value.ref x.2.1)
  | [] => .nil
  | x :: xs => .cons rfl (refs_vals xs)
theorem cr_srtD (hcalm : X.calm = true) (hu : X.A.units + 100 < cLine) : CallR X (.builtin "sorted") (rSrtD X.K) := by
  intro pins s σ H vs us Q I r h
  obtain ⟨a, xs, F, rfl, hH, hF, ra, ok, q⟩ := h
  rw [Vals.ref1 r]
  unfold srtOk at ok
  simp only [Bool.and_eq_true, decide_eq_true_eq] at ok
  obtain ⟨⟨l1, l2⟩, ⟨l3, l4⟩, l5⟩ := ok
  have hal := alike_all l3 l4
  have hk := kind_any l5
  have hdep : ∀ d, d ∈ (xs.map fun x => x.1.data) → X.A.units + 2 + d.depth < cLine := fun d hd => by
    have h1 := SeqAt.depth_of_shaped l1
    rw [PyData.depth] at h1
    have h2 := depth_mem hd
    omega
  obtain ⟨⟨h1, h2, h3⟩, o, es, ep, e1, e2, e3, e4, e5⟩ := dn_of I hH
  have e4' := e4 X.prog X.w
  have hsz : es.size = xs.length := by rw [← Array.length_toList, e4', List.length_map]
  refine Calls.call_function_entry PyProof.Rows.kind_sorted PyProof.Rows.plain_sorted PyProof.Rows.entry_sorted (PyProof.Rows.args_sorted1 _) ?_
  unfold Builtin.«sorted»
  refine wpAny_bind (m := checkCount "sorted" 1 1 _) (wpAny_pure ?_)
  refine wpAny_bind (PySem.W.kdu_collect (A := X.A.in1) (kdl_raw h1 e2 e3) (I.ok.hd hcalm) e1 (by rw [hsz]; exact h2) fun h' tk acc hk' hacc => ?_)
  have hacc' : acc.toList = xs.map fun x => Value.ref x.2.1 := by
    apply List.ext_getElem?
    intro j
    rw [List.getElem?_map]
    cases hj : xs[j]? with
    | none =>
      have : xs.length ≤ j := List.getElem?_eq_none_iff.mp hj
      rw [Option.map_none]
      exact List.getElem?_eq_none_iff.mpr (by rw [Array.length_toList, hacc.1, hsz]; exact this)
    | some x =>
      have hlt : j < xs.length := (List.getElem?_eq_some_iff.mp hj).1
      have hlt' : j < acc.size := by rw [hacc.1, hsz]; exact hlt
      obtain ⟨en, g1, g2⟩ := hacc.2 j acc[j] (Array.getElem?_eq_getElem hlt')
      have g3 : es.toList[j]? = some en := by rw [Array.getElem?_toList]; exact g1
      rw [e4', List.getElem?_map, hj] at g3
      cases g3
      rw [Option.map_some, Array.getElem?_toList, Array.getElem?_eq_getElem hlt', g2]
      rfl
  rw [hacc']
  have I1 : Inv X pins σ H { s with heap := h', toks := tk } := I.kept hk'
  have rv := refs_vals xs
  have dp : DpAll X.K H (xs.map fun x => V.ref x.2.1) (xs.map fun x => x.1.data) := RpAll.dp hF ra (lay_can l1)
  obtain ⟨as, hr⟩ := Dp.readsAll I1 _ _ _ dp rv
  generalize hits : (xs.map fun x => Value.ref x.2.1) = its at rv hr
  generalize (xs.map fun x => x.1.data) = ds at *
  have hlen : its.length = ds.length := by rw [← rv.length]; exact ra.length
  refine wpAny_bind (wpAny_newList ?_ (by rw [hlen]; exact line6 l2))
  have hoL : (h'.push (PyProof.Rows.seqObj "list" its.toArray 0)).get? h'.objs.size = some (PyProof.Rows.seqObj "list" its.toArray 0) := Heap.get?_push_size _ rfl
  show wpAny _ _ _ _ _ { s with heap := h'.push (PyProof.Rows.seqObj "list" its.toArray 0), toks := tk }
  have er := each_reads hr
  have er' : PySem.W.EachIs (fun v b => ∃ as, Reads (PySem.W.sortingHeap (h'.push (PyProof.Rows.seqObj "list" its.toArray 0)) h'.objs.size its) v b as) its ds := er.mono fun _ _ ⟨as, r⟩ => ⟨as, PyProof.Rows.Reads.keeps (fun b o e => PySem.W.sortingHeap_old (Nat.ne_of_lt (Heap.lt_size e)) (Heap.get?_push_of_some _ e)) r⟩
  have SA := sortsAny (prog := X.prog) (w := X.w) (A := X.A.in1.in1) (s := { s with heap := PySem.W.sortingHeap (h'.push (PyProof.Rows.seqObj "list" its.toArray 0)) h'.objs.size its, toks := tk }) er' hal hk (fun d hd => by
    have := hdep d hd
    show X.A.units + 1 + 1 + d.depth < cLine
    omega)
  refine wpAny_bind (wpAny_holding (PyProof.Rows.wpAny_call_entry_kw PyProof.Rows.slot_list_sort ⟨_, hoL, rfl⟩ PyProof.Rows.entry_list_sort ?_ (PyProof.Rows.args_list_sort _)))
  refine wpAny_mono (PySem.W.list_sort_vals (A := X.A.in1.in1) (s := { s with heap := h'.push (PyProof.Rows.seqObj "list" its.toArray 0), toks := tk }) (P := fun f s' => f = .done (.ret .none) ∧ EP X pins σ Q (.ref h'.objs.size) s') hoL SA (by rw [hlen]; exact line6 l2) ⟨rfl, ?_⟩) (fun f s' hf => ?_) fun _ _ e => e
  · have h1 := PySem.W.sortVals_data (enc := id) false (each_vals rv ra) (show PySem.W.EachIs (fun v b => ∃ as, Reads (PySem.W.sortingHeap (h'.push (PyProof.Rows.seqObj "list" its.toArray 0)) h'.objs.size its) v (id b) as) its ds from er') (by rw [List.map_id]; exact hal)
    rw [List.map_id] at h1
    obtain ⟨ys, v1, v2⟩ := vals_each h1
    obtain ⟨ep', he⟩ := PyProof.Rows.sortedHeap_at (out := (PySem.W.sortVals (PySem.W.dataKind (PySem.W.sortingHeap (h'.push (PyProof.Rows.seqObj "list" its.toArray 0)) h'.objs.size its) ds) false its its).toArray) hoL
    have hy : ys.length ≤ sizeLine := by
      rw [v2.length, List.length_mergeSort]; exact line6 l2
    refine ⟨.ref _, upd H h'.objs.size (.lst ys), I1.laid (t' := tk) (fun b u e => ?_) (Nat.le_refl _) ⟨hy, _, ep', v1, he⟩, rfl, q ys _ (I1.hok.fresh (Nat.le_refl _)) (by rw [sortP_eq]; exact v2)⟩
    have hb : b < h'.objs.size := Heap.lt_size e
    rw [PyProof.Rows.sortedHeap_old (Nat.ne_of_lt hb) (by rw [PyProof.Rows.size_push']; exact Nat.lt_succ_of_lt hb)]
    exact Heap.get?_push_of_some _ e
  · obtain ⟨rfl, hq⟩ := hf
    exact ⟨_, rfl, wpAny_pure ⟨_, rfl, hq⟩⟩
/-- the keys' data, all of them keys -/
def gSortedD : GL := fun ds S => match ds with
  | [d] => (match dctOf d S with
    | some kvs => if (!kvs.isEmpty && (kvs.all fun p => (tk p.1).isSome) && srtOk (kvs.map (·.1))) = true then .ok (sortP (kvs.map (·.1))) S else .stuck
    | none => .stuck)
  | _ => .stuck
theorem imp_srtD {K : PySem.W.Frag} : ImpCL K E (rSrtD K) gSortedD := by
  intro U U0 S H H0 vs ds Q st s rv w
  unfold gSortedD at w
  split at w
  · next d =>
    obtain ⟨v, rfl, r1⟩ := rel1 rv
    split at w
    · next kvs hd =>
      split at w
      · next ok =>
        simp only [Bool.and_eq_true] at ok
        obtain ⟨⟨o0, o1⟩, o2⟩ := ok
        obtain ⟨a, rfl, h⟩ := dct_rel s r1 hd
        rcases h with ⟨ks, ds, rd, t, e⟩ | ⟨xs, vs, ds, ho, hv, t, hks, e⟩
        · exfalso
          subst e
          cases ks with
          | nil => cases o0
          | cons q ks =>
            cases t with
            | cons _ _ =>
              rw [List.map_cons, List.zip_cons_cons, List.all_cons, tk_keyP] at o1
              cases o1
        · have hl1 := vals_len hv
          rw [List.length_map] at hl1
          have hl2 := t.length
          have hm : kvs.map (·.1) = xs.map fun x => x.1.data := by
            rw [e, List.map_fst_zip (by rw [List.length_map]; omega)]
          rw [hm] at o2 w
          exact ⟨a, xs, U.F, rfl, ho, s.fz, hks, o2, fun ys p hp ry => layL st s ry hp w⟩
      · exact False.elim w
    · exact False.elim w
  · exact False.elim w
/-- len(d) -/
def rLenD (K : PySem.W.Frag) : List V → Hp → VK → Prop := fun vs H Q => ∃ a n, vs = [V.ref a] ∧ ((∃ kvs, isK H a kvs ∧ n = kvs.length) ∨ ∃ xs, isN K H a xs ∧ n = xs.length) ∧ Q (.int (n : Nat)) H
theorem cr_lenD : CallR X (.builtin "len") (rLenD X.K) := by
  intro pins s σ H vs us Q I r h
  obtain ⟨a, n, rfl, h, q⟩ := h
  rw [Vals.ref1 r]
  rcases h with ⟨kvs, h, rfl⟩ | ⟨xs, h, rfl⟩
  · obtain ⟨z, hd, vs, rel, dd⟩ := h.of I
    refine call_len_dict hd dd (by rw [← rel.length]; rw [sizeLine_eq] at z; omega) ?_
    rw [← rel.length]
    exact ⟨.int kvs.length, H, I.tok _, ⟨_, rfl⟩, q⟩
  · obtain ⟨z, hd, _, dd⟩ := h.of I
    refine call_len_dictH hd dd (by rw [sizeLine_eq] at z; omega) ?_
    exact ⟨.int xs.length, H, I.tok _, ⟨_, rfl⟩, q⟩
def gLenD : GC := fun ds S => match ds with
  | [d] => (match dctOf d S with
    | some kvs => if (kvs.all fun p => (tk p.1).isSome || (pk p.1).isSome) = true then .ok (.p (.int kvs.length)) S else .stuck
    | none => .stuck)
  | _ => .stuck
theorem imp_lenD {K : PySem.W.Frag} : ImpC K E (rLenD K) gLenD := by
  intro U S H vs ds Q s rv w
  unfold gLenD at w
  split at w
  · next d =>
    obtain ⟨v, rfl, r1⟩ := rel1 rv
    split at w
    · next kvs hd =>
      split at w
      · next ok =>
        obtain ⟨a, rfl, h⟩ := dct_rel s r1 hd
        rcases h with ⟨ks, ds, rd, t, e⟩ | ⟨xs, vs, ds, ho, hv, t, hks, e⟩
        · have hl := t.length
          rw [List.length_map] at hl
          have he : kvs.length = ks.length := by rw [e, List.length_zip, List.length_map]; omega
          rw [he] at w
          exact ⟨a, _, rfl, .inl ⟨ks, .inl rd, rfl⟩, (w.ok s) _ (.int _)⟩
        · have hl1 := vals_len hv
          rw [List.length_map] at hl1
          have hl2 := t.length
          have he : kvs.length = xs.length := by rw [e, List.length_zip, List.length_map]; omega
          rw [he] at w
          refine ⟨a, _, rfl, .inr ⟨xs, .inl ⟨ho, fun x hx => ?_⟩, rfl⟩, (w.ok s) _ (.int _)⟩
          have r := rp_mem hks x hx
          refine Rp.dp s.fz r ?_
          have hz : (x.1.data) ∈ ((xs.map fun x => x.1.data).zip ds).map (·.1) := by
            rw [List.map_fst_zip (by rw [List.length_map]; omega)]
            exact List.mem_map.mpr ⟨x, hx, rfl⟩
          rw [← e] at hz
          obtain ⟨p, hp, e'⟩ := List.mem_map.mp hz
          have := List.all_eq_true.mp ok p hp
          rw [e', Bool.or_eq_true] at this
          rcases this with this | this
          · obtain ⟨k', hk'⟩ := Option.isSome_iff_exists.mp this
            exact nk_can _ (tk_nk hk').1
          · exfalso
            generalize x.1.data = z at r this
            cases r <;> cases this
      · exact False.elim w
    · exact False.elim w
  · exact False.elim w
end
/-! d.get(k, x) -/
section
variable {X : Cx} {pins : List (Addr × Obj)} {σ : L2.St} {H : Hp} {s : Shared} {a : Addr} {y d : V} {u r : Value} {o : Option V} {A : Around} {E' : Value → Shared → Prop}
theorem g_get2 {Q : Value → Shared → Prop} (hu : A.units + 65 < cLine) (I : Inv X pins σ H s) (g : DGt X.K H a y o) (ry : RelV y u) (rd : RelV d r) (h : ∀ w' s', Inv X pins σ H s' → RelV (o.getD d) w' → Q w' s') :
    wpAny (model X.prog X.w) A (call (.builtin "dict.get") [.ref a, u, r]) Q E' s := by
  rcases g with ⟨kvs, k, e, ey, l⟩ | ⟨xs, vs, z, k, e, hv, hd, hk, l⟩
  · subst ey
    obtain ⟨z, hd, vs, rel, dd⟩ := e.of I
    refine call_meetsIn PySem.F.slot_dict_get dd.typeIs PySem.F.entry_dict_get (PySem.F.args_dict_get_3 _ _ _) (meets_dict_get_default (mixKind X.prog X.w) a (kV_is ry) hd r) ⟨_, dd.mapOf, h _ _ (I.tok _) ?_⟩
    rw [l]
    exact (rel.val k).getD rd
  · obtain ⟨_, hs, hn, dd⟩ := e.of I
    obtain ⟨b, rfl, _, hb⟩ := key_at I hd hk ry
    refine call_meetsIn PySem.F.slot_dict_get dd.typeIs PySem.F.entry_dict_get (PySem.F.args_dict_get_3 _ _ _) (meetsH_dict_get_default (nestedKind X.prog X.w) a b hs r) ⟨room9 hu, k, xs, hb, dd, h _ _ (I.tok _) ?_⟩
    rw [l]
    exact (val_zip hv).getD rd
end
def tDG2 (K : PySem.W.Frag) (td ty tx : TE) : TE := fun σ H Q => td σ H fun x H1 => ∃ a, x = .ref a ∧ isDA H1 a ∧ ty σ H1 fun y H2 => tx σ H2 fun z H3 => ∃ o, DGt K H3 a y o ∧ Q (o.getD z) H3
def isDct (d : D) (S : Sto) : Bool := (dctOf d S).isSome
def mDGet2 (mo mk mx : ME) : ME := fun ρ S => (mo ρ S).bind fun d S1 => if isDct d S1 = true then (mk ρ S1).bind fun e S2 => (mx ρ S2).bind fun f S3 => match dctOf d S3, e, f with
  | some kvs, .p k, .p x => if kOk kvs k = true then .ok (.p ((lookP kvs k).getD x)) S3 else .stuck
  | _, _, _ => .stuck
  else .stuck
section
variable {X : Cx} {E : EX} {o e f : Expr} {apos cpos : Pos} {mo mk mx : ME} {td ty tx : TE}
theorem pe_dg2 (hu : X.A.units + 65 < cLine) (ho : PE X o td) (he : PE X e ty) (hf : PE X f tx) (m : M2 X o "get" apos e f cpos) : PE X (.Call (.Attribute o "get" apos) [e, f] [] cpos) (tDG2 X.K td ty tx) := by
  refine ⟨fun pins s σ H Q I h => ?_⟩
  refine wpAny_Call_method m.base m.few m.line PySem.F.plainAttrs_dict PySem.F.slot_dict_get PySem.F.type_dict_get (thn (ho.run pins s σ H _ I h) fun u s1 ⟨x, H1, I1, rx, a, ex, d, q1⟩ => ?_)
  subst ex
  obtain rfl : u = Value.ref a := rx
  obtain ⟨t1, t2, _⟩ := isDA_at I1 d
  refine ⟨t1, t2, ?_⟩
  rw [m.trees]
  refine Calls.callWith_builtin rfl (Calls.evalArgs_plain (Calls.spliced_cons (thn (he.run pins s1 σ H1 _ I1 q1) fun iv s2 ⟨y, H2, I2, ry, q2⟩ =>
    Calls.spliced_cons (thn (hf.run pins s2 σ H2 _ I2 q2) fun fv s3 ⟨z, H3, I3, rz, ov, g, q3⟩ => Calls.spliced_nil ?_))))
  exact g_get2 hu I3 g ry rz fun w' s4 I4 rw' => ⟨_, H3, I4, rw', q3⟩
theorem dct_is {K : PySem.W.Frag} {U : Wd} {S : Sto} {H : Hp} {d : D} {v : V} (s : Sat K U S H) (r : RelD K U d v) (h : isDct d S = true) : ∃ a, v = .ref a ∧ isDA H a := by
  obtain ⟨kvs, hk⟩ := Option.isSome_iff_exists.mp h
  obtain ⟨a, rfl, h⟩ := dct_rel s r hk
  rcases h with ⟨ks, _, rd, _⟩ | ⟨xs, _, _, ho, _⟩
  · exact ⟨a, rfl, .inl ⟨ks, rd⟩⟩
  · exact ⟨a, rfl, .inr ⟨xs, ho⟩⟩
theorem ie_dget2 (hu : X.A.units + 65 < cLine) (ho : IE X E o mo) (he : IE X E e mk) (hf : IE X E f mx)
    (hbase : attributeBase o "get" X.env (eval o X.env) = eval o X.env := by rfl)
    (hfew : ((backTo cpos (starEach [e, f] X.env)).all (fun x => !x.1) && (backToKw cpos (keywordEach [] X.env)).all (fun x => x.1.isSome)
      && decide (([e, f] : List Expr).length + ([] : List Keyword).length + (if ([] : List Keyword).isEmpty then 0 else 1) < 30)) = true := by rfl)
    (hline : (apos.endLine == cpos.line) = true := by rfl) (htr : backTo cpos (starEach [e, f] X.env) = [(false, eval e X.env), (false, eval f X.env)] := by rfl) :
    IE X E (.Call (.Attribute o "get" apos) [e, f] [] cpos) (mDGet2 mo mk mx) := by
  obtain ⟨t1, p1, i1⟩ := ho
  obtain ⟨t2, p2, i2⟩ := he
  obtain ⟨t3, p3, i3⟩ := hf
  refine ⟨_, pe_dg2 hu p1 p2 p3 ⟨hbase, hfew, hline, htr⟩, fun U S H σ ρ Q s rl w => i1 U S H σ ρ _ s rl (w.bind.mono fun U1 S1 H1 d st1 s1 w1 v rv => ?_)⟩
  split at w1
  · next hd =>
    obtain ⟨a, rfl, hda⟩ := dct_is s1 rv hd
    refine ⟨a, rfl, hda, i2 U1 S1 H1 σ ρ _ s1 (rl.step st1) (w1.bind.mono fun U2 S2 H2 d2 st2 s2 w2 v2 r2 => i3 U2 S2 H2 σ ρ _ s2 ((rl.step st1).step st2) (w2.bind.mono fun U3 S3 H3 d3 st3 s3 w3 v3 r3 => ?_))⟩
    split at w3
    · next kvs k x hk =>
      split at w3
      · next ok =>
        obtain ⟨a', o', ea, g, l1, l2⟩ := dgt_of s3 ((rv.step st2).step st3) hk (r2.step st3) ok
        cases ea
        refine ⟨o', g, (w3.ok s3) _ ?_⟩
        cases hl : lookP kvs k with
        | none => rw [l2 hl]; exact r3
        | some z =>
          obtain ⟨v', rfl, rz⟩ := l1 z hl
          exact rz
      · exact False.elim w3
    · exact False.elim w3
  · exact False.elim w1
end
end G


namespace G
open PySem L2
def noLists (K : PySem.W.Frag) : Bool := K.all fun p => !(p.2.cls == Value.type "list")
theorem no_list {K : PySem.W.Frag} (h : noLists K = true) {a : Addr} {o : Obj} (e : K.lookup a = some o) : o.cls ≠ .type "list" := by
  intro q
  have m : (a, o) ∈ K := by
    clear h
    induction K with
    | nil => cases e
    | cons p r ih =>
      obtain ⟨b, x⟩ := p
      simp only [List.lookup] at e
      split at e
      · rename_i z
        cases e
        rw [beq_iff_eq.mp z]
        exact List.mem_cons_self ..
      · exact List.mem_cons_of_mem _ (ih e)
  have z := List.all_eq_true.mp h _ m
  rw [q] at z
  simp at z
theorem rd_of {K : PySem.W.Frag} (h : noLists K = true) {H : Hp} {a : Addr} {xs : List V} (q : SqL K H a xs) : Rd H a (.lst xs) := by
  rcases q with q | ⟨o, _, _, e, c, _⟩
  · exact q
  · exact absurd c (no_list h e)
theorem defAt_mk {K : PySem.W.Frag} {h : Heap} {mg : Str → Option Value} {x nm : Str} {ps : List Str} {st : Stmt} {f : Addr} {oc kV dc pm cd ct : Value} {od an : Option Addr} {sl : Array (Option Value)} (X : K.In h) (G : h.Ns mainGlobals mg)
    (a : PySem.W.nsIn K mainGlobals x = some (some (.ref f))) (l : K.lookup f = some ⟨oc, od, .func (PySem.W.fnOf nm nm (defArgs st) (defBody st) (defScope st) .none kV dc pm an cd ct), sl⟩)
    (c : PySem.W.codeIn K cd nm = true) (k : PySem.W.keepIn K (.ref f) = true)
    (hb : ∀ (kV doc pm : Value) (an : Option Addr) (cdv ct : Value) (us : List Value), us.length = ps.length → bindArgs (PySem.W.fnOf nm nm (defArgs st) (defBody st) (defScope st) .none kV doc pm an cdv ct) ⟨us, []⟩ = pure (ps.zip us)) : DefAt K mg x nm ps st :=
  ⟨f, _, fun_mk l c k, PySem.W.mg_of X G a, (fun_mk l c k).binds hb⟩
theorem law_key {K : PySem.W.Frag} {h : Heap} {mg : Str → Option Value} {st : Stmt} {f fa : Addr} {oc kV dc pm cd ct : Value} {od an : Option Addr} {sl : Array (Option Value)} (X : K.In h) (G : h.Ns mainGlobals mg) (hm : mg "law" = some (.ref fa))
    (a : PySem.W.nsIn K mainGlobals "law" = some (some (.ref f))) (l : K.lookup f = some ⟨oc, od, .func (PySem.W.fnOf "law" "law" (defArgs st) (defBody st) (defScope st) .none kV dc pm an cd ct), sl⟩)
    (c : PySem.W.codeIn K cd "law" = true) (k : PySem.W.keepIn K (.ref f) = true) :
    ∃ (oc kV dc pm cd ct : Value) (od an : Option Addr) (sl : Array (Option Value)), K = K ∧ K.lookup fa = some ⟨oc, od, .func (PySem.W.fnOf "law" "law" (defArgs st) (defBody st) (defScope st) .none kV dc pm an cd ct), sl⟩ ∧ PySem.W.codeIn K cd "law" = true ∧ PySem.W.keepIn K (.ref fa) = true := by
  have e := hm.symm.trans (PySem.W.mg_of X G a)
  cases e
  exact ⟨oc, kV, dc, pm, cd, ct, od, an, sl, rfl, l, c, k⟩
def spLaw : Sp := fun vs H Q _ => ∃ (a : Addr) (ns : List Int), vs = [.ref a] ∧ Rd H a (.lst (ns.map V.int)) ∧ ns.length ≤ 63 ∧ ∀ H', Q (.bl true) H'
theorem rp_ints {K : PySem.W.Frag} {F : Hp} : ∀ ns : List Int, RpAll K F (ns.map V.int) (ns.map PyData.int)
  | [] => .nil
  | n :: ns => .cons (.int n) (rp_ints ns)
theorem law_end {P : Program} {w : World} {K : PySem.W.Frag} {mg : Str → Option Value} {base : Heap} {k : Nat} {f : Addr} {fd : FuncData} {ps : List Str} {cl : Nat → Value} {fn : Fn} (F : FnOk P w K mg base CX0 k f fd ps (spF K cl 1 fn))
    (hl : ∀ ns : List Int, ns.length ≤ 63 → ∃ S, fn [.p (.list (ns.map PyData.int))] [] = .ok (.p (.bool true)) S) : FnOk P w K mg base CX0 k f fd ps spLaw :=
  F.imp fun vs H Q E h => by
    obtain ⟨a, ns, rfl, hr, hn, q⟩ := h
    obtain ⟨S, e⟩ := hl ns hn
    refine ⟨rfl, ⟨fun b => if b = a then H a else none, fun _ => none⟩, [], [.p (.list (ns.map PyData.int))], ⟨fun b o h => ?_, fun l a h => (nomatch h), fun l h => absurd h (Nat.not_lt_zero _), fun l l' a h => (nomatch h), fun l a b h => (nomatch h), fun l a h => (nomatch h), fun l b h => by simp at h⟩, .cons (.lst ?_ (rp_ints ns)) .nil, ?_⟩
    · have h' : (if b = a then H a else none) = some o := h
      by_cases e : b = a
      · rw [if_pos e] at h'; rw [e]; exact .inl h'
      · rw [if_neg e] at h'; cases h'
    · rcases hr with hr | ⟨o, hr⟩
      · exact .inl (by show (if a = a then H a else none) = _; rw [if_pos rfl]; exact hr)
      · exact .inr ⟨o, by show (if a = a then H a else none) = _; rw [if_pos rfl]; exact hr⟩
    · rw [e]
      intro U' H' _ _ v rv
      cases rv
      exact q H'
theorem walk_end {l : PySem.W.OpenLaw} {k : Nat} {q : Program} {loose : List Str} {XP : (Str → Option Value) → Heap → Prop} {YP : World → Heap → Prop} {d : DefRec} {K : Params → PySem.W.Frag} {x : Str} (hn : l.most = some 63) (hdf : d.params.defaults = []) (hr : Room k callerA) (hK : ∀ w : World, noLists (K w.params) = true)
    (hY : ∀ (w : World) (h : Heap), YP w h → (K w.params).In h)
    (F : ∀ (w : World) (mg : Str → Option Value) (fa : Addr) (h : Heap), (K w.params).In h → h.Ns mainGlobals mg → mg d.name = some (.ref fa) →
      ∃ fd : FuncData, (∀ (s : Shared) (u : Value), BindsTo s fd ⟨[u], []⟩ [(x, u)]) ∧ ∀ base : Heap, (K w.params).In base → base.Ns mainGlobals mg → FnOk l.prog w (K w.params) mg base CX0 k fa fd [x] spLaw) :
    PySem.W.WalkO q loose XP YP l.row.toRowW d [] (fun f vs => PySem.call f vs) :=
  L2.walk_of (n := 63) (k := k) (x := x) (CX := fun _ => CX0) (sp := fun _ => spLaw) hn (by decide) hdf hr hY F (fun w _ a ns hl _ hS => ⟨a, ns, rfl, rd_of (hK w) hS, hl, fun _ => rfl⟩) fun _ _ _ _ _ z => z
end G


namespace G
open PySem L2

/-! ### range(a, b, -1) -/
def rangeD (lo : Int) : Nat → List PyData
  | 0 => []
  | n + 1 => .int lo :: rangeD (lo - 1) n
theorem rangeD_length (n : Nat) : ∀ lo : Int, (rangeD lo n).length = n := by
  induction n with
  | zero => intro; rfl
  | succ n ih => intro lo; rw [rangeD, List.length_cons, ih]
theorem rangeD_get (n : Nat) : ∀ (lo : Int) (i : Nat), (rangeD lo n)[i]? = if i < n then some (.int (lo - i)) else none := by
  induction n with
  | zero => intro lo i; rfl
  | succ n ih =>
    intro lo i
    cases i with
    | zero => rw [if_pos (by omega)]; show some (PyData.int lo) = _; congr 2; simp
    | succ i =>
      rw [rangeD, List.getElem?_cons_succ, ih]
      by_cases h : i < n
      · rw [if_pos h, if_pos (by omega)]; congr 2; omega
      · rw [if_neg h, if_neg (by omega)]
theorem runsD {K : PySem.W.Frag} {U : Wd} {H : Hp} {lo : Int} {n : Nat} : Runs K U H (Itc lo (-1) n) (rangeD lo n) := by
  intro U' S' H' i st s'
  refine ⟨fun hl => by rw [rangeD_length] at hl; exact Nat.le_of_eq hl.symm, fun x hx => ?_⟩
  rw [rangeD_get] at hx
  by_cases h : i < n
  · rw [if_pos h] at hx; cases hx
    refine ⟨h, fun v H'' y => ?_⟩
    obtain ⟨rfl, rfl⟩ := y
    refine ⟨U', Step.refl _ _, s', ?_⟩
    have e : lo + (i : Nat) * (-1 : Int) = lo - i := by omega
    rw [e]
    exact .int _
  · rw [if_neg h] at hx; cases hx
def mRng3 (n : MA) : MI := fun ρ S => (n ρ S).bind fun ds S1 => match ds with
  | [.p (.int i), .p (.int j), .p (.int c)] => if (inB i && inB j && decide (c = -1)) = true then .ok (rangeD i (i - j).toNat) S1 else .stuck
  | _ => .stuck
section
variable {X : Cx} {E : EX} {pos : Pos}
theorem ii_rng3 {tg a b c : Expr} {p pos : Pos} {n : MA} (hg : Gl X "range") (hm : X.mg "range" = none) (ha : IA X E [a, b, c] n) (hs : starEach [a, b, c] X.env = (false, eval a X.env) :: starEach [b, c] X.env := by rfl)
    (hs2 : (backTo pos (starEach [b, c] X.env)).any (·.1) = false := by rfl) : II X E tg (.Call (.Name "range" p) [a, b, c] [] pos) (mRng3 n) := by
  obtain ⟨⟨t, p, i⟩, _⟩ := ha
  refine ⟨_, pi_range3 hg hm p hs hs2, fun U S H σ ρ R s rl w => i U S H σ ρ _ s rl (w.bind.mono fun U1 S1 H1 ds st1 s1 w1 vs rv => ?_)⟩
  split at w1
  · next j k c =>
    split at w1
    · next hj =>
      obtain ⟨v, u, z, rfl, r, r', r''⟩ := rel3 rv
      cases r; cases r'; cases r''
      rw [Bool.and_eq_true, Bool.and_eq_true, decide_eq_true_eq] at hj
      obtain ⟨⟨h1, h2⟩, rfl⟩ := hj
      exact ⟨j, k, -1, _, rfl, RgC.neg (inB_of h1).1 (inB_of h1).2 (inB_of h2).1 (inB_of h2).2, (Wants.ok w1 s1) _ runsD⟩
    · exact False.elim w1
  · exact False.elim w1
end

/-! ### a[i] += e of a list of ints -/
section
variable {X : Cx} {E : EX} {pos : Pos} {o i e : Expr} {mo mi ma : ME}
theorem get_lst : PGet X (rIxL X.K) := by
  intro pins s σ H x y v u Q I rx ry h
  obtain ⟨l, ws, k, z, rfl, rfl, hl, hat, q⟩ := h
  cases rx
  obtain ⟨t, rfl⟩ := ry
  obtain ⟨us, rs, pl, _⟩ := I.list hl
  obtain ⟨j, g1, g2, _, g4, g5⟩ := atI_get hat
  obtain ⟨c, hc, rc⟩ := rs.get g2
  have ln := rs.length
  have l63 := line63
  have fin : EP X pins σ Q c s := ⟨z, H, I, rc, q⟩
  by_cases hk : 0 ≤ k
  · rw [seqIndex_of hk g5] at g1
    have e : k.toNat = j := Option.some.inj g1
    exact wpAny_getItem_list pl.isList hk (by omega) (by rw [e]; simpa using hc) fin
  · rw [seqIndex_neg (by omega) g4] at g1
    have e : (k + (us.toArray.size : Int)).toNat = j := by rw [List.size_toArray, ← ln]; exact Option.some.inj g1
    exact wpAny_getItem_list_neg pl.isList (by omega) (by simp; omega) (by omega) (by rw [e]; simpa using hc) fin
def mAugS (mo mi ma : ME) : MS := fun ρ S => (mo ρ S).bind fun d S1 => (mi ρ S1).bind fun ix S2 => if isLst d S2 = true then (gIx d ix S2).bind fun x S3 => (ma ρ S3).bind fun y S4 => (i2 cTrue (fun i j => .int (i + j)) x y S4).bind fun z S5 => (gSet d ix z S5).bind fun _ S6 => .ok (.nx, ρ) S6 else .stuck
theorem imp_ixl {K : PySem.W.Frag} {U : Wd} {S : Sto} {H : Hp} {x y : V} {d e : D} {Q : VK} (s : Sat K U S H) (rx : RelD K U d x) (ry : RelD K U e y) (hl : isLst d S = true) (w : Wants K E U H (gIx d e S) (KD K Q)) : rIxL K x y H Q := by
  unfold isLst at hl
  split at hl
  · next xs hs =>
    rcases imp_ix U S H x y d e Q s rx ry w with q | q
    · exact q
    · obtain ⟨a, vs, rfl, q1, q2⟩ := seq_rel s rx hs
      unfold gIx at w
      split at w
      · next i =>
        rw [hs] at w
        cases ry
        have w' : Wants K E U H (match atI xs i with
          | some x => .ok (.p x) S
          | none => .stuck) (KD K Q) := w
        split at w'
        · next x hz =>
          obtain ⟨z, hz1, hz2⟩ := atI_rel q2 hz
          exact ⟨a, vs, i, z, rfl, rfl, .inl q1, hz1, (Wants.ok w' s) z hz2⟩
        · exact False.elim w'
      · exact False.elim w
  · cases hl
theorem is_augS {tpos : Pos} (ho : IE X E o mo) (hi : IE X E i mi) (he : IE X E e ma) (ha : ∀ ov iv new, augStore i ov iv new = (do holding [new, ov, iv] (setItem ov iv new); release [new, ov, iv] []; pure .next) := by intros; rfl) : IS X E (.AugAssign (.Subscript o i tpos) .Add e pos) (mAugS mo mi ma) := by
  obtain ⟨t1, p1, i1⟩ := ho
  obtain ⟨t2, p2, i2'⟩ := hi
  obtain ⟨t3, p3, i3⟩ := he
  refine ⟨_, ps_augS p1 p2 get_lst p3 ip_add set_list ha, fun U S H σ ρ N s rl w => i1 U S H σ ρ _ s rl (w.bind.mono fun U1 S1 H1 d st1 s1 w1 v rv => i2' U1 S1 H1 σ ρ _ s1 (rl.step st1) (w1.bind.mono fun U2 S2 H2 ix st2 s2 w2 u ru => ?_))⟩
  split at w2
  · next hl =>
    refine imp_ixl s2 (rv.step st2) ru hl (w2.bind.mono fun U3 S3 H3 x st3 s3 w3 xv rx => i3 U3 S3 H3 σ ρ _ s3 (((rl.step st1).step st2).step st3) (w3.bind.mono fun U4 S4 H4 y st4 s4 w4 yv ry => ?_))
    unfold i2 at w4
    split at w4
    · next a b =>
      cases ry
      have rx' := rx.step st4
      cases rx'
      refine ⟨a, b, rfl, rfl, ?_⟩
      have w5 : Wants X.K E U4 H4 ((gSet d ix (.p (.int (a + b))) S4).bind fun _ S6 => .ok (.nx, ρ) S6) (KS X.K N) := w4
      exact imp_set U4 S4 H4 v u (.int (a + b)) d ix (.p (.int (a + b))) _ s4 (((rv.step st2).step st3).step st4) ((ru.step st3).step st4) (.int _) (w5.bind.mono fun U6 S6 H6 _ st6 s6 w6 => (w6.ok s6) σ (((((rl.step st1).step st2).step st3).step st4).step st6))
    · exact False.elim w4
  · exact False.elim w2
end

/-! ### for k in d, d a dict with keys of ints and texts -/
theorem Sat.lock {K : PySem.W.Frag} {U : Wd} {S : Sto} {H : Hp} {a : Addr} {ks : List (Key × V)} {od : Obj} (s : Sat K U S H) (hF : U.F a = some (.dK ks)) (hH : H a = some (.dK ks)) : Sat K U S (upd H a (.frz od (.dK ks))) := by
  refine ⟨fun b u h => ?_, s.dom, s.tot, s.inj, fun l b c h q => ?_, fun l b h => ?_, s.rf⟩
  · by_cases e : b = a
    · subst e
      rw [hF] at h; cases h
      exact .inr ⟨od, upd_same, rfl⟩
    · rw [upd_ne e]; exact s.fz b u h
  · obtain ⟨z1, u, z2, z3⟩ := s.ob l b c h q
    have ne : b ≠ a := fun e => by rw [e, hF] at z1; cases z1
    exact ⟨z1, u, by rw [upd_ne ne]; exact z2, z3⟩
  · by_cases e : b = a
    · subst e; exact ⟨_, upd_same⟩
    · rw [upd_ne e]; exact s.hs l b h
theorem Sat.unlock {K : PySem.W.Frag} {U : Wd} {S : Sto} {H : Hp} {a : Addr} {ks : List (Key × V)} (s : Sat K U S H) (hF : U.F a = some (.dK ks)) : Sat K U S (upd H a (.dK ks)) := by
  refine ⟨fun b u h => ?_, s.dom, s.tot, s.inj, fun l b c h q => ?_, fun l b h => ?_, s.rf⟩
  · by_cases e : b = a
    · subst e
      rw [hF] at h; cases h
      exact .inl upd_same
    · rw [upd_ne e]; exact s.fz b u h
  · obtain ⟨z1, u, z2, z3⟩ := s.ob l b c h q
    have ne : b ≠ a := fun e => by rw [e, hF] at z1; cases z1
    exact ⟨z1, u, by rw [upd_ne ne]; exact z2, z3⟩
  · by_cases e : b = a
    · subst e; exact ⟨_, upd_same⟩
    · rw [upd_ne e]; exact s.hs l b h
theorem Step.unlock {U U' : Wd} {H H' : Hp} {a : Addr} {u u' : HO} (t : Step U (upd H a u') U' H') (hH : H a = some u) : Step U H U' (upd H' a u) where
  ef := t.ef
  ei := t.ei
  fr := fun b o h n => by
    by_cases e : b = a
    · subst e; rw [hH] at h; cases h; exact upd_same
    · rw [upd_ne e]; exact t.fr b o (by rw [upd_ne e]; exact h) n
  ni := fun l b h => by
    rcases t.ni l b h with q | q
    · exact .inl q
    · refine .inr ?_
      by_cases e : b = a
      · subst e; rw [upd_same] at q; cases q
      · rw [upd_ne e] at q; exact q
  nf := fun b o h => by
    rcases t.nf b o h with q | q | q
    · exact .inl q
    · refine .inr (.inl ?_)
      by_cases e : b = a
      · subst e; rw [upd_same] at q; cases q
      · rw [upd_ne e] at q; exact q
    · exact .inr (.inr q)
  dm := fun b o h => by
    by_cases e : b = a
    · subst e; exact ⟨u, upd_same⟩
    · obtain ⟨o', q⟩ := t.dm b o (by rw [upd_ne e]; exact h)
      exact ⟨o', by rw [upd_ne e]; exact q⟩
  ff := fun b o o' f h => by
    by_cases e : b = a
    · subst e; rw [hH] at h; cases h; exact upd_same
    · rw [upd_ne e]; exact t.ff b o o' f (by rw [upd_ne e]; exact h)
section
variable {X : Cx} {E : EX} {pos : Pos}
theorem ps_or2 {st : Stmt} {t u : TS} (h : PS X st t) (k : PS X st u) : PS X st (fun D σ H => t D σ H ∨ u D σ H) := ⟨fun pins s σ H D I q => q.elim (h.run pins s σ H D I) (k.run pins s σ H D I)⟩
def keysI (kvs : List (PyData × PyData)) : Option (List PyData) := if kvs.all (fun p => (pk p.1).isSome) = true then some (kvs.map (·.1)) else none
theorem runsK {K : PySem.W.Frag} {U : Wd} {H : Hp} {a : Addr} {ks : List (Key × V)} {od : Obj} (hF : U.F a = some (.dK ks)) (hH : H a = some (.frz od (.dK ks))) : Runs K U H (Itk a od ks) (ks.map fun q => keyP q.1) := by
  intro U' S' H' i st s'
  have hk : H' a = some (.frz od (.dK ks)) := st.ff a _ _ hF hH
  refine ⟨fun hl => ⟨hk, by rw [List.length_map] at hl; exact Nat.le_of_eq hl.symm⟩, fun x hx => ?_⟩
  rw [List.getElem?_map] at hx
  obtain ⟨q, hq, rfl⟩ := Option.map_eq_some_iff.mp hx
  have hi := (List.getElem?_eq_some_iff.mp hq).1
  refine ⟨⟨hk, hi⟩, fun v H'' y => ?_⟩
  obtain ⟨rfl, k, z, e, rfl⟩ := y
  rw [hq] at e
  cases e
  refine ⟨U', Step.refl _ _, s', ?_⟩
  cases k with
  | inl i => exact .int i
  | inr x => exact .str x
end
end G


namespace G
open PySem L2
section
variable {X : Cx} {E : EX} {pos : Pos}
theorem rp_dK {K : PySem.W.Frag} {F : Hp} {v : V} {kvs : List (PyData × PyData)} {xs : List PyData} (r : Rp K F v (.dict kvs)) (h : keysI kvs = some xs) : ∃ a ks, v = .ref a ∧ F a = some (.dK ks) ∧ xs = ks.map fun q => keyP q.1 := by
  unfold keysI at h
  split at h
  · next ha =>
    cases h
    cases r with
    | @dK a ks ds hF hr =>
      refine ⟨a, ks, rfl, hF, ?_⟩
      have hl := hr.length
      rw [List.length_map] at hl
      rw [List.map_fst_zip (by rw [List.length_map]; omega)]
    | @dN a xs vs ds hF hv hr hk hne =>
      have hl : xs.length = ds.length := by
        have := hv.length
        rw [List.length_map] at this
        rw [← hr.length, this]
      refine absurd (zip_nil_of (f := fun x : NE => x.1.data) hl ha (fun x hx d => ?_)) hne
      have r := rp_mem hk x hx
      show (pk x.1.data).isSome = false
      generalize x.1.data = z at r
      cases r <;> rfl
  · cases h
theorem loop_ok {K : PySem.W.Frag} {J : It} {xs : List PyData} {u : TG} {z : TS} {g : MG} {b : MS} {ws : List Nat} {U : Wd} {S : Sto} {H : Hp} {σ : L2.St} {ρ : Loc} {N : Ends} (j : ImpG K E ws u g) (k : ImpS K E z b) (s : Sat K U S H) (rl : RelL K U ρ σ) (RJ : Runs K U H J xs)
    (w : Wants K E U H (mLoop g b xs ρ S) (KS K N)) : ∃ W : Nat → Nat → L2.St → Hp → Prop, (∃ m, W 0 m σ H) ∧ ∀ i m σ H, W i m σ H →
      (J.stop i H ∧ N.nx σ H) ∨ (J.go i H ∧ ∃ M : L2.St → Hp → Prop, (∀ σ' H', M σ' H' → ∃ m', m' < m ∧ W (i + 1) m' σ' H') ∧ ∀ x H', J.yld i H x H' → u x σ H' fun σ2 H2 => z { N with nx := M, ct := M, bk := N.nx } σ2 H2) := by
  refine ⟨fun n m σ' H' => m = xs.length - n ∧ n ≤ xs.length ∧ ∃ U' S' ρ', Step U H U' H' ∧ Sat K U' S' H' ∧ RelL K U' ρ' σ' ∧ Wants K E U' H' (mLoop g b (xs.drop n) ρ' S') (KS K N), ⟨xs.length, by simp, Nat.zero_le _, U, S, ρ, Step.refl _ _, s, rl, by rw [List.drop_zero]; exact w⟩, ?_⟩
  rintro n m σ' H' ⟨rfl, hn, U', S', ρ', st, s', rl', w'⟩
  obtain ⟨stop, go⟩ := RJ U' S' H' n st.p s'
  by_cases hlt : n < xs.length
  · have hx : xs[n]? = some xs[n] := by simp [hlt]
    obtain ⟨hgo, yl⟩ := go _ hx
    refine .inr ⟨hgo, fun σ3 H3 => ∃ U3 S3 ρ3, Step U H U3 H3 ∧ Sat K U3 S3 H3 ∧ RelL K U3 ρ3 σ3 ∧ Wants K E U3 H3 (mLoop g b (xs.drop (n + 1)) ρ3 S3) (KS K N), fun σ3 H3 h3 => ⟨xs.length - (n + 1), by omega, rfl, hlt, h3⟩, fun v H'' y => ?_⟩
    obtain ⟨U'', st2, s'', rv⟩ := yl v H'' y
    rw [drop_cons hx] at w'
    refine j U'' S' H'' σ' ρ' v (.p xs[n]) _ s'' (rl'.step st2) rv (Wants.mono (Wants.bind (Wants.step st2 w')) fun U3 S3 H3 ρ3 st3 s3 w3 σ3 rl3 _ => ?_)
    refine k U3 S3 H3 σ3 ρ3 _ s3 rl3 (w3.bind.mono fun U4 S4 H4 rr st4 s4 w4 σ4 rl4 => ?_)
    obtain ⟨f, ρ4⟩ := rr
    have all := ((st.trans st2).trans st3).trans st4
    cases f with
    | nx => exact ⟨U4, S4, ρ4, all, s4, rl4, w4⟩
    | ct => exact ⟨U4, S4, ρ4, all, s4, rl4, w4⟩
    | bk => exact (Wants.ok w4 s4) σ4 rl4
    | rt d => exact (Wants.ok w4 s4) σ4 rl4
  · have e : n = xs.length := by omega
    subst e
    rw [List.drop_length] at w'
    exact .inl ⟨stop rfl, (Wants.ok w' s') σ' rl'⟩
/-- for .. in x: x a dict that nobody changes -/
def mForK (k : Nat) (g : MG) (b : MS) : MS := fun ρ S => match ρ[k]? with
  | some (some (.p (.dict kvs))) => (match keysI kvs with
    | some xs => (mLoop g b xs ρ S).nox
    | none => .stuck)
  | _ => .stuck
theorem is_forK {x : Str} {p : Pos} {tg : Expr} {body : List Stmt} {g : MG} {b : MS} {ws : List Nat} {k : Nat} (hp : PassesOwn (model X.prog X.w) X.A X.env X.xe) (hc : X.calm = true) (hv : PE X (.Name x p) (tVar k)) (hg : IG X E ws tg g) (hb : ISs X E body b)
    (hs : ∀ z, foldedSetIterable (.Name x p) X.env z = pure z := by intro _; rfl) : IS X E (.For tg (.Name x p) body [] pos) (mForK k g b) := by
  obtain ⟨u, q, j⟩ := hg
  obtain ⟨z, r, kk⟩ := hb
  have P := ps_for hp hc (pi_keys hv) q r hs (pos := pos)
  refine ⟨_, ps_or2 P (ps_lock P), fun U S H σ ρ N s rl w => ?_⟩
  unfold mForK at w
  split at w
  · next kvs he =>
    split at w
    · next xs hx =>
      obtain ⟨v, hσ, rv⟩ := rl.get k _ he
      obtain ⟨a, ks, rfl, hF, rfl⟩ := rp_dK rv hx
      rcases s.fz a _ hF with hH | ⟨od, hH, _⟩
      · refine .inr ⟨a, _, hH, trivial, fun od => ⟨.ref a, hσ, a, od, rfl, .inl ⟨ks, upd_same, ?_⟩⟩⟩
        refine loop_ok j kk (s.lock hF hH) rl (runsK hF upd_same) ?_
        cases hl : mLoop g b (ks.map fun q => keyP q.1) ρ S with
        | stuck => rw [hl] at w; exact w
        | exc c S' => rw [hl] at w; exact False.elim w
        | ok r' S' =>
          rw [hl] at w
          intro U' H' st s' σ' rl'
          have hk : H' a = some (.frz od (.dK ks)) := st.ff a _ _ hF upd_same
          have w1 := w U' (upd H' a (.dK ks)) (st.unlock hH) (s'.unlock (st.ef _ _ hF)) σ' rl'
          obtain ⟨f, ρ'⟩ := r'
          cases f with
          | nx => exact ⟨hk, w1⟩
          | ct => exact ⟨hk, w1⟩
          | bk => exact ⟨hk, w1⟩
          | rt d => exact fun v rv => ⟨hk, w1 v rv⟩
      · exact .inl ⟨.ref a, hσ, a, od, rfl, .inl ⟨ks, hH, loop_ok j kk s rl (runsK hF hH) (Wants.nox w)⟩⟩
    · exact False.elim w
  · exact False.elim w

/-! ### a call with things that are only looked at; what is told is a truth -/
def peek (d : D) (S : Sto) : Option PyData := match d with
  | .p x => some x
  | .r l => match S[l]? with
    | some (some (.ins _ _)) => none
    | some (some (.tab _ _)) => none
    | some (some (.drs _)) => none
    | some (some o) => some (thaw o)
    | _ => none
def peeks (S : Sto) : List D → Option (List PyData)
  | [] => some []
  | d :: ds => match peek d S, peeks S ds with
    | some x, some xs => some (x :: xs)
    | _, _ => none
def mCallB (fn : Fn) (n : MA) : ME := fun ρ S => (n ρ S).bind fun ds S1 => match peeks S1 ds with
  | some xs => (match fn (xs.map .p) [] with
    | .ok (.p (.bool b)) _ => .ok (.p (.bool b)) S1
    | _ => .stuck)
  | none => .stuck
open Classical in
/-- for a while nothing is changed -/
noncomputable def Wd.still (U : Wd) (S : Sto) (H : Hp) : Wd := ⟨fun a => match U.F a with
  | some o => some o
  | none => if (∃ (l : Nat) (b : Ob), U.io l = some a ∧ S[l]? = some (some b)) then H a else none, fun _ => none⟩
theorem still_sub {U : Wd} {S : Sto} {H : Hp} : Sub U.F (U.still S H).F := fun a o h => by
  show (match U.F a with | some o => some o | none => _) = some o
  rw [h]
theorem still_none {U : Wd} {S : Sto} {H : Hp} {l : Nat} {a : Addr} (h : (U.still S H).io l = some a) : False := by
  have h' : (none : Option Addr) = some a := h
  cases h'
open Classical in
theorem still_sat {K : PySem.W.Frag} {U : Wd} {S : Sto} {H : Hp} (s : Sat K U S H) : Sat K (U.still S H) [] H where
  fz := fun a o h => by
    have h' : (match U.F a with
      | some o => some o
      | none => if (∃ (l : Nat) (b : Ob), U.io l = some a ∧ S[l]? = some (some b)) then H a else none) = some o := h
    split at h'
    · next o' e => cases h'; exact s.fz a _ e
    · split at h'
      · exact .inl h'
      · cases h'
  dom := fun l a h => (still_none h).elim
  tot := fun l h => absurd h (Nat.not_lt_zero _)
  inj := fun l l' a h _ => (still_none h).elim
  ob := fun l a b h _ => (still_none h).elim
  hs := fun l a h => (still_none h).elim
  rf := fun l b h => by simp at h
open Classical in
theorem still_rel {K : PySem.W.Frag} {U : Wd} {S : Sto} {H : Hp} (s : Sat K U S H) {d : D} {v : V} {x : PyData} (r : RelD K U d v) (h : peek d S = some x) : Rp K (U.still S H).F v x := by
  cases d with
  | p y => cases h; exact Rp.sub still_sub r
  | r l =>
    obtain ⟨a, ha, rfl⟩ := r
    unfold peek at h
    simp only at h
    split at h
    · cases h
    · cases h
    · cases h
    · next b hnb hnb2 hnb3 hb =>
      cases h
      obtain ⟨hF, o, hH, hO⟩ := s.ob l a b ha hb
      refine Rp.sub (fun c u e => ?_) (ob_rp hO hF (fun C fs e => hnb C fs (by rw [e])) (fun P q e => hnb2 P q (by rw [e])) (fun ds e => hnb3 ds (by rw [e])))
      by_cases hc : c = a
      · subst hc
        rw [upd_same] at e
        rw [← e]
        show (match U.F c with | some o => some o | none => _) = some o
        rw [hF]
        show (if (∃ (l : Nat) (b : Ob), U.io l = some c ∧ S[l]? = some (some b)) then H c else none) = some o
        rw [if_pos ⟨l, b, ha, hb⟩]
        exact hH
      · rw [upd_ne hc] at e
        exact still_sub c u e
    · cases h
theorem still_rels {K : PySem.W.Frag} {U : Wd} {S : Sto} {H : Hp} (s : Sat K U S H) : ∀ {ds : List D} {vs : List V} {xs : List PyData}, RelDs K U ds vs → peeks S ds = some xs → RelDs K (U.still S H) (xs.map .p) vs
  | [], _, _, .nil, h => by cases h; exact .nil
  | d :: ds, _, xs, .cons r t, h => by
    unfold peeks at h
    split at h
    · next x ys h1 h2 =>
      cases h
      exact .cons (still_rel s r h1) (still_rels s t h2)
    · cases h
theorem still_back {K : PySem.W.Frag} {U U' : Wd} {S S' : Sto} {H H' : Hp} (s : Sat K U S H) (st : Step (U.still S' H) H U' H') : Step U H U H' ∧ Sat K U S H' := by
  have kp : ∀ a o, H a = some o → H' a = some o := fun a o h => st.fr a o h fun l e => still_none e
  refine ⟨⟨Sub.refl _, fun _ _ h => h, fun a o h _ => kp a o h, fun _ _ h => .inl h, fun _ _ h => .inl h, fun a o h => ⟨o, kp a o h⟩, fun a o _ _ h => kp a o h⟩, ⟨fun a o h => ?_, s.dom, s.tot, s.inj, fun l a b h q => ?_, fun l a h => ?_, s.rf⟩⟩
  · rcases s.fz a o h with z | ⟨z, q, i⟩
    · exact .inl (kp _ _ z)
    · exact .inr ⟨z, kp _ _ q, i⟩
  · obtain ⟨z1, u, z2, z3⟩ := s.ob l a b h q
    exact ⟨z1, u, kp _ _ z2, z3⟩
  · obtain ⟨u, q⟩ := s.hs l a h
    exact ⟨u, kp _ _ q⟩
theorem ie_ownB {k : Nat} {ps : List Str} {fn : Fn} {x : Str} {p : Pos} {e : Expr} {es : List Expr} {na : MA} (C : Cal X.prog X.w X.K X.mg X.base x ps k fn) (hr : Room k X.A) (hg : Gl X x)
    (ha : IA X E (e :: es) na) (hl : (e :: es).length = ps.length := by rfl) (hdb : (x == ("__debug__" : Str)) = false := by decide) (he : starEach (e :: es) X.env = (false, eval e X.env) :: starEach es X.env := by rfl) (hpl : (backTo pos (starEach es X.env)).any (·.1) = false := by rfl) :
    IE X E (.Call (.Name x p) (e :: es) [] pos) (mCallB fn na) := by
  obtain ⟨f, fd, F, hm, hk, hb⟩ := C
  obtain ⟨⟨t, pt, i⟩, hln⟩ := ha
  refine ⟨_, pe_call F hr hg hm hk hb .nil pass0 pt hdb he hpl, fun U S H σ ρ Q s rl w => i U S H σ ρ _ s rl ?_⟩
  unfold mCallB at w
  cases hh : na ρ S with
  | stuck => rw [hh] at w; exact w
  | exc c S' => rw [hh] at w; exact w
  | ok ds S' =>
    rw [hh] at w
    have hd : ds.length = ps.length := (hln ρ S ds S' hh).trans hl
    intro U1 H1 st1 s1 vs rv
    rw [List.append_nil]
    have hv : ds.length = vs.length := Paired.length rv
    have w1 := Wants.step st1 w
    have w2 : Wants X.K E U1 H1 (match peeks S' ds with
      | some xs => (match fn (xs.map .p) [] with
        | .ok (.p (.bool b)) _ => .ok (.p (.bool b)) S'
        | _ => .stuck)
      | none => .stuck) (KD X.K Q) := w1
    split at w2
    · next xs hx =>
      split at w2
      · next b S2 hf =>
        refine ⟨by rw [← hv]; exact hd, U1.still S' H1, [], xs.map .p, still_sat s1, still_rels s1 rv hx, ?_⟩
        rw [hf]
        intro U3 H3 st3 s3 v rv3
        obtain ⟨k1, k2⟩ := still_back s1 st3
        cases rv3
        exact w2 U1 H3 k1 k2 _ (.bl b)
      · exact False.elim w2
    · exact False.elim w2
end
end G


namespace G
open PySem L2
section
variable {X : Cx} {E : EX}
/-! ### min of a list of data -/
def rMinD (K : PySem.W.Frag) : List V → Hp → VK → Prop := fun vs H Q => ∃ (a : Addr) (xs : List V) (F : Hp) (d : PyData) (ds : List PyData), vs = [V.ref a] ∧ Rd H a (.lst xs) ∧ Le F H ∧ RpAll K F xs (d :: ds) ∧ lay (.list (d :: ds)) = true ∧ PySem.W.AlikeAll (d :: ds) ∧
  ∀ v, Rp K F v (PySem.W.minD d ds) → Q v H
theorem cr_minD (hc : X.calm = true) (hu : X.A.units + 100 < cLine) : CallR X (.builtin "min") (rMinD X.K) := by
  intro pins s σ H vs us Q I r h
  obtain ⟨a, xs, F, d, ds, rfl, hq, hF, ra, hl, hal, q⟩ := h
  rw [Vals.ref1 r]
  have dp : DpAll X.K H xs (d :: ds) := RpAll.dp hF ra (lay_can hl)
  obtain ⟨z, its, n, rv, e⟩ := hq.ok I.hok
  obtain ⟨as, hr⟩ := Dp.readsAll I (d :: ds) xs its dp rv
  have hdep := SeqAt.depth_of_shaped hl
  rw [PyData.depth] at hdep
  refine PySem.W.min_list_data (vs := its.toArray) (I.ok.hd hc) ⟨_, e, rfl, n, rfl⟩ hr hal (by omega) fun i v h' tk bs hv hm hk => ?_
  have hvi : its[i]? = some v := by simpa using hv
  obtain ⟨y, hy, ry⟩ : ∃ y, xs[i]? = some y ∧ RelV y v := by
    have hi : i < xs.length := by rw [rv.length]; exact (List.getElem?_eq_some_iff.mp hvi).1
    obtain ⟨w', hw, rw'⟩ := rv.get (List.getElem?_eq_getElem hi)
    rw [hvi] at hw
    cases hw
    exact ⟨_, List.getElem?_eq_getElem hi, rw'⟩
  obtain ⟨x, hx, rx⟩ := ra.getV hy
  obtain ⟨bs', hrd, _⟩ := PySem.W.readsAll_atA hr i v hv
  have ex : (d :: ds).getD i .none = x := by rw [List.getD_eq_getElem?_getD, hx]; rfl
  rw [ex] at hrd
  have hxm : PySem.W.minD d ds = x := (PyProof.Rows.reads_det (h := h') (h' := h') (fun _ _ z _ => z) hm (PyProof.Rows.Reads.keeps hk hrd)).1.symm
  have I1 : Inv X pins σ H { s with heap := h', toks := tk } := I.kept hk
  exact ⟨y, H, I1, ry, q y (by rw [hxm]; exact rx)⟩
def alikeB (xs : List PyData) : Bool := (xs.all (fun x => PySem.W.alike x x) && srtAlike xs) && xs.all (fun x => match x with | .none => false | _ => true)
theorem alikeB_of {xs : List PyData} (h : alikeB xs = true) : PySem.W.AlikeAll xs := by
  unfold alikeB at h
  rw [Bool.and_eq_true, Bool.and_eq_true] at h
  refine ⟨fun x hx y hy => alike_all h.1.1 h.1.2 x hx y hy, fun x hx e => ?_⟩
  subst e
  have q := List.all_eq_true.mp h.2 _ hx
  cases q
def gMinD : GC := gSeq fun k xs S => match k, xs with
  | true, d :: ds => if (lay (.list (d :: ds)) && alikeB (d :: ds)) = true then .ok (.p (PySem.W.minD d ds)) S else .stuck
  | _, _ => .stuck
theorem imp_minD {K : PySem.W.Frag} : ImpC K E (rMinD K) gMinD := imp_seq fun U S H a k vs xs Q s q r w => by
  split at w
  · next d ds =>
    split at w
    · next hb =>
      rw [Bool.and_eq_true] at hb
      exact ⟨a, vs, U.F, d, ds, rfl, q, s.fz, r, hb.1, alikeB_of hb.2, fun v rv => (Wants.ok w s) v rv⟩
    · exact False.elim w
  · exact False.elim w
end
end G


namespace G
open PySem L2
/-! ### [e for a in xs for b in ys] -/
section
variable {X : Cx} {E : EX} {pos : Pos}
theorem bind_assoc {α β γ : Type} (r : Res α) (f : α → Sto → Res β) (h : β → Sto → Res γ) : (r.bind f).bind h = r.bind fun a S => (f a S).bind h := by cases r <;> rfl
theorem Stp.aside {U U' : Wd} {H H' : Hp} {p : Addr} {o : HO} (t : Stp U H U' H') (hp : U.F p = none) : Stp U H U' (upd H' p o) :=
  ⟨t.ef, fun a u u' f h => by rw [upd_ne (fun e => by rw [e, hp] at f; cases f)]; exact t.ff a u u' f h⟩
/-- the turns of the inner for -/
theorem lc_in {K : PySem.W.Frag} {J : It} {g : TG} {tt : TT} {te : TE} {mg : MG} {mt : MT} {me : ME} {ws vs : List Nat} (hws : ∀ i ∈ ws, i ∈ vs) (ig : ImpG K E1 ws g mg) (it : ImpT K E1 tt mt) (ie : ImpE K E1 te me)
    {Ub : Wd} {Hb : Hp} {U1 : Wd} {S1 : Sto} {H1 : Hp} {σ : L2.St} {ρ : Loc} {xs : List PyData} {Q : VK} (stb : Step Ub Hb U1 H1) (s1 : Sat K U1 S1 H1) (rl : RelL K U1 ρ σ) (RJ : Runs K U1 H1 J xs) {Dd : Addr} {acc0 : List V} {accP0 : List PyData} (hDb : Hb Dd = none) (hF0 : U1.F Dd = none) (hio0 : ∀ l, U1.io l ≠ some Dd) (hD : H1 Dd = some (.lst acc0)) (ra0 : RpAll K U1.F acc0 accP0)
    (hz : acc0.length + xs.length ≤ 1000000) {U0 : Wd} {H0 : Hp} {kk : List PyData → Sto → Res (List PyData)} (w : Wants K E U0 H0 ((mLcL mg mt me (wipeL ρ vs) xs S1).bind kk) (KL K H0 Q)) (Nx : Hp → Prop)
    (hN : ∀ U' S' H' acc zs, Step Ub Hb U' H' → Sat K U' S' H' → U'.F Dd = none → (∀ l, U'.io l ≠ some Dd) → H' Dd = some (.lst acc) → RpAll K U'.F acc (accP0 ++ zs) → acc.length ≤ acc0.length + xs.length → Wants K E U0 H0 (kk zs S') (KL K H0 Q) → Nx H') :
    ∃ W : Nat → Nat → Hp → Prop, (∃ m, W 0 m H1) ∧ ∀ i m H, W i m H →
      (J.stop i H ∧ Nx H) ∨ (J.go i H ∧ ∃ Nx1 : Hp → Prop, (∀ H', Nx1 H' → ∃ m', m' < m ∧ W (i + 1) m' H') ∧ ∀ x H', J.yld i H x H' → g x (L2.wipe σ vs) H' fun σ2 H2 => L2.wipe σ2 vs = L2.wipe σ vs ∧ tt σ2 H2 fun b H3 =>
        if b = true then te σ2 H3 fun y H4 => ∃ acc, H4 Dd = some (.lst acc) ∧ acc.length < sizeLine ∧ Nx1 (upd H4 Dd (.lst (acc ++ [y]))) else Nx1 H3) := by
  let St' : Nat → Hp → Prop := fun n H' => ∃ (U' : Wd) (S' : Sto) (acc : List V) (zs : List PyData), Step Ub Hb U' H' ∧ Stp U1 H1 U' H' ∧ (∀ ρ, RelL K U1 ρ σ → RelL K U' ρ σ) ∧ Sat K U' S' H' ∧ U'.F Dd = none ∧ (∀ l, U'.io l ≠ some Dd) ∧ H' Dd = some (.lst acc) ∧ RpAll K U'.F acc (accP0 ++ zs) ∧ acc.length ≤ acc0.length + n ∧
    Wants K E U0 H0 ((mLcL mg mt me (wipeL ρ vs) (xs.drop n) S').bind fun ys S2 => kk (zs ++ ys) S2) (KL K H0 Q)
  refine ⟨fun n m H' => m = xs.length - n ∧ n ≤ xs.length ∧ St' n H', ⟨xs.length, by simp, Nat.zero_le _, U1, S1, acc0, [], stb, Stp.refl _ _, fun _ r => r, s1, hF0, hio0, hD, by rw [List.append_nil]; exact ra0, Nat.le_refl _, by
    rw [List.drop_zero]
    exact w⟩, ?_⟩
  rintro n m H' ⟨rfl, hn, U', S', acc, zs, st, stp, rlk, s', hF, hio, hacc, racc, hlen, w'⟩
  obtain ⟨stop, go⟩ := RJ U' S' H' n stp s'
  by_cases hlt : n < xs.length
  · have hx : xs[n]? = some xs[n] := by simp [hlt]
    obtain ⟨hgo, yl⟩ := go _ hx
    refine .inr ⟨hgo, St' (n + 1), fun H3 h3 => ⟨xs.length - (n + 1), by omega, rfl, hlt, h3⟩, fun v H'' y => ?_⟩
    obtain ⟨U2, st2, s2, rv⟩ := yl v H'' y
    obtain ⟨d2, f2, i2⟩ := st2.aloof hacc hF hio
    rw [drop_cons hx] at w'
    unfold mLcL at w'
    rw [bind_assoc] at w'
    refine ig U2 S' H'' (L2.wipe σ vs) (wipeL ρ vs) v (.p xs[n]) _ s2 (((rlk ρ rl).step st2).wipe vs) rv (Wants.mono (Wants.at w') fun U3 S3 H3 ρ3 st3 s3 w3 σ3 rl3 o3 => ⟨wipe_only o3 hws, ?_⟩)
    obtain ⟨d3, f3, i3⟩ := st3.aloof d2 f2 i2
    rw [bind_assoc] at w3
    refine it U3 S3 H3 σ3 ρ3 _ s3 rl3 (Wants.mono (Wants.at w3) fun U4 S4 H4 b st4 s4 w4 => ?_)
    obtain ⟨d4, f4, i4⟩ := st4.aloof d3 f3 i3
    have all4 := (((st.trans st2).trans st3).trans st4)
    have stp4 := (((stp.trans st2.p).trans st3.p).trans st4.p)
    have ef4 : Sub U'.F U4.F := ((st2.trans st3).trans st4).ef
    have rk4 : ∀ ρ, RelL K U1 ρ σ → RelL K U4 ρ σ := fun ρ r => (((rlk ρ r).step st2).step st3).step st4
    cases b with
    | true =>
      rw [if_pos rfl] at w4 ⊢
      rw [bind_assoc] at w4
      refine ie U4 S4 H4 σ3 ρ3 _ s4 (rl3.step st4) (Wants.mono (Wants.at w4) fun U5 S5 H5 d st5 s5 w5 u ru => ?_)
      obtain ⟨d5, f5, i5⟩ := st5.aloof d4 f4 i4
      refine ⟨acc, d5, Nat.lt_of_le_of_lt (by omega : acc.length ≤ 1000000) (by decide), ?_⟩
      cases d with
      | r l => exact False.elim w5
      | p y =>
        refine ⟨U5, S5, acc ++ [u], zs ++ [y], (all4.trans st5).aside hDb, (stp4.trans st5.p).aside hF0, fun ρ r => (rk4 ρ r).step st5, s5.aside f5 i5, f5, i5, upd_same, ?_, by rw [List.length_append, List.length_singleton]; omega, ?_⟩
        · rw [← List.append_assoc]
          exact RpAll.append (racc.sub (ef4.trans st5.ef)) (.cons ru .nil)
        · have w6 : Wants K E U0 H0 (((mLcL mg mt me (wipeL ρ vs) (xs.drop (n + 1)) S5).bind fun ys S4 => Res.ok (y :: ys) S4).bind fun ys S2 => kk (zs ++ ys) S2) (KL K H0 Q) := w5
          rw [bind_assoc] at w6
          have e : (fun (a : List PyData) (S : Sto) => (Res.ok (y :: a) S).bind fun ys S2 => kk (zs ++ ys) S2) = fun ys S2 => kk (zs ++ [y] ++ ys) S2 := by
            funext ys S2
            show kk (zs ++ y :: ys) S2 = _
            rw [List.append_assoc]; rfl
          rw [e] at w6
          exact w6
    | false =>
      rw [if_neg Bool.false_ne_true] at w4 ⊢
      exact ⟨U4, S4, acc, zs, all4, stp4, rk4, s4, f4, i4, d4, racc.sub ef4, by omega, w4⟩
  · have e : n = xs.length := by omega
    subst e
    rw [List.drop_length] at w'
    have w7 : Wants K E U0 H0 (kk (zs ++ []) S') (KL K H0 Q) := w'
    rw [List.append_nil] at w7
    exact .inl ⟨stop rfl, hN U' S' H' acc zs st s' hF hio hacc racc hlen w7⟩
def mLc2L (g : MG) (mi : MI) (g1 : MG) (te : ME) (ρ : Loc) (vs1 : List Nat) : Nat → List PyData → Sto → Res (List PyData)
  | _, [], S => .ok [] S
  | n, x :: xs, S => (g (.p x) ρ S).nox.bind fun ρ1 S1 => (mi ρ1 S1).nox.bind fun ys S2 => if n + ys.length ≤ 1000000 then (mLcL g1 mYes te (wipeL ρ1 vs1) ys S2).bind fun zs S3 => (mLc2L g mi g1 te ρ vs1 (n + ys.length) xs S3).bind fun ws S4 => .ok (zs ++ ws) S4 else .stuck
def mLc2 (mi : MI) (g : MG) (mi1 : MI) (g1 : MG) (te : ME) (vs vs1 : List Nat) : ML := fun ρ S => (mi ρ S).bind fun xs S1 => mLc2L g mi1 g1 te (wipeL ρ vs) vs1 0 xs S1
theorem lc2_turns {K : PySem.W.Frag} {J : It} {g g1 : TG} {wi1 : TI} {tt tt1 : TT} {te : TE} {mg mg1 : MG} {mi1 : MI} {me : ME} {ws ws1 vs vs1 : List Nat} (hws : ∀ i ∈ ws, i ∈ vs) (hws1 : ∀ i ∈ ws1, i ∈ vs1) (ig : ImpG K E1 ws g mg) (it : ImpT K E1 tt mYes) (ii : ImpI K E1 wi1 mi1) (ig1 : ImpG K E1 ws1 g1 mg1) (it1 : ImpT K E1 tt1 mYes) (ie : ImpE K E1 te me)
    {U1 : Wd} {S1 : Sto} {H1 : Hp} {σ : L2.St} {ρ : Loc} {xs : List PyData} {Q : VK} (s1 : Sat K U1 S1 H1) (rl : RelL K U1 ρ σ) (RJ : Runs K U1 H1 J xs)
    {U0 : Wd} {H0 : Hp} (st01 : Step U0 H0 U1 H1) (w : Wants K E U0 H0 (mLc2L mg mi1 mg1 me (wipeL ρ vs) vs1 0 xs S1) (KL K H0 Q)) (Dd : Addr) (hD : H1 Dd = none) :
    ∃ W : Nat → Nat → Hp → Prop, (∃ m, W 0 m (upd H1 Dd (.lst []))) ∧ ∀ i m H, W i m H →
      (J.stop i H ∧ Q (.ref Dd) H) ∨ (J.go i H ∧ ∃ Nx : Hp → Prop, (∀ H', Nx H' → ∃ m', m' < m ∧ W (i + 1) m' H') ∧ ∀ x H', J.yld i H x H' → g x (L2.wipe σ vs) H' fun σ2 H2 => L2.wipe σ2 vs = L2.wipe σ vs ∧ tt σ2 H2 fun b H3 =>
        if b = true then wi1 σ2 H3 fun J1 H4 => ∃ W1 : Nat → Nat → Hp → Prop, (∃ m, W1 0 m H4) ∧ ∀ j k H, W1 j k H →
          (J1.stop j H ∧ Nx H) ∨ (J1.go j H ∧ ∃ Nx1 : Hp → Prop, (∀ H', Nx1 H' → ∃ k', k' < k ∧ W1 (j + 1) k' H') ∧ ∀ x H', J1.yld j H x H' → g1 x (L2.wipe σ2 vs1) H' fun σ3 H5 => L2.wipe σ3 vs1 = L2.wipe σ2 vs1 ∧ tt1 σ3 H5 fun b H6 =>
            if b = true then te σ3 H6 fun y H7 => ∃ acc, H7 Dd = some (.lst acc) ∧ acc.length < sizeLine ∧ Nx1 (upd H7 Dd (.lst (acc ++ [y]))) else Nx1 H6)
        else Nx H3) := by
  let St' : Nat → Hp → Prop := fun n H' => ∃ (U' : Wd) (S' : Sto) (acc : List V) (accP : List PyData) (k : Nat), Step U1 H1 U' H' ∧ Sat K U' S' H' ∧ U'.F Dd = none ∧ (∀ l, U'.io l ≠ some Dd) ∧ H' Dd = some (.lst acc) ∧ RpAll K U'.F acc accP ∧ acc.length ≤ k ∧
    Wants K E U0 H0 ((mLc2L mg mi1 mg1 me (wipeL ρ vs) vs1 k (xs.drop n) S').bind fun ys S2 => .ok (accP ++ ys) S2) (KL K H0 Q)
  refine ⟨fun n m H' => m = xs.length - n ∧ n ≤ xs.length ∧ St' n H', ⟨xs.length, by simp, Nat.zero_le _, U1, S1, [], [], 0, Step.aside (Step.refl _ _) hD, s1.aside (s1.no hD) (s1.noi hD), s1.no hD, s1.noi hD, upd_same, .nil, Nat.le_refl _, by
    rw [List.drop_zero]
    cases hh : mLc2L mg mi1 mg1 me (wipeL ρ vs) vs1 0 xs S1 with
    | ok a S => rw [hh] at w; exact w
    | exc c S => rw [hh] at w; exact w
    | stuck => rw [hh] at w; exact w⟩, ?_⟩
  rintro n m H' ⟨rfl, hn, U', S', acc, accP, k, st, s', hF, hio, hacc, racc, hlen, w'⟩
  obtain ⟨stop, go⟩ := RJ U' S' H' n st.p s'
  by_cases hlt : n < xs.length
  · have hx : xs[n]? = some xs[n] := by simp [hlt]
    obtain ⟨hgo, yl⟩ := go _ hx
    refine .inr ⟨hgo, St' (n + 1), fun H3 h3 => ⟨xs.length - (n + 1), by omega, rfl, hlt, h3⟩, fun v H'' y => ?_⟩
    obtain ⟨U2, st2, s2, rv⟩ := yl v H'' y
    obtain ⟨d2, f2, i2⟩ := st2.aloof hacc hF hio
    rw [drop_cons hx] at w'
    unfold mLc2L at w'
    rw [bind_assoc] at w'
    refine ig U2 S' H'' (L2.wipe σ vs) (wipeL ρ vs) v (.p xs[n]) _ s2 (((rl.step st).step st2).wipe vs) rv (Wants.mono (Wants.at w') fun U3 S3 H3 ρ3 st3 s3 w3 σ3 rl3 o3 => ⟨wipe_only o3 hws, ?_⟩)
    obtain ⟨d3, f3, i3⟩ := st3.aloof d2 f2 i2
    refine it U3 S3 H3 σ3 ρ3 _ s3 rl3 fun U4 H4 st4 s4 => ?_
    obtain ⟨d4, f4, i4⟩ := st4.aloof d3 f3 i3
    rw [if_pos rfl]
    rw [bind_assoc] at w3
    refine ii U4 S3 H4 σ3 ρ3 _ s4 (rl3.step st4) (Wants.mono (Wants.at w3) fun U5 S5 H5 ys st5 s5 w5 J1 RJ1 => ?_)
    obtain ⟨d5, f5, i5⟩ := st5.aloof d4 f4 i4
    by_cases hk : k + ys.length ≤ 1000000
    · rw [if_pos hk, bind_assoc] at w5
      have all5 := (((st.trans st2).trans st3).trans st4).trans st5
      have ef5 : Sub U'.F U5.F := (((st2.trans st3).trans st4).trans st5).ef
      refine lc_in hws1 ig1 it1 ie all5 s5 ((rl3.step st4).step st5) RJ1 hD f5 i5 d5 (racc.sub ef5) (by omega) w5 (St' (n + 1)) fun U6 S6 H6 acc6 zs st6 s6 f6 i6 d6 r6 l6 w6 => ?_
      refine ⟨U6, S6, acc6, accP ++ zs, k + ys.length, st6, s6, f6, i6, d6, r6, by omega, ?_⟩
      rw [bind_assoc] at w6
      have e : (fun (a : List PyData) (S : Sto) => (Res.ok (zs ++ a) S).bind fun ys S2 => Res.ok (accP ++ ys) S2) = fun ys S2 => Res.ok (accP ++ zs ++ ys) S2 := by
        funext ys S2
        show Res.ok (accP ++ (zs ++ ys)) S2 = _
        rw [List.append_assoc]
      rw [e] at w6
      exact w6
    · rw [if_neg hk] at w5
      exact False.elim w5
  · have e : n = xs.length := by omega
    subst e
    rw [List.drop_length] at w'
    have w7 : Wants K E U0 H0 (.ok (accP ++ []) S') (KL K H0 Q) := by
      unfold mLc2L at w'
      exact w'
    rw [List.append_nil] at w7
    exact .inl ⟨stop rfl, w7 _ _ (st01.trans st) s' Dd acc (st01.old hD) hF hio hacc racc⟩
theorem il_lc2 {elt tg iter tg1 iter1 : Expr} {scope : Scope} {own : List (Str × Nat)} {mi mi1 : MI} {g g1 : MG} {te : ME} {ws ws1 vs1 : List Nat} (hc : X.calm = true) (hN : X.N.Nodup) (hi : II X E tg iter mi) (ok : BlkOk X.N X.env.scope scope own)
    (hws : ∀ i ∈ ws, i ∈ own.map (·.2)) (hws1 : ∀ i ∈ ws1, i ∈ vs1) (hv : ∀ i ∈ vs1, i ∈ own.map (·.2))
    (hg : ∀ (s : Shared) (H : Hp) (C : Addr) (cl : List (Str × Addr)) (fp : List Addr), IG (X.blk s H scope (compEnvC scope cl C X.env) fp) E1 ws tg g)
    (hi1 : ∀ (s : Shared) (H : Hp) (C : Addr) (cl : List (Str × Addr)) (fp : List Addr), II (X.blk s H scope (compEnvC scope cl C X.env) fp) E1 tg1 iter1 mi1)
    (hg1 : ∀ (s : Shared) (H : Hp) (C : Addr) (cl : List (Str × Addr)) (fp : List Addr), IG (X.blk s H scope (compEnvC scope cl C X.env) fp) E1 ws1 tg1 g1)
    (he : ∀ (s : Shared) (H : Hp) (C : Addr) (cl : List (Str × Addr)) (fp : List Addr), IE (X.blk s H scope (compEnvC scope cl C X.env) fp) E1 elt te)
    (hs : ∀ x, foldedSetIterable iter X.env x = pure x := by intro _; rfl) (hs1 : ∀ env x, foldedSetIterable iter1 env x = pure x := by intro _ _; rfl) :
    IL X E (.ListComp elt [⟨tg, iter, [], 0⟩, ⟨tg1, iter1, [], 0⟩] scope pos) (mLc2 mi g mi1 g1 te (own.map (·.2)) vs1) := by
  obtain ⟨t, p, i⟩ := hi
  refine ⟨_, pe_lc2 (vs1 := vs1) hc hN p ok hv (fun s H C cl fp => (hg s H C cl fp).can) (fun s H C cl fp => (its_nil (X := X.blk s H scope (compEnvC scope cl C X.env) fp) (E := E1)).can) (fun s H C cl fp => (hi1 s H C cl fp).can) (fun s H C cl fp => (hg1 s H C cl fp).can) (fun s H C cl fp => (its_nil (X := X.blk s H scope (compEnvC scope cl C X.env) fp) (E := E1)).can)
    (g := canG X.K E1 ws g) (tt := canT X.K E1 mYes) (wi1 := canI X.K E1 mi1) (g1 := canG X.K E1 ws1 g1) (tt1 := canT X.K E1 mYes) (te := canE X.K E1 te) (fun s H C cl fp => (he s H C cl fp).can) hs hs1, fun U S H σ ρ Q s rl w => i U S H σ ρ _ s rl (w.bindL.mono fun U1 S1 H1 xs st1 s1 w1 J RJ Dd hD => ?_)⟩
  obtain ⟨_, w1⟩ := w1
  exact lc2_turns hws hws1 impCanG impCanT impCanI impCanG impCanT impCanE s1 (rl.step st1) RJ st1 w1 Dd hD
end
end G


namespace G
open PySem L2
/-! ### instances of an own class, in the store -/
section
variable {K : PySem.W.Frag} {U : Wd} {S : Sto} {H : Hp}
theorem FldIs.look : ∀ {fs : List (Str × D)} {gs : List (Str × V)} (f : Str), FldIs K U fs gs → (∀ d, fs.lookup f = some d → ∃ v, gs.lookup f = some v ∧ RelD K U d v) ∧ (fs.lookup f = none → gs.lookup f = none)
  | _, _, f, .nil => ⟨fun d h => by simp at h, fun _ => rfl⟩
  | (g, d0) :: fs, (g', v0) :: gs, f, .cons h t => by
    obtain ⟨e, r⟩ := h
    simp only at e r
    subst e
    obtain ⟨h1, h2⟩ := FldIs.look f t
    rw [List.lookup_cons, List.lookup_cons]
    cases hb : f == g with
    | true => exact ⟨fun d h => by cases h; exact ⟨v0, rfl, r⟩, fun h => by cases h⟩
    | false => exact ⟨h1, h2⟩
theorem FldIs.length : ∀ {fs : List (Str × D)} {gs : List (Str × V)}, FldIs K U fs gs → fs.length = gs.length
  | _, _, .nil => rfl
  | _, _, .cons _ t => by rw [List.length_cons, List.length_cons, FldIs.length t]
def putD (f : Str) (v : D) : List (Str × D) → List (Str × D)
  | [] => [(f, v)]
  | (g, x) :: r => if g = f then (g, v) :: r else (g, x) :: putD f v r
theorem FldIs.put {f : Str} {d : D} {v : V} (rv : RelD K U d v) : ∀ {fs : List (Str × D)} {gs : List (Str × V)}, FldIs K U fs gs → FldIs K U (putD f d fs) (putF f v gs)
  | _, _, .nil => .cons ⟨rfl, rv⟩ .nil
  | (g, d0) :: fs, (g', v0) :: gs, .cons h t => by
    obtain ⟨e, r⟩ := h
    simp only at e r
    subst e
    unfold putD putF
    by_cases hg : g = f
    · rw [if_pos hg, if_pos hg]; exact .cons ⟨rfl, rv⟩ t
    · rw [if_neg hg, if_neg hg]; exact .cons ⟨rfl, r⟩ (FldIs.put rv t)
theorem putD_mem {f : Str} {x : PyData} : ∀ {fs : List (Str × D)} {g : Str} {m : Nat}, (g, D.r m) ∈ putD f (.p x) fs → (g, D.r m) ∈ fs
  | [], g, m, h => by
    rw [putD, List.mem_singleton] at h
    cases h
  | (g0, d0) :: fs, g, m, h => by
    unfold putD at h
    split at h
    · rcases List.mem_cons.mp h with h | h
      · cases h
      · exact List.mem_cons_of_mem _ h
    · rcases List.mem_cons.mp h with h | h
      · rw [h]; exact List.mem_cons_self ..
      · exact List.mem_cons_of_mem _ (putD_mem h)
def insOf (d : D) (S : Sto) : Option (Addr × List (Str × D)) := match d with
  | .r l => (match S[l]? with
    | some (some (.ins C fs)) => some (C, fs)
    | _ => none)
  | _ => none
theorem insOf_r {d : D} {C : Addr} {fs : List (Str × D)} (h : insOf d S = some (C, fs)) : ∃ l, d = .r l ∧ S[l]? = some (some (.ins C fs)) := by
  unfold insOf at h
  split at h
  · next l =>
    split at h
    · next C' fs' e => cases h; exact ⟨l, rfl, e⟩
    · cases h
  · cases h
theorem ins_rel (s : Sat K U S H) {d : D} {v : V} {C : Addr} {fs : List (Str × D)} (r : RelD K U d v) (h : insOf d S = some (C, fs)) : ∃ l a dx gs, d = .r l ∧ v = .ref a ∧ U.io l = some a ∧ S[l]? = some (some (.ins C fs)) ∧ U.F a = none ∧ H a = some (.ins C dx gs) ∧ U.F dx = some (.own a) ∧ FldIs K U fs gs := by
  obtain ⟨l, rfl, e⟩ := insOf_r h
  obtain ⟨a, ha, rfl⟩ := r
  obtain ⟨hF, o, hH, dx, gs, rfl, hd, hf⟩ := s.ob l a _ ha e
  exact ⟨l, a, dx, gs, rfl, rfl, ha, e, hF, hH, hd, hf⟩
end
def gFld (C : Addr) (f : Str) : D → Sto → Res D := fun d S => match insOf d S with
  | some (C', fs) => if C' = C then (match fs.lookup f with
    | some e => .ok e S
    | none => .stuck) else .stuck
  | none => .stuck
def mFSet (C : Addr) (f : Str) (mv mo : ME) : MS := fun ρ S => (mv ρ S).bind fun d S1 => (mo ρ S1).bind fun o S2 => match d, o, insOf o S2 with
  | .p x, .r l, some (C', fs) => if (decide (C' = C) && decide (fs.length < 1000)) = true then .ok (.nx, ρ) (S2.set l (some (.ins C (putD f (.p x) fs)))) else .stuck
  | _, _, _ => .stuck
def mMeth (C : Addr) (m : Str) (fn : Fn) (mo : ME) (na : MA) : ME := fun ρ S => (mo ρ S).bind fun d S1 => match insOf d S1 with
  | some (C', fs) => if (decide (C' = C) && (fs.lookup m).isNone) = true then (na ρ S1).bind fun ds S2 => (fn (d :: ds) S2).nox else .stuck
  | none => .stuck
section
variable {X : Cx} {E : EX} {pos : Pos} {e o value : Expr} {es : List Expr} {ma mo mv : ME} {C : Addr} {f : Str}
theorem ie_fld (cl : Cls X.K C) (n : NoAttr X.K C f) (he : IE X E e ma) (hb : attributeBase e f X.env (eval e X.env) = eval e X.env := by rfl) : IE X E (.Attribute e f pos) (m1 (gFld C f) ma) := by
  obtain ⟨t, p, i⟩ := he
  refine ⟨_, pe_fld p hb, fun U S H σ ρ Q s rl w => i U S H σ ρ _ s rl (w.bind.mono fun U1 S1 H1 d st1 s1 w1 v rv => ?_)⟩
  unfold gFld at w1
  split at w1
  · next C' fs hi =>
    split at w1
    · next hc =>
      subst hc
      split at w1
      · next d' hl =>
        obtain ⟨l, a, dx, gs, rfl, rfl, ha, e', hF, hH, hd, hf⟩ := ins_rel s1 rv hi
        obtain ⟨v', hv', rv'⟩ := (FldIs.look f hf).1 d' hl
        exact ⟨a, C', dx, gs, v', rfl, hH, cl, n, hv', (w1.ok s1) v' rv'⟩
      · exact False.elim w1
    · exact False.elim w1
  · exact False.elim w1
theorem is_fset {pos' : Pos} (cl : Cls X.K C) (n : NoAttr X.K C f) (hv : IE X E value mv) (ho : IE X E o mo) (hs : swapsWith value (some (.Attribute o f pos')) pos.line X.env = pure false := by rfl) : IS X E (.Assign [.Attribute o f pos'] value pos) (mFSet C f mv mo) := by
  obtain ⟨t, p, i⟩ := hv
  obtain ⟨u, q, j⟩ := ho
  refine ⟨_, ps_fld q p hs, fun U S H σ ρ N s rl w => i U S H σ ρ _ s rl (w.bind.mono fun U1 S1 H1 d st1 s1 w1 v rv => j U1 S1 H1 σ ρ _ s1 (rl.step st1) (w1.bind.mono fun U2 S2 H2 d2 st2 s2 w2 v2 rv2 => ?_))⟩
  split at w2
  · next x l C' fs hi =>
    split at w2
    · next hc =>
      rw [Bool.and_eq_true, decide_eq_true_eq, decide_eq_true_eq] at hc
      obtain ⟨hc, hl⟩ := hc
      subst hc
      obtain ⟨l', a, dx, gs, el, rfl, ha, e', hF, hH, hd, hf⟩ := ins_rel s2 rv2 hi
      cases el
      refine ⟨a, C', dx, gs, rfl, hH, cl, n, by rw [← hf.length]; exact hl, ?_⟩
      refine w2 U2 _ (Step.put ha hF) (s2.put (c := .ins C' (putD f (.p x) fs)) ha e' ⟨dx, _, rfl, hd, hf.put (rv.step st2)⟩ (fun g m hm => s2.rf _ _ e' g m (putD_mem hm))) σ ?_
      exact (rl.step st1).step st2
    · exact False.elim w2
  · exact False.elim w2
/-- a method that can be called -/
structure CalM (P : Program) (w : World) (K : PySem.W.Frag) (mg : Str → Option Value) (base : Heap) (C : Addr) (m : Str) (ps : List Str) (k : Nat) (fn : Fn) : Prop where
  cl : Cls K C
  ex : ∃ f fd, FnOk P w K mg base CX0 k f fd ps (spF K (fun _ => .none) ps.length fn) ∧ Meth K C m f ∧ Binds K fd ps []
theorem ie_meth {k : Nat} {m : Str} {ps : List Str} {fn : Fn} {na : MA} {apos : Pos} {pl : Sem Bool} (M : CalM X.prog X.w X.K X.mg X.base C m ps k fn) (hr : Room k X.A) (ho : IE X E o mo) (ha : IA X E (e :: es) na) (hl : (e :: es).length + 1 = ps.length := by rfl)
    (hst : starEach (e :: es) X.env = (false, eval e X.env) :: starEach es X.env := by rfl) (hpl : (backTo pos (starEach es X.env)).any (·.1) = false := by rfl)
    (ht : eval (.Call (.Attribute o m apos) (e :: es) [] pos) X.env = (do
      let ov ← eval o X.env
      standAt apos.atName
      let (f, first) ← holding [ov] (getMethod ov m pl)
      callWith pos f first (backTo pos (starEach (e :: es) X.env)) (backToKw pos (keywordEach [] X.env))) := by rfl) :
    IE X E (.Call (.Attribute o m apos) (e :: es) [] pos) (mMeth C m fn mo na) := by
  obtain ⟨cl, f, fd, F, hm, hb⟩ := M
  obtain ⟨t, p, i⟩ := ho
  obtain ⟨⟨u, q, j⟩, hln⟩ := ha
  refine ⟨_, pe_meth p cl hm F hr hb .nil pass0 q hst hpl ht, fun U S H σ ρ Q s rl w => i U S H σ ρ _ s rl (w.bind.mono fun U1 S1 H1 d st1 s1 w1 v rv => ?_)⟩
  split at w1
  · next C' fs hi =>
    split at w1
    · next hc =>
      rw [Bool.and_eq_true, decide_eq_true_eq] at hc
      obtain ⟨hc, hn⟩ := hc
      subst hc
      obtain ⟨l, a, dx, gs, rfl, rfl, ha, e', hF, hH, hd, hf⟩ := ins_rel s1 rv hi
      refine ⟨a, dx, gs, rfl, hH, (FldIs.look m hf).2 (by simpa using hn), j U1 S1 H1 σ ρ _ s1 (rl.step st1) ?_⟩
      cases hh : na ρ S1 with
      | stuck => rw [hh] at w1; exact w1
      | exc c S' => rw [hh] at w1; exact w1
      | ok ds S' =>
        rw [hh] at w1
        have hd' : ds.length + 1 = ps.length := by rw [hln ρ S1 ds S' hh]; exact hl
        intro U2 H2 st2 s2 vs rvs
        rw [List.append_nil]
        have hv : ds.length = vs.length := Paired.length rvs
        exact ⟨by rw [List.length_cons, ← hv]; exact hd', U2, S', .r l :: ds, s2, .cons (rv.step st2) rvs, Wants.nox (Wants.step st2 w1)⟩
    · exact False.elim w1
  · exact False.elim w1
theorem ie_meth0 {k : Nat} {m : Str} {ps : List Str} {fn : Fn} {apos : Pos} {pl : Sem Bool} (M : CalM X.prog X.w X.K X.mg X.base C m ps k fn) (hr : Room k X.A) (ho : IE X E o mo) (hl : 1 = ps.length := by rfl)
    (ht : eval (.Call (.Attribute o m apos) [] [] pos) X.env = (do
      let ov ← eval o X.env
      standAt apos.atName
      let (f, first) ← holding [ov] (getMethod ov m pl)
      callWith pos f first (backTo pos (starEach [] X.env)) (backToKw pos (keywordEach [] X.env))) := by rfl) :
    IE X E (.Call (.Attribute o m apos) [] [] pos) (mMeth C m fn mo mNil) := by
  obtain ⟨cl, f, fd, F, hm, hb⟩ := M
  obtain ⟨t, p, i⟩ := ho
  refine ⟨_, pe_meth0 p cl hm F hr hb .nil pass0 ht, fun U S H σ ρ Q s rl w => i U S H σ ρ _ s rl (w.bind.mono fun U1 S1 H1 d st1 s1 w1 v rv => ?_)⟩
  split at w1
  · next C' fs hi =>
    split at w1
    · next hc =>
      rw [Bool.and_eq_true, decide_eq_true_eq] at hc
      obtain ⟨hc, hn⟩ := hc
      subst hc
      obtain ⟨l, a, dx, gs, rfl, rfl, ha, e', hF, hH, hd, hf⟩ := ins_rel s1 rv hi
      refine ⟨a, dx, gs, rfl, hH, (FldIs.look m hf).2 (by simpa using hn), ?_⟩
      exact ⟨hl, U1, S1, [.r l], s1, .cons rv .nil, Wants.nox w1⟩
    · exact False.elim w1
  · exact False.elim w1
/-- a method stands where the top left it -/
structure MethAt (K : PySem.W.Frag) (C : Addr) (m qual : Str) (ps : List Str) (st : Stmt) : Prop where
  ex : ∃ f fd, Fun K m qual st f fd ∧ Meth K C m f ∧ Binds K fd ps []
theorem calM_mk {P : Program} {w : World} {K : PySem.W.Frag} {mg : Str → Option Value} {base : Heap} {m qual : Str} {st : Stmt} {N ps : List Str} {k : Nat} {b : MS} (cl : Cls K C) (F : MethAt K C m qual ps st) (S : FnScope N ps (defScope st))
    (hbody : ∀ (cdv : Value) (A : Around) (outer : List Env) (s : Shared) (H : Hp) (E : XK) (f : Addr), Room k (A.deeper (PyProof.Rows.envOfC qual (defScope st) s.heap.objs.size f cdv)) →
      ISs (cxOf CX0 P w K mg base N qual (defScope st) f cdv A outer s H E).nox E1 (defBody st) b) : CalM P w K mg base C m ps (k + 1) (fun ds S => (fnOf N.length b ds S).nox) := by
  obtain ⟨f, fd, F1, hm, hb⟩ := F
  exact ⟨cl, f, fd, fn_ok F1 S fun cdv A outer s H E hr => hbody cdv A outer s H E f hr, hm, hb⟩
end
/-! ### C(), with an __init__ that sets two fields: a tuple () and a list [] -/
def mMake (C : Addr) (f g : Str) : ME := fun _ S => .ok (.r (S.length + 1)) (S ++ [some (.lst []), some (.ins C [(f, .p (.tuple [])), (g, .r S.length)])])
def spInit2 (C : Addr) (f g : Str) : Sp := fun vs H Q _ => ∃ x dx, vs = [.ref x] ∧ H x = some (.ins C dx []) ∧ ∀ t b, H t = none → H b = none → t ≠ b → Q .non (upd (upd (upd (upd H t (.tup [])) x (.ins C dx [(f, .ref t)])) b (.lst [])) x (.ins C dx [(f, .ref t), (g, .ref b)]))
structure InitAt (P : Program) (w : World) (K : PySem.W.Frag) (mg : Str → Option Value) (base : Heap) (C : Addr) (cn f g : Str) : Prop where
  mgC : mg cn = some (.ref C)
  ex : ∃ fi fd, FnOk P w K mg base CX0 1 fi fd ["self"] (spInit2 C f g) ∧ Mk K C fi ∧ Binds K fd ["self"] []
section
variable {X : Cx} {E : EX} {pos p : Pos} {C : Addr} {cn f g : Str}
theorem ie_make (M : InitAt X.prog X.w X.K X.mg X.base C cn f g) (hr : Room 2 X.A) (hg : Gl X cn) (hdb : (cn == ("__debug__" : Str)) = false := by decide) : IE X E (.Call (.Name cn p) [] [] pos) (mMake C f g) := by
  obtain ⟨mgC, fi, fd, F, mk, hb⟩ := M
  refine ⟨_, pe_make0 mk F hr hg mgC hb .nil pass0 hdb, fun U S H σ ρ Q s rl w => ?_⟩
  intro x dx nx ndx nex
  have nxF := s.no nx
  refine ⟨x, dx, rfl, upd_same, fun t b ht hb' htb => ⟨rfl, ?_⟩⟩
  -- all four are new
  have xt : t ≠ x := fun e => by rw [e, upd_same] at ht; cases ht
  have xb : b ≠ x := fun e => by rw [e, upd_same] at hb'; cases hb'
  rw [upd_ne xt] at ht
  rw [upd_ne xb] at hb'
  have dt : t ≠ dx := fun e => by rw [e, upd_same] at ht; cases ht
  have db : b ≠ dx := fun e => by rw [e, upd_same] at hb'; cases hb'
  rw [upd_ne dt] at ht
  rw [upd_ne db] at hb'
  have st1 : Step U H ⟨upd U.F dx (.own x), U.io⟩ (upd H dx (.own x)) := Step.alloc ndx (s.no ndx)
  have s1 : Sat X.K ⟨upd U.F dx (.own x), U.io⟩ S (upd H dx (.own x)) := s.alloc ndx
  have ht1 : upd H dx (.own x) t = none := by rw [upd_ne dt]; exact ht
  have st2 : Step ⟨upd U.F dx (.own x), U.io⟩ (upd H dx (.own x)) ⟨upd (upd U.F dx (.own x)) t (.tup []), U.io⟩ (upd (upd H dx (.own x)) t (.tup [])) := Step.alloc ht1 (s1.no ht1)
  have s2 : Sat X.K ⟨upd (upd U.F dx (.own x)) t (.tup []), U.io⟩ S (upd (upd H dx (.own x)) t (.tup [])) := s1.alloc ht1
  have hb2 : upd (upd H dx (.own x)) t (.tup []) b = none := by rw [upd_ne htb.symm, upd_ne db]; exact hb'
  have st3 := Step.new (o := .lst []) s2 hb2
  have s3 := s2.new (o := .lst []) (b := .lst []) hb2 ⟨[], rfl, .nil⟩ trivial
  have hx3 : upd (upd (upd H dx (.own x)) t (.tup [])) b (.lst []) x = none := by rw [upd_ne xb.symm, upd_ne xt.symm, upd_ne nex.symm]; exact nx
  have hlen : (S ++ [some (Ob.lst [])]).length = S.length + 1 := by simp
  have iob : (Wd.more ⟨upd (upd U.F dx (.own x)) t (.tup []), U.io⟩ S.length b).io S.length = some b := Wd.more_last _ _ _
  have st4 := Step.new (o := .ins C dx [(f, .ref t), (g, .ref b)]) s3 hx3
  have s4 := s3.new (o := .ins C dx [(f, .ref t), (g, .ref b)]) (b := .ins C [(f, .p (.tuple [])), (g, .r S.length)]) hx3 ⟨dx, _, rfl, by show upd (upd U.F dx (.own x)) t (.tup []) dx = _; rw [upd_ne dt.symm, upd_same], .cons ⟨rfl, .tup (SqT.of upd_same) .nil⟩ (.cons ⟨rfl, ⟨b, iob, rfl⟩⟩ .nil)⟩ (fun g' m hm => by
    rw [hlen]
    rcases List.mem_cons.mp hm with e | hm
    · cases e
    · rw [List.mem_singleton] at hm
      cases hm
      exact Nat.lt_succ_self _)
  have heq : upd (upd (upd (upd (upd (upd H dx (.own x)) x (.ins C dx [])) t (.tup [])) x (.ins C dx [(f, .ref t)])) b (.lst [])) x (.ins C dx [(f, .ref t), (g, .ref b)]) = upd (upd (upd (upd H dx (.own x)) t (.tup [])) b (.lst [])) x (.ins C dx [(f, .ref t), (g, .ref b)]) := by
    funext y
    by_cases e1 : y = x
    · rw [e1, upd_same, upd_same]
    · rw [upd_ne e1, upd_ne e1]
      by_cases e2 : y = b
      · rw [e2, upd_same, upd_same]
      · rw [upd_ne e2, upd_ne e2, upd_ne e1]
        by_cases e3 : y = t
        · rw [e3, upd_same, upd_same]
        · rw [upd_ne e3, upd_ne e3, upd_ne e1]
  rw [heq]
  have eS : S ++ [some (Ob.lst [])] ++ [some (Ob.ins C [(f, .p (.tuple [])), (g, .r S.length)])] = S ++ [some (.lst []), some (.ins C [(f, .p (.tuple [])), (g, .r S.length)])] := by simp
  rw [eS] at s4
  refine w _ _ (((st1.trans st2).trans st3).trans st4) s4 (.ref x) ⟨x, ?_, rfl⟩
  have := Wd.more_last (Wd.more ⟨upd (upd U.F dx (.own x)) t (.tup []), U.io⟩ S.length b) (S ++ [some (Ob.lst [])]).length x
  rw [hlen] at this
  rw [hlen]
  exact this
end
end G


namespace G
open PySem L2
/-! ### max(t, default=e), t a tuple of data -/
def rMaxT (K : PySem.W.Frag) : List V → List V → Hp → VK → Prop := fun vs zs H Q => ∃ (a : Addr) (xs : List V) (F : Hp) (ds : List PyData) (e : V), vs = [V.ref a] ∧ zs = [e] ∧ SqT K H a xs ∧ Le F H ∧ RpAll K F xs ds ∧ lay (.list ds) = true ∧ PySem.W.AlikeAll ds ∧
  (ds = [] → Q e H) ∧ ∀ y ys, ds = y :: ys → ∀ v, Rp K F v (PySem.W.maxD y ys) → Q v H
section
variable {X : Cx} {E : EX}
theorem cr_maxT (hc : X.calm = true) (hu : X.A.units + 100 < cLine) : CallRK X (.builtin "max") ["default"] (rMaxT X.K) := by
  intro pins s σ H vs zs us ws Q I r rz h
  obtain ⟨a, xs, F, ds, e, rfl, rfl, hq, hF, ra, hl, hal, q0, q1⟩ := h
  rw [Vals.ref1 r]
  cases rz with
  | cons rz1 rz2 =>
    cases rz2
    next ev =>
    have dp : DpAll X.K H xs ds := RpAll.dp hF ra (lay_can hl)
    obtain ⟨its, rv, pl, hz⟩ := I.tuple hq
    obtain ⟨as, hr⟩ := Dp.readsAll I ds xs its dp rv
    have hdep := SeqAt.depth_of_shaped hl
    rw [PyData.depth] at hdep
    show wpAny _ _ (call (.builtin "max") [.ref a] [(Str.ofString "default", ev)]) _ _ _
    refine PySem.W.max_tuple_default (vs := its.toArray) (I.ok.hd hc) pl hr hal (by omega) (fun e0 h' tk hk => ?_) fun y ys i v h' tk bs e0 hv hm hk => ?_
    · exact ⟨e, H, I.kept hk, rz1, q0 e0⟩
    · have hvi : its[i]? = some v := by simpa using hv
      obtain ⟨z, hy, ry⟩ : ∃ y, xs[i]? = some y ∧ RelV y v := by
        have hi : i < xs.length := by rw [rv.length]; exact (List.getElem?_eq_some_iff.mp hvi).1
        obtain ⟨w', hw, rw'⟩ := rv.get (List.getElem?_eq_getElem hi)
        rw [hvi] at hw
        cases hw
        exact ⟨_, List.getElem?_eq_getElem hi, rw'⟩
      obtain ⟨x, hx, rx⟩ := ra.getV hy
      obtain ⟨bs', hrd, _⟩ := PySem.W.readsAll_atA hr i v hv
      have ex : ds.getD i .none = x := by rw [List.getD_eq_getElem?_getD, hx]; rfl
      rw [ex] at hrd
      have hxm : PySem.W.maxD y ys = x := (PyProof.Rows.reads_det (h := h') (h' := h') (fun _ _ z _ => z) hm (PyProof.Rows.Reads.keeps hk hrd)).1.symm
      have I1 : Inv X pins σ H { s with heap := h', toks := tk } := I.kept hk
      exact ⟨z, H, I1, ry, q1 y ys e0 z (by rw [hxm]; exact rx)⟩
def gMaxT (d e : D) (S : Sto) : Res D := match seqOf d S with
  | some (false, []) => .ok e S
  | some (false, y :: ys) => if (lay (.list (y :: ys)) && alikeB (y :: ys)) = true then .ok (.p (PySem.W.maxD y ys)) S else .stuck
  | _ => .stuck
def mMaxT (na : MA) (md : ME) : ME := fun ρ S => (na ρ S).bind fun ds S1 => (md ρ S1).bind fun e S2 => match ds with
  | [x] => gMaxT x e S2
  | _ => .stuck
variable {pos p kpos : Pos} {a d : Expr} {md : ME} {na : MA}
theorem ie_maxT (hg : Gl X "max") (hm : X.mg "max" = none) (hc : X.calm = true) (hu : X.A.units + 100 < cLine) (ha : IA X E [a] na) (hd : IE X E d md) (he : backTo pos (starEach [a] X.env) = (false, eval a X.env) :: backTo pos (starEach [] X.env) := by rfl) (hpl : (backTo pos (starEach [a] X.env)).any (·.1) = false := by rfl)
    (hall : (backToKw pos (keywordEach [⟨some "default", d, kpos⟩] X.env)).all (·.1.isSome) = true := by rfl) (hnone : (backToKw pos (keywordEach [⟨some "default", d, kpos⟩] X.env)).any (·.1.isNone) = false := by rfl) (hks : (backToKw pos (keywordEach [⟨some "default", d, kpos⟩] X.env)).filterMap (·.1) = [("default" : Str)] := by rfl) :
    IE X E (.Call (.Name "max" p) [a] [⟨some "default", d, kpos⟩] pos) (mMaxT na md) := by
  obtain ⟨⟨t, pt, i⟩, _⟩ := ha
  obtain ⟨u, pu, j⟩ := hd
  refine ⟨_, pe_callBK (cr_maxT hc hu) hg hm boot_max1 pt (pk_cons pu pk_nil) (by decide) (by decide) he hpl hall hnone hks, fun U S H σ ρ Q s rl w => i U S H σ ρ _ s rl (w.bind.mono fun U1 S1 H1 x st1 s1 w1 vs rvs => ?_)⟩
  refine j U1 S1 H1 σ ρ _ s1 (rl.step st1) (w1.bind.mono fun U2 S2 H2 y st2 s2 w2 v2 rv2 => ?_)
  cases rvs with
  | nil => exact False.elim w2
  | cons rv rt =>
  cases rt with
  | cons _ _ => exact False.elim w2
  | nil =>
  simp only at w2
  unfold gMaxT at w2
  split at w2
  · next hs =>
    obtain ⟨b, vs, rfl, q1, q2⟩ := seq_rel s2 (rv.step st2) hs
    cases q2
    exact ⟨b, [], U2.F, [], v2, rfl, rfl, q1, s2.fz, .nil, rfl, ⟨fun x h => (nomatch h), fun x h => (nomatch h)⟩, fun _ => (w2.ok s2) v2 rv2, fun y ys e => (nomatch e)⟩
  · next y ys hs =>
    split at w2
    · next hb =>
      rw [Bool.and_eq_true] at hb
      obtain ⟨b, vs, rfl, q1, q2⟩ := seq_rel s2 (rv.step st2) hs
      refine ⟨b, vs, U2.F, y :: ys, v2, rfl, rfl, q1, s2.fz, q2, hb.1, alikeB_of hb.2, fun e => (nomatch e), fun y' ys' e v rv' => ?_⟩
      cases e
      exact (Wants.ok w2 s2) v rv'
    · exact False.elim w2
  · exact False.elim w2
end
end G


namespace G
open PySem L2
structure ClsAt (K : PySem.W.Frag) (mg : Str → Option Value) (cn : Str) (C : Addr) : Prop where
  mgC : mg cn = some (.ref C)
  cl : Cls K C
  makes : PySem.W.makesIn K C = true
  kc : PySem.W.keepIn K (.ref C) = true
theorem clsAt_mk {K : PySem.W.Frag} {h : Heap} {mg : Str → Option Value} {cn : Str} {C : Addr} (X : K.In h) (G : h.Ns mainGlobals mg) (aC : PySem.W.nsIn K mainGlobals cn = some (some (.ref C)))
    (pg : PySem.W.plainGet K C Str.empty = true) (hd : PySem.W.hasDictIn K C = true) (po : PySem.W.plainOver K C = true) (sa : PySem.W.findIn K (.ref C) "__setattr__" = some (some (.builtin "object.__setattr__"))) (mk : PySem.W.makesIn K C = true) (kc : PySem.W.keepIn K (.ref C) = true) : ClsAt K mg cn C :=
  ⟨PySem.W.mg_of X G aC, ⟨pg, hd, po, sa⟩, mk, kc⟩
theorem noAttr_mk {K : PySem.W.Frag} {mg : Str → Option Value} {cn f : Str} {C : Addr} (D : ClsAt K mg cn C) (n : PySem.W.findIn K (.ref C) f = some none) : NoAttr K C f := n
theorem methAt_mk {K : PySem.W.Frag} {mg : Str → Option Value} {cn m qual : Str} {C : Addr} {ps : List Str} {st : Stmt} {f : Addr} {oc kV dc pm cd ct : Value} {od an : Option Addr} {sl : Array (Option Value)} (D : ClsAt K mg cn C)
    (a : PySem.W.findIn K (.ref C) m = some (some (.ref f))) (i : PySem.W.isFn K (.ref f) = true) (l : K.lookup f = some ⟨oc, od, .func (PySem.W.fnOf m qual (defArgs st) (defBody st) (defScope st) .none kV dc pm an cd ct), sl⟩)
    (c : PySem.W.codeIn K cd qual = true) (k : PySem.W.keepIn K (.ref f) = true)
    (hb : ∀ (kV doc pm : Value) (an : Option Addr) (cdv ct : Value) (us : List Value), us.length = ps.length → bindArgs (PySem.W.fnOf m qual (defArgs st) (defBody st) (defScope st) .none kV doc pm an cdv ct) ⟨us, []⟩ = pure (ps.zip us)) : MethAt K C m qual ps st :=
  ⟨f, _, fun_mk l c k, ⟨a, i, k⟩, (fun_mk l c k).binds hb⟩
/-- an __init__ that sets self.f = (), self.g = [] -/
theorem initAt_mk {P : Program} {w : World} {K : PySem.W.Frag} {mg : Str → Option Value} {base : Heap} {cn qual f g : Str} {C : Addr} {st : Stmt} {k1 : Nat} {p1 p2 p3 p4 p5 p6 p7 p8 : Pos} (D : ClsAt K mg cn C) (n1 : NoAttr K C f) (n2 : NoAttr K C g) (M : MethAt K C "__init__" qual ["self"] st) (S : FnScope ["self"] ["self"] (defScope st)) (hfg : ¬ f = g)
    (hb : defBody st = [.Assign [.Attribute (.Name "self" p1) f p2] (.Tuple [] k1 p3) p4, .Assign [.Attribute (.Name "self" p5) g p6] (.List [] p7) p8])
    (hv : Vis (defScope st) "self") : InitAt P w K mg base C cn f g := by
  obtain ⟨fi, fd, F, hm, hbi⟩ := M
  refine ⟨D.mgC, fi, fd, ?_, ⟨D.makes, hm.at_, hm.fn, D.kc⟩, hbi⟩
  refine F.ok S (fun vs H Q E h => ?_) fun cdv A outer s H vs Q E hr h => ?_
  · obtain ⟨x, dx, rfl, _⟩ := h; rfl
  · obtain ⟨x, dx, rfl, hx, q⟩ := h
    rw [hb]
    have pv0 : ∀ (p : Pos) (X : Cx), X.N = [("self" : Str)] → Vis X.env.scope "self" → PE X (.Name "self" p) (tVar 0) := fun p X hN hv => pe_var (i := 0) (by rw [hN]; rfl) hv (by decide) (by decide)
    refine ⟨_, pss_cons (ps_fld (pv0 _ _ rfl hv) (pe_tup pa_nil) rfl) (pss_one (ps_fld (pv0 _ _ rfl hv) (pe_lst pa_nil) rfl)), ?_⟩
    refine ⟨Nat.zero_le _, fun t ht => ⟨.ref x, rfl, x, C, dx, [], rfl, by rw [upd_ne (ne_of_none hx ht)]; exact hx, D.cl, n1, by show 0 < 1000; decide, ?_⟩⟩
    have nxt : x ≠ t := ne_of_none hx ht
    refine ⟨Nat.zero_le _, fun b hb' => ?_⟩
    have xb : b ≠ x := fun e => by rw [e, upd_same] at hb'; cases hb'
    rw [upd_ne xb] at hb'
    have tb : b ≠ t := fun e => by rw [e, upd_same] at hb'; cases hb'
    rw [upd_ne tb] at hb'
    refine ⟨.ref x, rfl, x, C, dx, [(f, .ref t)], rfl, by rw [upd_ne xb.symm, upd_same]; rfl, D.cl, n2, by show 1 < 1000; decide, ?_⟩
    have e2 : putF g (.ref b) [(f, .ref t)] = [(f, .ref t), (g, .ref b)] := by
      unfold putF
      rw [if_neg hfg]
      rfl
    rw [e2]
    exact q t b ht hb' (fun e => tb e.symm)
end G


namespace G
open PySem L2
/-! ### at the end of a turn what the turn made is forgotten -/
def fgt (n : Nat) : Option D → Option D
  | some (.r l) => if l < n then some (.r l) else none
  | o => o
def mCut (b : MS) : MS := fun ρ S => match b ρ S with
  | .ok (.rt (.r l), ρ') S' => if l < S.length then .ok (.rt (.r l), ρ'.map (fgt S.length)) (S'.take S.length) else .stuck
  | .ok (f, ρ') S' => .ok (f, ρ'.map (fgt S.length)) (S'.take S.length)
  | .exc c S' => .exc c S'
  | .stuck => .stuck
theorem RelL.fgt {K : PySem.W.Frag} {U : Wd} {ρ : Loc} {σ : L2.St} {n : Nat} (h : RelL K U ρ σ) : RelL K (U.cut n) (ρ.map (fgt n)) σ := by
  refine ⟨by rw [List.length_map]; exact h.len, fun i d e => ?_⟩
  rw [List.getElem?_map] at e
  cases ho : ρ[i]? with
  | none => rw [ho] at e; cases e
  | some o =>
    rw [ho] at e
    have e' : G.fgt n o = some d := by simpa using e
    cases o with
    | none => cases e'
    | some d0 =>
      cases d0 with
      | p x =>
        cases e'
        obtain ⟨v, hv, r⟩ := h.get i _ ho
        exact ⟨v, hv, r⟩
      | r l =>
        unfold G.fgt at e'
        split at e'
        · next l' hl =>
          cases hl
          split at e'
          · next hlt =>
            cases e'
            obtain ⟨v, hv, a, ha, hva⟩ := h.get i _ ho
            refine ⟨v, hv, a, ?_, hva⟩
            show (if l < n then U.io l else none) = some a
            rw [if_pos hlt]; exact ha
          · cases e'
        · next hne => exact absurd rfl (hne l)
theorem imp_cut {K : PySem.W.Frag} {E : EX} {t : TS} {b : MS} (h : ImpS K E t b) : ImpS K E t (mCut b) := by
  intro U S H σ ρ N s rl w
  refine h U S H σ ρ N s rl ?_
  unfold mCut at w
  cases hb : b ρ S with
  | stuck => rw [hb] at w; exact w
  | exc c S' => rw [hb] at w; exact w
  | ok r S' =>
    obtain ⟨f, ρ'⟩ := r
    rw [hb] at w
    intro U' H' st s' σ' rl'
    cases f with
    | nx => exact w _ _ (st.cut s.dom) (s'.cut _) σ' rl'.fgt
    | bk => exact w _ _ (st.cut s.dom) (s'.cut _) σ' rl'.fgt
    | ct => exact w _ _ (st.cut s.dom) (s'.cut _) σ' rl'.fgt
    | rt d =>
      cases d with
      | p x => exact fun v rv => w _ _ (st.cut s.dom) (s'.cut _) σ' rl'.fgt v rv
      | r l =>
        simp only at w
        split at w
        · next hl =>
          intro v rv
          obtain ⟨a, ha, hva⟩ := rv
          refine w _ _ (st.cut s.dom) (s'.cut _) σ' rl'.fgt v ⟨a, ?_, hva⟩
          show (if l < S.length then U'.io l else none) = some a
          rw [if_pos hl]; exact ha
        · exact False.elim w
theorem iss_cut {X : Cx} {E : EX} {body : List Stmt} {b : MS} (h : ISs X E body b) : ISs X E body (mCut b) := by
  obtain ⟨t, p, i⟩ := h
  exact ⟨_, p, imp_cut i⟩
end G


namespace GH
open PySem PySem.Spec PyProof.Rows L2 HotX L2H
section
variable {prog : Program} {w : World} {A : Around} {E : Value → Shared → Prop} {s : Shared}
/-- a StopIteration made and raised while another exception is handled -/
theorem stop_hot {α : Type} {x1 : Addr} {Q : α → Shared → Prop} (hot : HotAt A x1 s.heap)
    (hE : ∀ h' e, (∀ b o, s.heap.get? b = some o → h'.get? b = some o) → (∃ o, h'.get? e = some o ∧ o.cls = .type "StopIteration") → E (.ref e) { s with heap := h' }) :
    wpAny (model prog w) A (newExc (.type "StopIteration") [] >>= fun v => (raiseNew v : Sem α)) Q E s := by
  obtain ⟨hh, o1, vs1, g1, d1, c1⟩ := hot
  apply wpAny_bind; simp only [newExc, newTuple]
  refine wpAny_bind (wpAny_newObj_type (wpAny_bind (m := firstArgMember _ _) (wpAny_of_eq (a := Value.none) (by first | rfl | (simp only [firstArgMember]; rfl)) (wpAny_newObj_type ?_ (by size_fits)))) (by size_fits))
  have g2 : ∀ (oa ob : Obj) (b : Addr) (o : Obj), s.heap.get? b = some o → ((s.heap.push oa).push ob).get? b = some o := fun oa ob b o e => Heap.get?_push_of_some _ (Heap.get?_push_of_some _ e)
  refine raiseNew_hot (oe := _) ⟨hh, o1, vs1, g2 _ _ _ _ g1, d1, c1⟩ (Nat.ne_of_lt (Heap.lt_size (Heap.get?_push_of_some _ g1))) (Heap.get?_push_size _ rfl) rfl (by first | (simp; done) | (simp; omega)) (hE _ _ (fun b o e => ?_) ⟨_, Heap.get?_update_self _ (Heap.get?_push_size _ rfl) rfl, rfl⟩)
  have lt := Heap.lt_size (Heap.get?_push_of_some { cls := .type "tuple", data := .seq ([] : List Value).toArray } e)
  rw [Heap.get?_update_other _ _ (Nat.ne_of_gt lt)]; exact g2 _ _ _ _ e
theorem nextOf_list_end_hot {it l x1 : Addr} {i : Nat} {items : Array Value} {Q : Value → Shared → Prop} (hot : HotAt A x1 s.heap) (hn : x1 ≠ it)
    (hit : s.heap.IsListIter it l i) (hl : s.heap.IsList l items) (hx : items[i]? = none)
    (hE : ∀ h' e, Heap.ExtBut it s.heap h' → (∃ o, h'.get? e = some o ∧ o.cls = .type "StopIteration") → E (.ref e) { s with heap := h' }) :
    wpAny (model prog w) A (Builtin.SmallTypes.nextOf (.ref it)) Q E s := by
  obtain ⟨ob, gb, cb, db⟩ := id hit
  obtain ⟨ol, gl, _, nl, dl⟩ := hl
  obtain ⟨hh, o1, vs1, g1, d1, c1⟩ := hot
  unfold Builtin.SmallTypes.nextOf
  refine wpAny_bind (wpAny_callSpecial?_slot (name := Str.ofString "__next__") hit.typeIs slot_listiter_next (wpAny_call_entry slot_listiter_next hit.typeIs entry_listiter_next ?_ (args_listiter_next _)))
  show wpAny _ _ (field (.ref it) 0 >>= _) _ _ _; refine wpAny_bind (wpAny_field gb db (x := .ref l) rfl ?_)
  show wpAny _ _ (if (Value.ref l == Value.none) = true then _ else _) _ _ _; rw [if_neg (show ¬ ((Value.ref l == Value.none) = true) from Bool.false_ne_true)]
  show wpAny _ _ (field (.ref it) 1 >>= _) _ _ _; refine wpAny_bind (wpAny_field gb db (x := .int i 0) rfl ?_)
  show wpAny _ _ (seqItems? (.ref l) >>= _) _ _ _; refine wpAny_bind (wpAny_seqItems gl dl ?_); simp only [Int.toNat_natCast, hx]
  refine wpAny_bind (wpAny_rule (wpAny_bind (wpAny_setField gb db (by simp) (stop_hot ⟨hh, o1, vs1, (Heap.get?_update_other _ _ hn.symm).trans g1, d1, c1⟩ fun h' e k st => hE h' e (fun b o hb q => k b o ?_) st))))
  exact (Heap.get?_update_other _ _ (Ne.symm hb)).trans q
/-- zip's end, where its first list ends first -/
theorem zip_end_hot {z TI TO i1 i2 l1 x1 : Addr} {k1 : Nat} {xs : Array Value} {Q : Option Value → Shared → Prop} (hot : HotAt A x1 s.heap) (nz : x1 ≠ z) (n1 : x1 ≠ i1)
    (i1z : i1 ≠ z) (l1z : l1 ≠ z) (hz : IsZip s.heap z TI TO .none) (hTI : IsPair s.heap TI (.ref i1) (.ref i2))
    (h1 : s.heap.IsListIter i1 l1 k1) (hl1 : s.heap.IsList l1 xs) (hx : xs[k1]? = none)
    (hQ : ∀ h', (∀ c o, c ≠ z → c ≠ i1 → s.heap.get? c = some o → h'.get? c = some o) → Q none { s with heap := h' }) : wpAny (model prog w) A (pyNext (.ref z)) Q E s := by
  obtain ⟨hh, o1, vs1, g1, d1, c1⟩ := hot
  have tz : s.TypeIs (.ref z) "zip" := ⟨_, hz, rfl⟩
  unfold pyNext
  refine wpAny_bind (wpAny_attempt (wpAny_callSpecial?_slot (name := Str.ofString "__next__") tz F.slot_zip_next (wpAny_call_entry F.slot_zip_next tz F.entry_zip_next ?_ (F.args_zip_next_1 _))))
  show wpAny _ _ (field (.ref z) 2 >>= _) _ _ _; refine wpAny_bind (wpAny_field hz rfl (x := .bool false) rfl ?_)
  show wpAny _ _ (field (.ref z) 3 >>= _) _ _ _; refine wpAny_bind (wpAny_field hz rfl (x := .ref TI) rfl (wpAny_bind (wpAny_seqItems hTI rfl ?_)))
  show wpAny _ _ (Builtin.SmallTypes.ownedTupleIsFree (.ref z) >>= _) _ _ _; apply wpAny_bind; unfold Builtin.SmallTypes.ownedTupleIsFree
  refine wpAny_bind (wpAny_field hz rfl (x := .none) rfl (wpAny_pure ?_)); simp only [if_true]
  refine wpAny_bind (wpAny_rule (wpAny_bind (wpAny_field hz rfl (x := .ref TO) rfl (wpAny_bind (wpAny_setField_rec hz (by simp) fun h₁ hz₁ hs₁ => wpAny_bind ?_)))))
  simp only [List.zipIdx_cons, List.zipIdx_nil, List.forIn_cons, List.forIn_nil]
  refine wpAny_bind (wpAny_bind (wpAny_onRaise ?_)); show wpAny _ _ (Builtin.SmallTypes.nextOf (.ref i1) >>= _) _ _ _
  refine wpAny_bind (nextOf_list_end_hot (x1 := x1) ⟨hh, o1, vs1, hs₁.extBut _ _ nz g1, d1, c1⟩ n1 (h1.extBut hs₁.extBut i1z) (hl1.extBut hs₁.extBut l1z) hx fun h₂ e hs₂ he => ?_)
  obtain ⟨oe, hoe, hce⟩ := he
  have gz : IsZip h₂ z TI TO .ellipsis := hs₂ _ _ i1z.symm hz₁
  have ez : e ≠ z := fun q => by
    subst q; rw [gz] at hoe; cases hoe; simp at hce
  refine wpAny_setField_rec gz (by simp) fun h₃ _ hs₃ => ?_
  refine wpAny_bind (wpAny_isInstance (T := "StopIteration") (b := true) ⟨oe, hs₃.extBut _ _ ez hoe, hce⟩ isSubtype_stop (wpAny_pure (hQ _ fun c o cz c1 q => ?_)))
  exact hs₃.extBut _ _ cz (hs₂ _ _ c1 (hs₁.extBut _ _ cz q))
/-- the end of a tuple's iterator -/
theorem next_tuple_end_hot {it t x1 : Addr} {i : Nat} {items : Array Value} {Q : Option Value → Shared → Prop} (hot : HotAt A x1 s.heap) (hn : x1 ≠ it)
    (hit : IsTupIter s.heap it t i) (ht : IsTup s.heap t items) (hx : items[i]? = none)
    (hQ : ∀ h', Heap.ExtBut it s.heap h' → Q none { s with heap := h' }) : wpAny (model prog w) A (pyNext (.ref it)) Q E s := by
  obtain ⟨ob, gb, cb, db⟩ := id hit
  obtain ⟨ol, gl, _, nl, dl⟩ := ht
  obtain ⟨hh, o1, vs1, g1, d1, c1⟩ := hot
  unfold pyNext
  refine wpAny_bind (wpAny_attempt (wpAny_callSpecial?_slot (name := Str.ofString "__next__") hit.typeIs slot_tupleiter_next (wpAny_call_entry slot_tupleiter_next hit.typeIs entry_tupleiter_next ?_ (args_tupleiter_next _))))
  show wpAny _ _ (field (.ref it) 0 >>= _) _ _ _; refine wpAny_bind (wpAny_field gb db (x := .ref t) rfl ?_)
  show wpAny _ _ (if (Value.ref t == Value.none) = true then _ else _) _ _ _; rw [if_neg (show ¬ ((Value.ref t == Value.none) = true) from Bool.false_ne_true)]
  show wpAny _ _ (field (.ref it) 1 >>= _) _ _ _; refine wpAny_bind (wpAny_field gb db (x := .int i 0) rfl ?_)
  show wpAny _ _ (seqItems? (.ref t) >>= _) _ _ _; refine wpAny_bind (wpAny_seqItems gl dl ?_); simp only [Int.toNat_natCast, hx]
  refine wpAny_bind (wpAny_rule (wpAny_bind (wpAny_setField gb db (by simp) (stop_hot ⟨hh, o1, vs1, (Heap.get?_update_other _ _ hn.symm).trans g1, d1, c1⟩ fun h' e k st => ?_))))
  obtain ⟨oe, ge, ce⟩ := st
  exact wpAny_bind (wpAny_isInstance (T := "StopIteration") (b := true) ⟨oe, ge, ce⟩ isSubtype_stop (wpAny_pure (hQ _ fun b o hb q => k b o ((Heap.get?_update_other _ _ (Ne.symm hb)).trans q))))
/-- a, b, .. = a tuple, while an exception is handled -/
theorem assign_tuple_hot {env : Env} {elts : List Expr} {kk : Nat} {pos : Pos} {t x1 : Addr} {items : Array Value} {Q : Unit → Shared → Prop} (hot : HotAt A x1 s.heap) (ht : IsTup s.heap t items)
    (hn : (assignEach elts env).length = items.size) (hstar : (assignEach elts env).findIdx? (·.1) = none)
    (h : ∀ h', (∀ b o, s.heap.get? b = some o → h'.get? b = some o) → wpAny (model prog w) A (assignInOrder ((assignEach elts env).map (·.2)) items.toList) Q E { s with heap := h' }) :
    wpAny (model prog w) A (assign (.Tuple elts kk pos) env (.ref t)) Q E s := by
  have lt : t < s.heap.objs.size := by
    obtain ⟨o, ho, _⟩ := ht; exact Heap.lt_size ho
  obtain ⟨hh, o1, vs1, g1, d1, c1⟩ := hot
  have lx := Heap.lt_size g1
  rw [assign_Tuple]; refine wpAny_bind (wpAny_standAt ?_); unfold unpack; rw [hn, hstar]
  refine wpAny_bind (wpAny_holding ?_); unfold unpackItems; apply wpAny_bind; unfold notIterableAtAll
  refine wpAny_bind (wpAny_specialOf ht.typeIs slot_tuple_iter.lookup (wpAny_pure ?_)); simp only [Bool.false_eq_true, if_false]
  refine wpAny_bind (wpAny_holding (iter_tuple ht (wpAny_bind (wpAny_holding (draw_tuple (Nat.ne_of_lt lt) items.size 0 _ _ ⟨_, Heap.get?_push_size _ rfl, rfl, rfl⟩ (ht.push _) (by omega) fun h₁ hit₁ hs₁ => ?_)))))
  rw [show List.take items.size (List.drop 0 items.toList) = items.toList by rw [List.drop_zero]; exact List.take_of_length_le (by simp), if_neg (by simp)]
  have up : ∀ b o, s.heap.get? b = some o → h₁.get? b = some o := fun b o e => hs₁.extBut b o (Nat.ne_of_lt (Heap.lt_size e)) (Heap.get?_push_of_some _ e)
  refine wpAny_bind (wpAny_holding (next_tuple_end_hot (x1 := x1) ⟨hh, o1, vs1, up _ _ g1, d1, c1⟩ (Nat.ne_of_lt lx) hit₁ ((ht.push _).extBut hs₁.extBut (Nat.ne_of_lt lt)) (by simp) fun h₂ he₂ => ?_))
  simp only [Option.isSome_none, Bool.false_eq_true, if_false]
  exact wpAny_pure (h h₂ fun b o e => he₂ b o (Nat.ne_of_lt (Heap.lt_size e)) (up b o e))
end
end GH


namespace GH
open PySem PySem.Spec PyProof.Rows L2 HotX L2H
/-- a zip of the lists at a and b, at its turn i -/
def Zst (z TI TO i1 i2 a b : Addr) (i : Nat) (h : Heap) : Prop := IsZip h z TI TO .none ∧ IsPair h TI (.ref i1) (.ref i2) ∧ (∃ x y, IsPair h TO x y) ∧ h.IsListIter i1 a i ∧ h.IsListIter i2 b i
section
variable {z TI TO i1 i2 a b : Addr} {i : Nat} {h h' : Heap}
theorem five {c : Addr} (hc : c ∈ [z, TI, TO, i1, i2]) : c = z ∨ c = TI ∨ c = TO ∨ c = i1 ∨ c = i2 := by simpa using hc
theorem Zst.obj (st : Zst z TI TO i1 i2 a b i h) : ∀ c ∈ [z, TI, TO, i1, i2], ∃ o, h.get? c = some o ∧ ∀ v, o.data ≠ .cell v := fun c hc => by
  obtain ⟨s1, s2, ⟨x, y, s3⟩, ⟨o4, e4, _, d4⟩, ⟨o5, e5, _, d5⟩⟩ := st
  rcases five hc with rfl | rfl | rfl | rfl | rfl
  · exact ⟨_, s1, fun v q => nomatch q⟩
  · exact ⟨_, s2, fun v q => nomatch q⟩
  · exact ⟨_, s3, fun v q => nomatch q⟩
  · exact ⟨o4, e4, fun v q => by rw [d4] at q; cases q⟩
  · exact ⟨o5, e5, fun v q => by rw [d5] at q; cases q⟩
theorem Zst.keep (st : Zst z TI TO i1 i2 a b i h) (k : ∀ c ∈ [z, TI, TO, i1, i2], ∀ o, h.get? c = some o → h'.get? c = some o) : Zst z TI TO i1 i2 a b i h' := by
  obtain ⟨s1, s2, ⟨x, y, s3⟩, s4, s5⟩ := st
  exact ⟨k _ (by simp) _ s1, k _ (by simp) _ s2, ⟨x, y, k _ (by simp) _ s3⟩, s4.at fun o => k _ (by simp) o, s5.at fun o => k _ (by simp) o⟩
theorem Zst.lt (st : Zst z TI TO i1 i2 a b i h) : ∀ c ∈ [z, TI, TO, i1, i2], c < h.objs.size := fun c hc => by
  obtain ⟨o, e, _⟩ := st.obj c hc
  exact Heap.lt_size e
theorem Zst.item {X : Cx} {pins : List (Addr × Obj)} {σ : L2.St} {H : Hp} {s : Shared} {E : Value → Shared → Prop} {elts : List Expr} {kk : Nat} {tpos : Pos} {xs ys : List V} {x y : V} (D : ZipApart z TI TO i1 i2 a b)
    (I : Inv X pins σ H s) (hf : ∀ c ∈ [z, TI, TO, i1, i2], FpOk X pins H c) (st : Zst z TI TO i1 i2 a b i s.heap) (qx : SqL X.K H a xs) (qy : SqL X.K H b ys) (hx : xs[i]? = some x) (hy : ys[i]? = some y) :
    wpAny (model X.prog X.w) X.A (pyNext (.ref z)) (fun r s1 => ∃ u, r = some (.ref u) ∧ wpAny (model X.prog X.w) X.A (letOwnedTupleGo (.Tuple elts kk tpos) (.ref z) (.ref u))
      (fun _ s2 => Inv X pins σ (upd H u (.tup [x, y])) s2 ∧ H u = none ∧ Zst z TI TO i1 i2 a b (i + 1) s2.heap ∧ ∀ c ∈ [z, TI, TO, i1, i2], upd H u (.tup [x, y]) c = none) E s1) E s := by
  have all := st.lt
  obtain ⟨s1, s2, ⟨x0, y0, s3⟩, s4, s5⟩ := st
  obtain ⟨ixs, rx, px, _⟩ := I.list qx
  obtain ⟨iys, ry, py, _⟩ := I.list qy
  obtain ⟨u1, e1, r1⟩ := rx.get hx
  obtain ⟨u2, e2, r2⟩ := ry.get hy
  refine wpAny_pyNext_zip_item D s1 s2 s3 s4 s5 px.isList py.isList (x := u1) (y := u2) (by simpa using e1) (by simpa using e2) fun g z1 t1 l1 l2 new1 size1 same1 => ⟨_, rfl, ?_⟩
  refine wpAny_letOwnedTupleGo_zip (s := { s with heap := g }) z1 fun g2 z2 sb => ?_
  have zl := Heap.lt_size s1
  have tup : g2.get? s.heap.objs.size = some { cls := .type "tuple", data := .seq #[u1, u2] } := (sb.2 _ (Nat.ne_of_gt zl)).trans new1
  have okT : ObjOk X.prog X.w (upd H s.heap.objs.size (.tup [x, y])) g2 s.heap.objs.size (.tup [x, y]) := ⟨by show 2 ≤ sizeLine; decide, [u1, u2], .cons r1 (.cons r2 .nil), ⟨_, tup, rfl, _, rfl⟩⟩
  have same2 : ∀ c o, c ∉ [z, TI, TO, i1, i2] → s.heap.get? c = some o → g2.get? c = some o := fun c o hc e => by
    simp only [List.mem_cons, List.not_mem_nil, or_false, not_or] at hc
    obtain ⟨n1, n2, n3, n4, n5⟩ := hc
    exact (sb.2 c n1).trans (same1 c o n1 n3 n4 n5 e)
  refine ⟨I.turnedNew (t' := s.toks) (ch := [z, TI, TO, i1, i2]) same2 hf (Nat.le_refl _) okT, I.hok.fresh (Nat.le_refl _), ⟨z2, (sb.2 _ D.TIz).trans (same1 _ _ D.TIz D.TITO D.TIi1 D.TIi2 s2), ⟨u1, u2, (sb.2 _ D.TOz).trans t1⟩, l1.at fun o q => (sb.2 _ D.i1z).trans q, l2.at fun o q => (sb.2 _ D.i2z).trans q⟩, fun c hc => ?_⟩
  rw [upd_ne (Nat.ne_of_lt (all c hc))]; exact (hf c hc).1
theorem Zst.done {X : Cx} {pins : List (Addr × Obj)} {σ : L2.St} {H : Hp} {s : Shared} {E : Value → Shared → Prop} {xs : List V} {p : Addr × Obj} (D : ZipApart z TI TO i1 i2 a b)
    (hot : Hot1 X.A p) (hp : p ∈ X.pn ++ pins) (I : Inv X pins σ H s) (hf : ∀ c ∈ [z, TI, TO, i1, i2], FpOk X pins H c) (st : Zst z TI TO i1 i2 a b i s.heap) (qx : SqL X.K H a xs) (hx : xs.length ≤ i) :
    wpAny (model X.prog X.w) X.A (pyNext (.ref z)) (fun r s1 => r = none ∧ Inv X pins σ H s1) E s := by
  obtain ⟨s1, s2, ⟨x0, y0, s3⟩, s4, s5⟩ := st
  obtain ⟨ixs, rx, px, _⟩ := I.list qx
  obtain ⟨hh, vs1, d1, c1⟩ := hot
  have hl := rx.length
  refine zip_end_hot (x1 := p.1) ⟨hh, p.2, vs1, (I.pin p hp).1, d1, c1⟩ ((hf z (by simp)).2.2.2.2.2 p hp) ((hf i1 (by simp)).2.2.2.2.2 p hp) D.i1z D.l1z s1 s2 s4 px.isList (by simp; omega) fun g k => ⟨rfl, ?_⟩
  exact I.turnedL (t' := s.toks) (ch := [z, TI, TO, i1, i2]) (fun c o hc e => k c o (fun q => hc (by simp [q])) (fun q => hc (by simp [q])) e) hf
end
end GH


set_option maxHeartbeats 2000000
namespace GH
open PySem PySem.Spec PyProof.Rows L2 HotX L2H
/-- the texts whose sign is True -/
def pickS : List Str → List Bool → List Str
  | x :: xs, b :: bs => if b = true then x :: pickS xs bs else pickS xs bs
  | _, _ => []
theorem pickS_snoc {x : Str} {b : Bool} : ∀ {xs : List Str} {bs : List Bool}, xs.length = bs.length → pickS (xs ++ [x]) (bs ++ [b]) = pickS xs bs ++ (if b = true then [x] else [])
  | [], [], _ => by cases b <;> rfl
  | _ :: _, [], h => by cases h
  | [], _ :: _, h => by cases h
  | y :: xs, c :: bs, h => by
    have ih := pickS_snoc (x := x) (b := b) (xs := xs) (bs := bs) (by simpa using h)
    show (if c = true then y :: pickS (xs ++ [x]) (bs ++ [b]) else pickS (xs ++ [x]) (bs ++ [b])) = (if c = true then y :: pickS xs bs else pickS xs bs) ++ _
    rw [ih]
    cases c <;> rfl
theorem pickS_le : ∀ (xs : List Str) (bs : List Bool), (pickS xs bs).length ≤ xs.length
  | [], _ => Nat.le_refl _
  | _ :: _, [] => Nat.zero_le _
  | x :: xs, b :: bs => by
    have := pickS_le xs bs
    cases b <;> simp [pickS] <;> omega
/-- what one turn does: the two names are set, the test is the sign, the item is the text -/
def OneTurn (g : TGs) (tt : TT) (te : TE) (vs : List Nat) (σ : L2.St) : Prop := ∀ (H : Hp) (x : Str) (bo : Bool), g [.str x, .bl bo] (wipe σ vs) H (fun σ2 H2 => wipe σ2 vs = wipe σ vs ∧ H2 = H ∧
  tt σ2 H2 fun b' H3 => (b' = bo ∧ H3 = H) ∧ (b' = true → te σ2 H3 fun y H4 => y = .str x ∧ H4 = H))
def tZipH (K : PySem.W.Frag) (ta : TA) (g : TGs) (tt : TT) (te : TE) (vs : List Nat) : TE := fun σ H Q => ta σ H fun us H1 => ∃ a b xs bs, us = [.ref a, .ref b] ∧ SqL K H1 a (xs.map V.str) ∧ SqL K H1 b (bs.map V.bl) ∧ xs.length = bs.length ∧ xs.length < sizeLine ∧
  OneTurn g tt te vs σ ∧ ∀ D H', H1 D = none → H' D = some (.lst ((pickS xs bs).map V.str)) → (∀ c o, H1 c = some o → H' c = some o) → Q (.ref D) H'
theorem SqL.ext {K : PySem.W.Frag} {H H' : Hp} {a : Addr} {xs : List V} (h : SqL K H a xs) (e : ∀ c o, H c = some o → H' c = some o) : SqL K H' a xs := by
  rcases h with (h | ⟨o, h⟩) | h
  · exact .inl (.inl (e _ _ h))
  · exact .inl (.inr ⟨o, e _ _ h⟩)
  · exact .inr h
theorem vals2 {a b : Addr} {us : List Value} (h : Vals [.ref a, .ref b] us) : us = [.ref a, .ref b] := by
  cases h with
  | cons r t => cases t with
    | cons r' t' => cases t'; cases r; cases r'; rfl
section
variable {X : Cx}
theorem lc_zip_hot {e1 e2 elt : Expr} {es ifs : List Expr} {kk : Nat} {tpos zp zpos pos : Pos} {scope : Scope} {own : List (Str × Nat)} {ta : TA} {g : TGs} {tt : TT} {te : TE} (hc : HotC X) (hN : X.N.Nodup)
    (hg : Gl X "zip") (hm : X.mg "zip" = none) (ha : PA X [e1, e2] ta) (ok : BlkOk X.N X.env.scope scope own)
    (hgs : ∀ (s : Shared) (H : Hp) (C : Addr) (cl : List (Str × Addr)) (fp : List Addr), PGs (X.blk s H scope (compEnvC scope cl C X.env) fp) es g)
    (hts : ∀ (s : Shared) (H : Hp) (C : Addr) (cl : List (Str × Addr)) (fp : List Addr), PTs (X.blk s H scope (compEnvC scope cl C X.env) fp) ifs tt)
    (hes : ∀ (s : Shared) (H : Hp) (C : Addr) (cl : List (Str × Addr)) (fp : List Addr), PE (X.blk s H scope (compEnvC scope cl C X.env) fp) elt te)
    (hn : ∀ env : Env, (assignEach es env).length = 2) (hst : ∀ env : Env, (assignEach es env).findIdx? (·.1) = none)
    (hs : starEach [e1, e2] X.env = (false, eval e1 X.env) :: starEach [e2] X.env := by rfl) (hpl : (backTo zpos (starEach [e2] X.env)).any (·.1) = false := by rfl)
    (hfs : ∀ x, foldedSetIterable (.Call (.Name "zip" zp) [e1, e2] [] zpos) X.env x = pure x := by intro _; rfl) :
    PE X (.ListComp elt [⟨.Tuple es kk tpos, .Call (.Name "zip" zp) [e1, e2] [] zpos, ifs, 0⟩] scope pos) (tZipH X.K ta g tt te (own.map (·.2))) := by
  obtain ⟨p, hot, hp⟩ := hc
  refine ⟨fun pins s σ H Q I hw => ?_⟩
  rw [eval_ListComp]
  have hfree : ∀ y ∈ scope.names, y.2 = .free → ∃ c, X.env.cells.lookup y.1 = some c := fun y hy e => (ok.free y hy e).elim (fun k => I.ok.has _ (.inl k)) fun k => I.ok.has _ (.inr k)
  refine wpAny_comprehension_free (use := none) rfl hfs (closure_ok hfree) ok.kind (fun y hy e => by rw [ok.uniq y hy, e]) ?_
  refine Call_ (ld_blt I hg hm PyProof.Rows.boot_zip (PyProof.Rows.callWith_type1 (thn (ha.run zpos pins s σ H _ I hw) fun us s1 ⟨vs, H1, I1, r1, q1⟩ => ?_) hs hpl))
  obtain ⟨a, b, xs, bs, rfl, qa, qb, hlen, hsz, turn, fin⟩ := q1
  have eus := vals2 r1; subst eus
  obtain ⟨ixs, rx, px, _⟩ := I1.list qa
  obtain ⟨iys, ry, py, _⟩ := I1.list qb
  refine call_zip_2 px.isList py.isList fun h2 hz hTI hTO l1 l2 hsz2 hk => wpAny_pyIter_zip hz ?_
  have D : ZipApart (s1.heap.objs.size + 4) (s1.heap.objs.size + 2) (s1.heap.objs.size + 3) s1.heap.objs.size (s1.heap.objs.size + 1) a b := PySem.W.ktu_apart s1.heap.objs.size a b px.lt py.lt
  have I2 : Inv X pins σ H1 { s1 with heap := h2 } := I1.kept (t' := s1.toks) hk
  have st2 : Zst (s1.heap.objs.size + 4) (s1.heap.objs.size + 2) (s1.heap.objs.size + 3) s1.heap.objs.size (s1.heap.objs.size + 1) a b 0 h2 := ⟨hz, hTI, ⟨_, _, hTO⟩, l1, l2⟩
  have big : ∀ c ∈ [s1.heap.objs.size + 4, s1.heap.objs.size + 2, s1.heap.objs.size + 3, s1.heap.objs.size, s1.heap.objs.size + 1], s1.heap.objs.size ≤ c := fun c hc => by
    rcases five hc with q | q | q | q | q <;> rw [q] <;> omega
  generalize hfpE : [s1.heap.objs.size + 4, s1.heap.objs.size + 2, s1.heap.objs.size + 3, s1.heap.objs.size, s1.heap.objs.size + 1] = fp at big
  generalize hz0 : s1.heap.objs.size + 4 = z at D st2 hfpE ⊢
  generalize hz1 : s1.heap.objs.size + 2 = TI at D st2 hfpE
  generalize hz2 : s1.heap.objs.size + 3 = TO at D st2 hfpE
  generalize hz3 : s1.heap.objs.size + 1 = i2 at D st2 hfpE
  generalize hz4 : s1.heap.objs.size = i1 at D st2 hfpE
  have fp2 : ∀ c ∈ fp, FpOk X pins H1 c := fun c hc => I1.fpOk (big c hc) (I1.hok.fresh (big c hc))
  refine wpAny_newObj_type (newEnv_comp ?_) (by show 0 ≤ sizeLine; decide)
  -- the new list, the block
  generalize hL : h2.objs.size = L
  have fr : H1 L = none := I2.hok.fresh (Nat.le_of_eq hL)
  generalize e3 : ({ s1 with heap := h2.push { cls := .type "list", data := .seq ([] : List Value).toArray } } : Shared) = s3
  have g3 : s3.heap = h2.push { cls := .type "list", data := .seq ([] : List Value).toArray } := by rw [← e3]
  have I3 : Inv X pins σ (upd H1 L (.lst [])) s3 := by
    rw [← e3]
    exact I2.laid (t' := s1.toks) (fun c o e => Heap.get?_push_of_some _ e) (Nat.le_of_eq hL) ⟨Nat.zero_le _, [], 0, .nil, by rw [← hL]; exact Heap.get?_push_size _ rfl⟩
  have small : ∀ c ∈ fp, c < h2.objs.size := fun c hc => by rw [← hfpE] at hc; exact st2.lt c hc
  have f3 : ∀ c ∈ fp, FpOk X pins (upd H1 L (.lst [])) c ∧ c < s3.heap.objs.size := fun c hc => by
    have lc := small c hc
    refine ⟨⟨?_, (fp2 c hc).2⟩, by rw [g3, Heap.size_push]; omega⟩
    rw [upd_ne (by rw [← hL]; exact Nat.ne_of_lt lc)]; exact (fp2 c hc).1
  have I4 := block_start I3 ok hN f3
  have kg := hgs s3 (upd H1 L (.lst [])) s3.heap.objs.size (cellsFrom (s3.heap.objs.size + 1) scope.names (cloFrom X.env.cells scope.names [])) fp
  have kt := hts s3 (upd H1 L (.lst [])) s3.heap.objs.size (cellsFrom (s3.heap.objs.size + 1) scope.names (cloFrom X.env.cells scope.names [])) fp
  have ke := hes s3 (upd H1 L (.lst [])) s3.heap.objs.size (cellsFrom (s3.heap.objs.size + 1) scope.names (cloFrom X.env.cells scope.names [])) fp
  show codeAny _ _ (.compStart (.ListComp elt [⟨.Tuple es kk tpos, .Call (.Name "zip" zp) [e1, e2] [] zpos, ifs, 0⟩] scope pos) 0 (.ref z) (.ref L) (compEnvC scope (cellsFrom (s3.heap.objs.size + 1) scope.names (cloFrom X.env.cells scope.names [])) s3.heap.objs.size X.env)) (compPost (model X.prog X.w) X.A X.xe none (EP X pins σ Q) (.ref L) s3.heap.objs.size) { s3 with heap := pushCells (s3.heap.push { cls := .type "dict", data := .dict #[] }) scope.names }
  generalize hce : compEnvC scope (cellsFrom (s3.heap.objs.size + 1) scope.names (cloFrom X.env.cells scope.names [])) s3.heap.objs.size X.env = ce at I4 kg kt ke ⊢
  have cL : ce.locals = s3.heap.objs.size := by subst hce; rfl
  have g4 : ∀ c o, s3.heap.get? c = some o → (pushCells (s3.heap.push { cls := .type "dict", data := .dict #[] }) scope.names).get? c = some o := fun c o e => pushCells_keeps _ _ _ _ (Heap.get?_push_of_some _ e)
  generalize e4 : ({ s3 with heap := pushCells (s3.heap.push { cls := .type "dict", data := .dict #[] }) scope.names } : Shared) = s4 at I4 ⊢
  generalize eH : upd H1 L (.lst []) = H3 at I3 I4 kg kt ke f3
  have P3 := I3.pin p (List.mem_append_left _ hp)
  have I4p : Inv (X.blk s3 H3 scope ce fp) [p] (wipe σ (own.map (·.2))) H3 s4 := I4.pins_of fun q hq => by
    have eq : q = p := by simpa using hq
    subst eq
    refine ⟨by rw [← e4]; exact g4 _ _ P3.1, P3.2.1, ?_, ?_, P3.2.2.2.2⟩
    · show q.1 ≠ ce.locals
      rw [cL]; exact Nat.ne_of_lt (Heap.lt_size P3.1)
    · exact fun hm => (List.mem_cons.mp (I3.stkSub q.1 hm)).elim P3.2.2.1 P3.2.2.2.1
  have st4 : Zst z TI TO i1 i2 a b 0 s4.heap := st2.keep fun c hc o e => by
    rw [← e4]; exact g4 _ _ (by rw [g3]; exact Heap.get?_push_of_some _ e)
  subst hfpE
  have nP : ∀ c ∈ [z, TI, TO, i1, i2], p.1 ≠ c := fun c hc => (f3 c hc).1.2.2.2.2.2 p (List.mem_append_left _ hp)
  have stat : ∀ {σ' : L2.St} {H' : Hp} {s' : Shared}, Inv (X.blk s3 H3 scope ce [z, TI, TO, i1, i2]) [p] σ' H' s' → (∀ c ∈ [z, TI, TO, i1, i2], H' c = none) → ∀ c ∈ [z, TI, TO, i1, i2], FpOk (X.blk s3 H3 scope ce [z, TI, TO, i1, i2]) [p] H' c := fun {σ' H' s'} J nn c hc =>
    ⟨nn c hc, (J.ok.exf c hc).1, J.ok.exfs c hc, .inl hc, (J.ok.exf c hc).2, fun q hq => by
      have eq : q = p := by simpa using (show q ∈ ([] : List (Addr × Obj)) ++ [p] from hq)
      rw [eq]; exact nP c hc⟩
  have loop : codeAny (model X.prog X.w) X.A (.compLoop (.ListComp elt [⟨.Tuple es kk tpos, .Call (.Name "zip" zp) [e1, e2] [] zpos, ifs, 0⟩] scope pos) 0 (.ref z) (.ref L) ce) (compPost (model X.prog X.w) X.A X.xe none (EP X pins σ Q) (.ref L) s3.heap.objs.size) s4 := by
    refine compLoop_any (fun n s' => ∃ i H', Inv (X.blk s3 H3 scope ce [z, TI, TO, i1, i2]) [p] (wipe σ (own.map (·.2))) H' s' ∧ Zst z TI TO i1 i2 a b i s'.heap ∧ (∀ c ∈ [z, TI, TO, i1, i2], H' c = none) ∧ (∀ c o, H1 c = some o → H' c = some o) ∧
      H' L = some (.lst ((pickS (xs.take i) (bs.take i)).map V.str)) ∧ i ≤ xs.length ∧ n = xs.length - i) ?_ xs.length ⟨0, H3, I4p, st4, fun c hc => (f3 c hc).1.1, fun c o e => ?_, ?_, Nat.zero_le _, rfl⟩
    · rintro n s5 ⟨i, H5, I5, st5, n5, k5, d5, hi, rfl⟩
      have qa5 := SqL.ext qa k5
      have qb5 := SqL.ext qb k5
      by_cases hlt : i < xs.length
      · have hx : (xs.map V.str)[i]? = some (.str xs[i]) := by simp [hlt]
        have hltb : i < bs.length := by omega
        have hy : (bs.map V.bl)[i]? = some (.bl bs[i]) := by simp [hltb]
        refine thnF (Zst.item (elts := es) (kk := kk) (tpos := tpos) (X := X.blk s3 H3 scope ce [z, TI, TO, i1, i2]) D I5 (stat I5 n5) st5 qa5 qb5 hx hy) fun r s6 ⟨u, hr, h6⟩ => ?_
        subst hr
        refine thnF h6 fun _ s7 ⟨I7, fu, st7, n7⟩ => ?_
        have I7' := I7.pinned (stat I7 n7) st7.obj
        have P7 := I7'.pin p (by simp)
        obtain ⟨vi, rvi, tpi, _⟩ := I7'.tuple (a := u) (xs := [.str xs[i], .bl bs[i]]) (.inl (.inl upd_same))
        obtain ⟨hh, w1, dd1, cc1⟩ := hot
        have hn2 : (assignEach es ce).length = vi.toArray.size := by rw [hn ce, List.size_toArray, ← rvi.length]; rfl
        refine assign_tuple_hot (x1 := p.1) ⟨hh, p.2, w1, P7.1, dd1, cc1⟩ tpi hn2 (hst ce) fun h8 up8 => ?_
        have I8 := I7'.kept (t' := s7.toks) up8
        refine thnF (kg.run _ _ _ _ _ _ _ I8 (by simpa using rvi) (turn _ xs[i] bs[i])) fun _ s9 ⟨σ9, H9, I9, hw9, eH9, q9⟩ => ?_
        subst eH9
        refine thnF (kt.run _ s9 σ9 _ _ I9 q9) fun bo s10 ⟨H10, I10, ⟨eb, eH10⟩, q10⟩ => ?_
        subst eH10
        have nuL : u ≠ L := fun q => by rw [q, d5] at fu; cases fu
        have dL : upd H5 u (.tup [.str xs[i], .bl bs[i]]) L = some (.lst ((pickS (xs.take i) (bs.take i)).map V.str)) := by rw [upd_ne nuL.symm]; exact d5
        have fin9 : ∀ {s' : Shared} {H' : Hp}, Inv (X.blk s3 H3 scope ce [z, TI, TO, i1, i2]) ([p] ++ pinsAt [z, TI, TO, i1, i2] s7.heap) σ9 H' s' → (∀ c, c ≠ L → H' c = upd H5 u (.tup [.str xs[i], .bl bs[i]]) c) → H' L = some (.lst ((pickS (xs.take (i + 1)) (bs.take (i + 1))).map V.str)) →
            ∃ m, m < xs.length - i ∧ ∃ j H', Inv (X.blk s3 H3 scope ce [z, TI, TO, i1, i2]) [p] (wipe σ (own.map (·.2))) H' s' ∧ Zst z TI TO i1 i2 a b j s'.heap ∧ (∀ c ∈ [z, TI, TO, i1, i2], H' c = none) ∧ (∀ c o, H1 c = some o → H' c = some o) ∧
              H' L = some (.lst ((pickS (xs.take j) (bs.take j)).map V.str)) ∧ j ≤ xs.length ∧ m = xs.length - j := fun {s' H'} J same hL' => by
          have pin' : ∀ c ∈ [z, TI, TO, i1, i2], ∀ o, s7.heap.get? c = some o → s'.heap.get? c = some o ∧ H' c = none := fun c hc o e =>
            let q := J.pin (c, o) (List.mem_append_right _ (List.mem_append_right _ (mem_pinsAt hc e)))
            ⟨q.1, q.2.1⟩
          refine ⟨_, by omega, i + 1, H', J.unpinned.weak (by rw [← hw9, wipe_length]) (fun j v e => ?_), st7.keep fun c hc o e => (pin' c hc o e).1, fun c hc => ?_, fun c o e => ?_, hL', hlt, rfl⟩
          · rw [← hw9] at e; exact (wipe_some e).1
          · obtain ⟨o, e, _⟩ := st7.obj c hc
            exact (pin' c hc o e).2
          · have e5 := k5 c o e
            rw [same c (fun q => by rw [q, fr] at e; cases e), upd_ne (fun q => by rw [q, fu] at e5; cases e5)]
            exact e5
        have tk : pickS (xs.take (i + 1)) (bs.take (i + 1)) = pickS (xs.take i) (bs.take i) ++ (if bs[i] = true then [xs[i]] else []) := by
          rw [List.take_succ_eq_append_getElem hlt, List.take_succ_eq_append_getElem hltb]
          exact pickS_snoc (by simp [hlen])
        cases bo with
        | false =>
          simp only [Bool.false_eq_true, if_false]
          refine fin9 I10 (fun c _ => rfl) ?_
          rw [tk, if_neg (by rw [← eb]; decide), List.append_nil]; exact dL
        | true =>
          simp only [if_true]
          refine thnF (ke.run _ s10 σ9 _ _ I10 (q10 rfl)) fun yv s11 ⟨y, H11, I11, r11, ey, eH11⟩ => ?_
          subst eH11 ey
          refine app_ok (X := X.blk s3 H3 scope ce [z, TI, TO, i1, i2]) I11 dL ?_ r11 fun s12 I12 => fin9 I12 (fun c hc => upd_ne hc) ?_
          · have := pickS_le (xs.take i) (bs.take i)
            simp only [List.length_map, List.length_take] at this ⊢
            omega
          · rw [upd_same, tk, if_pos eb.symm, List.map_append]; rfl
      · have ei : i = xs.length := by omega
        subst ei
        refine thnF (Zst.done (X := X.blk s3 H3 scope ce [z, TI, TO, i1, i2]) D hot (by simp) I5 (stat I5 n5) st5 qa5 (by simp)) fun r s6 ⟨hr, I6⟩ => ?_
        subst hr
        have I7 : Inv X pins σ H5 s6 := I3.call' (ch := [z, TI, TO, i1, i2]) I6.os I6.base I6.hok I6.bare fun c hc => ⟨(f3 c hc).1.2.2.2.1, (f3 c hc).1.2.1, (f3 c hc).1.2.2.2.2.1, (f3 c hc).1.2.2.2.2.2⟩
        have nC : H5 s3.heap.objs.size = none := by
          have q : H5 ce.locals = none := I6.free
          rw [cL] at q; exact q
        obtain ⟨m, ns, _⟩ := I6.loc
        have ns : s6.heap.Ns ce.locals m := ns
        rw [cL] at ns
        obtain ⟨f0, f1, f2, f3', f4, f5⟩ := I3.fpOk (Nat.le_refl _) nC
        refine ⟨m, ns, fun h' sb => ⟨.ref L, H5, I7.turned (t' := s6.toks) (fun c o hc e => (sb.2 c hc).trans e) f0 f1 f3' f4 f5, rfl, fin L H5 fr ?_ k5⟩⟩
        rw [List.take_length, hlen, List.take_length] at d5
        exact d5
    · rw [← eH, upd_ne (fun q => by rw [q, fr] at e; cases e)]; exact e
    · rw [← eH, upd_same]; rfl
  exact codeAny_compStart_list loop (wpAny_pyIter_zip st4.1 loop)
end
end GH


namespace G
open PySem L2
/-- what the context makes of an exception of the class cl c -/
def TkE (X : Cx) (E : EX) (cl : Nat → Value) : Prop := L2N.Takes X (fun cls d _ H => ∃ c, cls = cl c ∧ d = none ∧ E c H)
/-- what is wanted of an exception, as a def's caller says it -/
def exOf (cl : Nat → Value) (E : XK) : EX := fun c H => E (cl c) none H
def mRaise (c : Nat) : MS := fun _ S => .exc c S
def mCallX (fn : Fn) (n : MA) : ME := fun ρ S => (n ρ S).bind fun ds S1 => fn ds S1
theorem Wants.exc {α : Type} {K : PySem.W.Frag} {E E' : EX} {U : Wd} {H : Hp} {r : Res α} {k : Wd → Sto → Hp → α → Prop} (h : Wants K E U H r k) (i : ∀ c H, E c H → E' c H) : Wants K E' U H r k := by
  cases r with
  | ok a S => exact h
  | exc c S => exact fun U' H' st s => i _ _ (h U' H' st s)
  | stuck => exact h
section
variable {X : Cx} {E : EX} {cl : Nat → Value} {pos : Pos}
theorem tk_none : TkE X E1 cl := fun u s' x => by
  obtain ⟨_, _, _, _, _, _, _, _, _, _, _, _, _, _, _, _, c, _, _, z⟩ := x
  exact z.elim
theorem tk_def {P : Program} {w : World} {K : PySem.W.Frag} {mg : Str → Option Value} {base : Heap} {N : List Str} {qual : Str} {scope : Scope} {f : Addr} {cdv : Value} {A : Around} {outer : List Env} {s : Shared} {H : Hp} {Ex : XK} :
    TkE (cxOf (L2N.CX P w) P w K mg base N qual scope f cdv A outer s H Ex) (exOf cl Ex) cl := by
  refine L2N.Takes.imp (W := fun cls d _ H => Ex cls d H) (L2N.takes_of rfl rfl rfl rfl) fun cls d σ H' h => ?_
  obtain ⟨c, rfl, rfl, h⟩ := h
  exact h
theorem is_raise {c : Nat} {C : Addr} {e : Expr} (hc : X.calm = true) (tk : TkE X E cl) (hcl : cl c = .ref C) (he : L2N.PMk X e (fun _ H Q => Q (.ref C) none H)) : IS X E (.Raise (some e) none pos) (mRaise c) :=
  ⟨_, L2N.ps_raise hc tk he, fun U S H σ ρ N s rl w => ⟨c, hcl.symm, rfl, w U H (Step.refl _ _) s⟩⟩
/-- a call of a def that may raise -/
theorem ie_callX {k n : Nat} {f : Addr} {fd : FuncData} {ps : List Str} {fn : Fn} {x : Str} {p : Pos} {e : Expr} {es : List Expr} {na : MA} (F : FnOk X.prog X.w X.K X.mg X.base (L2N.CX X.prog X.w) k f fd ps (spF X.K cl n fn)) (tk : TkE X E cl) (hr : Room k X.A) (hg : Gl X x) (hm : X.mg x = some (.ref f)) (hk : PySem.W.keepIn X.K (.ref f) = true) (hb : Binds X.K fd ps [])
    (ha : IA X E (e :: es) na) (hl : (e :: es).length = n := by rfl) (hdb : (x == ("__debug__" : Str)) = false := by decide) (he : starEach (e :: es) X.env = (false, eval e X.env) :: starEach es X.env := by rfl) (hpl : (backTo pos (starEach es X.env)).any (·.1) = false := by rfl) :
    IE X E (.Call (.Name x p) (e :: es) [] pos) (mCallX fn na) := by
  obtain ⟨⟨t, pt, i⟩, hln⟩ := ha
  refine ⟨_, pe_call F hr hg hm hk hb .nil (E := fun cls d H => ∃ c, cls = cl c ∧ d = none ∧ E c H) (L2N.passes_call tk fun _ _ _ _ h => h) pt hdb he hpl, fun U S H σ ρ Q s rl w => i U S H σ ρ _ s rl ?_⟩
  unfold mCallX at w
  cases hh : na ρ S with
  | stuck => rw [hh] at w; exact w
  | exc c S' => rw [hh] at w; exact w
  | ok ds S' =>
    rw [hh] at w
    have hd : ds.length = n := (hln ρ S ds S' hh).trans hl
    intro U1 H1 st1 s1 vs rv
    rw [List.append_nil]
    have hv : ds.length = vs.length := Paired.length rv
    exact ⟨by rw [← hv]; exact hd, U1, S', ds, s1, rv, Wants.exc (Wants.step st1 w) fun c H h => ⟨c, rfl, rfl, h⟩⟩
/-- a def that can be called and may raise -/
structure CalX (P : Program) (w : World) (K : PySem.W.Frag) (mg : Str → Option Value) (base : Heap) (cl : Nat → Value) (x : Str) (ps : List Str) (k : Nat) (fn : Fn) : Prop where
  ex : ∃ f fd, FnOk P w K mg base (L2N.CX P w) k f fd ps (spF K cl ps.length fn) ∧ mg x = some (.ref f) ∧ PySem.W.keepIn K (.ref f) = true ∧ Binds K fd ps []
theorem ie_ownX {k : Nat} {ps : List Str} {fn : Fn} {x : Str} {p : Pos} {e : Expr} {es : List Expr} {na : MA} (C : CalX X.prog X.w X.K X.mg X.base cl x ps k fn) (tk : TkE X E cl) (hr : Room k X.A) (hg : Gl X x)
    (ha : IA X E (e :: es) na) (hl : (e :: es).length = ps.length := by rfl) (hdb : (x == ("__debug__" : Str)) = false := by decide) (he : starEach (e :: es) X.env = (false, eval e X.env) :: starEach es X.env := by rfl) (hpl : (backTo pos (starEach es X.env)).any (·.1) = false := by rfl) :
    IE X E (.Call (.Name x p) (e :: es) [] pos) (mCallX fn na) := by
  obtain ⟨f, fd, F, hm, hk, hb⟩ := C
  exact ie_callX F tk hr hg hm hk hb ha hl hdb he hpl
theorem cal_mkX {P : Program} {w : World} {K : PySem.W.Frag} {mg : Str → Option Value} {base : Heap} {x nm : Str} {st : Stmt} {N ps : List Str} {k : Nat} {m : MS} (F : DefAt K mg x nm ps st) (S : FnScope N ps (defScope st))
    (hbody : ∀ (cdv : Value) (A : Around) (outer : List Env) (s : Shared) (H : Hp) (Ex : XK) (f : Addr), Room k (A.deeper (PyProof.Rows.envOfC nm (defScope st) s.heap.objs.size f cdv)) →
      ISs (cxOf (L2N.CX P w) P w K mg base N nm (defScope st) f cdv A outer s H Ex) (exOf cl Ex) (defBody st) m) : CalX P w K mg base cl x ps (k + 1) (fnOf N.length m) := by
  obtain ⟨f, fd, F1, hm, hb⟩ := F
  obtain ⟨oc, od, kV, doc, pm, an, cdv, ct, osl, rfl, lk, hcd⟩ := F1.ex
  refine ⟨f, _, fn_of lk hcd S (fun vs H Q E h => h.1) fun A outer s H vs Q Ex hr h => ?_, hm, F1.kp, hb⟩
  obtain ⟨t, p, i⟩ := hbody cdv A outer s H Ex f hr
  obtain ⟨_, U, So, ds, sat, r, w⟩ := h
  exact ⟨t, p, i U So H _ _ _ sat (relStart r) (wants_finish sat w)⟩
theorem CalX.mono {P : Program} {w : World} {K : PySem.W.Frag} {mg : Str → Option Value} {base : Heap} {x : Str} {ps : List Str} {j k : Nat} {fn : Fn} (C : CalX P w K mg base cl x ps j fn) (h : j ≤ k) : CalX P w K mg base cl x ps k fn := by
  obtain ⟨f, fd, F, q⟩ := C
  exact ⟨f, fd, F.mono h, q⟩
end
end G


set_option maxHeartbeats 2000000
namespace G
open PySem PySem.Spec PyProof.Rows L2
section
variable {X : Cx} {pins : List (Addr × Obj)} {σ : L2.St} {H : Hp} {s : Shared} {U : Wd} {S : Sto}
theorem upd_swap {H : Hp} {a b : Addr} {o u : HO} (n : a ≠ b) : upd (upd H a o) b u = upd (upd H b u) a o := by
  funext c
  by_cases ha : c = a
  · subst ha; rw [upd_ne n, upd_same, upd_same]
  · by_cases hb : c = b
    · subst hb; rw [upd_same, upd_ne ha, upd_same]
    · rw [upd_ne hb, upd_ne ha, upd_ne ha, upd_ne hb]
theorem set_self {l : Nat} {o : Option Ob} (h : S[l]? = some o) : S.set l o = S := by
  apply List.ext_getElem?
  intro i
  by_cases e : l = i
  · subst e; rw [List.getElem?_set_self (List.getElem?_eq_some_iff.mp h).1, h]
  · rw [List.getElem?_set_ne e]
/-- a lambda is made; the maker's table stands in the store at l -/
theorem lam_mk {l : Nat} {c P : Addr} {params : Arguments} {body : Expr} {scope : Scope} {pos : Pos} {E : Value → Shared → Prop} {Q : Value → Shared → Prop} (I : Inv X pins σ H s) (sat : Sat X.K U S H) (hS : S[l]? = some (some (.tab P (X.env.qual ++ "<lambda>"))))
    (TB : LamX.TabB X.base X.mg c P) (hcode : X.env.code = .ref c) (hdef : defaultsOf params X.env = ([], [])) (hfree : ∀ y ∈ scope.names, y.2 = .free → ∃ c, X.env.cells.lookup y.1 = some c)
    (h : ∀ (f c' : Addr) (pm ctv : Value) (U1 : Wd) (H1 : Hp) (s' : Shared), Inv X pins σ H1 s' → Step U H U1 H1 → Sat X.K U1 S H1 →
      s'.heap.get? f = some (PySem.W.kla_obj "<lambda>" (X.env.qual ++ "<lambda>") params body scope (cloFrom X.env.cells scope.names []) pm c' ctv) → H1 f = none → f ∉ frs X.stack → H1 c' = some (LamX.CodeO c' (X.env.qual ++ "<lambda>")) → Q (.ref f) s') :
    wpAny (model X.prog X.w) X.A (eval (.Lambda params body scope pos) X.env) Q E s := by
  obtain ⟨a, ha⟩ := sat.tot l (List.getElem?_eq_some_iff.mp hS).1
  obtain ⟨hF, o, hH, eP, ps, eo, tri, all⟩ := sat.ob l a _ ha hS
  subst eP eo
  have gP := I.hok a _ hH
  have far : ∀ f, s.heap.objs.size ≤ f → f ∉ frs X.stack := fun f hf q => by
    rcases List.mem_cons.mp (I.stkSub _ q) with e | e
    · have h1 : f < s.heap.objs.size := by rw [e]; exact I.lt
      omega
    · exact I.nofs hf e
  refine PySem.W.kla_eval hdef ?_
  cases hc : codeAmong pos ps.toList with
  | some cv =>
    obtain ⟨c', rfl, hco⟩ := all pos cv hc
    have hco' : H c' = some (LamX.CodeO c' (X.env.qual ++ "<lambda>")) := by
      rcases sat.fz _ _ hco with q | ⟨z, _, q⟩
      · exact q
      · cases q
    refine PySem.W.kla_makeFunctionHit (mg := X.mg) (c := c) (P := a) (ps := ps) (closure_ok hfree) I.ok.glob (I.mod.glob.keeps I.bk) hcode (TB.code.keeps I.bk) gP tri hc (TB.bm.keeps I.bk) fun ctv h' tk hx hsz => ?_
    exact h _ c' _ ctv U H _ (I.kept (t' := tk) fun b o e => Heap.get?_push_of_some _ (hx b o e)) (Step.refl _ _) sat (Heap.get?_push_size _ rfl) (I.hok.fresh hsz) (far _ hsz) hco'
  | none =>
    refine PySem.W.kla_makeFunction (mg := X.mg) (c := c) (P := a) (ps := ps) (closure_ok hfree) I.ok.glob (I.mod.glob.keeps I.bk) hcode (TB.code.keeps I.bk) gP tri hc TB.gP (TB.bm.keeps I.bk) fun c' ctv h' tk hx hge hlt hrec htb => ?_
    obtain ⟨c2, oc, vs, t, e2, hoc, hd, hv⟩ := hrec
    cases e2
    have big : s.heap.objs.size ≤ h'.objs.size := by omega
    have fc : H c' = none := I.hok.fresh hge
    have nac : a ≠ c' := ne_of_none hH fc
    have eL : (ps ++ #[rawInt pos.line, rawInt pos.col, .ref c']).toList = ps.toList ++ [rawInt pos.line, rawInt pos.col, .ref c'] := by simp
    have s1 := (sat.alloc (o := LamX.CodeO c' (X.env.qual ++ "<lambda>")) fc).put (c := .tab a (X.env.qual ++ "<lambda>")) (o := .tbl (ps ++ #[rawInt pos.line, rawInt pos.col, .ref c'])) ha hS ⟨rfl, _, rfl, by rw [eL]; exact PySem.TriplesOk_snoc _ _ _ _ tri, fun p' cv hcv => by
      rw [eL] at hcv
      rcases LamX.among_app _ tri hcv with q | q
      · obtain ⟨c0, e1, e2⟩ := all p' cv q
        exact ⟨c0, e1, Sub.upd (sat.no fc) _ _ e2⟩
      · exact ⟨c', q, upd_same⟩⟩ trivial
    rw [set_self hS, upd_swap nac.symm] at s1
    have st1 := (Step.alloc (U := U) (o := LamX.CodeO c' (X.env.qual ++ "<lambda>")) fc (sat.no fc)).trans (Step.put (U := ⟨upd U.F c' (LamX.CodeO c' (X.env.qual ++ "<lambda>")), U.io⟩) (o := .tbl (ps ++ #[rawInt pos.line, rawInt pos.col, .ref c'])) ha (by show upd U.F c' _ a = none; rw [upd_ne nac]; exact hF))
    rw [upd_swap nac.symm] at st1
    refine h h'.objs.size c' ((X.mg "__name__").getD .none) ctv _ _ _ (LamX.inv_table (t' := tk) (more := #[rawInt pos.line, rawInt pos.col, .ref c']) I hH (fun b o hb e => Heap.get?_push_of_some _ (hx b o hb e)) (Heap.get?_push_of_some _ htb) hge ⟨oc, vs, t, Heap.get?_push_of_some _ hoc, hd, hv⟩) st1 s1 (Heap.get?_push_size _ rfl) ?_ (far _ big) upd_same
    rw [upd_ne (Nat.ne_of_gt hlt), upd_ne (Nat.ne_of_gt (Nat.lt_of_lt_of_le (Heap.lt_size gP) big))]
    exact I.hok.fresh big
end
/-- the context of a lambda's body, with exceptions of the kind of L2N -/
def lamN (X : Cx) (A : Around) (outer : List Env) (s : Shared) (H : Hp) (E : XK) (scope : Scope) (f c' : Addr) : Cx :=
  (LamX.lamCx X A outer s H E scope f c').wish fun e s' => wpAny (model X.prog X.w) (A.deeper (LamX.lamEnv X scope s.heap.objs.size f c')) (leaving (LamX.lamEnv X scope s.heap.objs.size f c') e) (fun _ s'' => L2N.CX X.prog X.w outer H s E e s'') (fun e' s'' => L2N.CX X.prog X.w outer H s E e' s'') s'
theorem tk_lam {X : Cx} {A : Around} {outer : List Env} {s : Shared} {H : Hp} {Ex : XK} {scope : Scope} {f c' : Addr} {cl : Nat → Value} : TkE (lamN X A outer s H Ex scope f c') (exOf cl Ex) cl := by
  refine L2N.Takes.imp (W := fun cls d _ H => Ex cls d H) (L2N.takes_of rfl rfl rfl rfl) fun cls d σ H' h => ?_
  obtain ⟨c, rfl, rfl, h⟩ := h
  exact h
section
variable {X : Cx} {pins : List (Addr × Obj)} {σ : L2.St} {H : Hp} {s : Shared}
/-- the lambda called, in the def that got it -/
theorem act_N {CXg : CXT} {Eg : XK} {Ng : List Str} {qg : Str} {sg : Scope} {g f c' : Addr} {cdg pm ctv : Value} {params : Arguments} {body : Expr} {scope : Scope} {k i : Nat} {a : Str} {pn : List (Addr × Obj)} {xe : Value → Shared → Prop} {W : WX} {Ex : XK} {tb : TE} {p1 p2 : Pos}
    (I : Inv X pins σ H s) (L : LamX.LamS X.env.scope scope) (hf : s.heap.get? f = some (PySem.W.kla_obj "<lambda>" (X.env.qual ++ "<lambda>") params body scope (cloFrom X.env.cells scope.names []) pm c' ctv)) (hfn : H f = none) (hfr : f ∉ frs X.stack)
    (hbind : bindArgs (PySem.W.kla_fn "<lambda>" (X.env.qual ++ "<lambda>") params body scope (cloFrom X.env.cells scope.names []) pm (.ref c') ctv) ⟨[], []⟩ = pure [])
    (tk : L2N.Takes ((cxOf CXg X.prog X.w X.K X.mg X.base Ng qg sg g cdg X.A X.stack s H Eg).tr pn xe) W) (hW : ∀ cls d σ' H', Ex cls d H' → W cls d σ' H') (hr : Room (k + 1) (X.A.deeper (envOfC qg sg s.heap.objs.size g cdg)))
    (hbody : ∀ (A : Around) (outer : List Env) (s : Shared) (H : Hp), Room k (A.deeper (LamX.lamEnv X scope s.heap.objs.size f c')) → PE (lamN X A outer s H Ex scope f c') body tb)
    (hN : Ng[i]? = some a) (hv : Vis sg a) (hd : (a == ("__debug__" : Str)) = false := by decide) (hcd : (a == ("__classdict__" : Str)) = false := by decide) :
    PE ((cxOf CXg X.prog X.w X.K X.mg X.base Ng qg sg g cdg X.A X.stack s H Eg).tr pn xe) (.Call (.Name a p1) [] [] p2) (fun σZ HZ Q => σZ[i]? = some (some (.ref f)) ∧ HZ c' = some (LamX.CodeO c' (X.env.qual ++ "<lambda>")) ∧ tb σ HZ Q) := by
  refine ⟨fun pz sZ σZ HZ Q IZ hq => ?_⟩
  obtain ⟨q1, q2, q3⟩ := hq
  refine wpAny_Call_Name_kw (thn ((pe_var (pos := p1) (i := i) hN hv hd hcd).run pz sZ σZ HZ (fun v H1 => v = .ref f ∧ H1 = HZ) IZ ⟨.ref f, q1, rfl, rfl⟩) fun u s1 hu => ?_)
  obtain ⟨v, H1, I1, r1, rfl, rfl⟩ := hu
  obtain rfl : u = Value.ref f := r1
  have of1 := I1.base.keep f _ hf hfn hfr (fun z => nomatch (show f ∈ ([] : List Addr) from z))
  refine PySem.W.callWith_F0 ⟨_, _, _, _, of1⟩ ?_
  obtain ⟨⟨oc, vs, t, hoc, hdc, hvc⟩, _, _⟩ := I1.hok c' _ q2
  refine wpAny_call (codeAny_mono (R := CR (L2N.CX X.prog X.w) (envOfC qg sg s.heap.objs.size g cdg :: X.stack) X.prog X.w H1 s1 Q Ex) ?_ fun r s' hh => ?_)
  · refine PySem.W.kla_callFunE hr.depth of1 rfl L.co L.gen rfl ⟨c', oc, vs, t, rfl, hoc, hdc, hvc⟩ ?_
    refine wpAny_of_eq (a := ([] : List (Str × Value))) hbind (wpAny_newFunctionEnv (fun y hy => (L.own y hy).2) (fun y hy => absurd hy (by simp)) (fun h₁ hns hsb => ⟨I1.nolimit.fresh _ hsb, ?_⟩) L.kind)
    have kp : ∀ b o, s1.heap.get? b = some o → h₁.get? b = some o := fun b o e => hsb.extBut b o (Nat.ne_of_lt (Heap.lt_size e)) (Heap.get?_push_of_some _ e)
    have J := (LamX.lam_start2 (E := Ex) (f := f) (c' := c') (tk := s1.toks + ([] : List (Str × Value)).length) I L I1.env0 hr.hd I1.base hns kp).wish (fun e s' => wpAny (model X.prog X.w) ((X.A.deeper (envOfC qg sg s.heap.objs.size g cdg)).deeper (LamX.lamEnv X scope s1.heap.objs.size f c')) (leaving (LamX.lamEnv X scope s1.heap.objs.size f c') e) (fun _ s'' => L2N.CX X.prog X.w (envOfC qg sg s.heap.objs.size g cdg :: X.stack) H1 s1 Ex e s'') (fun e' s'' => L2N.CX X.prog X.w (envOfC qg sg s.heap.objs.size g cdg :: X.stack) H1 s1 Ex e' s'') s')
    refine PySem.W.kla_codeExpr (wpAny_mono ((hbody _ _ s1 H1 (hr.deeper _)).run [] _ _ H1 Q J q3) (fun v s' hv => ?_) fun e s' hv => hv)
    obtain ⟨w', H', J', rv, q⟩ := hv
    exact ⟨w', H', J'.os, J'.bare, J'.base, J'.hok, rv, q⟩
  · cases r with
    | error e => exact L2N.passes_call tk hW pz σZ H1 s1 e s' I1 hh
    | ok fl =>
      cases fl with
      | ret u => exact I1.after hh
      | next => exact False.elim hh
      | brk => exact False.elim hh
      | cont => exact False.elim hh
end
end G


set_option maxHeartbeats 2000000
namespace GH
open PySem PySem.Spec PyProof.Rows L2 HotX L2H
section
variable {X : Cx} {pins : List (Addr × Obj)} {σ : L2.St} {H : Hp} {s : Shared} {p : Addr × Obj}
/-- a def called while the exception p is handled -/
theorem run_hot {k : Nat} {f : Addr} {name qual : Str} {params : Arguments} {body : List Stmt} {scope : Scope} {dV kV doc pm cdv ct oc : Value} {an od : Option Addr} {osl : Array (Option Value)} {N ps : List Str} {us : List Value} {vs : List V} {Q : VK}
    (lk : X.K.lookup f = some ⟨oc, od, .func (PySem.W.fnOf name qual params body scope dV kV doc pm an cdv ct), osl⟩) (hcd : PySem.W.codeIn X.K cdv qual = true) (S : FnScope N ps scope) (hr : RoomH (k + 1) X.A) (hot : Hot1 X.A p) (hp : p ∈ X.pn)
    (hb : Binds X.K (PySem.W.fnOf name qual params body scope dV kV doc pm an cdv ct) ps []) (I : Inv X pins σ H s) (r : Vals vs us) (hl : vs.length = ps.length)
    (hbody : RoomH k (X.A.deeper (envOfC qual scope s.heap.objs.size f cdv)) → ∃ t, PSs (cxH C8.CX0 X.prog X.w X.K X.mg X.base N qual scope f cdv X.A X.stack s H C8.E0 p).nox body t ∧ t { nx := fun _ H' => Q .non H', rt := Q } (L2.start N vs) H) :
    wpAny (model X.prog X.w) X.A (call (.ref f) us) (EP X pins σ Q) X.xe s := by
  have pin := I.pin p (List.mem_append_left _ hp)
  have pok : PinOk X.stack H s p := ⟨pin.1, pin.2.1, fun q => (List.mem_cons.mp (I.stkSub p.1 q)).elim pin.2.2.1 pin.2.2.2.1, pin.2.2.2.2⟩
  have bt := hb s us I.kIn (by rw [List.append_nil, ← r.length]; exact hl)
  rw [List.append_nil] at bt
  have kinds : ∀ y ∈ ps.zip us, scope.names.lookup y.1 = some .local ∨ (scope.names.lookup y.1 = some .cell ∧ ((cellsFrom (s.heap.objs.size + 1) scope.names []).lookup y.1).isSome = true) := by
    rintro ⟨n, v⟩ hy
    rcases S.par n (List.of_mem_zip hy).1 with q | q
    · exact .inl q
    · exact .inr ⟨q, PySem.W.cellsFrom_some _ _ _ (.inl q)⟩
  refine wpAny_call (codeAny_mono (R := CR C8.CX0 X.stack X.prog X.w H s Q C8.E0) ?_ fun fl s' hh => ?_)
  · refine codeAny_call_function hr.depth (I.kIn _ _ lk) rfl S.co S.gen rfl (PySem.W.codeRec_of I.kIn hcd) (bt _ _ _ _ (wpAny_newFunctionEnv_cells S.kind kinds fun env he s1 x => ?_))
    subst he
    refine ⟨I.nolimit.keeps x.toInCall.keep, codeAny_func ?_⟩
    obtain ⟨t, ht, hq⟩ := hbody (hr.deeper _)
    have J := inv_startH (CX := C8.CX0) (E := C8.E0) S pok I.env0 hl r x
    refine wpAny_mono (ht.nox.run [] s1 _ H _ J hq) (fun e s' hs => ?_) fun e s' hs => hs
    cases e with
    | ret u => obtain ⟨v, σ', H', J', rv, q⟩ := hs; exact ⟨v, H', J'.os, J'.bare, J'.base, J'.hok, rv, q⟩
    | next => obtain ⟨σ', H', J', q⟩ := hs; exact ⟨.non, H', J'.os, J'.bare, J'.base, J'.hok, rfl, q⟩
    | brk => obtain ⟨_, _, _, q⟩ := hs; exact q.elim
    | cont => obtain ⟨_, _, _, q⟩ := hs; exact q.elim
  · cases fl with
    | error e => exact (show False from hh).elim
    | ok fl =>
      cases fl with
      | ret u => exact I.after hh
      | next => exact False.elim hh
      | brk => exact False.elim hh
      | cont => exact False.elim hh
end
/-- isinstance of the exception that is pinned -/
theorem is_exc {X : Cx} {a D : Addr} {oe : Obj} (C : ExcC X.K D) (hz : Zc (.ref D) none oe) (hf : ∃ vs, oe.data = .fields vs) (hp : (a, oe) ∈ X.pn) : CallR X (.builtin "isinstance") (rIsE X.K D a) := by
  rintro pins s σ H xs us Q I r ⟨c, cv, b, rfl, hcv, e, q⟩
  cases r with
  | cons rx rt =>
    cases rt with
    | cons ry rn =>
      cases rn; cases rx
      have ec := hcv _ ry
      subst ec
      have get := (I.pin (a, oe) (List.mem_append_left _ hp)).1
      obtain ⟨vs, hv⟩ := hf
      have J : PySem.W.InstAt s.heap a oe D none := by
        obtain ⟨oc, od, oda, osl⟩ := oe
        obtain ⟨z1, z2⟩ := hz
        dsimp only at z1 z2 hv
        subst z1 z2 hv; exact ⟨get, rfl, rfl, trivial⟩
      exact PySem.W.kia_one (PySem.W.handS_kitx_exc C.hg C.hk C.hs C.hd C.ha C.hn C.ht C.hm) I.kIn J e (fun z => nomatch z) fun tk => ⟨.bl b, H, I.kept (t' := tk) fun _ _ z => z, rfl, q⟩
/-! ### what the def that tells an exception's classes does -/
def tIs (K : PySem.W.Frag) (D a : Addr) (c : V) : TE := tCB (rIsE K D a) (tCons (tVar 0) (tCons (tC c) tNil))
def tIss (K : PySem.W.Frag) (D a : Addr) : List V → TA
  | [] => tNil
  | c :: cs => tCons (tIs K D a c) (tIss K D a cs)
def tStrs : List Str → TA
  | [] => tNil
  | x :: xs => tCons (tC (.str x)) (tStrs xs)
/-- the signs that the classes cs give -/
inductive Signs (K : PySem.W.Frag) (D : Addr) : List V → List Bool → Prop
  | nil : Signs K D [] []
  | cons {c : V} {cv : Value} {b : Bool} {cs : List V} {bs : List Bool} : (∀ u, RelV c u → u = cv) → PySem.W.kitOne K (.ref D) cv = some b → Signs K D cs bs → Signs K D (c :: cs) (b :: bs)
theorem iss_ok {K : PySem.W.Frag} {D a : Addr} {σ : L2.St} {H : Hp} (h0 : σ[0]? = some (some (.ref a))) : ∀ {cs : List V} {bs : List Bool} {Q : List V → Hp → Prop}, Signs K D cs bs → Q (bs.map V.bl) H → tIss K D a cs σ H Q
  | _, _, _, .nil, q => q
  | _, _, _, .cons h1 h2 t, q => ⟨.ref a, h0, _, _, _, rfl, h1, h2, iss_ok h0 t q⟩
theorem strs_ok {σ : L2.St} {H : Hp} : ∀ {xs : List Str} {Q : List V → Hp → Prop}, Q (xs.map V.str) H → tStrs xs σ H Q
  | [], _, q => q
  | _ :: xs, _, q => strs_ok (xs := xs) q
def Ext (H H' : Hp) : Prop := ∀ c o, H c = some o → H' c = some o
theorem Ext.trans {A B C : Hp} (h : Ext A B) (k : Ext B C) : Ext A C := fun c o e => k c o (h c o e)
theorem Ext.upd {H : Hp} {q : Addr} {u : HO} (h : H q = none) : Ext H (upd H q u) := fun c o e => by rw [upd_ne (ne_of_none e h)]; exact e
theorem lst_ok {ta : TA} {vs : List V} {σ : L2.St} {H : Hp} {Q : VK} (ha : ∀ Q' : List V → Hp → Prop, Q' vs H → ta σ H Q') (hl : vs.length ≤ sizeLine) (q : ∀ p H', Ext H H' → H' p = some (.lst vs) → Q (.ref p) H') : tLst ta σ H Q :=
  ha _ ⟨hl, fun p hp => q p _ (.upd hp) upd_same⟩
theorem cat_ok {ta : TA} {vs ws : List V} {σ : L2.St} {H : Hp} {Q : VK} {i : Nat} {l : Addr} (hσ : σ[i]? = some (some (.ref l))) (hH : H l = some (.lst ws)) (ha : ∀ Q' : List V → Hp → Prop, Q' vs H → ta σ H Q') (hl : ws.length + vs.length ≤ sizeLine)
    (q : ∀ p H', Ext H H' → H' p = some (.lst (ws ++ vs)) → Q (.ref p) H') : tOp rCat (tVar i) (tLst ta) σ H Q :=
  ⟨.ref l, hσ, lst_ok ha (by omega) fun p H1 e1 h1 => ⟨l, p, ws, vs, rfl, rfl, e1 _ _ hH, h1, hl, fun p2 h2 => q p2 _ (e1.trans (.upd h2)) upd_same⟩⟩
/-- the def's body as a reading: five tests' lists, names, the joined text -/
def tKin (K : PySem.W.Frag) (D a : Addr) (A1 A2 A3 A4 : List V) (n1 n2 : List Str) : TS :=
  tSeq (tAsg (tLst (tIss K D a A1)) (gName 1)) (tSeq (tAsg (tOp rCat (tVar 1) (tLst (tIss K D a A2))) (gName 1)) (tSeq (tAsg (tOp rCat (tVar 1) (tLst (tIss K D a A3))) (gName 1)) (tSeq (tAsg (tLst (tStrs n1)) (gName 2))
    (tSeq (tAsg (tOp rCat (tVar 1) (tLst (tIss K D a A4))) (gName 1)) (tRet (tM1 (fun x xs H Q => ∃ a p, ∃ ys : List Str, x = .str a ∧ xs = [.ref p] ∧ (SqL K H p (ys.map V.str) ∨ SqT K H p (ys.map V.str)) ∧
      (ys.map (·.length)).sum + ys.length * a.length ≤ 16777216 ∧ Q (.str (Txt.join a ys)) H) (tC (.str "")) (tZipH K (tCons (tOp rCat (tVar 2) (tLst (tStrs n2))) (tCons (tVar 1) tNil)) (gCons (gName 3) (gCons (gName 4) gNil)) (tB (tVar 4)) (tVar 3) [3, 4])))))))
theorem kin_run {K : PySem.W.Frag} {D a : Addr} {A1 A2 A3 A4 : List V} {b1 b2 b3 b4 : List Bool} {n1 n2 : List Str} {Q : VK} {H : Hp} {nx : L2.St → Hp → Prop} (s1 : Signs K D A1 b1) (s2 : Signs K D A2 b2) (s3 : Signs K D A3 b3) (s4 : Signs K D A4 b4)
    (hl : (n1 ++ n2).length = (b1 ++ b2 ++ b3 ++ b4).length) (hm : (n1 ++ n2).length ≤ 1000) (hz : ((pickS (n1 ++ n2) (b1 ++ b2 ++ b3 ++ b4)).map (·.length)).sum ≤ 10000) (q : ∀ H', Ext H H' → Q (.str (Txt.join "" (pickS (n1 ++ n2) (b1 ++ b2 ++ b3 ++ b4)))) H') :
    tKin K D a A1 A2 A3 A4 n1 n2 { nx := nx, rt := Q } [some (.ref a), none, none, none, none] H := by
  have big : 1000000 ≤ sizeLine := by decide
  simp only [List.length_append] at hl hm
  unfold tKin
  simp only [tSeq, tAsg, gName, tRet]
  refine lst_ok (σ := [some (.ref a), none, none, none, none]) (H := H) (vs := b1.map V.bl) (fun Q' h => iss_ok rfl s1 h) (by simp; omega) fun p1 H1 e1 h1 => ?_
  refine cat_ok (σ := [some (.ref a), some (.ref p1), none, none, none]) (vs := b2.map V.bl) rfl h1 (fun Q' h => iss_ok rfl s2 h) (by simp; omega) fun p2 H2 e2 h2 => ?_
  refine cat_ok (σ := [some (.ref a), some (.ref p2), none, none, none]) (vs := b3.map V.bl) rfl h2 (fun Q' h => iss_ok rfl s3 h) (by simp; omega) fun p3 H3 e3 h3 => ?_
  refine lst_ok (σ := [some (.ref a), some (.ref p3), none, none, none]) (H := H3) (vs := n1.map V.str) (fun Q' h => strs_ok h) (by simp; omega) fun p4 H4 e4 h4 => ?_
  refine cat_ok (σ := [some (.ref a), some (.ref p3), some (.ref p4), none, none]) (vs := b4.map V.bl) rfl (e4 _ _ h3) (fun Q' h => iss_ok rfl s4 h) (by simp; omega) fun p5 H5 e5 h5 => ?_
  refine ⟨⟨_, rfl⟩, ?_⟩
  refine cat_ok (σ := [some (.ref a), some (.ref p5), some (.ref p4), none, none]) (vs := n2.map V.str) rfl (e5 _ _ h4) (fun Q' h => strs_ok h) (by simp; omega) fun p6 H6 e6 h6 => ⟨.ref p5, rfl, p6, p5, n1 ++ n2, b1 ++ b2 ++ b3 ++ b4, rfl, ?_, ?_, by simp; omega, by simp; omega, ?_, fun L H7 _ hL e7 => ?_⟩
  · exact .inl (.inl (by rw [List.map_append]; exact h6))
  · exact .inl (.inl (by rw [List.map_append, List.map_append, List.map_append]; exact e6 _ _ h5))
  · exact fun H x bo => ⟨_, _, rfl, _, _, rfl, rfl, rfl, rfl, _, rfl, bo, rfl, ⟨rfl, rfl⟩, fun _ => ⟨_, rfl, rfl, rfl⟩⟩
  · refine ⟨_, L, _, rfl, rfl, .inl (.inl (.inl hL)), ?_, q _ (e1.trans (e2.trans (e3.trans (e4.trans (e5.trans (e6.trans e7))))))⟩
    have := pickS_le (n1 ++ n2) (b1 ++ b2 ++ b3 ++ b4)
    show _ + _ * 0 ≤ _
    omega
end GH


set_option maxHeartbeats 2000000
namespace G
open PySem PySem.Spec PyProof.Rows L2
theorem Step.ext {U U' : Wd} {H H' H'' : Hp} (t : Step U H U' H') (e : GH.Ext H' H'') : Step U H U' H'' :=
  ⟨t.ef, t.ei, fun a o h n => e _ _ (t.fr a o h n), t.ni, t.nf, fun a o h => let ⟨o', q⟩ := t.dm a o h; ⟨o', e _ _ q⟩, fun a o o' f h => e _ _ (t.ff a o o' f h)⟩
theorem Sat.ext {K : PySem.W.Frag} {U : Wd} {S : Sto} {H H' : Hp} (s : Sat K U S H) (e : GH.Ext H H') : Sat K U S H' where
  fz := fun a o h => (s.fz a o h).elim (fun q => .inl (e _ _ q)) fun ⟨z, q, i⟩ => .inr ⟨z, e _ _ q, i⟩
  dom := s.dom
  tot := s.tot
  inj := s.inj
  ob := fun l a b h q => let ⟨z1, u, z2, z3⟩ := s.ob l a b h q; ⟨z1, u, e _ _ z2, z3⟩
  hs := fun l a h => let ⟨u, q⟩ := s.hs l a h; ⟨u, e _ _ q⟩
  rf := s.rf
/-- what a door tells, with the word ahead, or the name of its refusal; the maker's table stands at l -/
def mTry (l : Nat) (P : Addr) (q w : Str) (kin : Nat → Option Str) (m : ME) : ME := fun ρ S => match S[l]? with
  | some (some (.tab P' q')) => if P' = P ∧ q' = q then (match m ρ S with
    | .ok (.p x) S1 => .ok (.p (.tuple [.str w, x])) S1
    | .exc c S1 => (match kin c with
      | some y => .ok (.p (.str y)) S1
      | none => .stuck)
    | _ => .stuck) else .stuck
  | _ => .stuck
/-- the def that calls what it got -/
def Gives (X : Cx) (Ng : List Str) (x : Str) (sg : Scope) (g : Addr) (cdg : Value) (bg : List Stmt) (a q w : Str) (k : Nat) (cl : Nat → Value) (kin : Nat → Option Str) : Prop :=
  ∀ (f c' : Addr) (s : Shared) (H : Hp) (Q : VK) (tl : XK → Hp → VK → Prop), (∀ (Ex : XK) (H : Hp) (Q Q' : VK), (∀ v H, Q v H → Q' v H) → tl Ex H Q → tl Ex H Q') → Room k (X.A.deeper (envOfC x sg s.heap.objs.size g cdg)) →
    (∀ (W : WX) (pn : List (Addr × Obj)) (xe : Value → Shared → Prop) (Ex : XK) (p1 p2 : Pos), L2N.Takes ((cxOf C8.CX0 X.prog X.w X.K X.mg X.base Ng x sg g cdg X.A X.stack s H C8.E0).tr pn xe) W → (∀ cls d σ' H', Ex cls d H' → W cls d σ' H') →
      PE ((cxOf C8.CX0 X.prog X.w X.K X.mg X.base Ng x sg g cdg X.A X.stack s H C8.E0).tr pn xe) (.Call (.Name a p1) [] [] p2) (fun σZ HZ Q => σZ[0]? = some (some (.ref f)) ∧ HZ c' = some (LamX.CodeO c' q) ∧ tl Ex HZ Q)) →
    H c' = some (LamX.CodeO c' q) →
    tl (fun cls d H' => ∃ c y, cls = cl c ∧ d = none ∧ kin c = some y ∧ ∀ H'', GH.Ext H' H'' → Q (.str y) H'') H (fun v H' => ∀ p, H' p = none → Q (.ref p) (upd H' p (.tup [.str w, v]))) →
    ∃ t, PSs (cxOf C8.CX0 X.prog X.w X.K X.mg X.base Ng x sg g cdg X.A X.stack s H C8.E0).nox bg t ∧ t { nx := fun _ H' => Q .non H', rt := Q } (L2.start Ng [.ref f]) H
section
variable {X : Cx} {E : EX}
theorem ie_try {cl : Nat → Value} {kin : Nat → Option Str} {x a w : Str} {g c P : Addr} {k l : Nat} {pg : Arguments} {bg : List Stmt} {sg : Scope} {dV kV doc pm cdv ct oc : Value} {an od : Option Addr} {osl : Array (Option Value)} {Ng : List Str}
    {params : Arguments} {body : Expr} {scope : Scope} {m : ME} {p lpos pos : Pos} (hg : Gl X x) (hm : X.mg x = some (.ref g)) (hk : PySem.W.keepIn X.K (.ref g) = true)
    (lk : X.K.lookup g = some ⟨oc, od, .func (PySem.W.fnOf x x pg bg sg dV kV doc pm an cdv ct), osl⟩) (hcg : PySem.W.codeIn X.K cdv x = true) (hb : L2.Binds X.K (PySem.W.fnOf x x pg bg sg dV kV doc pm an cdv ct) [a] []) (Sg : FnScope Ng [a] sg) (hNg : Ng[0]? = some a) (hva : Vis sg a)
    (hG : Gives X Ng x sg g cdv bg a (X.env.qual ++ "<lambda>") w (k + 1) cl kin) (TB : LamX.TabB X.base X.mg c P) (hcode : X.env.code = .ref c) (hr : Room (k + 2) X.A) (L : LamX.LamS X.env.scope scope) (hdef : defaultsOf params X.env = ([], []))
    (hbind : ∀ (q : Str) (cl : List (Str × Addr)) (pm cv ctv : Value), bindArgs (PySem.W.kla_fn "<lambda>" q params body scope cl pm cv ctv) ⟨[], []⟩ = pure [])
    (hbody : ∀ (A : Around) (outer : List Env) (s : Shared) (H : Hp) (Ex : XK) (f c' : Addr), Room k (A.deeper (LamX.lamEnv X scope s.heap.objs.size f c')) → IE (lamN X A outer s H Ex scope f c') (exOf cl Ex) body m)
    (hdb : (x == ("__debug__" : Str)) = false := by decide) (hd : (a == ("__debug__" : Str)) = false := by decide) (hcd : (a == ("__classdict__" : Str)) = false := by decide) :
    IE X E (.Call (.Name x p) [.Lambda params body scope lpos] [] pos) (mTry l P (X.env.qual ++ "<lambda>") w kin m) := by
  refine ⟨canE X.K E (mTry l P (X.env.qual ++ "<lambda>") w kin m), ⟨fun pins s σ H Q I hq => ?_⟩, impCanE⟩
  obtain ⟨U, S, ρ, sat, rl, wt⟩ := hq
  unfold mTry at wt
  split at wt
  · next P' q' hS =>
    split at wt
    · next hPq =>
      obtain ⟨rfl, rfl⟩ := hPq
      refine wpAny_Call_Name_kw (ld_glob I hg hm (PySem.W.callWith_K (h₀ := X.base) I.ok.mod.kin hk ?_ (by rfl) (by rfl)) hdb)
      show wpAny _ _ (spliced ((false, eval (.Lambda params body scope lpos) X.env) :: backTo pos (starEach [] X.env))) _ _ s
      refine Calls.spliced_cons (lam_mk I sat hS TB hcode hdef (L.has I.ok) fun f c' pm' ctv U1 H1 s' I1 st1 s1 hf hfn hfr hco => Calls.spliced_nil ⟨I1.kIn, ?_⟩)
      refine wpAny_call (codeAny_mono (R := CR C8.CX0 X.stack X.prog X.w H1 s' Q C8.E0) ?_ fun r s2 hq => ?_)
      · refine LamX.run_ofS (N := Ng) (ps := [a]) (us := [.ref f]) (vs := [.ref f]) lk hcg Sg hr I1.env0 (hb s' [.ref f] I1.kIn rfl) (.cons rfl .nil) rfl fun hr' => ?_
        have wl : canE X.K (exOf cl fun cls d H' => ∃ c y, cls = cl c ∧ d = none ∧ kin c = some y ∧ ∀ H'', GH.Ext H' H'' → Q (.str y) H'') m σ H1 (fun v H' => ∀ p, H' p = none → Q (.ref p) (upd H' p (.tup [.str w, v]))) := by
          refine ⟨U1, S, ρ, s1, rl.step st1, ?_⟩
          cases hh : m ρ S with
          | stuck => rw [hh] at wt; exact wt
          | ok d S2 =>
            rw [hh] at wt
            cases d with
            | r l => exact False.elim wt
            | p x => exact fun U2 H2 st2 s2 v rv q hp => newT s2 (.cons (.str w) (.cons rv .nil)) hp (Wants.step (st1.trans st2) wt)
          | exc c S2 =>
            rw [hh] at wt
            intro U2 H2 st2 s2
            cases hy : kin c with
            | none => simp only [hy] at wt; exact wt.elim
            | some y =>
              simp only [hy] at wt
              exact ⟨c, y, rfl, rfl, hy, fun H3 e3 => wt U2 H3 ((st1.trans st2).ext e3) (s2.ext e3) _ (.str y)⟩
        obtain ⟨t', ht', hq'⟩ := hG f c' s' H1 Q (fun Ex H' Q' => canE X.K (exOf cl Ex) m σ H' Q') (fun Ex H Q Q' hQ ⟨U, S, ρ, a, b, c⟩ => ⟨U, S, ρ, a, b, c.mono fun U1 S1 H1 d st1 s1 k v rv => hQ _ _ (k v rv)⟩) hr' (fun W pn xe Ex p1 p2 tk hW => act_N (i := 0) I1 L hf hfn hfr (hbind _ _ _ _ _) tk hW hr' (fun A outer s H hr2 => (hbody A outer s H Ex f c' hr2).can) hNg hva hd hcd) hco wl
        exact ⟨t', ht'.nox, hq'⟩
      · cases r with
        | error e => exact (show False from hq).elim
        | ok fl =>
          cases fl with
          | ret u => exact I1.after hq
          | next => exact False.elim hq
          | brk => exact False.elim hq
          | cont => exact False.elim hq
    · exact wt.elim
  · exact wt.elim
end
end G


set_option maxHeartbeats 2000000
namespace G
open PySem PySem.Spec PyProof.Rows L2
/-- the def kinN, called with the handled exception of the class cl c, tells kin c -/
def KinOk (P : Program) (w : World) (K : PySem.W.Frag) (mg : Str → Option Value) (base : Heap) (kinN : Str) (k : Nat) (cl : Nat → Value) (kin : Nat → Option Str) : Prop :=
  ∀ (Y : Cx) (a : Addr) (oe : Obj) (c i : Nat) (yy n : Str) (p1 p2 p3 : Pos), Y.prog = P → Y.w = w → Y.K = K → Y.mg = mg → Y.base = base → kin c = some yy → L2N.Zn (cl c) none oe → (∃ vs, oe.data = .fields vs) → L2H.Hot1 Y.A (a, oe) → (a, oe) ∈ Y.pn → L2H.RoomH k Y.A → Gl Y kinN →
    PE Y (.Name n p2) (tVar i) → starEach [.Name n p2] Y.env = [(false, eval (.Name n p2) Y.env)] → PE Y (.Call (.Name kinN p1) [.Name n p2] [] p3) (fun σ H Q => σ[i]? = some (some (.ref a)) ∧ ∀ H', GH.Ext H H' → Q (.str yy) H')
/-- .. from its body -/
theorem kin_ok {P : Program} {w : World} {K : PySem.W.Frag} {mg : Str → Option Value} {base : Heap} {kinN e : Str} {k : Nat} {cl : Nat → Value} {kin : Nat → Option Str} {st : Stmt} {N : List Str} (F : DefAt K mg kinN kinN [e] st) (S : FnScope N [e] (defScope st)) (hNl : N.length = 5) (hdb : (kinN == ("__debug__" : Str)) = false)
    {A1 A2 A3 A4 : List V} {n1 n2 : List Str}
    (hf : ∀ c yy, kin c = some yy → ∃ D b1 b2 b3 b4, cl c = .ref D ∧ ExcC K D ∧ GH.Signs K D A1 b1 ∧ GH.Signs K D A2 b2 ∧ GH.Signs K D A3 b3 ∧ GH.Signs K D A4 b4 ∧ (n1 ++ n2).length = (b1 ++ b2 ++ b3 ++ b4).length ∧ (n1 ++ n2).length ≤ 1000 ∧ ((GH.pickS (n1 ++ n2) (b1 ++ b2 ++ b3 ++ b4)).map (·.length)).sum ≤ 10000 ∧ Txt.join "" (GH.pickS (n1 ++ n2) (b1 ++ b2 ++ b3 ++ b4)) = yy)
    (hbody : ∀ (D a : Addr) (oe : Obj) (f : Addr) (cdv : Value) (A : Around) (outer : List Env) (s : Shared) (H : Hp), ExcC K D → Zc (.ref D) none oe → (∃ vs, oe.data = .fields vs) → L2H.Hot1 A (a, oe) → L2H.RoomH k (A.deeper (envOfC kinN (defScope st) s.heap.objs.size f cdv)) →
      PSs (L2H.cxH C8.CX0 P w K mg base N kinN (defScope st) f cdv A outer s H C8.E0 (a, oe)).nox (defBody st) (GH.tKin K D a A1 A2 A3 A4 n1 n2)) : KinOk P w K mg base kinN (k + 1) cl kin := by
  rintro Y a oe c i yy n p1 p2 p3 rfl rfl rfl rfl rfl hk hz hd hot hp hr hg hv hs1
  obtain ⟨f, fd, F1, hm, hb⟩ := F
  obtain ⟨oc, od, kV, doc, pm, an, cdv, ct, osl, rfl, lk, hcd⟩ := F1.ex
  obtain ⟨D, b1, b2, b3, b4, eD, EC, s1, s2, s3, s4, hl, hm1, hz1, hy⟩ := hf c yy hk
  rw [eD] at hz
  refine ⟨fun pins s σ H Q I hq => ?_⟩
  obtain ⟨h0, hq⟩ := hq
  refine wpAny_Call_Name_kw (ld_glob I hg hm (PySem.W.callWith_K (h₀ := Y.base) I.ok.mod.kin F1.kp (thn ((pa_cons hv pa_nil (hs := hs1)).run p3 pins s σ H (fun vs H1 => vs = [.ref a] ∧ H1 = H) I ⟨_, h0, rfl, rfl⟩) fun us sx hx => ?_) hs1 (by rfl)) hdb)
  obtain ⟨vs, H1, I1, r1, rfl, rfl⟩ := hx
  refine ⟨I1.kIn, GH.run_hot (N := N) (ps := [e]) lk hcd S hr hot hp hb I1 r1 rfl fun hr2 => ⟨_, hbody D a oe f cdv Y.A Y.stack sx H1 EC hz.zc hd hot hr2, ?_⟩⟩
  have e5 : L2.start N [.ref a] = [some (.ref a), none, none, none, none] := by
    unfold L2.start
    rw [hNl]; rfl
  rw [e5]
  exact GH.kin_run s1 s2 s3 s4 hl hm1 hz1 fun H' e' => by rw [hy]; exact hq H' e'
section
variable {X : Cx}
theorem takes_len {W : WX} {n : Nat} (hn : X.N.length = n) (tk : L2N.Takes X W) : L2N.Takes X (fun cls d σ H => σ.length = n → W cls d σ H) := fun u s' ⟨a, B, sI, pins, σ, H, cls, d, e, I, nb, up, sky, na, os, ag, z⟩ =>
  tk u s' ⟨a, B, sI, pins, σ, H, cls, d, e, I, nb, up, sky, na, os, ag, z (I.len.trans hn)⟩
/-- try: y = (w, a()) / except err as n: y = kinN(n) -/
theorem try_gives {Ng : List Str} {x a q w y n err kinN : Str} {sg : Scope} {g CS : Addr} {cdg : Value} {k j1 j2 kk : Nat} {cl : Nat → Value} {kin : Nat → Option Str} {p1 p2 p3 p4 p5 p6 p7 p8 p9 p10 p11 p12 p13 p14 p15 p16 p17 p18 p19 : Pos}
    (hN : Ng.Nodup) (h0 : Ng[0]? = some a) (h1 : Ng[1]? = some y) (h2 : Ng[2]? = some n) (hl : Ng.length = 3) (ly : sg.names.lookup y = some .local) (ln : sg.names.lookup n = some .local) (hge : sg.names.lookup err = some .globalImplicit) (hgk : sg.names.lookup kinN = some .globalImplicit)
    (hme : X.mg err = some (.ref CS)) (hde : (err == ("__debug__" : Str)) = false) (hdn : (n == ("__debug__" : Str)) = false) (hcn : (n == ("__classdict__" : Str)) = false) (hdy : (y == ("__debug__" : Str)) = false) (hcy : (y == ("__classdict__" : Str)) = false)
    (hex : ∀ c yy, kin c = some yy → PySem.W.exmOne X.K (cl c) (.ref CS) = some true) (hK : KinOk X.prog X.w X.K X.mg X.base kinN k cl kin) :
    Gives X Ng x sg g cdg [.Assign [.Name y p1] (.Constant .none j1 p2) p3,
      .Try [.Assign [.Name y p4] (.Tuple [.Constant (.str w) j2 p5, .Call (.Name a p6) [] [] p7] kk p8) p9] [.ExceptHandler (some (.Name err p10)) (some n) [.Assign [.Name y p11] (.Call (.Name kinN p12) [.Name n p13] [] p14) p15] p16] [] [] p17,
      .Return (some (.Name y p18)) p19] a q w k cl kin := by
  intro f c' s H Q tl mono hr act hc hh
  have ky : ∀ {Y : Cx}, Y.env.scope = sg → L2.Loc Y.env.scope y := fun e => by rw [e]; exact .inl ly
  refine ⟨_, pss_cons (ps_set (i := 1) (X := (cxOf C8.CX0 X.prog X.w X.K X.mg X.base Ng x sg g cdg X.A X.stack s H C8.E0).nox) hN h1 (.inl ly) pe_non rfl (.inr ly)) (pss_cons (L2N.ps_try_as (X := (cxOf C8.CX0 X.prog X.w X.K X.mg X.base Ng x sg g cdg X.A X.stack s H C8.E0).nox) (c := .ref CS) (i := 2) (Wout := fun _ _ _ _ => False)
      (tb := fun W D σ H => ∃ Ech : XK, (∀ cls d (σ' : L2.St) H', σ'.length = 3 → Ech cls d H' → W cls d σ' H') ∧ σ[0]? = some (some (.ref f)) ∧ H c' = some (LamX.CodeO c' q) ∧ tl Ech H fun v H1 => [V.str w, v].length ≤ sizeLine ∧ ∀ p, H1 p = none → D.nx (σ.set 1 (some (.ref p))) (upd H1 p (.tup [.str w, v])))
      (ts := fun a' cls d D σ H => ∃ c yy, kin c = some yy ∧ cls = cl c ∧ d = none ∧ σ[2]? = some (some (.ref a')) ∧ ∀ H', GH.Ext H H' → D.nx (σ.set 1 (some (.str yy))) H')
      rfl rfl hN h2 ln ⟨hge, hde, .inl hme⟩ ?_ ?_ ?_) (pss_one (ps_ret (pe_var (i := 1) h1 (.inl ly) hdy hcy)))), ?_⟩
  · intro u s' xx
    obtain ⟨_, _, _, _, _, _, _, _, _, _, _, _, _, _, _, _, z⟩ := xx
    exact z.elim
  · intro W pn xe tk _
    refine ⟨fun pins s' σ H' D I hq => ?_⟩
    obtain ⟨Ech, hW, q1, q2, q3⟩ := hq
    have hp := act (fun cls d σ H => σ.length = 3 → W cls d σ H) pn xe Ech p6 p7 (takes_len (by exact hl) tk) (fun cls d σ' H' e z => hW cls d σ' H' z e)
    refine (pss_one (ps_set (i := 1) hN h1 (.inl ly) (pe_tup (pa_cons pe_str (pa_cons hp pa_nil))) rfl (.inr ly))).run pins s' σ H' D I ?_
    exact ⟨q1, q2, q3⟩
  · intro a' oe cls d pn hz hd
    refine ⟨fun pins s' σ H' D I hq => ?_⟩
    obtain ⟨c, yy, e1, rfl, rfl, e2, e3⟩ := hq
    obtain ⟨vs, hv⟩ := hd
    have hpe := hK ((cxOf C8.CX0 X.prog X.w X.K X.mg X.base Ng x sg g cdg X.A X.stack s H C8.E0).nox.suite a' ((a', oe) :: pn)) a' oe c 2 yy n p12 p13 p14 rfl rfl rfl rfl rfl e1 hz ⟨vs, hv⟩ ⟨rfl, vs, hv, hz.2.2 vs hv⟩ List.mem_cons_self ⟨hr.dp, hr.un⟩ hgk (pe_var (i := 2) h2 (.inl ln) hdn hcn) rfl
    exact (pss_one (ps_set (i := 1) hN h1 (.inl ly) hpe rfl (.inr ly))).run pins s' σ H' D I ⟨e2, e3⟩
  · have e5 : L2.start Ng [.ref f] = [some (.ref f), none, none] := by
      unfold L2.start
      rw [hl]; rfl
    rw [e5]
    refine ⟨fun cls d H' => ∃ c y, cls = cl c ∧ d = none ∧ kin c = some y ∧ ∀ H'', GH.Ext H' H'' → Q (.str y) H'', ?_, rfl, hc, ?_⟩
    · rintro cls d σ' H' el ⟨c, yy, rfl, rfl, e1, e2⟩
      match σ', el with
      | [x0, x1, x2], _ => exact ⟨true, hex c yy e1, fun _ a' ha => ⟨c, yy, e1, rfl, rfl, rfl, fun H2 eH => ⟨.str yy, rfl, e2 _ eH⟩⟩, fun z => nomatch z⟩
    · exact mono _ _ _ _ (fun v H' hq => ⟨by show 2 ≤ sizeLine; decide, fun p hp => ⟨.ref p, rfl, hq p hp⟩⟩) hh
end
end G


namespace G
open PySem PySem.Spec PyProof.Rows L2
/-- an own class of errors, over ValueError -/
structure ErrAt (K : PySem.W.Frag) (mg : Str → Option Value) (x : Str) (C : Addr) : Prop where
  g : mg x = some (.ref C)
  kp : PySem.W.keepIn K (.ref C) = true
  q : ∃ newId initId bmB, ExcBaseFacts "ValueError" newId initId bmB ∧ PySem.W.excIn K C bmB newId = true
  sb : PySem.W.subIn K (.ref C) (.type "BaseException") = some true
  ty : PySem.W.typeIn K (.ref C) = some (.type "type")
  ec : ExcC K C
/-- the classes by their numbers -/
def clOf (cs : List Addr) (c : Nat) : Value := match cs[c]? with
  | some C => .ref C
  | none => .none
section
variable {X : Cx} {E : EX} {cl : Nat → Value}
theorem is_raiseE {c : Nat} {C : Addr} {x m : Str} {j : Nat} {p p2 p3 pos : Pos} (e : ErrAt X.K X.mg x C) (hcl : cl c = .ref C) (tk : TkE X E cl) (hg : Gl X x) (hc : X.calm = true := by rfl) (hdb : (x == ("__debug__" : Str)) = false := by decide) :
    IS X E (.Raise (some (.Call (.Name x p) [.Constant (.str m) j p2] [] p3)) none pos) (mRaise c) := by
  obtain ⟨n, i, b, F, q⟩ := e.q
  exact is_raise hc tk hcl (L2N.pmk_own F q e.g e.kp (raises_own e.sb e.ty) hg hdb)
end
/-- the def that tries a door: all that stands of it -/
structure TryAt (P : Program) (w : World) (K : PySem.W.Frag) (mg : Str → Option Value) (base : Heap) (x wd : Str) (k : Nat) (cl : Nat → Value) (kin : Nat → Option Str) : Prop where
  ex : ∃ (g : Addr) (pg : Arguments) (bg : List Stmt) (sg : Scope) (dV kV doc pm cdv ct oc : Value) (an od : Option Addr) (osl : Array (Option Value)) (Ng : List Str) (a : Str), mg x = some (.ref g) ∧ PySem.W.keepIn K (.ref g) = true ∧
    K.lookup g = some ⟨oc, od, .func (PySem.W.fnOf x x pg bg sg dV kV doc pm an cdv ct), osl⟩ ∧ PySem.W.codeIn K cdv x = true ∧ L2.Binds K (PySem.W.fnOf x x pg bg sg dV kV doc pm an cdv ct) [a] [] ∧ FnScope Ng [a] sg ∧ Ng[0]? = some a ∧ Vis sg a ∧ (a == ("__debug__" : Str)) = false ∧ (a == ("__classdict__" : Str)) = false ∧
    ∀ (X : Cx) (q : Str), X.prog = P → X.w = w → X.K = K → X.mg = mg → X.base = base → Gives X Ng x sg g cdv bg a q wd k cl kin
theorem tryAt_mk {P : Program} {w : World} {K : PySem.W.Frag} {mg : Str → Option Value} {base : Heap} {x a wd : Str} {k : Nat} {cl : Nat → Value} {kin : Nat → Option Str} {st : Stmt} {Ng : List Str} (F : DefAt K mg x x [a] st) (S : FnScope Ng [a] (defScope st)) (h0 : Ng[0]? = some a) (hv : Vis (defScope st) a)
    (hG : ∀ (X : Cx) (q : Str) (g : Addr) (cdv : Value), X.prog = P → X.w = w → X.K = K → X.mg = mg → X.base = base → Gives X Ng x (defScope st) g cdv (defBody st) a q wd k cl kin) (hd : (a == ("__debug__" : Str)) = false := by decide) (hcd : (a == ("__classdict__" : Str)) = false := by decide) : TryAt P w K mg base x wd k cl kin := by
  obtain ⟨f, fd, F1, hm, hb⟩ := F
  obtain ⟨oc, od, kV, doc, pm, an, cdv, ct, osl, rfl, lk, hc⟩ := F1.ex
  exact ⟨f, _, _, _, _, _, _, _, _, _, _, _, _, _, Ng, a, hm, F1.kp, lk, hc, hb, S, h0, hv, hd, hcd, fun X q h1 h2 h3 h4 h5 => hG X q f cdv h1 h2 h3 h4 h5⟩
section
variable {X : Cx} {E : EX}
theorem ie_tryD {cl : Nat → Value} {kin : Nat → Option Str} {x wd : Str} {c P : Addr} {k : Nat} {params : Arguments} {body : Expr} {scope : Scope} {m : ME} {p lpos pos : Pos} (l : Nat) (T : TryAt X.prog X.w X.K X.mg X.base x wd (k + 1) cl kin) (hg : Gl X x) (TB : LamX.TabB X.base X.mg c P) (hcode : X.env.code = .ref c) (hr : Room (k + 2) X.A) (L : LamX.LamS X.env.scope scope)
    (hbody : ∀ (A : Around) (outer : List Env) (s : Shared) (H : Hp) (Ex : XK) (f c' : Addr), Room k (A.deeper (LamX.lamEnv X scope s.heap.objs.size f c')) → IE (lamN X A outer s H Ex scope f c') (exOf cl Ex) body m)
    (hdef : defaultsOf params X.env = ([], []) := by rfl) (hbind : ∀ (q : Str) (cl : List (Str × Addr)) (pm cv ctv : Value), bindArgs (PySem.W.kla_fn "<lambda>" q params body scope cl pm cv ctv) ⟨[], []⟩ = pure [] := by intros; rfl) (hdb : (x == ("__debug__" : Str)) = false := by decide) :
    IE X E (.Call (.Name x p) [.Lambda params body scope lpos] [] pos) (mTry l P (X.env.qual ++ "<lambda>") wd kin m) := by
  obtain ⟨g, pg, bg, sg, dV, kV, doc, pm, cdv, ct, oc, an, od, osl, Ng, a, hm, hk, lk, hcg, hb, Sg, h0, hva, hd, hcd, hG⟩ := T.ex
  exact ie_try hg hm hk lk hcg hb Sg h0 hva (hG X _ rfl rfl rfl rfl rfl) TB hcode hr L hdef hbind hbody hdb hd hcd
end
end G


namespace G
open PySem PySem.Spec PyProof.Rows L2
/-- the law's def, its code object known -/
theorem fn_okT {P : Program} {w : World} {K : PySem.W.Frag} {mg : Str → Option Value} {base : Heap} {cl : Nat → Value} {x qual : Str} {st : Stmt} {f : Addr} {oc kV dc pm cdv ct : Value} {od an : Option Addr} {sl : Array (Option Value)} {N ps : List Str} {k : Nat} {m : MS}
    (lk : K.lookup f = some ⟨oc, od, .func (PySem.W.fnOf x qual (defArgs st) (defBody st) (defScope st) .none kV dc pm an cdv ct), sl⟩) (hcd : PySem.W.codeIn K cdv qual = true) (S : FnScope N ps (defScope st))
    (hbody : ∀ (A : Around) (outer : List Env) (s : Shared) (H : Hp) (E : XK), Room k (A.deeper (envOfC qual (defScope st) s.heap.objs.size f cdv)) →
      ISs (cxOf CX0 P w K mg base N qual (defScope st) f cdv A outer s H E).nox E1 (defBody st) m) :
    FnOk P w K mg base CX0 (k + 1) f (PySem.W.fnOf x qual (defArgs st) (defBody st) (defScope st) .none kV dc pm an cdv ct) ps (spF K cl ps.length fun ds S => (fnOf N.length m ds S).nox) := by
  refine fn_of lk hcd S (fun vs H Q E h => h.1) fun A outer s H vs Q E hr h => ?_
  obtain ⟨t, p, i⟩ := hbody A outer s H E hr
  obtain ⟨_, U, So, ds, sat, r, w⟩ := h
  exact ⟨t, p.nox, i U So H _ _ _ sat (relStart r) (wants_finish sat (Wants.nox w))⟩
/-- .. of another def that makes lambdas -/
def spLawT (C : Addr) : Sp := fun vs H Q _ => ∃ (a : Addr) (ns : List Int), vs = [.ref a] ∧ Rd H a (.lst (ns.map V.int)) ∧ H C = some (.tbl #[]) ∧ ns.length ≤ 63 ∧ ∀ H', Q (.bl true) H'
theorem law_endT {P : Program} {w : World} {K : PySem.W.Frag} {mg : Str → Option Value} {base : Heap} {k : Nat} {f C : Addr} {fd : FuncData} {ps : List Str} {cl : Nat → Value} {fn : Fn} {q : Str} (F : FnOk P w K mg base CX0 k f fd ps (spF K cl 1 fn))
    (hl : ∀ ns : List Int, ns.length ≤ 63 → ∃ S, fn [.p (.list (ns.map PyData.int))] [some (.tab C q)] = .ok (.p (.bool true)) S) : FnOk P w K mg base CX0 k f fd ps (spLawT C) :=
  F.imp fun vs H Q E h => by
    obtain ⟨a, ns, rfl, hr, hC, hn, qq⟩ := h
    obtain ⟨S, e⟩ := hl ns hn
    have ne : C ≠ a := fun z => by
      rcases hr with hr | ⟨o, hr⟩
      · rw [← z, hC] at hr; cases hr
      · rw [← z, hC] at hr; cases hr
    have at0 : ∀ l b, (if l = 0 then some C else none) = some b → l = 0 ∧ b = C := fun l b h => by
      by_cases e : l = 0
      · rw [if_pos e] at h; exact ⟨e, (Option.some.inj h).symm⟩
      · rw [if_neg e] at h; cases h
    refine ⟨rfl, ⟨fun b => if b = a then H a else none, fun l => if l = 0 then some C else none⟩, [some (.tab C q)], [.p (.list (ns.map PyData.int))], ⟨fun b o h => ?_, fun l b h => ?_, fun l h => ?_, fun l l' b h h' => ?_, fun l b o h ho => ?_, fun l b h => ?_, fun l b h => ?_⟩, .cons (.lst ?_ (rp_ints ns)) .nil, ?_⟩
    · have h' : (if b = a then H a else none) = some o := h
      by_cases e : b = a
      · rw [if_pos e] at h'; rw [e]; exact .inl h'
      · rw [if_neg e] at h'; cases h'
    · obtain ⟨rfl, _⟩ := at0 l b h; exact Nat.zero_lt_one
    · have : l = 0 := by simpa using h
      exact ⟨C, by rw [this]; rfl⟩
    · rw [(at0 l b h).1, (at0 l' b h').1]
    · obtain ⟨rfl, rfl⟩ := at0 l b h
      cases ho
      refine ⟨if_neg ne, _, hC, rfl, #[], rfl, trivial, fun pos cv hc => ?_⟩
      have z : codeAmong pos [] = some cv := hc
      simp [codeAmong] at z
    · obtain ⟨_, rfl⟩ := at0 l b h; exact ⟨_, hC⟩
    · have hl : l < 1 := (List.getElem?_eq_some_iff.mp h).1
      have : l = 0 := by omega
      subst this
      cases h; trivial
    · rcases hr with hr | ⟨o, hr⟩
      · exact .inl (by show (if a = a then H a else none) = _; rw [if_pos rfl]; exact hr)
      · exact .inr ⟨o, by show (if a = a then H a else none) = _; rw [if_pos rfl]; exact hr⟩
    · rw [e]
      intro U' H' _ _ v rv
      cases rv
      exact qq H'
theorem walk_endT {l : PySem.W.OpenLaw} {k : Nat} {q : Program} {loose : List Str} {XP : (Str → Option Value) → Heap → Prop} {YP : World → Heap → Prop} {d : DefRec} {K : Params → PySem.W.Frag} {x : Str} (hn : l.most = some 63) (hdf : d.params.defaults = []) (hr : Room k callerA) (hrec : ((recsOf q).any fun e => e.name == d.name) = true) (hK : ∀ w : World, noLists (K w.params) = true)
    (hY : ∀ (w : World) (h : Heap), YP w h → (K w.params).In h)
    (F : ∀ (w : World) (mg : Str → Option Value) (fa : Addr) (h : Heap), (K w.params).In h → h.Ns mainGlobals mg → mg d.name = some (.ref fa) → LamX.OwnTab (K w.params) fa h →
      ∃ (fd : FuncData) (c C : Addr), h.get? C = some { cls := .none, data := .fields #[] } ∧ (K w.params).lookup C = none ∧ PySem.W.CodeHd h c C ∧ (∀ (s : Shared) (u : Value), BindsTo s fd ⟨[u], []⟩ [(x, u)]) ∧
        ∀ base : Heap, (K w.params).In base → base.Ns mainGlobals mg → LamX.TabB base mg c C → FnOk l.prog w (K w.params) mg base CX0 k fa fd [x] (spLawT C)) :
    PySem.W.WalkO q loose XP YP l.row.toRowW d [] (fun f vs => PySem.call f vs) := by
  refine LamX.walk_ofOwn (n := 63) (k := k) (x := x) (CX := fun _ => CX0) hn (by decide) hdf hr hrec hY (fun w mg fa h Y KX GG hm own => ?_) fun _ _ _ _ _ z => z
  obtain ⟨fd, c, C, h1, h2, h3, h4, h5⟩ := F w mg fa h KX GG hm own
  refine ⟨fd, [(c, C)], spLawT C, ?_, ?_, ?_, h4, fun H a ns hl _ hH hS => ⟨a, ns, rfl, rd_of (hK w) hS, hH (c, C) List.mem_cons_self, hl, fun _ => rfl⟩, fun base a b t => h5 base a b (t (c, C) List.mem_cons_self)⟩
  · intro p hp; rw [List.mem_singleton.mp hp]; exact h1
  · intro p hp; rw [List.mem_singleton.mp hp]; exact h2
  · intro p hp; rw [List.mem_singleton.mp hp]; exact h3
end G


namespace G
open PySem PySem.Spec PyProof.Rows L2
/-! ### len(set(t)), t a tuple of whole numbers -/
def dd : List Int → List Int
  | [] => []
  | x :: xs => if x ∈ xs then dd xs else x :: dd xs
theorem dd_mem {y : Int} : ∀ {xs : List Int}, y ∈ dd xs ↔ y ∈ xs
  | [] => Iff.rfl
  | x :: xs => by
    have ih := dd_mem (y := y) (xs := xs)
    unfold dd
    split
    · rename_i h
      rw [ih, List.mem_cons]
      exact ⟨.inr, fun q => q.elim (fun e => by rw [e]; exact h) id⟩
    · rw [List.mem_cons, List.mem_cons, ih]
theorem dd_nodup : ∀ xs : List Int, (dd xs).Nodup
  | [] => List.nodup_nil
  | x :: xs => by
    unfold dd
    split
    · exact dd_nodup xs
    · rename_i h
      exact List.nodup_cons.mpr ⟨fun q => h (dd_mem.mp q), dd_nodup xs⟩
theorem nodup_le : ∀ {xs ys : List Int}, xs.Nodup → (∀ x ∈ xs, x ∈ ys) → xs.length ≤ ys.length
  | [], _, _, _ => Nat.zero_le _
  | x :: xs, ys, h, s => by
    obtain ⟨h1, h2⟩ := List.nodup_cons.mp h
    have hx : x ∈ ys := s x List.mem_cons_self
    have := nodup_le (xs := xs) (ys := ys.erase x) h2 fun y hy => (List.mem_erase_of_ne (fun e => h1 (by rw [← e]; exact hy))).mpr (s y (List.mem_cons_of_mem _ hy))
    rw [List.length_erase_of_mem hx] at this
    have := List.length_pos_of_mem hx
    rw [List.length_cons]; omega
theorem dd_len {ks ns : List Int} (h : ks.Nodup) (e : ∀ k, k ∈ ks ↔ k ∈ ns) : ks.length = (dd ns).length :=
  Nat.le_antisymm (nodup_le h fun k hk => dd_mem.mpr ((e k).mp hk)) (nodup_le (dd_nodup ns) fun k hk => (e k).mpr (dd_mem.mp hk))
def wholes : List PyData → Option (List Int)
  | [] => some []
  | .int i :: r => (wholes r).map (i :: ·)
  | _ => none
theorem wholes_eq : ∀ {xs : List PyData} {ns : List Int}, wholes xs = some ns → xs = ns.map PyData.int
  | [], ns, h => by cases h; rfl
  | x :: xs, ns, h => by
    cases x with
    | int i =>
      cases e : wholes xs with
      | none => simp [wholes, e] at h
      | some r =>
        simp [wholes, e] at h
        subst h
        rw [List.map_cons, wholes_eq e]
    | _ => cases h
def gLenSet : D → Sto → Res D := fun d S => match d with
  | .p (.tuple xs) => (match wholes xs with
    | some ns => if ns.length ≤ 60 then .ok (.p (.int ((dd ns).length : Nat))) S else .stuck
    | none => .stuck)
  | _ => .stuck
def tLenSet (K : PySem.W.Frag) (ta : TE) : TE := fun σ H Q => ta σ H fun x H1 => ∃ (l : Addr) (ns : List Int), x = V.ref l ∧ SqT K H1 l (ns.map V.int) ∧ ns.length ≤ 60 ∧ Q (.int ((dd ns).length : Nat)) H1
section
variable {X : Cx} {E : EX}
theorem ints_vals : ∀ {ns : List Int} {us : List Value}, Vals (ns.map V.int) us → IntsAre us ns
  | [], _, .nil => .nil
  | n :: ns, _, .cons r t => by
    obtain ⟨k, rfl⟩ := r
    exact .cons n k (ints_vals t)
theorem pe_lenSetT {a : Expr} {ta : TE} {p p2 q pos : Pos} (hc : X.calm = true) (hg : Gl X "len") (hm : X.mg "len" = none) (hg2 : Gl X "set") (hm2 : X.mg "set" = none) (ha : PE X a ta) (na : starEach [a] X.env = (false, eval a X.env) :: starEach [] X.env := by rfl) :
    PE X (.Call (.Name "len" p) [.Call (.Name "set" p2) [a] [] q] [] pos) (tLenSet X.K ta) := by
  refine ⟨fun pins s σ H Q I h => Call_ (ld_blt I hg hm PySem.boot_len (PyProof.Rows.callWith_builtin1 (PyProof.Rows.args_cons ?_ rfl) rfl rfl))⟩
  refine Call_ (ld_blt I hg2 hm2 PyProof.Rows.boot_set (PyProof.Rows.callWith_type1 (PyProof.Rows.args_cons (thn (ha.run pins s σ H _ I h) fun v s1 ⟨x, H1, I1, r1, q1⟩ => PyProof.Rows.args_nil ?_) na) na rfl))
  obtain ⟨l, ns, rfl, hq, h1, q1⟩ := q1
  cases r1
  obtain ⟨its, r, pl, hz⟩ := I1.tuple hq
  refine call_set_tupI ns (I1.ok.hd hc) pl (by simpa using ints_vals r) (by unfold scanBound; omega) fun h' tk c hS hcl hk => PyProof.Rows.args_nil ?_
  obtain ⟨o, es, ep, t, ho, hex, hd, hgd, hnd, hmem, hsb, hf, hn, _⟩ := hS
  have I2 : Inv X pins σ H1 { s1 with heap := h', toks := tk } := I1.kept hk
  have hcnt : es.size = (dd ns).length := by
    have z := dd_len (ns := ns) hnd fun k => by rw [← hmem k]; simp
    rw [List.length_map, Array.length_toList] at z; exact z
  exact call_len_set ho hex hd hf (by omega) ⟨.int ((dd ns).length : Nat), H1, I2.tok _, ⟨_, by rw [hcnt]⟩, q1⟩
theorem rp_wholes {K : PySem.W.Frag} {F : Hp} : ∀ {vs : List V} {ns : List Int}, RpAll K F vs (ns.map PyData.int) → vs = ns.map V.int
  | _, [], .nil => rfl
  | _, n :: ns, .cons h t => by
    cases h
    rw [rp_wholes t]; rfl
theorem ie_lenSet {a : Expr} {ma : ME} {p p2 q pos : Pos} (hg : Gl X "len") (hm : X.mg "len" = none) (hg2 : Gl X "set") (hm2 : X.mg "set" = none) (ha : IE X E a ma) (hc : X.calm = true := by rfl) (na : starEach [a] X.env = (false, eval a X.env) :: starEach [] X.env := by rfl) :
    IE X E (.Call (.Name "len" p) [.Call (.Name "set" p2) [a] [] q] [] pos) (m1 gLenSet ma) := by
  obtain ⟨t, pt, i⟩ := ha
  refine ⟨_, pe_lenSetT hc hg hm hg2 hm2 pt na, fun U S H σ ρ Q s rl w => i U S H σ ρ _ s rl (Wants.mono (Wants.bind w) fun U1 S1 H1 d st1 s1 w1 v rv => ?_)⟩
  unfold gLenSet at w1
  split at w1
  · next xs =>
    split at w1
    · next ns hns =>
      split at w1
      · next hl =>
        have e := wholes_eq hns
        subst e
        cases rv with
        | tup hq hr =>
          have ev := rp_wholes hr
          subst ev
          exact ⟨_, ns, rfl, SqT.le s1.fz hq, hl, (Wants.ok w1 s1) _ (.int _)⟩
      · exact False.elim w1
    · exact False.elim w1
  · exact False.elim w1
end
end G


namespace G
open PySem PySem.Spec PyProof.Rows L2
/-- the law's def with its code object and that one's table -/
theorem law_keyT {K : PySem.W.Frag} {h : Heap} {mg : Str → Option Value} {st : Stmt} {f fa c C : Addr} {oc kV dc pm ct e : Value} {od an dx : Option Addr} {sl sl2 : Array (Option Value)} {vs : Array Value} (X : K.In h) (G : h.Ns mainGlobals mg) (hm : mg "law" = some (.ref fa)) (own : LamX.OwnTab K fa h)
    (a : PySem.W.nsIn K mainGlobals "law" = some (some (.ref f))) (l : K.lookup f = some ⟨oc, od, .func (PySem.W.fnOf "law" "law" (defArgs st) (defBody st) (defScope st) .none kV dc pm an (.ref c) ct), sl⟩)
    (cd : PySem.W.codeIn K (.ref c) "law" = true) (lc : K.lookup c = some ⟨e, dx, .fields vs, sl2⟩) (hv : vs[11]? = some (.ref C)) (hC : K.lookup C = none) (ch : PySem.W.codeHdIn K c C = true) :
    ∃ (oc kV dc pm ct : Value) (od an : Option Addr) (sl : Array (Option Value)) (c C : Addr), K.lookup fa = some ⟨oc, od, .func (PySem.W.fnOf "law" "law" (defArgs st) (defBody st) (defScope st) .none kV dc pm an (.ref c) ct), sl⟩ ∧ PySem.W.codeIn K (.ref c) "law" = true ∧
      h.get? C = some { cls := .none, data := .fields #[] } ∧ K.lookup C = none ∧ PySem.W.CodeHd h c C := by
  have e0 := hm.symm.trans (PySem.W.mg_of X G a)
  cases e0
  exact ⟨oc, kV, dc, pm, ct, od, an, sl, c, C, l, cd, own c C _ _ e dx vs sl2 l rfl rfl lc hv, hC, PySem.W.codeHd_of_K X ch⟩
end G


namespace G
open PySem PySem.Spec PyProof.Rows L2
theorem loose_int {p : Program} {lv : List (Str × PySem.W.WData)} {mg : Str → Option Value} {h : Heap} {x : Str} {i : Int} (X : PySem.W.XL p lv mg h) (hm : (x, PySem.W.WData.int i) ∈ lv) : ∃ t, mg x = some (.int i t) := by
  obtain ⟨v, a, b⟩ := X.2.val _ hm
  cases b
  exact ⟨_, a⟩
theorem walk_endX {l : PySem.W.OpenLaw} {k : Nat} {q : Program} {loose : List Str} {XP : (Str → Option Value) → Heap → Prop} {YP : World → Heap → Prop} {d : DefRec} {K : Params → PySem.W.Frag} {x : Str} (hn : l.most = some 63) (hdf : d.params.defaults = []) (hr : Room k callerA) (hK : ∀ w : World, noLists (K w.params) = true)
    (hY : ∀ (w : World) (h : Heap), YP w h → (K w.params).In h)
    (F : ∀ (w : World) (mg : Str → Option Value) (fa : Addr) (h : Heap), YP w h → XP mg h → (K w.params).In h → h.Ns mainGlobals mg → mg d.name = some (.ref fa) →
      ∃ (fd : FuncData) (c C : Addr), h.get? C = some { cls := .none, data := .fields #[] } ∧ (K w.params).lookup C = none ∧ PySem.W.CodeHd h c C ∧ (∀ (s : Shared) (u : Value), BindsTo s fd ⟨[u], []⟩ [(x, u)]) ∧
        ∀ base : Heap, (K w.params).In base → base.Ns mainGlobals mg → LamX.TabB base mg c C → FnOk l.prog w (K w.params) mg base CX0 k fa fd [x] (spLawT C)) :
    PySem.W.WalkO q loose XP YP l.row.toRowW d [] (fun f vs => PySem.call f vs) := by
  refine Att.attach_callB hn hdf fun w s₀ s₁ mg mb fa o pm cd doc a vs ns G Y ho hd hcd hmg hobj hints hlen hbits hg => ?_
  obtain ⟨fd, c, C, h1, h2, h3, h4, h5⟩ := F w mg fa _ Y G.X (hY w _ Y) G.T.g hmg
  refine LamX.law_callTs (cs := [(c, C)]) (sp := spLawT C) (hY w _ Y) G.T.g G.T.b G.T.builtins G.T.nolimit hg ?_ ?_ ?_ G.T.bmain hobj hints (Nat.le_trans hlen (by decide)) hr (fun base a b t => h5 base a b (t (c, C) List.mem_cons_self)) h4
    (fun H hH hS => ⟨a, ns, rfl, rd_of (hK w) hS, hH (c, C) List.mem_cons_self, hlen, fun _ => rfl⟩) fun _ _ _ z => z
  · intro p hp; rw [List.mem_singleton.mp hp]; exact h1
  · intro p hp; rw [List.mem_singleton.mp hp]; exact h2
  · intro p hp; rw [List.mem_singleton.mp hp]; exact h3
theorem law_keyX {K : PySem.W.Frag} {h : Heap} {mg : Str → Option Value} {st : Stmt} {f fa c C : Addr} {oc kV dc pm ct e : Value} {od an dx : Option Addr} {sl sl2 : Array (Option Value)} {vs : Array Value} {ts : List Addr} (X : K.In h) (G : h.Ns mainGlobals mg) (hm : mg "law" = some (.ref fa)) (hT : ∀ P ∈ ts, h.get? P = some (PySem.W.tabObj #[]))
    (a : PySem.W.nsIn K mainGlobals "law" = some (some (.ref f))) (l : K.lookup f = some ⟨oc, od, .func (PySem.W.fnOf "law" "law" (defArgs st) (defBody st) (defScope st) .none kV dc pm an (.ref c) ct), sl⟩)
    (cd : PySem.W.codeIn K (.ref c) "law" = true) (lc : K.lookup c = some ⟨e, dx, .fields vs, sl2⟩) (hv : vs[11]? = some (.ref C)) (hC : K.lookup C = none) (ch : PySem.W.codeHdIn K c C = true) (hin : C ∈ ts) :
    ∃ (oc kV dc pm ct : Value) (od an : Option Addr) (sl : Array (Option Value)) (c C : Addr), K.lookup fa = some ⟨oc, od, .func (PySem.W.fnOf "law" "law" (defArgs st) (defBody st) (defScope st) .none kV dc pm an (.ref c) ct), sl⟩ ∧ PySem.W.codeIn K (.ref c) "law" = true ∧
      h.get? C = some { cls := .none, data := .fields #[] } ∧ K.lookup C = none ∧ PySem.W.CodeHd h c C := by
  have e0 := hm.symm.trans (PySem.W.mg_of X G a)
  cases e0
  exact ⟨oc, kV, dc, pm, ct, od, an, sl, c, C, l, cd, hT C hin, hC, PySem.W.codeHd_of_K X ch⟩
end G


namespace G
open PySem L2
/-! ### True + 1, True - 1, str(True) -/
def rBI (g : Int → Int → Int) : R2 := fun x y H Q => ∃ (b : Bool) (j : Int), x = .bl b ∧ y = .int j ∧ Q (.int (g (if b = true then 1 else 0) j)) H
section
variable {X : Cx}
theorem op_addBI : OpR X (binaryOp .Add) (rBI fun i j => i + j) := by
  intro pins s σ H x y v u Q I rx ry h
  obtain ⟨b, j, rfl, rfl, q⟩ := h
  cases rx
  obtain ⟨t', rfl⟩ := ry
  exact PySem.IntBool.add_bool_int ⟨.int _, H, I.tok _, ⟨_, rfl⟩, q⟩
theorem op_subBI : OpR X (binaryOp .Sub) (rBI fun i j => i - j) := by
  intro pins s σ H x y v u Q I rx ry h
  obtain ⟨b, j, rfl, rfl, q⟩ := h
  cases rx
  obtain ⟨t', rfl⟩ := ry
  exact PySem.IntBool.sub_bool_int ⟨.int _, H, I.tok _, ⟨_, rfl⟩, q⟩
theorem call_strB : CallR X (.type "str") (fun xs H Q => ∃ b, xs = [.bl b] ∧ Q (.str (if b = true then "True" else "False")) H) := by
  intro pins s σ H xs us Q I r h
  obtain ⟨b, rfl, q⟩ := h
  obtain ⟨u, rfl, e⟩ := vals1 r
  cases e
  exact PySem.P.str_of_bool ⟨.str _, H, I.tok _, ⟨_, rfl⟩, q⟩
def rStrA (xs : List V) (H : Hp) (Q : VK) : Prop := (∃ i, xs = [.int i] ∧ i.natAbs.log2 < 1920 ∧ Q (.str (toString i)) H) ∨ (∃ b, xs = [.bl b] ∧ Q (.str (if b = true then "True" else "False")) H)
theorem call_strA : CallR X (.type "str") rStrA := by
  intro pins s σ H xs us Q I r h
  rcases h with h | h
  · exact call_str_int pins s σ H xs us Q I r h
  · exact call_strB pins s σ H xs us Q I r h
end
def gAddB : D → D → Sto → Res D := fun d e S => match d, e with
  | .p (.bool b), .p (.int j) => .ok (.p (.int ((if b = true then 1 else 0) + j))) S
  | d, e => gAdd d e S
def gSubB : D → D → Sto → Res D := fun d e S => match d, e with
  | .p (.bool b), .p (.int j) => .ok (.p (.int ((if b = true then 1 else 0) - j))) S
  | d, e => gSub d e S
def gStrB : GC := fun ds S => match ds with
  | [.p (.bool b)] => .ok (.p (.str (if b = true then "True" else "False"))) S
  | ds => gStr ds S
section
variable {K : PySem.W.Frag} {E : EX}
theorem imp_addB : ImpO K E (fun x y H Q => rAddA K x y H Q ∨ rBI (fun i j => i + j) x y H Q) gAddB := by
  intro U S H x y d e Q s rx ry w
  unfold gAddB at w
  split at w
  · next b j =>
    cases rx; cases ry
    exact .inr ⟨b, j, rfl, rfl, (Wants.ok w s) _ (.int _)⟩
  · exact .inl (imp_add U S H x y d e Q s rx ry w)
theorem imp_subB : ImpO K E (fun x y H Q => rI0 (fun i j => .int (i - j)) x y H Q ∨ rBI (fun i j => i - j) x y H Q) gSubB := by
  intro U S H x y d e Q s rx ry w
  unfold gSubB at w
  split at w
  · next b j =>
    cases rx; cases ry
    exact .inr ⟨b, j, rfl, rfl, (Wants.ok w s) _ (.int _)⟩
  · exact .inl (imp_sub U S H x y d e Q s rx ry w)
theorem imp_strB : ImpC K E rStrA gStrB := by
  intro U S H vs ds Q s rv w
  unfold gStrB at w
  split at w
  · next b =>
    obtain ⟨v, rfl, r1⟩ := rel1 rv
    cases r1
    exact .inr ⟨b, rfl, (Wants.ok w s) _ (.str _)⟩
  · exact .inl (imp_str U S H vs ds Q s rv w)
end
section
variable {X : Cx} {E : EX} {a b : Expr} {ma mb : ME} {pos : Pos}
theorem ie_addB (ha : IE X E a ma) (hb : IE X E b mb) : IE X E (.BinOp a .Add b pos) (m2 gAddB ma mb) := ie_op (op_addA.or op_addBI) imp_addB ha hb
theorem ie_subB (ha : IE X E a ma) (hb : IE X E b mb) : IE X E (.BinOp a .Sub b pos) (m2 gSubB ma mb) := ie_op (op_sub.or op_subBI) imp_subB ha hb
end
end G


namespace G
open PySem PySem.Spec PyProof.Rows L2
/-! ### calls without arguments; another def that makes lambdas; a tuple times a number -/
section
variable {X : Cx} {E : EX} {pos : Pos}
theorem ie_own0 {k : Nat} {fn : Fn} {x : Str} {p : Pos} (C : Cal X.prog X.w X.K X.mg X.base x [] k fn) (hr : Room k X.A) (hg : Gl X x) (hdb : (x == ("__debug__" : Str)) = false := by decide) :
    IE X E (.Call (.Name x p) [] [] pos) (mCall fn mNil) := by
  obtain ⟨f, fd, F, hm, hk, hb⟩ := C
  refine ⟨_, pe_call0 F hr hg hm hk hb .nil pass0 hdb, fun U S H σ ρ Q s rl w => ?_⟩
  exact ⟨rfl, U, S, [], s, .nil, Wants.nox w⟩
def gRepT : D → D → Sto → Res D := fun d e S => match d, e with
  | .p (.tuple (x :: xs)), .p (.int k) => if (decide (2 ≤ k) && decide (k ≤ 1000) && decide ((x :: xs).length ≤ 1000)) = true then .ok (.p (.tuple (List.replicate k.toNat (x :: xs)).flatten)) S else .stuck
  | _, _ => .stuck
theorem imp_repT {K : PySem.W.Frag} : ImpO K E (rRepT K) gRepT := by
  intro U S H x y d e Q s rx ry w
  unfold gRepT at w
  split at w
  · next x xs k =>
    split at w
    · next h =>
      simp only [Bool.and_eq_true, decide_eq_true_eq] at h
      cases ry
      cases rx with
      | tup hq ha =>
        refine ⟨_, _, _, rfl, rfl, SqT.le s.fz hq, fun e => ?_, h.1.1, h.1.2, by rw [ha.length]; exact h.2, fun p hp => newT s (RpAll.rep ha _) hp w⟩
        have := ha.length
        rw [e] at this
        cases this
    · exact False.elim w
  · exact False.elim w
theorem ie_repT {a b : Expr} {ma mb : ME} (ha : IE X E a ma) (hb : IE X E b mb) : IE X E (.BinOp a .Mult b pos) (m2 gRepT ma mb) := ie_op op_repT imp_repT ha hb
end
/-- a def with its code object and that one's table -/
structure DefAtT (K : PySem.W.Frag) (mg : Str → Option Value) (base : Heap) (x nm : Str) (ps : List Str) (st : Stmt) (C : Addr) : Prop where
  ex : ∃ (f c : Addr) (oc kV dc pm ct : Value) (od an : Option Addr) (sl : Array (Option Value)), mg x = some (.ref f) ∧ PySem.W.keepIn K (.ref f) = true ∧
    K.lookup f = some ⟨oc, od, .func (PySem.W.fnOf nm nm (defArgs st) (defBody st) (defScope st) .none kV dc pm an (.ref c) ct), sl⟩ ∧ PySem.W.codeIn K (.ref c) nm = true ∧
    Binds K (PySem.W.fnOf nm nm (defArgs st) (defBody st) (defScope st) .none kV dc pm an (.ref c) ct) ps [] ∧ LamX.TabB base mg c C
theorem cal_mkT {P : Program} {w : World} {K : PySem.W.Frag} {mg : Str → Option Value} {base : Heap} {x nm : Str} {st : Stmt} {N ps : List Str} {k : Nat} {m : MS} {C : Addr} (F : DefAtT K mg base x nm ps st C) (S : FnScope N ps (defScope st))
    (hbody : ∀ (c : Addr) (TB : LamX.TabB base mg c C) (A : Around) (outer : List Env) (s : Shared) (H : Hp) (E : XK) (f : Addr), Room k (A.deeper (PyProof.Rows.envOfC nm (defScope st) s.heap.objs.size f (.ref c))) →
      ISs (cxOf CX0 P w K mg base N nm (defScope st) f (.ref c) A outer s H E).nox E1 (defBody st) m) : Cal P w K mg base x ps (k + 1) (fun ds S => (fnOf N.length m ds S).nox) := by
  obtain ⟨f, c, oc, kV, dc, pm, ct, od, an, sl, hm, kp, lk, hcd, hb, TB⟩ := F
  exact ⟨f, _, fn_okT lk hcd S fun A outer s H E hr => hbody c TB A outer s H E f hr, hm, kp, hb⟩
/-- what the head gives for such a def -/
theorem defT_key {K : PySem.W.Frag} {h : Heap} {mg : Str → Option Value} {x nm : Str} {ps : List Str} {st : Stmt} {f c C : Addr} {oc kV dc pm ct e : Value} {od an dx : Option Addr} {sl sl2 : Array (Option Value)} {vs : Array Value} {ts : List Addr} (X : K.In h) (G : h.Ns mainGlobals mg) (hT : ∀ P ∈ ts, h.get? P = some (PySem.W.tabObj #[]))
    (a : PySem.W.nsIn K mainGlobals x = some (some (.ref f))) (l : K.lookup f = some ⟨oc, od, .func (PySem.W.fnOf nm nm (defArgs st) (defBody st) (defScope st) .none kV dc pm an (.ref c) ct), sl⟩)
    (cd : PySem.W.codeIn K (.ref c) nm = true) (kp : PySem.W.keepIn K (.ref f) = true) (lc : K.lookup c = some ⟨e, dx, .fields vs, sl2⟩) (hv : vs[11]? = some (.ref C)) (hC : K.lookup C = none) (ch : PySem.W.codeHdIn K c C = true) (hin : C ∈ ts)
    (hb : ∀ (kV doc pm : Value) (an : Option Addr) (cdv ct : Value) (us : List Value), us.length = ps.length → bindArgs (PySem.W.fnOf nm nm (defArgs st) (defBody st) (defScope st) .none kV doc pm an cdv ct) ⟨us, []⟩ = pure (ps.zip us)) :
    ∃ (c C : Addr), (∀ base : Heap, LamX.TabB base mg c C → DefAtT K mg base x nm ps st C) ∧ h.get? C = some { cls := .none, data := .fields #[] } ∧ K.lookup C = none ∧ PySem.W.CodeHd h c C :=
  ⟨c, C, fun base TB => ⟨f, c, oc, kV, dc, pm, ct, od, an, sl, PySem.W.mg_of X G a, kp, l, cd, (fun_mk l cd kp).binds hb, TB⟩, hT C hin, hC, PySem.W.codeHd_of_K X ch⟩
end G
namespace G
open PySem L2
/-! ### the rest of a def that raises no more -/
def mNx (m : MS) : MS := fun ρ S => (m ρ S).nox
theorem iss_nox {X : Cx} {E : EX} {b : List Stmt} {m : MS} (h : ISs X.nox E1 b m) : ISs X E b (mNx m) := by
  obtain ⟨t, p, i⟩ := h
  exact ⟨t, p.nox, fun U S H σ ρ N s rl w => i U S H σ ρ N s rl (Wants.nox w)⟩
end G


set_option maxHeartbeats 2000000
namespace G
open PySem PySem.Spec PyProof.Rows L2
/-! ### a lambda that outlives its maker: its object is tracked -/
/-- what stands of a lambda that was made in X -/
def LamP (X : Cx) (params : Arguments) (body : Expr) (scope : Scope) : Hp → V → Prop := fun F v => ∃ (f c' : Addr) (pm ctv : Value), v = .ref f ∧
  F f = some (.frz (PySem.W.kla_obj "<lambda>" (X.env.qual ++ "<lambda>") params body scope (cloFrom X.env.cells scope.names []) pm c' ctv) (.own 0)) ∧ F c' = some (LamX.CodeO c' (X.env.qual ++ "<lambda>"))
theorem LamP.sub {X : Cx} {params : Arguments} {body : Expr} {scope : Scope} {F F' : Hp} {v : V} (s : Sub F F') (h : LamP X params body scope F v) : LamP X params body scope F' v := by
  obtain ⟨f, c', pm, ctv, e, h1, h2⟩ := h
  exact ⟨f, c', pm, ctv, e, s _ _ h1, s _ _ h2⟩
section
variable {X : Cx} {pins : List (Addr × Obj)} {σ : L2.St} {H : Hp} {s : Shared} {U : Wd} {S : Sto}
theorem lam_mkF {l : Nat} {c P : Addr} {params : Arguments} {body : Expr} {scope : Scope} {pos : Pos} {E : Value → Shared → Prop} {Q : Value → Shared → Prop} (I : Inv X pins σ H s) (sat : Sat X.K U S H) (hS : S[l]? = some (some (.tab P (X.env.qual ++ "<lambda>"))))
    (TB : LamX.TabB X.base X.mg c P) (hcode : X.env.code = .ref c) (hdef : defaultsOf params X.env = ([], [])) (hfree : ∀ y ∈ scope.names, y.2 = .free → ∃ c, X.env.cells.lookup y.1 = some c)
    (h : ∀ (f : Addr) (U1 : Wd) (H1 : Hp) (s' : Shared), Inv X pins σ H1 s' → Step U H U1 H1 → Sat X.K U1 S H1 → LamP X params body scope U1.F (.ref f) → Q (.ref f) s') :
    wpAny (model X.prog X.w) X.A (eval (.Lambda params body scope pos) X.env) Q E s := by
  obtain ⟨a, ha⟩ := sat.tot l (List.getElem?_eq_some_iff.mp hS).1
  obtain ⟨hF, o, hH, eP, ps, eo, tri, all⟩ := sat.ob l a _ ha hS
  subst eP eo
  have gP := I.hok a _ hH
  refine PySem.W.kla_eval hdef ?_
  cases hc : codeAmong pos ps.toList with
  | some cv =>
    obtain ⟨c', rfl, hco⟩ := all pos cv hc
    refine PySem.W.kla_makeFunctionHit (mg := X.mg) (c := c) (P := a) (ps := ps) (closure_ok hfree) I.ok.glob (I.mod.glob.keeps I.bk) hcode (TB.code.keeps I.bk) gP tri hc (TB.bm.keeps I.bk) fun ctv h' tk hx hsz => ?_
    have hp : H h'.objs.size = none := I.hok.fresh hsz
    have eg : (h'.push (PySem.W.kla_obj "<lambda>" (X.env.qual ++ "<lambda>") params body scope (cloFrom X.env.cells scope.names []) ((X.mg "__name__").getD .none) c' ctv)).get? h'.objs.size = some (PySem.W.kla_obj "<lambda>" (X.env.qual ++ "<lambda>") params body scope (cloFrom X.env.cells scope.names []) ((X.mg "__name__").getD .none) c' ctv) := Heap.get?_push_size _ rfl
    exact h h'.objs.size _ _ _ (I.laid (t' := tk) (a := h'.objs.size) (o := .frz (PySem.W.kla_obj "<lambda>" (X.env.qual ++ "<lambda>") params body scope (cloFrom X.env.cells scope.names []) ((X.mg "__name__").getD .none) c' ctv) (.own 0)) (fun b o e => Heap.get?_push_of_some _ (hx b o e)) hsz ⟨eg, _, eg⟩) (Step.alloc hp (sat.no hp)) (sat.alloc hp) ⟨_, c', _, ctv, rfl, upd_same, Sub.upd (sat.no hp) _ _ hco⟩
  | none =>
    refine PySem.W.kla_makeFunction (mg := X.mg) (c := c) (P := a) (ps := ps) (closure_ok hfree) I.ok.glob (I.mod.glob.keeps I.bk) hcode (TB.code.keeps I.bk) gP tri hc TB.gP (TB.bm.keeps I.bk) fun c' ctv h' tk hx hge hlt hrec htb => ?_
    obtain ⟨c2, oc, vs, t, e2, hoc, hd, hv⟩ := hrec
    cases e2
    have big : s.heap.objs.size ≤ h'.objs.size := by omega
    have fc : H c' = none := I.hok.fresh hge
    have nac : a ≠ c' := ne_of_none hH fc
    have eL : (ps ++ #[rawInt pos.line, rawInt pos.col, .ref c']).toList = ps.toList ++ [rawInt pos.line, rawInt pos.col, .ref c'] := by simp
    have s1 := (sat.alloc (o := LamX.CodeO c' (X.env.qual ++ "<lambda>")) fc).put (c := .tab a (X.env.qual ++ "<lambda>")) (o := .tbl (ps ++ #[rawInt pos.line, rawInt pos.col, .ref c'])) ha hS ⟨rfl, _, rfl, by rw [eL]; exact PySem.TriplesOk_snoc _ _ _ _ tri, fun p' cv hcv => by
      rw [eL] at hcv
      rcases LamX.among_app _ tri hcv with q | q
      · obtain ⟨c0, e1, e2⟩ := all p' cv q
        exact ⟨c0, e1, Sub.upd (sat.no fc) _ _ e2⟩
      · exact ⟨c', q, upd_same⟩⟩ trivial
    rw [set_self hS, upd_swap nac.symm] at s1
    have st1 := (Step.alloc (U := U) (o := LamX.CodeO c' (X.env.qual ++ "<lambda>")) fc (sat.no fc)).trans (Step.put (U := ⟨upd U.F c' (LamX.CodeO c' (X.env.qual ++ "<lambda>")), U.io⟩) (o := .tbl (ps ++ #[rawInt pos.line, rawInt pos.col, .ref c'])) ha (by show upd U.F c' _ a = none; rw [upd_ne nac]; exact hF))
    rw [upd_swap nac.symm] at st1
    have I1 := LamX.inv_table (t' := tk) (h' := h') (more := #[rawInt pos.line, rawInt pos.col, .ref c']) (q := X.env.qual ++ "<lambda>") I hH hx htb hge ⟨oc, vs, t, hoc, hd, hv⟩
    have hp := I1.hok.fresh (Nat.le_refl h'.objs.size)
    have eg : (h'.push (PySem.W.kla_obj "<lambda>" (X.env.qual ++ "<lambda>") params body scope (cloFrom X.env.cells scope.names []) ((X.mg "__name__").getD .none) c' ctv)).get? h'.objs.size = some (PySem.W.kla_obj "<lambda>" (X.env.qual ++ "<lambda>") params body scope (cloFrom X.env.cells scope.names []) ((X.mg "__name__").getD .none) c' ctv) := Heap.get?_push_size _ rfl
    exact h h'.objs.size _ _ _ (I1.laid (t' := tk) (a := h'.objs.size) (h' := h'.push (PySem.W.kla_obj "<lambda>" (X.env.qual ++ "<lambda>") params body scope (cloFrom X.env.cells scope.names []) ((X.mg "__name__").getD .none) c' ctv)) (o := .frz (PySem.W.kla_obj "<lambda>" (X.env.qual ++ "<lambda>") params body scope (cloFrom X.env.cells scope.names []) ((X.mg "__name__").getD .none) c' ctv) (.own 0)) (fun b o e => Heap.get?_push_of_some _ e) (Nat.le_refl _) ⟨eg, _, eg⟩)
      (st1.trans (Step.alloc hp (s1.no hp))) (s1.alloc hp) ⟨_, c', _, ctv, rfl, upd_same, Sub.upd (s1.no hp) _ _ upd_same⟩
end
section
variable {X : Cx} {E : EX}
/-- the lambda's reading; the maker's table stands in the store at l -/
def tLamb (X : Cx) (l : Nat) (P : Addr) (params : Arguments) (body : Expr) (scope : Scope) : TE := fun _ H Q => ∃ U S, Sat X.K U S H ∧ S[l]? = some (some (.tab P (X.env.qual ++ "<lambda>"))) ∧ ∀ U1 H1 v, Step U H U1 H1 → Sat X.K U1 S H1 → LamP X params body scope U1.F v → Q v H1
theorem pe_lamF {l : Nat} {c P : Addr} {params : Arguments} {body : Expr} {scope : Scope} {pos : Pos} (TB : LamX.TabB X.base X.mg c P) (hcode : X.env.code = .ref c) (hdef : defaultsOf params X.env = ([], [])) (L : LamX.LamS X.env.scope scope) :
    PE X (.Lambda params body scope pos) (tLamb X l P params body scope) := by
  refine ⟨fun pins s σ H Q I hq => ?_⟩
  obtain ⟨U, S, sat, hS, k⟩ := hq
  exact lam_mkF I sat hS TB hcode hdef (L.has I.ok) fun f U1 H1 s' I1 st1 s1 lp => ⟨.ref f, H1, I1, rfl, k U1 H1 _ st1 s1 lp⟩
open Classical in
/-- found = [lambda: ..] -/
noncomputable def mNewD (l : Nat) (P : Addr) (q : Str) (φ : Hp → V → Prop) : ME := fun _ S => if S[l]? = some (some (.tab P q)) then .ok (.r S.length) (S ++ [some (.drs [φ])]) else .stuck
theorem ie_newD {l : Nat} {c P : Addr} {params : Arguments} {body : Expr} {scope : Scope} {lpos pos : Pos} (TB : LamX.TabB X.base X.mg c P) (hcode : X.env.code = .ref c) (L : LamX.LamS X.env.scope scope) (hdef : defaultsOf params X.env = ([], []) := by rfl) :
    IE X E (.List [.Lambda params body scope lpos] pos) (mNewD l P (X.env.qual ++ "<lambda>") (LamP X params body scope)) := by
  refine ⟨_, pe_lst (pa_cons (pe_lamF (l := l) TB hcode hdef L) pa_nil), fun U S H σ ρ Q s rl w => ?_⟩
  unfold mNewD at w
  split at w
  · next hS =>
    refine ⟨U, S, s, hS, fun U1 H1 v st1 s1 lp => ⟨by show 1 ≤ sizeLine; decide, fun p hp => ?_⟩⟩
    exact w _ _ (st1.trans (Step.new s1 hp)) (s1.new (b := .drs [LamP X params body scope]) hp ⟨[v], rfl, .cons (fun F' sb => lp.sub sb) .nil⟩ trivial) _ ⟨p, Wd.more_last _ _ _, rfl⟩
  · exact w.elim
open Classical in
/-- found.append(lambda: ..) -/
noncomputable def mAppD (i l : Nat) (P : Addr) (q : Str) (φ : Hp → V → Prop) : ME := fun ρ S => match ρ[i]? with
  | some (some (.r n)) => (match S[n]? with
    | some (some (.drs ds)) => if S[l]? = some (some (.tab P q)) ∧ ds.length ≤ 1000 then .ok (.p .none) (S.set n (some (.drs (ds ++ [φ])))) else .stuck
    | _ => .stuck)
  | _ => .stuck
theorem Paired.app {α β : Type} {R : α → β → Prop} : ∀ {xs : List α} {ys : List β} {x : α} {y : β}, Paired R xs ys → R x y → Paired R (xs ++ [x]) (ys ++ [y])
  | _, _, _, _, .nil, h => .cons h .nil
  | _, _, _, _, .cons r t, h => .cons r (Paired.app t h)
theorem ie_appD {i l : Nat} {c P : Addr} {x : Str} {params : Arguments} {body : Expr} {scope : Scope} {lpos p1 apos cpos : Pos} (TB : LamX.TabB X.base X.mg c P) (hcode : X.env.code = .ref c) (L : LamX.LamS X.env.scope scope) (hv : PE X (.Name x p1) (tVar i)) (hdef : defaultsOf params X.env = ([], []) := by rfl)
    (hbase : attributeBase (.Name x p1) "append" X.env (eval (.Name x p1) X.env) = eval (.Name x p1) X.env := by rfl) (hline : (apos.endLine == cpos.line) = true := by rfl) :
    IE X E (.Call (.Attribute (.Name x p1) "append" apos) [.Lambda params body scope lpos] [] cpos) (mAppD i l P (X.env.qual ++ "<lambda>") (LamP X params body scope)) := by
  refine ⟨_, pe_bm PySem.F.plainAttrs_list PySem.F.slot_list_append PySem.F.type_list_append mt_append hv (pa_cons (pe_lamF (l := l) TB hcode hdef L) pa_nil) hbase rfl hline rfl rfl, fun U S H σ ρ Q s rl w => ?_⟩
  unfold mAppD at w
  split at w
  · next n hn =>
    split at w
    · next ds hd =>
      split at w
      · next hh =>
        obtain ⟨hS, hlen⟩ := hh
        obtain ⟨v, hv, a, ha, rfl⟩ := rl.get i _ hn
        obtain ⟨hF, o, hH, xs, rfl, pr⟩ := s.ob n a _ ha hd
        refine ⟨.ref a, hv, .inl ⟨rfl, xs, .inl (.inl hH)⟩, U, S, s, hS, fun U1 H1 v st1 s1 lp => ?_⟩
        have ha1 := st1.ei _ _ ha
        obtain ⟨hF1, o1, hH1, xs1, rfl, pr1⟩ := s1.ob n a _ ha1 hd
        refine ⟨a, xs1, v, rfl, rfl, hH1, ?_, ?_⟩
        · have := Paired.length pr1
          rw [← this]
          exact Nat.lt_of_le_of_lt hlen (by decide)
        · exact w _ _ (st1.trans (Step.put ha1 hF1)) (s1.put (c := .drs (ds ++ [LamP X params body scope])) ha1 hd ⟨xs1 ++ [v], rfl, Paired.app pr1 fun F' sb => lp.sub sb⟩ trivial) _ .non
      · exact w.elim
    · exact w.elim
  · exact w.elim
end
end G


set_option maxHeartbeats 2000000
namespace G
open PySem PySem.Spec PyProof.Rows L2
/-! ### a door: a lambda whose maker is gone, called; it raises -/
def DoorP (P : Program) (w : World) (K : PySem.W.Frag) (mg : Str → Option Value) (base : Heap) (cl : Nat → Value) (k c : Nat) : Hp → V → Prop := fun F v => ∃ (f c' : Addr) (q : Str), v = .ref f ∧ F c' = some (LamX.CodeO c' q) ∧
  ∀ (Y : Cx) (W : WX) (Ex : XK) (a : Str) (i : Nat) (p1 p2 : Pos), Y.prog = P → Y.w = w → Y.K = K → Y.mg = mg → Y.base = base → L2N.Takes Y W → (∀ cls d σ' H', Ex cls d H' → W cls d σ' H') → Room (k + 1) Y.A → PE Y (.Name a p1) (tVar i) →
    PE Y (.Call (.Name a p1) [] [] p2) (fun σZ HZ Q => σZ[i]? = some (some (.ref f)) ∧ Le F HZ ∧ ∀ H', GH.Ext HZ H' → Ex (cl c) none H')
/-- the addresses of X's cells -/
def IsC (X : Cx) (b : Addr) : Prop := ∃ y, X.env.cells.lookup y = some b
open Classical in
/-- without the cells -/
noncomputable def less (p : Addr → Prop) (H : Hp) : Hp := fun b => if p b then none else H b
open Classical in
/-- with the cells, as they stand in H0 -/
noncomputable def back (p : Addr → Prop) (H0 H : Hp) : Hp := fun b => if p b then H0 b else H b
theorem less_c {p : Addr → Prop} {H : Hp} {b : Addr} (h : p b) : less p H b = none := if_pos h
theorem less_n {p : Addr → Prop} {H : Hp} {b : Addr} (h : ¬ p b) : less p H b = H b := if_neg h
theorem back_c {p : Addr → Prop} {H0 H : Hp} {b : Addr} (h : p b) : back p H0 H b = H0 b := if_pos h
theorem back_n {p : Addr → Prop} {H0 H : Hp} {b : Addr} (h : ¬ p b) : back p H0 H b = H b := if_neg h
theorem less_none {p : Addr → Prop} {H : Hp} {b : Addr} (h : H b = none) : less p H b = none := by
  by_cases q : p b
  · exact less_c q
  · rw [less_n q]; exact h
theorem less_some {p : Addr → Prop} {H : Hp} {b : Addr} {u : HO} (h : less p H b = some u) : ¬ p b ∧ H b = some u := by
  by_cases q : p b
  · rw [less_c q] at h; cases h
  · rw [less_n q] at h; exact ⟨q, h⟩
/-- what is known of the cells -/
structure Cells (X : Cx) (σ : L2.St) (F : Hp) : Prop where
  at_ : ∀ y c, X.env.cells.lookup y = some c → ∃ o v, F c = some (.frz o (.own 0)) ∧ o.data = .cell v
  val : ∀ (i : Nat) (y : Str) (c : Addr) (v : V), X.N[i]? = some y → σ[i]? = some (some v) → X.env.cells.lookup y = some c → ∃ o u, F c = some (.frz o (.own 0)) ∧ o.data = .cell (some u) ∧ RelV v u
theorem Le.frz {F H : Hp} (h : Le F H) {a : Addr} {o : Obj} (e : F a = some (.frz o (.own 0))) : H a = some (.frz o (.own 0)) := by
  rcases h _ _ e with q | ⟨_, _, q⟩
  · exact q
  · cases q
section
variable {X : Cx} {σ : L2.St} {F HZ : Hp} {s1 : Shared}
theorem less_hok {P : Program} {w : World} {p : Addr → Prop} {H : Hp} {h : Heap} (x : HOk P w H h) (hp : ∀ b, p b → ∃ o, H b = some (.frz o (.own 0))) : HOk P w (less p H) h := fun b u e => by
  obtain ⟨nb, e⟩ := less_some e
  refine (x b u e).stay (fun _ _ _ q => q) (fun c q => ?_) fun c xs q => ?_
  · rw [less_n]; exact q
    intro z
    obtain ⟨o, z⟩ := hp c z
    rw [q] at z; cases z
  · rw [less_n]; exact q
    intro z
    obtain ⟨o, z⟩ := hp c z
    rw [q] at z; cases z
theorem lam_startD {A : Around} {outer : List Env} {E : XK} {scope : Scope} {f c' : Addr} {h₁ : Heap} {tk : Nat} (ok : X.Ok) (hlen : σ.length = X.N.length) (L : LamX.LamS X.env.scope scope) (C : Cells X σ F) (le : Le F HZ) (e0 : Env0 X.prog X.w X.K X.mg X.base A outer s1 HZ) (hd : A.handled = none)
    (hns : h₁.Ns s1.heap.objs.size fun y => ([] : List (Str × Value)).reverse.lookup y) (kp : ∀ b o, s1.heap.get? b = some o → h₁.get? b = some o) :
    Inv (LamX.lamCx X A outer s1 (less (IsC X) HZ) E scope f c') [] σ (less (IsC X) HZ) { s1 with heap := h₁, toks := tk } := by
  have hfree := L.has ok
  have isc : ∀ b, IsC X b → ∃ o, HZ b = some (.frz o (.own 0)) := fun b ⟨y, e⟩ => by
    obtain ⟨o, v, h1, _⟩ := C.at_ y b e
    exact ⟨o, le.frz h1⟩
  have hok' : HOk X.prog X.w (less (IsC X) HZ) s1.heap := less_hok e0.hok isc
  have cm : ∀ {y c}, (cloFrom X.env.cells scope.names []).lookup y = some c → X.env.cells.lookup y = some c := fun {y c} e => by
    rcases cloFrom_mem (PySem.mem_of_lookup e) with hm | ⟨h1, h2⟩
    · cases hm
    · obtain ⟨c1, hc⟩ := hfree _ h1 rfl
      have hc : X.env.cells.lookup y = some c1 := hc
      have e2 : c = c1 := by
        rw [h2, hc] <;> rfl
      rw [e2]
      exact hc
  have look : ∀ {y}, scope.names.lookup y = some .free → ∃ c, (cloFrom X.env.cells scope.names []).lookup y = some c := fun {y} hl => by
    have hy : (y, NameKind.free) ∈ scope.names := PySem.mem_of_lookup hl
    exact mem_lookup (cloFrom_has (cells := X.env.cells) (acc := []) hy)
  have noA : ∀ b : Addr, b ∉ (LamX.lamCx X A outer s1 (less (IsC X) HZ) E scope f c').ex := fun b z => absurd (show b ∈ ([] : List Addr) from z) (by simp)
  refine ⟨⟨e0.mod, L.kind, rfl, rfl, Nat.le_refl _, fun y z c e1 e2 => ok.inj y z c (cm e1) (cm e2), fun y hy => ?_, fun y c z _ => ?_, fun _ => hd, Around.frames_deeper e0.frames, .inr ⟨rfl, rfl⟩, fun b z => absurd z (noA b), fun b o e => ⟨(e0.bs b o e).1, less_none (e0.bs b o e).2⟩, e0.bsz, fun b _ _ => noA b,
      fun b z => absurd z (noA b), e0.funs, fun b hb => less_none (e0.frf b hb)⟩,
    rfl, e0.bare, Un.kept kp, ⟨_, hns, fun i y v e1 e2 e3 => ?_⟩, fun y c e => ?_, hok'.fresh (Nat.le_refl _), fun y c e => less_c ⟨y, cm e⟩, fun q hq => absurd (show q ∈ ([] : List (Addr × Obj)) ++ [] from hq) (by simp), hok'.kept kp, hlen⟩
  · have hy : scope.names.lookup y = some .cell ∨ scope.names.lookup y = some .free := hy
    rcases hy with hy | hy
    · exact absurd rfl (L.own _ (PySem.mem_of_lookup hy)).2
    · exact look hy
  · have z : false = true := z
    cases z
  · have e3 : Vis scope y := e3
    rcases e3 with k | k | k
    · exact absurd rfl (L.own _ (PySem.mem_of_lookup k)).1
    · exact absurd rfl (L.own _ (PySem.mem_of_lookup k)).2
    · obtain ⟨c2, h2⟩ := look k
      obtain ⟨o, u, h3, h4, r⟩ := C.val i y c2 v e1 e2 (cm h2)
      obtain ⟨h5, _⟩ := e0.hok c2 _ (le.frz h3)
      exact ⟨u, r, .inr ⟨.inr k, c2, h2, o, kp _ _ h5, h4⟩⟩
  · obtain ⟨o, v, h1, h2⟩ := C.at_ y c (cm e)
    obtain ⟨h5, _⟩ := e0.hok c _ (le.frz h1)
    exact ⟨v, o, kp _ _ h5, h2⟩
/-- the exception's end, seen with the cells -/
theorem cx_back {P : Program} {w : World} {p : Addr → Prop} {outer : List Env} {Ex : XK} {u : Value} {s' : Shared} (hok : HOk P w HZ s1.heap) (hfr : ∀ b ∈ frs outer, HZ b = none) (hp : ∀ b, p b → ∃ o, HZ b = some (.frz o (.own 0)))
    (h : L2N.CX P w outer (less p HZ) s1 (fun cls d H' => Ex cls d (back p HZ H')) u s') : L2N.CX P w outer HZ s1 Ex u s' := by
  obtain ⟨a, B, H', cls, d, rfl, fl, hokB, ub, na, os, ag, hE⟩ := h
  have cB : ∀ b, p b → ∃ o, HZ b = some (.frz o (.own 0)) ∧ B.get? b = some o ∧ H' b = none := fun b hb => by
    obtain ⟨o, e⟩ := hp b hb
    obtain ⟨e1, _⟩ := hok b _ e
    refine ⟨o, e, ub.keep b o e1 (less_c hb) (fun z => ?_), ub.free b o e1 (less_c hb)⟩
    rw [hfr b z] at e; cases e
  have ext : ∀ b u, H' b = some u → back p HZ H' b = some u := fun b u e => by
    rw [back_n]; exact e
    intro z
    obtain ⟨_, _, _, q⟩ := cB b z
    rw [q] at e; cases e
  refine ⟨a, B, back p HZ H', cls, d, rfl, fl, fun b u e => ?_, ⟨fun b o e n hb => ub.keep b o e (less_none n) hb, ub.slot, fun b o e n => ?_, ub.there, fun b xs e => ?_, fun b o xs e => ?_, fun b ps e => ?_⟩, ?_, os, ag, hE⟩
  · by_cases z : p b
    · rw [back_c z] at e
      obtain ⟨o, e1, e2, _⟩ := cB b z
      rw [e1] at e; cases e
      exact ⟨e2, _, e2⟩
    · rw [back_n z] at e
      exact (hokB b u e).stay (fun _ _ _ q => q) (fun c q => ext c _ q) fun c xs q => ext c _ q
  · have z : ¬ p b := fun z => by
      obtain ⟨o', q⟩ := hp b z
      rw [n] at q; cases q
    rw [back_n z]; exact ub.free b o e (less_none n)
  · have z : ¬ p b := fun z => by
      obtain ⟨o', q⟩ := hp b z
      rw [e] at q; cases q
    rw [back_n z]; exact ub.tups b xs (by rw [less_n z]; exact e)
  · by_cases z : p b
    · rw [back_c z]; exact e
    · rw [back_n z]; exact ub.frzs b o xs (by rw [less_n z]; exact e)
  · have z : ¬ p b := fun z => by
      obtain ⟨o', q⟩ := hp b z
      rw [e] at q; cases q
    rw [back_n z]; exact ub.tbls b ps (by rw [less_n z]; exact e)
  · have z : ¬ p a := fun z => by
      obtain ⟨o, _, q, _⟩ := cB a z
      rw [fl.2.1] at q; cases q
    rw [back_n z]; exact na
theorem door_ok {cl : Nat → Value} {k c : Nat} {params : Arguments} {body : Expr} {scope : Scope} {m : ME} {ρ : Loc} {S1 : Sto} {F0 : Hp} {v : V} (ok : X.Ok) (hlen : σ.length = X.N.length) (L : LamX.LamS X.env.scope scope) (C : Cells X σ F) (sub : Sub F0 F) (nc : ∀ b, IsC X b → F0 b = none)
    (rl : RelL X.K ⟨F0, fun _ => none⟩ ρ σ) (hP : LamP X params body scope F v)
    (hbind : ∀ (q : Str) (cl : List (Str × Addr)) (pm cv ctv : Value), bindArgs (PySem.W.kla_fn "<lambda>" q params body scope cl pm cv ctv) ⟨[], []⟩ = pure [])
    (hbody : ∀ (A : Around) (outer : List Env) (s : Shared) (H : Hp) (Ex : XK) (f c' : Addr), Room k (A.deeper (LamX.lamEnv X scope s.heap.objs.size f c')) → IE (lamN X A outer s H Ex scope f c') (exOf cl Ex) body m) (hm : m ρ [] = .exc c S1) :
    DoorP X.prog X.w X.K X.mg X.base cl k c F v := by
  obtain ⟨f, c', pm, ctv, rfl, hf, hc'⟩ := hP
  refine ⟨f, c', _, rfl, hc', ?_⟩
  rintro Y W Ex a i p1 p2 e1 e2 e3 e4 e5 tk hW hr hv
  refine ⟨fun pz sZ σZ HZ Q IZ hq => ?_⟩
  obtain ⟨q1, le, q3⟩ := hq
  refine wpAny_Call_Name_kw (thn (hv.run pz sZ σZ HZ (fun v H1 => v = .ref f ∧ H1 = HZ) IZ ⟨.ref f, q1, rfl, rfl⟩) fun u s1 hu => ?_)
  obtain ⟨v, H1, I1, r1, rfl, rfl⟩ := hu
  obtain rfl : u = Value.ref f := r1
  obtain ⟨of1, _⟩ := I1.hok f _ (le.frz hf)
  have q2 : H1 c' = some (LamX.CodeO c' (X.env.qual ++ "<lambda>")) := by
    rcases le _ _ hc' with q | ⟨_, _, q⟩
    · exact q
    · cases q
  have isc : ∀ b, IsC X b → ∃ o, H1 b = some (.frz o (.own 0)) := fun b ⟨y, e⟩ => by
    obtain ⟨o, v, h1, _⟩ := C.at_ y b e
    exact ⟨o, le.frz h1⟩
  refine PySem.W.callWith_F0 ⟨_, _, _, _, of1⟩ ?_
  obtain ⟨⟨oc, vs, t, hoc, hdc, hvc⟩, _, _⟩ := I1.hok c' _ q2
  have e0 : Env0 X.prog X.w X.K X.mg X.base Y.A Y.stack s1 H1 := by rw [← e1, ← e2, ← e3, ← e4, ← e5]; exact I1.env0
  rw [e1, e2]
  refine wpAny_call (codeAny_mono (R := CR (L2N.CX X.prog X.w) Y.stack X.prog X.w H1 s1 Q Ex) ?_ fun r s' hh => ?_)
  · refine PySem.W.kla_callFunE hr.depth of1 rfl L.co L.gen rfl ⟨c', oc, vs, t, rfl, hoc, hdc, hvc⟩ ?_
    refine wpAny_of_eq (a := ([] : List (Str × Value))) (hbind _ _ _ _ _) (wpAny_newFunctionEnv (fun y hy => (L.own y hy).2) (fun y hy => absurd hy (by simp)) (fun h₁ hns hsb => ⟨I1.nolimit.fresh _ hsb, ?_⟩) L.kind)
    have kp : ∀ b o, s1.heap.get? b = some o → h₁.get? b = some o := fun b o e => hsb.extBut b o (Nat.ne_of_lt (Heap.lt_size e)) (Heap.get?_push_of_some _ e)
    have J := (lam_startD (E := fun cls d H' => Ex cls d (back (IsC X) H1 H')) (f := f) (c' := c') (tk := s1.toks + ([] : List (Str × Value)).length) ok hlen L C le e0 hr.hd hns kp).wish (fun e s' => wpAny (model X.prog X.w) (Y.A.deeper (LamX.lamEnv X scope s1.heap.objs.size f c')) (leaving (LamX.lamEnv X scope s1.heap.objs.size f c') e) (fun _ s'' => L2N.CX X.prog X.w Y.stack (less (IsC X) H1) s1 (fun cls d H' => Ex cls d (back (IsC X) H1 H')) e s'') (fun e' s'' => L2N.CX X.prog X.w Y.stack (less (IsC X) H1) s1 (fun cls d H' => Ex cls d (back (IsC X) H1 H')) e' s'') s')
    obtain ⟨tb, pb, ib⟩ := hbody Y.A Y.stack s1 (less (IsC X) H1) (fun cls d H' => Ex cls d (back (IsC X) H1 H')) f c' (hr.deeper _)
    have sat0 : Sat X.K ⟨F0, fun _ => none⟩ [] (less (IsC X) H1) := by
      refine ⟨fun b o e => ?_, fun l b e => (nomatch e), fun l e => absurd e (Nat.not_lt_zero _), fun l l' b e => (nomatch e), fun l b o e => (nomatch e), fun l b e => (nomatch e), fun l b e => by simp at e⟩
      have nb : ¬ IsC X b := fun z => by
        have := nc b z
        rw [show F0 b = some o from e] at this; cases this
      rw [less_n nb]
      exact le b o (sub b o e)
    have run := pb.run [] _ σ (less (IsC X) H1) (fun _ _ => False) J (ib _ _ _ σ ρ _ sat0 rl (by
      rw [hm]
      intro U2 H2 st2 s2
      refine q3 _ fun b o e => ?_
      by_cases z : IsC X b
      · rw [back_c z]; exact e
      · rw [back_n z]; exact st2.fr b o (by rw [less_n z]; exact e) fun l e => nomatch e))
    refine PySem.W.kla_codeExpr (wpAny_mono run (fun v s' hv => ?_) fun e s' hv => ?_)
    · obtain ⟨w', H', J', rv, q⟩ := hv
      exact q.elim
    · exact wpAny_mono hv (fun _ s'' z => cx_back e0.hok e0.frf isc z) fun _ s'' z => cx_back e0.hok e0.frf isc z
  · cases r with
    | error e =>
      refine L2N.passes_call tk hW pz σZ H1 s1 e s' I1 ?_
      rw [e1, e2]; exact hh
    | ok fl =>
      cases fl with
      | ret u =>
        refine I1.after ?_
        rw [e1, e2]; exact hh
      | next => exact False.elim hh
      | brk => exact False.elim hh
      | cont => exact False.elim hh
end
end G


set_option maxHeartbeats 2000000
namespace G
open PySem PySem.Spec PyProof.Rows L2
/-! ### a def that hands back a new list of lambdas -/
structure LamOk (X : Cx) (cl : Nat → Value) (k : Nat) (params : Arguments) (body : Expr) (scope : Scope) (m : ME) : Prop where
  L : LamX.LamS X.env.scope scope
  bind : ∀ (q : Str) (cl : List (Str × Addr)) (pm cv ctv : Value), bindArgs (PySem.W.kla_fn "<lambda>" q params body scope cl pm cv ctv) ⟨[], []⟩ = pure []
  body : ∀ (A : Around) (outer : List Env) (s : Shared) (H : Hp) (Ex : XK) (f c' : Addr), Room k (A.deeper (LamX.lamEnv X scope s.heap.objs.size f c')) → IE (lamN X A outer s H Ex scope f c') (exOf cl Ex) body m
/-- its statements, with what its lambdas do -/
inductive Lams (X : Cx) (l i : Nat) (C : Addr) (cl : Nat → Value) (k : Nat) : Bool → List Stmt → List ME → Prop
  | ret {r : Str} {p1 p2 : Pos} : PE X (.Name r p1) (tVar i) → Lams X l i C cl k false [.Return (some (.Name r p1)) p2] []
  | more {st : Stmt} {sts : List Stmt} {m : ME} {ms : List ME} {params : Arguments} {body : Expr} {scope : Scope} : IS X E1 st (mDrop (mAppD i l C (X.env.qual ++ "<lambda>") (LamP X params body scope))) → LamOk X cl k params body scope m → Lams X l i C cl k false sts ms → Lams X l i C cl k false (st :: sts) (m :: ms)
  | first {st : Stmt} {sts : List Stmt} {m : ME} {ms : List ME} {params : Arguments} {body : Expr} {scope : Scope} : IS X E1 st (mAsg (mNewD l C (X.env.qual ++ "<lambda>") (LamP X params body scope)) (gN i)) → LamOk X cl k params body scope m → Lams X l i C cl k false sts ms → Lams X l i C cl k true (st :: sts) (m :: ms)
abbrev LamOf (X : Cx) (cl : Nat → Value) (k : Nat) : (Hp → V → Prop) → ME → Prop := fun ψ m => ∃ params body scope, ψ = LamP X params body scope ∧ LamOk X cl k params body scope m
section
variable {X : Cx} {l i k : Nat} {C : Addr} {cl : Nat → Value}
/-- what stands behind the def's body -/
def MkEnd (X : Cx) (cl : Nat → Value) (k : Nat) (pins : List (Addr × Obj)) (U : Wd) (H : Hp) (ρ : Loc) (S0 : Sto) (φs : List (Hp → V → Prop)) (ms : List ME) (fl : Flow) (s' : Shared) : Prop := ∃ (a : Addr) (σ' : L2.St) (H' : Hp) (U' : Wd) (ψs : List (Hp → V → Prop)), fl = .ret (.ref a) ∧ Inv X pins σ' H' s' ∧ Step U H U' H' ∧
  Sat X.K U' (S0 ++ [some (.drs (φs ++ ψs))]) H' ∧ RelL X.K U' ρ σ' ∧ U'.io S0.length = some a ∧ Paired (LamOf X cl k) ψs ms
theorem MkEnd.step {pins : List (Addr × Obj)} {U U1 : Wd} {H H1 : Hp} {ρ : Loc} {S0 : Sto} {φs : List (Hp → V → Prop)} {φ : Hp → V → Prop} {m : ME} {ms : List ME} {fl : Flow} {s' : Shared} (st : Step U H U1 H1) (hl : LamOf X cl k φ m) (h : MkEnd X cl k pins U1 H1 ρ S0 (φs ++ [φ]) ms fl s') : MkEnd X cl k pins U H ρ S0 φs (m :: ms) fl s' := by
  obtain ⟨a, σ', H', U', ψs, e, I, st2, sat, rl, io, pr⟩ := h
  exact ⟨a, σ', H', U', φ :: ψs, e, I, st.trans st2, by rw [List.append_assoc] at sat; exact sat, rl, io, .cons hl pr⟩
theorem run_lams {sts : List Stmt} {ms : List ME} {b : Bool} (h : Lams X l i C cl k b sts ms) : b = false → ∀ {pins : List (Addr × Obj)} {s : Shared} {σ : L2.St} {H : Hp} {U : Wd} {S0 : Sto} {φs : List (Hp → V → Prop)} {ρ : Loc}, Inv X pins σ H s → Sat X.K U (S0 ++ [some (.drs φs)]) H → RelL X.K U ρ σ →
    ρ[i]? = some (some (.r S0.length)) → S0[l]? = some (some (.tab C (X.env.qual ++ "<lambda>"))) → φs.length + ms.length ≤ 1000 → wpAny (model X.prog X.w) X.A (execs sts X.env) (MkEnd X cl k pins U H ρ S0 φs ms) X.xe s := by
  induction h with
  | ret hv =>
    intro _ pins s σ H U S0 φs ρ I sat rl hi hS hn
    obtain ⟨v, hv1, a, ha, rfl⟩ := rl.get i _ hi
    refine wpAny_execs_cons (wpAny_Return_some (thn (hv.run pins s σ H (fun v H1 => v = .ref a ∧ H1 = H) I ⟨_, hv1, rfl, rfl⟩) fun u s1 hu => ?_))
    obtain ⟨v, H1, I1, r1, rfl, rfl⟩ := hu
    obtain rfl : u = Value.ref a := r1
    exact ⟨a, σ, H1, U, [], rfl, I1, Step.refl _ _, by rw [List.append_nil]; exact sat, rl, ha, .nil⟩
  | @more st sts m ms params body scope hs hl _ ih =>
    intro _ pins s σ H U S0 φs ρ I sat rl hi hS hn
    obtain ⟨t, p, im⟩ := hs
    rw [List.length_cons] at hn
    have hS' : (S0 ++ [some (Ob.drs φs)])[l]? = some (some (.tab C (X.env.qual ++ "<lambda>"))) := by
      rw [List.getElem?_append_left (List.getElem?_eq_some_iff.mp hS).1]; exact hS
    have hm : mDrop (mAppD i l C (X.env.qual ++ "<lambda>") (LamP X params body scope)) ρ (S0 ++ [some (.drs φs)]) = .ok (.nx, ρ) (S0 ++ [some (.drs (φs ++ [LamP X params body scope]))]) := by
      unfold mDrop mAppD
      rw [hi]
      simp only [List.getElem?_append_right (Nat.le_refl _), Nat.sub_self, List.getElem?_cons_zero]
      rw [if_pos ⟨hS', by omega⟩]
      simp [Res.bind, List.set_append_right]
    refine wpAny_execs_cons (thn (p.run pins s σ H { nx := fun σ1 H1 => ∃ U1, Step U H U1 H1 ∧ Sat X.K U1 (S0 ++ [some (.drs (φs ++ [LamP X params body scope]))]) H1 ∧ RelL X.K U1 ρ σ1, rt := fun _ _ => False, bk := fun _ _ => False, ct := fun _ _ => False } I (im U _ H σ ρ _ sat rl ?_)) fun f s1 q => ?_)
    · rw [hm]
      exact fun U' H' st s' σ' rl' => ⟨U', st, s', rl'⟩
    · cases f with
      | next =>
        obtain ⟨σ1, H1, I1, U1, st1, s1', rl1⟩ := q
        exact thn (ih rfl I1 s1' rl1 hi hS (by rw [List.length_append, List.length_singleton]; omega)) fun fl s2 q2 => q2.step st1 ⟨_, _, _, rfl, hl⟩
      | ret v => obtain ⟨_, _, _, _, _, z⟩ := q; exact z.elim
      | brk => obtain ⟨_, _, _, z⟩ := q; exact z.elim
      | cont => obtain ⟨_, _, _, z⟩ := q; exact z.elim
  | first _ _ _ _ => intro e; cases e
theorem run_first {sts : List Stmt} {ms : List ME} (h : Lams X l i C cl k true sts ms) {pins : List (Addr × Obj)} {s : Shared} {σ : L2.St} {H : Hp} {U : Wd} {S0 : Sto} {ρ : Loc} (I : Inv X pins σ H s) (sat : Sat X.K U S0 H) (rl : RelL X.K U ρ σ)
    (hi : i < ρ.length) (hS : S0[l]? = some (some (.tab C (X.env.qual ++ "<lambda>")))) (hn : ms.length ≤ 1000) : wpAny (model X.prog X.w) X.A (execs sts X.env) (MkEnd X cl k pins U H (ρ.set i (some (.r S0.length))) S0 [] ms) X.xe s := by
  cases h with
  | @first st sts m ms params body scope hs hl rest =>
    obtain ⟨t, p, im⟩ := hs
    rw [List.length_cons] at hn
    have hm : mAsg (mNewD l C (X.env.qual ++ "<lambda>") (LamP X params body scope)) (gN i) ρ S0 = .ok (.nx, ρ.set i (some (.r S0.length))) (S0 ++ [some (.drs [LamP X params body scope])]) := by
      unfold mAsg mNewD
      rw [if_pos hS]
      rfl
    refine wpAny_execs_cons (thn (p.run pins s σ H { nx := fun σ1 H1 => ∃ U1, Step U H U1 H1 ∧ Sat X.K U1 (S0 ++ [some (.drs [LamP X params body scope])]) H1 ∧ RelL X.K U1 (ρ.set i (some (.r S0.length))) σ1, rt := fun _ _ => False, bk := fun _ _ => False, ct := fun _ _ => False } I (im U _ H σ ρ _ sat rl ?_)) fun f s1 q => ?_)
    · rw [hm]
      exact fun U' H' st s' σ' rl' => ⟨U', st, s', rl'⟩
    · cases f with
      | next =>
        obtain ⟨σ1, H1, I1, U1, st1, s1', rl1⟩ := q
        exact thn (run_lams rest rfl I1 s1' rl1 (List.getElem?_set_self hi) hS (by rw [List.length_singleton]; omega)) fun fl s2 q2 => MkEnd.step (φs := []) st1 ⟨_, _, _, rfl, hl⟩ q2
      | ret v => obtain ⟨_, _, _, _, _, z⟩ := q; exact z.elim
      | brk => obtain ⟨_, _, _, z⟩ := q; exact z.elim
      | cont => obtain ⟨_, _, _, z⟩ := q; exact z.elim
end
/-! ### the end of the maker: its cells are tracked from now on -/
open Classical in
noncomputable def addC (p : Addr → Prop) (h : Heap) (H : Hp) : Hp := fun b => match H b with
  | some o => some o
  | none => if p b then (h.get? b).map fun o => .frz o (.own 0) else none
section
variable {p : Addr → Prop} {h : Heap} {H : Hp} {b : Addr} {u : HO} {o : Obj}
theorem addC_old (e : H b = some u) : addC p h H b = some u := by unfold addC; rw [e]
theorem addC_new (e : H b = none) (hp : p b) (ho : h.get? b = some o) : addC p h H b = some (.frz o (.own 0)) := by
  unfold addC; rw [e]; simp only; rw [if_pos hp, ho]; rfl
theorem addC_no (e : H b = none) (hp : ¬ p b) : addC p h H b = none := by
  unfold addC; rw [e]; simp only; rw [if_neg hp]
theorem addC_inv (e : addC p h H b = some u) : H b = some u ∨ (H b = none ∧ p b ∧ ∃ o, h.get? b = some o ∧ u = .frz o (.own 0)) := by
  cases q : H b with
  | some o => rw [addC_old q] at e; exact .inl e
  | none =>
    by_cases hp : p b
    · cases ho : h.get? b with
      | some o => rw [addC_new q hp ho] at e; cases e; exact .inr ⟨rfl, hp, o, rfl, rfl⟩
      | none => unfold addC at e; rw [q] at e; simp only at e; rw [if_pos hp, ho] at e; cases e
    · rw [addC_no q hp] at e; cases e
theorem addC_sub : Sub H (addC p h H) := fun _ _ e => addC_old e
theorem addC_hok {P : Program} {w : World} (x : HOk P w H h) : HOk P w (addC p h H) h := fun b u e => by
  rcases addC_inv e with q | ⟨_, _, o, ho, rfl⟩
  · exact (x b u q).stay (fun _ _ _ z => z) (fun _ z => addC_old z) fun _ _ z => addC_old z
  · exact ⟨ho, o, ho⟩
theorem addC_un {fs : List Addr} {H0 : Hp} {h0 : Heap} (x : Un fs [] H0 H h0 h) (hp : ∀ b, p b → h0.objs.size ≤ b) : Un fs [] H0 (addC p h H) h0 h where
  keep := x.keep
  slot := x.slot
  free := fun b o e n hx => addC_no (x.free b o e n hx) fun z => absurd (Nat.lt_of_lt_of_le (Heap.lt_size e) (hp b z)) (Nat.lt_irrefl _)
  there := x.there
  tups := fun b xs e => addC_old (x.tups b xs e)
  frzs := fun b o u e => addC_old (x.frzs b o u e)
  tbls := fun b ps e => let ⟨m, q⟩ := x.tbls b ps e; ⟨m, addC_old q⟩
end
theorem addC_step {p : Addr → Prop} {h : Heap} {U U' : Wd} {H H' : Hp} (t : Step U H U' H') (hp : ∀ b, p b → H b = none) : Step U H ⟨addC p h U'.F, U'.io⟩ (addC p h H') where
  ef := t.ef.trans addC_sub
  ei := t.ei
  fr := fun a o e n => addC_old (t.fr a o e n)
  ni := t.ni
  nf := fun a o e => by
    rcases addC_inv e with q | ⟨_, z, _⟩
    · exact t.nf a o q
    · exact .inr (.inl (hp a z))
  dm := fun a o e => let ⟨o', q⟩ := t.dm a o e; ⟨o', addC_old q⟩
  ff := fun a o o' f e => addC_old (t.ff a o o' f e)
theorem addC_sat {K : PySem.W.Frag} {p : Addr → Prop} {h : Heap} {U : Wd} {S0 : Sto} {φs ψs : List (Hp → V → Prop)} {H : Hp} (s : Sat K U (S0 ++ [some (.drs φs)]) H) (hp : ∀ b, p b → H b = none) 
    (hd : ∀ xs, Paired (fun (φ : Hp → V → Prop) v => ∀ F', Sub U.F F' → φ F' v) φs xs → Paired (fun (φ : Hp → V → Prop) v => ∀ F', Sub (addC p h U.F) F' → φ F' v) ψs xs) : Sat K ⟨addC p h U.F, U.io⟩ (S0 ++ [some (.drs ψs)]) (addC p h H) := by
  have ln : ∀ (φs ψs : List (Hp → V → Prop)), (S0 ++ [some (Ob.drs φs)]).length = (S0 ++ [some (Ob.drs ψs)]).length := fun _ _ => by simp
  have nF : ∀ b, p b → U.F b = none := fun b z => s.no (hp b z)
  refine ⟨fun a u e => ?_, fun l a e => by rw [ln ψs φs]; exact s.dom l a e, fun l e => s.tot l (by rw [ln φs ψs]; exact e), s.inj, fun l a b e q => ?_, fun l a e => let ⟨o, q⟩ := s.hs l a e; ⟨o, addC_old q⟩, fun l b q => ?_⟩
  · rcases addC_inv e with q | ⟨_, z, o, ho, rfl⟩
    · rcases s.fz a u q with q | ⟨z, q, iz⟩
      · exact .inl (addC_old q)
      · exact .inr ⟨z, addC_old q, iz⟩
    · exact .inl (addC_new (hp a z) z ho)
  · have e' : U.io l = some a := e
    by_cases hl : l < S0.length
    · rw [List.getElem?_append_left hl] at q
      obtain ⟨h1, o, h2, h3⟩ := s.ob l a b e' (by rw [List.getElem?_append_left hl]; exact q)
      exact ⟨addC_no h1 fun z => (by rw [hp a z] at h2; cases h2), o, addC_old h2, h3.sub addC_sub⟩
    · have hl2 := s.dom l a e'
      rw [List.length_append, List.length_singleton] at hl2
      have : l = S0.length := by omega
      subst this
      rw [List.getElem?_append_right (Nat.le_refl _), Nat.sub_self, List.getElem?_cons_zero] at q
      cases q
      obtain ⟨h1, o, h2, xs, rfl, h3⟩ := s.ob S0.length a (.drs φs) e' (by rw [List.getElem?_append_right (Nat.le_refl _), Nat.sub_self, List.getElem?_cons_zero])
      exact ⟨addC_no h1 fun z => (by rw [hp a z] at h2; cases h2), _, addC_old h2, xs, rfl, hd xs h3⟩
  · by_cases hl : l < S0.length
    · rw [List.getElem?_append_left hl] at q
      exact s.rf l b (by rw [List.getElem?_append_left hl]; exact q)
    · have hl2 := (List.getElem?_eq_some_iff.mp q).1
      rw [List.length_append, List.length_singleton] at hl2
      have : l = S0.length := by omega
      subst this
      rw [List.getElem?_append_right (Nat.le_refl _), Nat.sub_self, List.getElem?_cons_zero] at q
      cases q
      trivial
/-- what the lambdas raise, each on an empty store -/
def outs (ρ : Loc) : List ME → Option (List Nat)
  | [] => some []
  | m :: ms => match m ρ [] with
    | .exc c _ => (outs ρ ms).map (c :: ·)
    | _ => none
open Classical in
noncomputable def mkFn (n l : Nat) (C : Addr) (q : Str) (DP : Nat → Hp → V → Prop) (ms : List ME) : Fn := fun ds S => if S[l]? = some (some (.tab C q)) ∧ (pures ds).isSome = true then (match outs (startL n ds) ms with
  | some cs => .ok (.r S.length) (S ++ [some (.drs (cs.map DP))])
  | none => .stuck) else .stuck
theorem DoorP.sub {P : Program} {w : World} {K : PySem.W.Frag} {mg : Str → Option Value} {base : Heap} {cl : Nat → Value} {k c : Nat} {F F' : Hp} {v : V} (s : Sub F F') (h : DoorP P w K mg base cl k c F v) : DoorP P w K mg base cl k c F' v := by
  obtain ⟨f, c', q, e, h1, h2⟩ := h
  exact ⟨f, c', q, e, s _ _ h1, fun Y W Ex a i p1 p2 a1 a2 a3 a4 a5 tk hW hr hv => ⟨fun pz sZ σZ HZ Q IZ hq => (h2 Y W Ex a i p1 p2 a1 a2 a3 a4 a5 tk hW hr hv).run pz sZ σZ HZ Q IZ ⟨hq.1, fun b o e => hq.2.1 b o (s b o e), hq.2.2⟩⟩⟩
theorem pures_p : ∀ {ds : List D} {xs : List PyData} {j : Nat} {d : D}, pures ds = some xs → ds[j]? = some d → ∃ x, d = .p x
  | [], _, _, _, _, h => by simp at h
  | .p x :: ds, _, 0, d, _, h => by simp at h; exact ⟨x, h.symm⟩
  | .p x :: ds, xs, j + 1, d, e, h => by
    unfold pures at e
    obtain ⟨ys, e2, rfl⟩ := Option.map_eq_some_iff.mp e
    exact pures_p e2 (by simpa using h)
  | .r _ :: _, _, _, _, e, _ => by cases e
theorem start_p {ds : List D} {xs : List PyData} {n j : Nat} {d : D} (e : pures ds = some xs) (h : (startL n ds)[j]? = some (some d)) : j < ds.length ∧ ∃ x, d = .p x := by
  unfold startL at h
  by_cases hj : j < ds.length
  · rw [List.getElem?_append_left (by simpa using hj), List.getElem?_map] at h
    cases q : ds[j]? with
    | none => rw [q] at h; cases h
    | some d0 => rw [q] at h; cases h; exact ⟨hj, pures_p e q⟩
  · rw [List.getElem?_append_right (by simpa using hj), List.getElem?_replicate] at h
    split at h <;> cases h
section
variable {X : Cx} {cl : Nat → Value} {k : Nat}
theorem doors_ok {σ : L2.St} {F F0 : Hp} {ρ : Loc} (ok : X.Ok) (hlen : σ.length = X.N.length) (C : Cells X σ F) (sub : Sub F0 F) (nc : ∀ b, IsC X b → F0 b = none) (rl : RelL X.K ⟨F0, fun _ => none⟩ ρ σ) :
    ∀ {ψs : List (Hp → V → Prop)} {ms : List ME} {cs : List Nat} {xs : List V}, Paired (LamOf X cl k) ψs ms → outs ρ ms = some cs → Paired (fun (φ : Hp → V → Prop) v => ∀ F', Sub F0 F' → φ F' v) ψs xs →
      Paired (fun (φ : Hp → V → Prop) v => ∀ F', Sub F F' → φ F' v) (cs.map (DoorP X.prog X.w X.K X.mg X.base cl k)) xs
  | _, _, _, _, .nil, e, .nil => by cases e; exact .nil
  | _, m :: ms, cs, _, .cons hl t, e, .cons hv tv => by
    unfold outs at e
    split at e
    · next c S1 hm =>
      obtain ⟨cs', e', rfl⟩ := Option.map_eq_some_iff.mp e
      obtain ⟨params, body, scope, rfl, lo⟩ := hl
      exact .cons (fun F' sb => DoorP.sub sb (door_ok ok hlen lo.L C sub nc rl (hv F sub) lo.bind lo.body hm)) (doors_ok ok hlen C sub nc rl t e' tv)
    · cases e
end
theorem cellsFrom_mem {y : Str} {b : Addr} : ∀ (names : List (Str × NameKind)) (n : Nat) (acc : List (Str × Addr)), (y, b) ∈ cellsFrom n names acc → (y, NameKind.cell) ∈ names ∨ (y, b) ∈ acc
  | [], _, _, h => .inr h
  | (z, kd) :: r, n, acc, h => by
    unfold cellsFrom at h
    split at h
    · rename_i hk
      rcases cellsFrom_mem r _ _ h with q | q
      · exact .inl (List.mem_cons_of_mem _ q)
      · rcases List.mem_cons.mp q with q | q
        · cases q
          refine .inl ?_
          have : kd = .cell := by simpa using hk
          rw [this]; exact List.mem_cons_self
        · exact .inr q
    · rcases cellsFrom_mem r _ _ h with q | q
      · exact .inl (List.mem_cons_of_mem _ q)
      · exact .inr q
/-- THE RULE -/
theorem cal_mkD {P : Program} {w : World} {K : PySem.W.Frag} {mg : Str → Option Value} {base : Heap} {x nm : Str} {st : Stmt} {N ps : List Str} {k kk l i : Nat} {C : Addr} {cl : Nat → Value} {ms : List ME} (F : DefAtT K mg base x nm ps st C) (S : FnScope N ps (defScope st)) (hu : ∀ y ∈ (defScope st).names, (defScope st).names.lookup y.1 = some y.2) (hi1 : ps.length ≤ i) (hi2 : i < N.length) (hn : ms.length ≤ 1000)
    (hbody : ∀ (c : Addr) (TB : LamX.TabB base mg c C) (A : Around) (outer : List Env) (s : Shared) (H : Hp) (E : XK) (f : Addr), Room k (A.deeper (PyProof.Rows.envOfC nm (defScope st) s.heap.objs.size f (.ref c))) →
      Lams (cxOf CX0 P w K mg base N nm (defScope st) f (.ref c) A outer s H E) l i C cl kk true (defBody st) ms) : Cal P w K mg base x ps (k + 1) (mkFn N.length l C ((nm ++ ".<locals>.") ++ "<lambda>") (DoorP P w K mg base cl kk) ms) := by
  obtain ⟨f, c, oc, kV, dc, pm, ct, od, an, sl, hm, kp, lk, hcd, hb, TB⟩ := F
  refine ⟨f, _, ⟨fun vs H Q E h => h.1, fun A outer s H args us vs Q E hr e0 hbd r hsp => ?_⟩, hm, kp, hb⟩
  obtain ⟨hvl, U, So, ds, sat, rd, wt⟩ := hsp
  have KX : K.In s.heap := e0.mod.kin.keeps fun b o e => (e0.bs b o e).1
  have lim : s.heap.NoLimit := e0.mod.nolimit.keeps fun b o e => (e0.bs b o e).1
  have hkind : ∀ y ∈ ps.zip us, (defScope st).names.lookup y.1 = some .local ∨ ((defScope st).names.lookup y.1 = some .cell ∧ ((cellsFrom (s.heap.objs.size + 1) (defScope st).names []).lookup y.1).isSome = true) := fun ⟨n, v⟩ hy => by
    rcases S.par n (List.of_mem_zip hy).1 with q | q
    · exact .inl q
    · exact .inr ⟨q, PySem.W.cellsFrom_some _ _ _ (.inl q)⟩
  refine codeAny_call_function hr.depth (KX _ _ lk) rfl S.co S.gen rfl (PySem.W.codeRec_of KX hcd) (hbd _ _ _ _ ?_)
  refine wpAny_newFunctionEnv_cells S.kind hkind fun env he s1 xx => ?_
  subst he
  refine ⟨lim.keeps xx.toInCall.keep, codeAny_func ?_⟩
  have I : Inv (cxOf CX0 P w K mg base N nm (defScope st) f (.ref c) A outer s H E) [] (L2.start N vs) H s1 := inv_start S hr.hd e0 hvl r xx
  unfold mkFn at wt
  split at wt
  · next hS =>
    obtain ⟨hS, hpu⟩ := hS
    obtain ⟨xs, hpu⟩ := Option.isSome_iff_exists.mp hpu
    split at wt
    · next cs hcs =>
      have hdl : ds.length = vs.length := Paired.length rd
      have hlen0 : (startL N.length ds).length = N.length := by
        unfold startL
        have : ds.length ≤ N.length := by omega
        simp; omega
      refine wpAny_mono (run_first (hbody c TB A outer s H E f (hr.deeper _)) I sat (relStart rd) (by rw [hlen0]; exact hi2) hS hn) (fun fl s' hs => ?_) fun e s' hs => hs
      obtain ⟨a, σ', H', U', ψs, rfl, J, st1, sat1, rl1, io1, pr⟩ := hs
      show CE outer P w H s Q (.ref a) s'
      have isc : ∀ b, IsC (cxOf CX0 P w K mg base N nm (defScope st) f (.ref c) A outer s H E) b → H' b = none ∧ s.heap.objs.size ≤ b := fun b ⟨y, e⟩ => ⟨J.freeC y b e, J.ok.cab y b rfl e⟩
      have nF : ∀ b, IsC (cxOf CX0 P w K mg base N nm (defScope st) f (.ref c) A outer s H E) b → U'.F b = none := fun b z => sat1.no (isc b z).1
      have cells : Cells (cxOf CX0 P w K mg base N nm (defScope st) f (.ref c) A outer s H E) σ' (addC (IsC (cxOf CX0 P w K mg base N nm (defScope st) f (.ref c) A outer s H E)) s'.heap U'.F) := by
        refine ⟨fun y b e => ?_, fun j y b v e1 e2 e3 => ?_⟩
        · obtain ⟨v, o, ho, hd⟩ := J.cell y b e
          exact ⟨o, v, addC_new (nF b ⟨y, e⟩) ⟨y, e⟩ ho, hd⟩
        · obtain ⟨m, hns, hl⟩ := J.loc
          have kc : (defScope st).names.lookup y = some .cell := by
            rcases cellsFrom_mem _ _ _ (PySem.mem_of_lookup e3) with z | z
            · exact hu _ z
            · cases z
          have vis : Vis (defScope st) y := .inr (.inl kc)
          obtain ⟨u, ru, q⟩ := hl j y v e1 e2 vis
          rcases q with ⟨z, _⟩ | ⟨_, b', e4, o, ho, hd⟩
          · have z' : (defScope st).names.lookup y = some .local := z
            rw [kc] at z'; cases z'
          · rw [e3] at e4; cases e4
            exact ⟨o, u, addC_new (nF b ⟨y, e3⟩) ⟨y, e3⟩ ho, hd, ru⟩
      have rl0 : RelL K ⟨U'.F, fun _ => none⟩ (startL N.length ds) σ' := by
        refine ⟨by rw [← rl1.len, List.length_set], fun j d e => ?_⟩
        obtain ⟨hj, x, rfl⟩ := start_p hpu e
        obtain ⟨v, hv, rv⟩ := rl1.get j (.p x) (by rw [List.getElem?_set_ne (by omega)]; exact e)
        exact ⟨v, hv, rv⟩
      refine ⟨.ref a, addC (IsC (cxOf CX0 P w K mg base N nm (defScope st) f (.ref c) A outer s H E)) s'.heap H', J.os, J.bare, addC_un J.base fun b z => (isc b z).2, addC_hok J.hok, rfl, ?_⟩
      exact wt _ _ (addC_step st1 fun b z => e0.hok.fresh (isc b z).2) (addC_sat sat1 (fun b z => (isc b z).1) fun xs hx => doors_ok J.ok J.len cells addC_sub nF rl0 pr hcs hx) _ ⟨a, io1, rfl⟩
    · exact wt.elim
  · exact wt.elim
end G


set_option maxHeartbeats 2000000
namespace G
open PySem PySem.Spec PyProof.Rows L2
/-! ### lists of doors: + -/
def gCatD : D → D → Sto → Res D := fun d e S => match d, e with
  | .r l, .r n => (match S[l]?, S[n]? with
    | some (some (.drs a)), some (some (.drs b)) => if a.length + b.length ≤ 1000 then .ok (.r S.length) (S ++ [some (.drs (a ++ b))]) else .stuck
    | _, _ => .stuck)
  | _, _ => .stuck
theorem Paired.apps {α β : Type} {R : α → β → Prop} : ∀ {xs as : List α} {ys bs : List β}, Paired R xs ys → Paired R as bs → Paired R (xs ++ as) (ys ++ bs)
  | _, _, _, _, .nil, h => h
  | _, _, _, _, .cons r t, h => .cons r (Paired.apps t h)
section
variable {X : Cx} {E : EX}
theorem imp_catD {K : PySem.W.Frag} : ImpO K E rCat gCatD := by
  intro U S H x y d e Q s rx ry w
  unfold gCatD at w
  split at w
  · next l n =>
    split at w
    · next a b hl hn =>
      split at w
      · next hz =>
        obtain ⟨p, hp, rfl⟩ := rx
        obtain ⟨q, hq, rfl⟩ := ry
        obtain ⟨_, o1, h1, xs, rfl, r1⟩ := s.ob l p _ hp hl
        obtain ⟨_, o2, h2, ys, rfl, r2⟩ := s.ob n q _ hq hn
        refine ⟨p, q, xs, ys, rfl, rfl, h1, h2, ?_, fun c hc => ?_⟩
        · have e1 := Paired.length r1
          have e2 := Paired.length r2
          have : (1000 : Nat) ≤ sizeLine := by decide
          omega
        · exact w _ _ (Step.new s hc) (s.new (b := .drs (a ++ b)) hc ⟨_, rfl, Paired.apps r1 r2⟩ trivial) _ ⟨c, Wd.more_last _ _ _, rfl⟩
      · exact w.elim
    · exact w.elim
  · exact w.elim
theorem ie_catD {a b : Expr} {ma mb : ME} {pos : Pos} (ha : IE X E a ma) (hb : IE X E b mb) : IE X E (.BinOp a .Add b pos) (m2 gCatD ma mb) := ie_op op_cat imp_catD ha hb
/-! ### a door tried -/
def tTry (DP : Nat → Hp → V → Prop) (kin : Nat → Option Str) (j : Nat) : TE := fun σ H Q => ∃ (F : Hp) (v : V) (c : Nat) (y : Str), σ[j]? = some (some v) ∧ DP c F v ∧ Le F H ∧ kin c = some y ∧ ∀ H', GH.Ext H H' → Q (.str y) H'
theorem pe_tryDoor {cl : Nat → Value} {kin : Nat → Option Str} {x wd a : Str} {k j : Nat} {p p1 pos : Pos} (T : TryAt X.prog X.w X.K X.mg X.base x wd (k + 1) cl kin) (hg : Gl X x) (hr : Room (k + 2) X.A) (hv : PE X (.Name a p1) (tVar j)) (hs1 : starEach [.Name a p1] X.env = [(false, eval (.Name a p1) X.env)] := by rfl) (hdb : (x == ("__debug__" : Str)) = false := by decide) :
    PE X (.Call (.Name x p) [.Name a p1] [] pos) (tTry (DoorP X.prog X.w X.K X.mg X.base cl k) kin j) := by
  obtain ⟨g, pg, bg, sg, dV, kV, doc, pm, cdv, ct, oc, an, od, osl, Ng, d, hm, hk, lk, hcg, hb, Sg, h0, hva, hd, hcd, hG⟩ := T.ex
  refine ⟨fun pins s σ H Q I hq => ?_⟩
  obtain ⟨F, v, c, y, hj, ⟨f, c', q, rfl, hc', dp⟩, le, hy, hq⟩ := hq
  refine wpAny_Call_Name_kw (ld_glob I hg hm (PySem.W.callWith_K (h₀ := X.base) I.ok.mod.kin hk (thn ((pa_cons hv pa_nil (hs := hs1)).run pos pins s σ H (fun vs H1 => vs = [.ref f] ∧ H1 = H) I ⟨_, hj, rfl, rfl⟩) fun us sx hx => ?_) hs1 (by rfl)) hdb)
  obtain ⟨vs, H1, I1, r1, rfl, rfl⟩ := hx
  have eu : us = [.ref f] := by
    cases r1 with
    | cons r t => cases t; cases r; rfl
  subst eu
  refine ⟨I1.kIn, ?_⟩
  have hco : H1 c' = some (LamX.CodeO c' q) := by
    rcases le _ _ hc' with z | ⟨_, _, z⟩
    · exact z
    · cases z
  refine wpAny_call (codeAny_mono (R := CR C8.CX0 X.stack X.prog X.w H1 sx Q C8.E0) ?_ fun r s2 hq => ?_)
  · refine LamX.run_ofS (N := Ng) (ps := [d]) (us := [.ref f]) (vs := [.ref f]) lk hcg Sg hr I1.env0 (hb sx [.ref f] I1.kIn rfl) (.cons rfl .nil) rfl fun hr' => ?_
    obtain ⟨t', ht', hq'⟩ := hG X q rfl rfl rfl rfl rfl f c' sx H1 Q (fun Ex H' _ => Le F H' ∧ ∀ H'', GH.Ext H' H'' → Ex (cl c) none H'') (fun Ex H Q Q' hQ z => z) hr' (fun W pn xe Ex p1 p2 tk hW => ⟨fun pz sZ σZ HZ Q' IZ z =>
        (dp ((cxOf C8.CX0 X.prog X.w X.K X.mg X.base Ng x sg g cdv X.A X.stack sx H1 C8.E0).tr pn xe) W Ex d 0 p1 p2 rfl rfl rfl rfl rfl tk hW hr' (pe_var (X := (cxOf C8.CX0 X.prog X.w X.K X.mg X.base Ng x sg g cdv X.A X.stack sx H1 C8.E0).tr pn xe) (i := 0) h0 hva hd hcd)).run pz sZ σZ HZ Q' IZ ⟨z.1, z.2.2.1, z.2.2.2⟩⟩) hco ⟨le, fun H2 e2 => ⟨c, y, rfl, rfl, hy, fun H3 e3 => hq H3 (e2.trans e3)⟩⟩
    exact ⟨t', ht'.nox, hq'⟩
  · cases r with
    | error e => exact (show False from hq).elim
    | ok fl =>
      cases fl with
      | ret u => exact I1.after hq
      | next => exact False.elim hq
      | brk => exact False.elim hq
      | cont => exact False.elim hq
open Classical in
/-- [door for door in doors if told(door) != word], where each is told so: nothing is left -/
noncomputable def mTold (DP : Nat → Hp → V → Prop) (kin : Nat → Option Str) (i jw jd : Nat) : ML := fun ρ S => match ρ[i]?, ρ[jw]? with
  | some (some (.r l)), some (some (.p (.str wd))) => (match S[l]? with
    | some (some (.drs φs)) => if (jd < ρ.length ∧ lay2 (.str wd) (.str wd) = true) ∧ (∃ cs : List Nat, φs = cs.map DP ∧ ∀ c ∈ cs, kin c = some wd) then .ok [] S else .stuck
    | _ => .stuck)
  | _, _ => .stuck
theorem Paired.get2 {α β : Type} {R : α → β → Prop} : ∀ {xs : List α} {ys : List β} {i : Nat} {y : β}, Paired R xs ys → ys[i]? = some y → ∃ x, xs[i]? = some x ∧ R x y
  | _, _, _, _, .nil, h => by simp at h
  | _, _, 0, _, .cons r t, h => by simp at h; subst h; exact ⟨_, rfl, r⟩
  | _, _, i + 1, _, .cons r t, h => by
    obtain ⟨x, h1, h2⟩ := Paired.get2 (i := i) t (by simpa using h)
    exact ⟨x, by simpa using h1, h2⟩
theorem wipe_keep {σ : L2.St} {j : Nat} : ∀ {vs : List Nat}, j ∉ vs → (L2.wipe σ vs)[j]? = σ[j]?
  | [], _ => rfl
  | v :: vs, h => by
    unfold L2.wipe
    rw [List.getElem?_set_ne (fun e => h (by rw [e]; exact List.mem_cons_self))]
    exact wipe_keep fun z => h (List.mem_cons_of_mem _ z)
theorem wipe_set {σ : L2.St} {j : Nat} {v : Option V} : ∀ {vs : List Nat}, j ∈ vs → L2.wipe (σ.set j v) vs = L2.wipe σ vs
  | w :: vs, h => by
    unfold L2.wipe
    by_cases e : j ∈ vs
    · rw [wipe_set e]
    · have : j = w := (List.mem_cons.mp h).resolve_right e
      subst this
      have z : ∀ {vs : List Nat}, j ∉ vs → L2.wipe (σ.set j v) vs = (L2.wipe σ vs).set j v := by
        intro vs
        induction vs with
        | nil => intro _; rfl
        | cons a vs ih =>
          intro hn
          unfold L2.wipe
          rw [ih (fun q => hn (List.mem_cons_of_mem _ q)), List.set_comm _ _ (fun e => hn (by rw [e]; exact List.mem_cons_self))]
      rw [z e, List.set_set]
theorem wipe_wipe {σ : L2.St} : ∀ (vs ws : List Nat), (∀ v ∈ vs, v ∈ ws) → L2.wipe (L2.wipe σ vs) ws = L2.wipe σ ws
  | [], _, _ => rfl
  | v :: vs, ws, h => by
    show L2.wipe ((L2.wipe σ vs).set v none) ws = _
    rw [wipe_set (h v List.mem_cons_self)]
    exact wipe_wipe vs ws fun a ha => h a (List.mem_cons_of_mem _ ha)
theorem il_told {cl : Nat → Value} {kin : Nat → Option Str} {x wd a : Str} {k i jw jd : Nat} {elt tg iter b : Expr} {scope : Scope} {own : List (Str × Nat)} {p p1 p2 p3 pos : Pos} (hc : X.calm = true) (hN : X.N.Nodup) (hu : X.A.units + 64 < cLine) (T : TryAt X.prog X.w X.K X.mg X.base x wd (k + 1) cl kin) (hr : Room (k + 2) X.A)
    (hi : PE X iter (tVar i)) (ok : BlkOk X.N X.env.scope scope own) (hd : jd ∈ own.map (·.2)) (hw : jw ∉ own.map (·.2)) 
    (hg : ∀ (s : Shared) (H : Hp) (C : Addr) (cl : List (Str × Addr)) (fp : List Addr), PG (X.blk s H scope (compEnvC scope cl C X.env) fp) tg (gName jd))
    (hgl : ∀ (s : Shared) (H : Hp) (C : Addr) (cl : List (Str × Addr)) (fp : List Addr), Gl (X.blk s H scope (compEnvC scope cl C X.env) fp) x)
    (hv : ∀ (s : Shared) (H : Hp) (C : Addr) (cl : List (Str × Addr)) (fp : List Addr), PE (X.blk s H scope (compEnvC scope cl C X.env) fp) (.Name a p1) (tVar jd))
    (hb : ∀ (s : Shared) (H : Hp) (C : Addr) (cl : List (Str × Addr)) (fp : List Addr), PE (X.blk s H scope (compEnvC scope cl C X.env) fp) b (tVar jw))
    (he : ∀ (s : Shared) (H : Hp) (C : Addr) (cl : List (Str × Addr)) (fp : List Addr), PE (X.blk s H scope (compEnvC scope cl C X.env) fp) elt (tVar jd))
    (hs1 : ∀ (env : Env), starEach [.Name a p1] env = [(false, eval (.Name a p1) env)] := by intro _; rfl) (hs : ∀ x, foldedSetIterable iter X.env x = pure x := by intro _; rfl) (hdb : (x == ("__debug__" : Str)) = false := by decide) (hm : behindInMarks .NotEq b = false := by rfl) :
    IL X E (.ListComp elt [⟨tg, iter, [.Compare (.Call (.Name x p) [.Name a p1] [] p2) [.NotEq] [b] p3], 0⟩] scope pos) (mTold (DoorP X.prog X.w X.K X.mg X.base cl k) kin i jw jd) := by
  refine ⟨_, pe_lc hc hN (pi_list hi) ok hg (tt := tTest (tOp (rD2 X.K lay2 fun x y => !PyData.eqv x y) (tTry (DoorP X.prog X.w X.K X.mg X.base cl k) kin jd) (tVar jw))) (fun s H C cl' fp => pts_one (pt_cmpR (op_neA (X := X.blk s H scope (compEnvC scope cl' C X.env) fp) hu) (pe_tryDoor (X := X.blk s H scope (compEnvC scope cl' C X.env) fp) T (hgl s H C cl' fp) hr (hv s H C cl' fp) (hs1 _) hdb) (hb s H C cl' fp) hm)) he hs, fun U S H σ ρ Q s rl w => ?_⟩
  unfold mTold at w
  split at w
  · next l wdd hl hwd =>
    split at w
    · next φs hφ =>
      split at w
      · next hcs =>
        obtain ⟨⟨hjd, hlay⟩, cs, rfl, hcs⟩ := hcs
        obtain ⟨_, hv1, q, hq, rfl⟩ := rl.get i _ hl
        obtain ⟨_, hw1, rw1⟩ := rl.get jw _ hwd
        cases rw1
        obtain ⟨_, o, ho, xs, rfl, pr⟩ := s.ob l q _ hq hφ
        refine ⟨_, hv1, q, rfl, ⟨xs, .inl (.inl ho)⟩, fun Dd hD => ?_⟩
        have eD : GH.Ext H (upd H Dd (.lst [])) := .upd hD
        refine lc_list (xs := xs) (K := X.K) (g := gName jd) (tt := tTest (tOp (rD2 X.K lay2 fun x y => !PyData.eqv x y) (tTry (DoorP X.prog X.w X.K X.mg X.base cl k) kin jd) (tVar jw))) (te := tVar jd) (vs := own.map (·.2)) (σ := σ) (Qd := fun H => Q (.ref Dd) H) (fun _ H' => GH.Ext (upd H Dd (.lst [])) H') (fun _ _ z => z) (fun j H' _ e => .inl (.inl (e _ _ (eD _ _ ho)))) (fun j v H' hj e => ?_) fun H' e => ?_
        · refine ⟨?_, ?_⟩
          · rw [wipe_set hd]
            exact wipe_wipe _ _ fun _ z => z
          · obtain ⟨φ, hφ1, hφ2⟩ := Paired.get2 pr hj
            rw [List.getElem?_map] at hφ1
            obtain ⟨c, hc1, rfl⟩ := Option.map_eq_some_iff.mp hφ1
            have hkin := hcs c (List.mem_of_getElem? hc1)
            have hlen : jd < (L2.wipe σ (own.map (·.2))).length := by rw [wipe_length, ← rl.len]; exact hjd
            refine ⟨U.F, v, c, wdd, List.getElem?_set_self hlen, hφ2 _ (Sub.refl _), fun b o z => ?_, hkin, fun H2 e2 => ?_⟩
            · rcases s.fz b o z with z | ⟨y, z, iz⟩
              · exact .inl (e _ _ (eD _ _ z))
              · exact .inr ⟨y, e _ _ (eD _ _ z), iz⟩
            · have ne : jd ≠ jw := fun z => hw (by rw [← z]; exact hd)
              refine ⟨.str wdd, by rw [List.getElem?_set_ne ne, wipe_keep hw]; exact hw1, .str wdd, .str wdd, .str _, .str _, hlay, false, ?_, ?_⟩
              · simp [PyData.eqv]
              · show (if false = true then _ else GH.Ext (upd H Dd (.lst [])) H2)
                rw [if_neg Bool.false_ne_true]; exact e.trans e2
        · exact w U H' ((Step.refl U H).ext (eD.trans e)) (s.ext (eD.trans e)) Dd [] hD (s.no hD) (s.noi hD) (e _ _ upd_same) .nil
      · exact w.elim
    · exact w.elim
  · exact w.elim
end
end G


namespace G
open PySem PySem.Spec PyProof.Rows L2
/-! ### many tables: law's own, and those of the makers -/
theorem tab_none {F : Hp} {q : Str} : TabIs F (.tbl #[]) q := ⟨#[], rfl, trivial, fun pos cv hc => by
  have z : codeAmong pos [] = some cv := hc
  simp [codeAmong] at z⟩
def spLawTn (Ts : List Addr) : Sp := fun vs H Q _ => ∃ (a : Addr) (ns : List Int), vs = [.ref a] ∧ Rd H a (.lst (ns.map V.int)) ∧ (∀ C ∈ Ts, H C = some (.tbl #[])) ∧ Ts.Nodup ∧ ns.length ≤ 63 ∧ ∀ H', Q (.bl true) H'
def tabsOf (Ts : List Addr) (qs : List Str) : Sto := (Ts.zip qs).map fun p => some (.tab p.1 p.2)
theorem law_endTn {P : Program} {w : World} {K : PySem.W.Frag} {mg : Str → Option Value} {base : Heap} {k : Nat} {f : Addr} {fd : FuncData} {ps : List Str} {cl : Nat → Value} {fn : Fn} {Ts : List Addr} {qs : List Str} (hq : Ts.length = qs.length) (F : FnOk P w K mg base CX0 k f fd ps (spF K cl 1 fn))
    (hl : ∀ ns : List Int, ns.length ≤ 63 → ∃ S, fn [.p (.list (ns.map PyData.int))] (tabsOf Ts qs) = .ok (.p (.bool true)) S) : FnOk P w K mg base CX0 k f fd ps (spLawTn Ts) :=
  F.imp fun vs H Q E h => by
    obtain ⟨a, ns, rfl, hr, hC, hnd, hn, qq⟩ := h
    obtain ⟨S, e⟩ := hl ns hn
    have nt : ∀ b ∈ Ts, b ≠ a := fun b hb z => by
      have hb := hC b hb
      rcases hr with hr | ⟨o, hr⟩
      · rw [← z, hb] at hr; cases hr
      · rw [← z, hb] at hr; cases hr
    have len : (tabsOf Ts qs).length = Ts.length := by unfold tabsOf; simp [hq]
    have at_ : ∀ (l : Nat) (b : Ob), (tabsOf Ts qs)[l]? = some (some b) → ∃ C q, Ts[l]? = some C ∧ b = .tab C q := fun l b h => by
      unfold tabsOf at h
      rw [List.getElem?_map] at h
      obtain ⟨⟨C, q⟩, h1, h2⟩ := Option.map_eq_some_iff.mp h
      cases h2
      exact ⟨C, q, (List.getElem?_zip_eq_some.mp h1).1, rfl⟩
    refine ⟨rfl, ⟨fun b => if b = a then H a else none, fun l => Ts[l]?⟩, tabsOf Ts qs, [.p (.list (ns.map PyData.int))], ⟨fun b o h => ?_, fun l b h => ?_, fun l h => ?_, fun l l' b h h' => ?_, fun l b o h ho => ?_, fun l b h => ?_, fun l b h => ?_⟩, .cons (.lst ?_ (rp_ints ns)) .nil, ?_⟩
    · have h' : (if b = a then H a else none) = some o := h
      by_cases e : b = a
      · rw [if_pos e] at h'; rw [e]; exact .inl h'
      · rw [if_neg e] at h'; cases h'
    · rw [len]; exact (List.getElem?_eq_some_iff.mp (show Ts[l]? = some b from h)).1
    · rw [len] at h
      exact ⟨Ts[l], List.getElem?_eq_getElem h⟩
    · obtain ⟨h1, e1⟩ := List.getElem?_eq_some_iff.mp (show Ts[l]? = some b from h)
      obtain ⟨h2, e2⟩ := List.getElem?_eq_some_iff.mp (show Ts[l']? = some b from h')
      exact (List.getElem_inj hnd).mp (e1.trans e2.symm)
    · obtain ⟨C, q, h1, rfl⟩ := at_ l o ho
      have h2 : Ts[l]? = some b := h
      rw [h1] at h2; cases h2
      have hm := List.mem_of_getElem? h1
      exact ⟨if_neg (nt _ hm), _, hC _ hm, rfl, tab_none⟩
    · exact ⟨_, hC b (List.mem_of_getElem? (show Ts[l]? = some b from h))⟩
    · obtain ⟨C, q, _, rfl⟩ := at_ l b h
      trivial
    · rcases hr with hr | ⟨o, hr⟩
      · exact .inl (by show (if a = a then H a else none) = _; rw [if_pos rfl]; exact hr)
      · exact .inr ⟨o, by show (if a = a then H a else none) = _; rw [if_pos rfl]; exact hr⟩
    · rw [e]
      intro U' H' _ _ v rv
      cases rv
      exact qq H'
theorem walk_endXn {l : PySem.W.OpenLaw} {k : Nat} {q : Program} {loose : List Str} {XP : (Str → Option Value) → Heap → Prop} {YP : World → Heap → Prop} {d : DefRec} {K : Params → PySem.W.Frag} {x : Str} (hn : l.most = some 63) (hdf : d.params.defaults = []) (hr : Room k callerA) (hK : ∀ w : World, noLists (K w.params) = true)
    (hY : ∀ (w : World) (h : Heap), YP w h → (K w.params).In h)
    (F : ∀ (w : World) (mg : Str → Option Value) (fa : Addr) (h : Heap), YP w h → XP mg h → (K w.params).In h → h.Ns mainGlobals mg → mg d.name = some (.ref fa) →
      ∃ (fd : FuncData) (cs : List (Addr × Addr)), (cs.map (·.2)).Nodup ∧ (∀ p ∈ cs, h.get? p.2 = some { cls := .none, data := .fields #[] } ∧ (K w.params).lookup p.2 = none ∧ PySem.W.CodeHd h p.1 p.2) ∧ (∀ (s : Shared) (u : Value), BindsTo s fd ⟨[u], []⟩ [(x, u)]) ∧
        ∀ base : Heap, (K w.params).In base → base.Ns mainGlobals mg → (∀ p ∈ cs, LamX.TabB base mg p.1 p.2) → FnOk l.prog w (K w.params) mg base CX0 k fa fd [x] (spLawTn (cs.map (·.2)))) :
    PySem.W.WalkO q loose XP YP l.row.toRowW d [] (fun f vs => PySem.call f vs) := by
  refine Att.attach_callB hn hdf fun w s₀ s₁ mg mb fa o pm cd doc a vs ns G Y ho hd hcd hmg hobj hints hlen hbits hg => ?_
  obtain ⟨fd, cs, hnd, h1, h4, h5⟩ := F w mg fa _ Y G.X (hY w _ Y) G.T.g hmg
  exact LamX.law_callTs (cs := cs) (sp := spLawTn (cs.map (·.2))) (hY w _ Y) G.T.g G.T.b G.T.builtins G.T.nolimit hg (fun p hp => (h1 p hp).1) (fun p hp => (h1 p hp).2.1) (fun p hp => (h1 p hp).2.2) G.T.bmain hobj hints (Nat.le_trans hlen (by decide)) hr (fun base a b tb => h5 base a b tb) h4
    (fun H hH hS => ⟨a, ns, rfl, rd_of (hK w) hS, fun C hC => by
      obtain ⟨p, hp, rfl⟩ := List.mem_map.mp hC
      exact hH p hp, hnd, hlen, fun _ => rfl⟩) fun _ _ _ z => z
/-- what the head gives for a def that makes lambdas -/
structure KeyT (K : PySem.W.Frag) (h : Heap) (mg : Str → Option Value) (x nm : Str) (ps : List Str) (st : Stmt) (c C : Addr) : Prop where
  ok : ∀ base : Heap, LamX.TabB base mg c C → DefAtT K mg base x nm ps st C
  tab : h.get? C = some { cls := .none, data := .fields #[] } ∧ K.lookup C = none ∧ PySem.W.CodeHd h c C
theorem keyT_mk {K : PySem.W.Frag} {h : Heap} {mg : Str → Option Value} {x nm : Str} {ps : List Str} {st : Stmt} {f c C : Addr} {oc kV dc pm ct e : Value} {od an dx : Option Addr} {sl sl2 : Array (Option Value)} {vs : Array Value} {ts : List Addr} (X : K.In h) (G : h.Ns mainGlobals mg) (hT : ∀ P ∈ ts, h.get? P = some (PySem.W.tabObj #[]))
    (a : PySem.W.nsIn K mainGlobals x = some (some (.ref f))) (l : K.lookup f = some ⟨oc, od, .func (PySem.W.fnOf nm nm (defArgs st) (defBody st) (defScope st) .none kV dc pm an (.ref c) ct), sl⟩)
    (cd : PySem.W.codeIn K (.ref c) nm = true) (kp : PySem.W.keepIn K (.ref f) = true) (lc : K.lookup c = some ⟨e, dx, .fields vs, sl2⟩) (hv : vs[11]? = some (.ref C)) (hC : K.lookup C = none) (ch : PySem.W.codeHdIn K c C = true) (hin : C ∈ ts)
    (hb : ∀ (kV doc pm : Value) (an : Option Addr) (cdv ct : Value) (us : List Value), us.length = ps.length → bindArgs (PySem.W.fnOf nm nm (defArgs st) (defBody st) (defScope st) .none kV doc pm an cdv ct) ⟨us, []⟩ = pure (ps.zip us)) : KeyT K h mg x nm ps st c C :=
  ⟨fun base TB => ⟨f, c, oc, kV, dc, pm, ct, od, an, sl, PySem.W.mg_of X G a, kp, l, cd, (fun_mk l cd kp).binds hb, TB⟩, hT C hin, hC, PySem.W.codeHd_of_K X ch⟩
structure KeyL (K : PySem.W.Frag) (h : Heap) (fa : Addr) (st : Stmt) (c C : Addr) : Prop where
  ex : ∃ (oc kV dc pm ct : Value) (od an : Option Addr) (sl : Array (Option Value)), K.lookup fa = some ⟨oc, od, .func (PySem.W.fnOf "law" "law" (defArgs st) (defBody st) (defScope st) .none kV dc pm an (.ref c) ct), sl⟩
  cd : PySem.W.codeIn K (.ref c) "law" = true
  tab : h.get? C = some { cls := .none, data := .fields #[] } ∧ K.lookup C = none ∧ PySem.W.CodeHd h c C
theorem keyL_mk {K : PySem.W.Frag} {h : Heap} {mg : Str → Option Value} {st : Stmt} {f fa c C : Addr} {oc kV dc pm ct e : Value} {od an dx : Option Addr} {sl sl2 : Array (Option Value)} {vs : Array Value} {ts : List Addr} (X : K.In h) (G : h.Ns mainGlobals mg) (hm : mg "law" = some (.ref fa)) (hT : ∀ P ∈ ts, h.get? P = some (PySem.W.tabObj #[]))
    (a : PySem.W.nsIn K mainGlobals "law" = some (some (.ref f))) (l : K.lookup f = some ⟨oc, od, .func (PySem.W.fnOf "law" "law" (defArgs st) (defBody st) (defScope st) .none kV dc pm an (.ref c) ct), sl⟩)
    (cd : PySem.W.codeIn K (.ref c) "law" = true) (lc : K.lookup c = some ⟨e, dx, .fields vs, sl2⟩) (hv : vs[11]? = some (.ref C)) (hC : K.lookup C = none) (ch : PySem.W.codeHdIn K c C = true) (hin : C ∈ ts) : KeyL K h fa st c C := by
  have e0 := hm.symm.trans (PySem.W.mg_of X G a)
  cases e0
  exact ⟨⟨oc, kV, dc, pm, ct, od, an, sl, l⟩, cd, hT C hin, hC, PySem.W.codeHd_of_K X ch⟩
end G


namespace G
open PySem PySem.Spec PyProof.Rows L2
theorem pack4 {P : Program} {w : World} {K : PySem.W.Frag} {h : Heap} {mg : Str → Option Value} {k : Nat} {fa c C c1 C1 c2 C2 c3 C3 : Addr} {fd : FuncData} {x x1 n1 x2 n2 x3 n3 : Str} {p1 p2 p3 : List Str} {st s1 s2 s3 : Stmt} (k0 : KeyL K h fa st c C) (k1 : KeyT K h mg x1 n1 p1 s1 c1 C1) (k2 : KeyT K h mg x2 n2 p2 s2 c2 C2) (k3 : KeyT K h mg x3 n3 p3 s3 c3 C3) (hnd : [C, C1, C2, C3].Nodup)
    (hb : ∀ (s : Shared) (u : Value), BindsTo s fd ⟨[u], []⟩ [(x, u)])
    (hF : ∀ base : Heap, LamX.TabB base mg c C → LamX.TabB base mg c1 C1 → LamX.TabB base mg c2 C2 → LamX.TabB base mg c3 C3 → FnOk P w K mg base CX0 k fa fd [x] (spLawTn [C, C1, C2, C3])) :
    ∃ (fd : FuncData) (cs : List (Addr × Addr)), (cs.map (·.2)).Nodup ∧ (∀ p ∈ cs, h.get? p.2 = some { cls := .none, data := .fields #[] } ∧ K.lookup p.2 = none ∧ PySem.W.CodeHd h p.1 p.2) ∧ (∀ (s : Shared) (u : Value), BindsTo s fd ⟨[u], []⟩ [(x, u)]) ∧
        ∀ base : Heap, K.In base → base.Ns mainGlobals mg → (∀ p ∈ cs, LamX.TabB base mg p.1 p.2) → FnOk P w K mg base CX0 k fa fd [x] (spLawTn (cs.map (·.2))) := by
  refine ⟨fd, [(c, C), (c1, C1), (c2, C2), (c3, C3)], hnd, fun p hp => ?_, hb, fun base _ _ tb => hF base (tb (c, C) (by simp)) (tb (c1, C1) (by simp)) (tb (c2, C2) (by simp)) (tb (c3, C3) (by simp))⟩
  simp only [List.mem_cons, List.not_mem_nil, or_false] at hp
  rcases hp with rfl | rfl | rfl | rfl
  · exact k0.tab
  · exact k1.tab
  · exact k2.tab
  · exact k3.tab
end G


namespace G
open PySem L2
/-! ### what a mirror gives -/
def wp {α : Type} (r : Res α) (P : α → Sto → Prop) : Prop := ∃ a S, r = .ok a S ∧ P a S
section
variable {α β : Type} {r : Res α} {f : α → Sto → Res β} {a : α} {S : Sto} {ρ : Loc} {d e : D}
theorem wp_ok {P : α → Sto → Prop} : wp (.ok a S) P ↔ P a S := ⟨fun ⟨_, _, e, h⟩ => by cases e; exact h, fun h => ⟨_, _, rfl, h⟩⟩
theorem wp_bind {P : β → Sto → Prop} : wp (r.bind f) P ↔ wp r fun a S => wp (f a S) P := by
  constructor
  · rintro ⟨b, S1, e, h⟩
    cases r with
    | ok a S2 => exact ⟨a, S2, rfl, b, S1, e, h⟩
    | exc _ _ => cases e
    | stuck => cases e
  · rintro ⟨a, S2, rfl, b, S1, e, h⟩
    exact ⟨b, S1, e, h⟩
theorem wp_nox {P : α → Sto → Prop} : wp r.nox P ↔ wp r P := by
  cases r <;> simp [Res.nox, wp]
theorem wp_mono {P Q : α → Sto → Prop} (h : wp r P) (k : ∀ a S, P a S → Q a S) : wp r Q := by
  obtain ⟨a, S, e, h⟩ := h
  exact ⟨a, S, e, k _ _ h⟩
theorem wp_eq {P : α → Sto → Prop} (h : wp r P) : ∃ a S, r = .ok a S ∧ P a S := h
theorem wp_if {c : Bool} {r r' : Res α} {P : α → Sto → Prop} : wp (if c = true then r else r') P ↔ (if c = true then wp r P else wp r' P) := by
  cases c <;> simp
theorem wp_ite {c : Prop} [Decidable c] {r r' : Res α} {P : α → Sto → Prop} : wp (if c then r else r') P ↔ (if c then wp r P else wp r' P) := by
  split <;> rfl
/-- a sequence, what comes after it out of sight -/
theorem wp_seq {m n : MS} {P : Fl × Loc → Sto → Prop} (h : ∀ k : Fl × Loc → Sto → Prop, (∀ ρ1 S1, wp (n ρ1 S1) P → k (.nx, ρ1) S1) → (∀ d ρ1 S1, P (.rt d, ρ1) S1 → k (.rt d, ρ1) S1) → (∀ ρ1 S1, P (.ct, ρ1) S1 → k (.ct, ρ1) S1) → (∀ ρ1 S1, P (.bk, ρ1) S1 → k (.bk, ρ1) S1) → wp (m ρ S) k) : wp (mSeq m n ρ S) P := by
  unfold mSeq
  rw [wp_bind]
  refine h _ (fun _ _ h => h) (fun _ _ _ h => wp_ok.mpr h) (fun _ _ h => wp_ok.mpr h) (fun _ _ h => wp_ok.mpr h)
theorem wp_asg {m : ME} {g : MG} {P : Fl × Loc → Sto → Prop} : wp (mAsg m g ρ S) P ↔ wp (m ρ S) fun d S1 => wp (g d ρ S1) fun ρ' S2 => P (.nx, ρ') S2 := by
  unfold mAsg; simp only [wp_bind, wp_ok]
theorem wp_gN {i : Nat} {P : Loc → Sto → Prop} : wp (gN i d ρ S) P ↔ P (ρ.set i (some d)) S := wp_ok
theorem wp_ret {m : ME} {P : Fl × Loc → Sto → Prop} : wp (mRet m ρ S) P ↔ wp (m ρ S) fun d S1 => P (.rt d, ρ) S1 := by
  unfold mRet; simp only [wp_bind, wp_ok]
theorem wp_drop {m : ME} {P : Fl × Loc → Sto → Prop} : wp (mDrop m ρ S) P ↔ wp (m ρ S) fun d S1 => P (.nx, ρ) S1 := by
  unfold mDrop; simp only [wp_bind, wp_ok]
theorem wp_mif {c : MT} {m n : MS} {P : Fl × Loc → Sto → Prop} : wp (mIf c m n ρ S) P ↔ wp (c ρ S) fun b S1 => if b = true then wp (m ρ S1) P else wp (n ρ S1) P := by
  unfold mIf; simp only [wp_bind, wp_if]
theorem wp_next {P : Fl × Loc → Sto → Prop} : wp (mNext ρ S) P ↔ P (.nx, ρ) S := wp_ok
theorem wp_for {mi : MI} {g : MG} {b : MS} {P : Fl × Loc → Sto → Prop} : wp (mFor mi g b ρ S) P ↔ wp (mi ρ S) fun xs S1 => wp (mLoop g b xs ρ S1) P := by
  unfold mFor; rw [wp_bind]
theorem wp_loop {g : MG} {b : MS} {P : Fl × Loc → Sto → Prop} (I : List PyData → Loc → Sto → Prop) (xs : List PyData) (h0 : I xs ρ S)
    (step : ∀ (x : PyData) (r : List PyData) (ρ : Loc) (S : Sto), I (x :: r) ρ S → ∀ k : Fl × Loc → Sto → Prop, (∀ ρ1 S1, I r ρ1 S1 → k (.nx, ρ1) S1) → wp (g (.p x) ρ S) fun ρ1 S1 => wp (b ρ1 S1) k)
    (fin : ∀ ρ S, I [] ρ S → P (.nx, ρ) S) : wp (mLoop g b xs ρ S) P := by
  induction xs generalizing ρ S with
  | nil => exact wp_ok.mpr (fin _ _ h0)
  | cons x r ih =>
    unfold mLoop
    rw [wp_bind]
    refine wp_mono (step x r ρ S h0 (fun q S1 => wp (mLoop g b r q.2 S1) P ∧ q.1 = .nx) fun ρ1 S1 h => ⟨ih h, rfl⟩) fun ρ1 S1 h => ?_
    rw [wp_bind]
    refine wp_mono h fun q S2 h => ?_
    obtain ⟨h1, h2⟩ := h
    rw [h2]
    exact h1
theorem wp_while {c : MT} {b : MS} {P : Fl × Loc → Sto → Prop} (I : Nat → Loc → Sto → Prop) (n : Nat) (h0 : I n ρ S)
    (step : ∀ (n : Nat) (ρ : Loc) (S : Sto), I n ρ S → ∃ (m : Nat) (t : Bool), n = m + 1 ∧ c ρ S = .ok t S ∧ (t = false → P (.nx, ρ) S) ∧ (t = true → wp (b ρ S) fun q S1 => q.1 = .nx ∧ I m q.2 S1)) : wp (mWhile c b n ρ S) P := by
  induction n generalizing ρ S with
  | zero =>
    obtain ⟨m, t, e, _⟩ := step 0 ρ S h0
    cases e
  | succ m ih =>
    obtain ⟨m', t, e, e1, e2, e3⟩ := step _ ρ S h0
    cases e
    unfold mWhile
    rw [e1]
    simp only [Res.bind]
    cases t with
    | false => exact wp_ok.mpr (e2 rfl)
    | true =>
      simp only [if_true]
      have := e3 rfl
      obtain ⟨q, S1, e4, e5, e6⟩ := this
      rw [e4]
      simp only [e5]
      exact ih e6
/-- a comprehension: it holds for the rest of the row -/
theorem wp_lcL {g : MG} {tt : MT} {te : ME} {P : List PyData → Sto → Prop} (I : List PyData → List PyData → Sto → Prop) (xs : List PyData) (ys0 : List PyData) (h0 : I xs ys0 S)
    (step : ∀ (x : PyData) (r ys : List PyData) (S : Sto), I (x :: r) ys S → wp (g (.p x) ρ S) fun ρ1 S1 => wp (tt ρ1 S1) fun b S2 => if b = true then wp (te ρ1 S2) fun d S3 => ∃ y, d = .p y ∧ I r (ys ++ [y]) S3 else I r ys S2)
    (fin : ∀ ys S, I [] (ys0 ++ ys) S → P ys S) : wp (mLcL g tt te ρ xs S) P := by
  induction xs generalizing ys0 S P with
  | nil => exact wp_ok.mpr (fin _ _ (by rw [List.append_nil]; exact h0))
  | cons x r ih =>
    unfold mLcL
    rw [wp_bind, wp_nox]
    refine wp_mono (step x r ys0 S h0) fun ρ1 S1 h => ?_
    rw [wp_bind, wp_nox]
    refine wp_mono h fun b S2 h => ?_
    cases b with
    | true =>
      simp only [if_true] at h ⊢
      rw [wp_bind, wp_nox]
      refine wp_mono h fun d S3 h => ?_
      obtain ⟨y, rfl, h⟩ := h
      simp only
      rw [wp_bind]
      refine ih _ h fun ys S hi => ?_
      rw [wp_ok]
      exact fin _ _ (by rw [List.append_assoc] at hi; exact hi)
    | false =>
      simp only [Bool.false_eq_true, if_false] at h ⊢
      exact ih _ h fun ys S hi => fin _ _ hi
/-- a comprehension whose parts are plain -/
theorem lcL_plain {g : MG} {tt : MT} {te : ME} {t : PyData → Bool} {v : PyData → PyData} (xs : List PyData)
    (hg : ∀ x ∈ xs, ∃ ρ1, g (.p x) ρ S = .ok ρ1 S ∧ tt ρ1 S = .ok (t x) S ∧ (t x = true → te ρ1 S = .ok (.p (v x)) S)) : mLcL g tt te ρ xs S = .ok ((xs.filter t).map v) S := by
  induction xs with
  | nil => rfl
  | cons x r ih =>
    obtain ⟨ρ1, h1, h2, h3⟩ := hg x (List.mem_cons_self ..)
    have i := ih fun y hy => hg y (List.mem_cons_of_mem _ hy)
    unfold mLcL
    rw [h1]
    simp only [Res.nox, Res.bind, h2]
    cases ht : t x with
    | true => simp only [if_true, h3 ht, Res.nox, Res.bind, i, List.filter_cons, ht, List.map_cons]
    | false => simp only [Bool.false_eq_true, if_false, i, List.filter_cons, ht]
theorem wp_fn {n : Nat} {m : MS} {ds : List D} {P : D → Sto → Prop} (h : wp (m (startL n ds) S) fun q S1 => match q.1 with
    | .rt (.p x) => P (.p x) (S1.take S.length)
    | .rt (.r l) => (l < S.length ∧ P (.r l) (S1.take S.length)) ∨ (S.length ≤ l ∧ ∃ o, S1[l]? = some o ∧ mov o = true ∧ P (.r S.length) (S1.take S.length ++ [o]))
    | .nx => P (.p .none) (S1.take S.length)
    | _ => False) : wp (fnOf n m ds S) P := by
  obtain ⟨⟨q, ρ1⟩, S1, e, h⟩ := h
  unfold fnOf
  rw [e]
  cases q with
  | nx => exact wp_ok.mpr h
  | bk => exact h.elim
  | ct => exact h.elim
  | rt d =>
    cases d with
    | p x => exact wp_ok.mpr h
    | r l =>
      rcases h with ⟨h1, h2⟩ | ⟨h1, o, h2, hm, h3⟩
      · simp only [finish, if_pos h1]; exact wp_ok.mpr h2
      · have hl : ¬ l < S.length := by omega
        have hs : S.length ≤ S1.length := Nat.le_of_lt (Nat.lt_of_le_of_lt h1 (List.getElem?_eq_some_iff.mp h2).1)
        simp only [finish, if_neg hl, h2, decide_eq_true hs, hm, Bool.and_self, if_true]
        exact wp_ok.mpr h3
end
/-! ### rows of numbers -/
theorem rangeP_len : ∀ (n : Nat) (lo : Int), (rangeP lo n).length = n
  | 0, _ => rfl
  | n + 1, lo => by rw [rangeP, List.length_cons, rangeP_len n]
end G


set_option maxHeartbeats 4000000
namespace LK
open PySem L2 G
def topS (i : Nat) : Stmt := PySem.Challenge.pw_roofsights_k12_what_is_refused.main.body.getD i (.Pass ⟨0, 0, 0, 0⟩)
structure Bt (mg : Str → Option Value) : Prop where
  n_ValueError : mg "ValueError" = none
  n_all : mg "all" = none
  n_any : mg "any" = none
  n_bool : mg "bool" = none
  n_int : mg "int" = none
  n_isinstance : mg "isinstance" = none
  n_len : mg "len" = none
  n_list : mg "list" = none
  n_min : mg "min" = none
  n_range : mg "range" = none
  n_sorted : mg "sorted" = none
  n_tuple : mg "tuple" = none
  n_zip : mg "zip" = none
  k_MOST_HOUSES : ∃ t, mg "MOST_HOUSES" = some (.int 12 t)
def lamQ : Str := (("law" : Str) ++ ".<locals>.") ++ "<lambda>"
def lamQ_law_by_lot : Str := (("_law_by_lot" : Str) ++ ".<locals>.") ++ "<lambda>"
def lamQ_law_by_sound : Str := (("_law_by_sound" : Str) ++ ".<locals>.") ++ "<lambda>"
def lamQ_law_by_known : Str := (("_law_by_known" : Str) ++ ".<locals>.") ++ "<lambda>"
def kinN : Nat → Option Str
  | 0 => some "NoNumber+"
  | 1 => some "NoLot+"
  | 2 => some "NoHouse+"
  | _ => none
structure Et (K : PySem.W.Frag) (mg : Str → Option Value) (a0 a1 a2 a3 a4 a5 a6 a7 a8 a9 aR : Addr) : Prop where
  g_NoHeights : mg "NoHeights" = some (.ref a0)
  g_NoNumber : mg "NoNumber" = some (.ref a1)
  g_NoLot : mg "NoLot" = some (.ref a2)
  g_NoHouse : mg "NoHouse" = some (.ref a3)
  g_NoCounts : mg "NoCounts" = some (.ref a4)
  g_NoPlace : mg "NoPlace" = some (.ref a5)
  g_NoHeight : mg "NoHeight" = some (.ref a6)
  g_Taken : mg "Taken" = some (.ref a7)
  g_Full : mg "Full" = some (.ref a8)
  g_NothingLeft : mg "NothingLeft" = some (.ref a9)
  g_RoofError : mg "RoofError" = some (.ref aR)
  e_NoNumber : ErrAt K mg "NoNumber" a1
  x_NoNumber : PySem.W.exmOne K (.ref a1) (.ref aR) = some true
  s1_NoNumber : GH.Signs K a1 [.ref a0, .ref a1, .ref a2, .ref a3] [false, true, false, false]
  s2_NoNumber : GH.Signs K a1 [.ref a4, .ref a5, .ref a6] [false, false, false]
  s3_NoNumber : GH.Signs K a1 [.ref a7, .ref a8, .ref a9] [false, false, false]
  s4_NoNumber : GH.Signs K a1 [.ty "ValueError"] [true]
  e_NoLot : ErrAt K mg "NoLot" a2
  x_NoLot : PySem.W.exmOne K (.ref a2) (.ref aR) = some true
  s1_NoLot : GH.Signs K a2 [.ref a0, .ref a1, .ref a2, .ref a3] [false, false, true, false]
  s2_NoLot : GH.Signs K a2 [.ref a4, .ref a5, .ref a6] [false, false, false]
  s3_NoLot : GH.Signs K a2 [.ref a7, .ref a8, .ref a9] [false, false, false]
  s4_NoLot : GH.Signs K a2 [.ty "ValueError"] [true]
  e_NoHouse : ErrAt K mg "NoHouse" a3
  x_NoHouse : PySem.W.exmOne K (.ref a3) (.ref aR) = some true
  s1_NoHouse : GH.Signs K a3 [.ref a0, .ref a1, .ref a2, .ref a3] [false, false, false, true]
  s2_NoHouse : GH.Signs K a3 [.ref a4, .ref a5, .ref a6] [false, false, false]
  s3_NoHouse : GH.Signs K a3 [.ref a7, .ref a8, .ref a9] [false, false, false]
  s4_NoHouse : GH.Signs K a3 [.ty "ValueError"] [true]
section
variable {P : Program} {w : World} {K : PySem.W.Frag} {mg : Str → Option Value} {base : Heap} {a0 a1 a2 a3 a4 a5 a6 a7 a8 a9 aR : Addr}
theorem et_of {h : Heap} (X : K.In h) (g_NoHeights : mg "NoHeights" = some (.ref a0)) (g_NoNumber : mg "NoNumber" = some (.ref a1)) (g_NoLot : mg "NoLot" = some (.ref a2)) (g_NoHouse : mg "NoHouse" = some (.ref a3)) (g_NoCounts : mg "NoCounts" = some (.ref a4)) (g_NoPlace : mg "NoPlace" = some (.ref a5)) (g_NoHeight : mg "NoHeight" = some (.ref a6)) (g_Taken : mg "Taken" = some (.ref a7)) (g_Full : mg "Full" = some (.ref a8)) (g_NothingLeft : mg "NothingLeft" = some (.ref a9)) (g_RoofError : mg "RoofError" = some (.ref aR)) (e_NoNumber : ErrAt K mg "NoNumber" a1) (x_NoNumber : PySem.W.exmOne K (.ref a1) (.ref aR) = some true) (s1_NoNumber : GH.Signs K a1 [.ref a0, .ref a1, .ref a2, .ref a3] [false, true, false, false]) (s2_NoNumber : GH.Signs K a1 [.ref a4, .ref a5, .ref a6] [false, false, false]) (s3_NoNumber : GH.Signs K a1 [.ref a7, .ref a8, .ref a9] [false, false, false]) (s4_NoNumber : GH.Signs K a1 [.ty "ValueError"] [true]) (e_NoLot : ErrAt K mg "NoLot" a2) (x_NoLot : PySem.W.exmOne K (.ref a2) (.ref aR) = some true) (s1_NoLot : GH.Signs K a2 [.ref a0, .ref a1, .ref a2, .ref a3] [false, false, true, false]) (s2_NoLot : GH.Signs K a2 [.ref a4, .ref a5, .ref a6] [false, false, false]) (s3_NoLot : GH.Signs K a2 [.ref a7, .ref a8, .ref a9] [false, false, false]) (s4_NoLot : GH.Signs K a2 [.ty "ValueError"] [true]) (e_NoHouse : ErrAt K mg "NoHouse" a3) (x_NoHouse : PySem.W.exmOne K (.ref a3) (.ref aR) = some true) (s1_NoHouse : GH.Signs K a3 [.ref a0, .ref a1, .ref a2, .ref a3] [false, false, false, true]) (s2_NoHouse : GH.Signs K a3 [.ref a4, .ref a5, .ref a6] [false, false, false]) (s3_NoHouse : GH.Signs K a3 [.ref a7, .ref a8, .ref a9] [false, false, false]) (s4_NoHouse : GH.Signs K a3 [.ty "ValueError"] [true]) : Et K mg a0 a1 a2 a3 a4 a5 a6 a7 a8 a9 aR := ⟨g_NoHeights, g_NoNumber, g_NoLot, g_NoHouse, g_NoCounts, g_NoPlace, g_NoHeight, g_Taken, g_Full, g_NothingLeft, g_RoofError, e_NoNumber, x_NoNumber, s1_NoNumber, s2_NoNumber, s3_NoNumber, s4_NoNumber, e_NoLot, x_NoLot, s1_NoLot, s2_NoLot, s3_NoLot, s4_NoLot, e_NoHouse, x_NoHouse, s1_NoHouse, s2_NoHouse, s3_NoHouse, s4_NoHouse⟩
abbrev st_law_kin : Stmt := topS 63
abbrev N_law_kin : List Str := ["e", "kinds_met", "names", "name", "good"]
theorem sc_law_kin : FnScope N_law_kin ["e"] (defScope st_law_kin) := ⟨rfl, rfl, rfl, by decide +kernel, rfl, by decide +kernel, by decide +kernel⟩
theorem kin_body (B : Bt mg) (ER : Et K mg a0 a1 a2 a3 a4 a5 a6 a7 a8 a9 aR) {k : Nat} (D a : Addr) (oe : Obj) (f : Addr) (cdv : Value) (A : Around) (outer : List Env) (s : Shared) (H : Hp) (EC : ExcC K D) (hz : Zc (.ref D) none oe) (hd : ∃ vs, oe.data = .fields vs) (hot : L2H.Hot1 A (a, oe)) (hr : L2H.RoomH k (A.deeper (PyProof.Rows.envOfC "_law_kin" (defScope st_law_kin) s.heap.objs.size f cdv))) :
    PSs (L2H.cxH C8.CX0 P w K mg base N_law_kin "_law_kin" (defScope st_law_kin) f cdv A outer s H C8.E0 (a, oe)).nox (defBody st_law_kin) (GH.tKin K D a [.ref a0, .ref a1, .ref a2, .ref a3] [.ref a4, .ref a5, .ref a6] [.ref a7, .ref a8, .ref a9] [.ty "ValueError"] ["NoHeights", "NoNumber", "NoLot", "NoHouse", "NoCounts", "NoPlace", "NoHeight", "Taken", "Full"] ["NothingLeft", "+"]) :=
    (pss_cons (ps_set (i := 1) sc_law_kin.nd rfl (.inl rfl) (pe_lst (pa_cons (pe_callB (GH.is_exc EC hz hd List.mem_cons_self) rfl B.n_isinstance (by decide +kernel) (pa_cons (pv 0) (pa_cons (pe_glob rfl ER.g_NoHeights rfl) pa_nil))) (pa_cons (pe_callB (GH.is_exc EC hz hd List.mem_cons_self) rfl B.n_isinstance (by decide +kernel) (pa_cons (pv 0) (pa_cons (pe_glob rfl ER.g_NoNumber rfl) pa_nil))) (pa_cons (pe_callB (GH.is_exc EC hz hd List.mem_cons_self) rfl B.n_isinstance (by decide +kernel) (pa_cons (pv 0) (pa_cons (pe_glob rfl ER.g_NoLot rfl) pa_nil))) (pa_cons (pe_callB (GH.is_exc EC hz hd List.mem_cons_self) rfl B.n_isinstance (by decide +kernel) (pa_cons (pv 0) (pa_cons (pe_glob rfl ER.g_NoHouse rfl) pa_nil))) pa_nil))))))
    (pss_cons (ps_set (i := 1) sc_law_kin.nd rfl (.inl rfl) (pe_op op_cat (pv 1) (pe_lst (pa_cons (pe_callB (GH.is_exc EC hz hd List.mem_cons_self) rfl B.n_isinstance (by decide +kernel) (pa_cons (pv 0) (pa_cons (pe_glob rfl ER.g_NoCounts rfl) pa_nil))) (pa_cons (pe_callB (GH.is_exc EC hz hd List.mem_cons_self) rfl B.n_isinstance (by decide +kernel) (pa_cons (pv 0) (pa_cons (pe_glob rfl ER.g_NoPlace rfl) pa_nil))) (pa_cons (pe_callB (GH.is_exc EC hz hd List.mem_cons_self) rfl B.n_isinstance (by decide +kernel) (pa_cons (pv 0) (pa_cons (pe_glob rfl ER.g_NoHeight rfl) pa_nil))) pa_nil))))))
    (pss_cons (ps_set (i := 1) sc_law_kin.nd rfl (.inl rfl) (pe_op op_cat (pv 1) (pe_lst (pa_cons (pe_callB (GH.is_exc EC hz hd List.mem_cons_self) rfl B.n_isinstance (by decide +kernel) (pa_cons (pv 0) (pa_cons (pe_glob rfl ER.g_Taken rfl) pa_nil))) (pa_cons (pe_callB (GH.is_exc EC hz hd List.mem_cons_self) rfl B.n_isinstance (by decide +kernel) (pa_cons (pv 0) (pa_cons (pe_glob rfl ER.g_Full rfl) pa_nil))) (pa_cons (pe_callB (GH.is_exc EC hz hd List.mem_cons_self) rfl B.n_isinstance (by decide +kernel) (pa_cons (pv 0) (pa_cons (pe_glob rfl ER.g_NothingLeft rfl) pa_nil))) pa_nil))))))
    (pss_cons (ps_set (i := 2) sc_law_kin.nd rfl (.inl rfl) (pe_lst (pa_cons pe_str (pa_cons pe_str (pa_cons pe_str (pa_cons pe_str (pa_cons pe_str (pa_cons pe_str (pa_cons pe_str (pa_cons pe_str (pa_cons pe_str pa_nil)))))))))))
    (pss_cons (ps_set (i := 1) sc_law_kin.nd rfl (.inl rfl) (pe_op op_cat (pv 1) (pe_lst (pa_cons (pe_callB (GH.is_exc EC hz hd List.mem_cons_self) rfl B.n_isinstance (by decide +kernel) (pa_cons (pv 0) (pa_cons (pe_bltn rfl B.n_ValueError (by decide +kernel) rfl) pa_nil))) pa_nil))))
    (pss_one (ps_ret (pe_join pe_str (GH.lc_zip_hot (own := [("name", 3), ("good", 4)]) ⟨(a, oe), hot, List.mem_cons_self⟩ sc_law_kin.nd rfl B.n_zip (pa_cons (pe_op op_cat (pv 2) (pe_lst (pa_cons pe_str (pa_cons pe_str pa_nil)))) (pa_cons (pv 1) pa_nil)) (blkOk_by (own := [("name", 3), ("good", 4)]) (N := N_law_kin) (sc := defScope st_law_kin) (by decide +kernel)) (fun _ _ _ _ _ => (pgs_cons (pg_name (i := 3) sc_law_kin.nd rfl (.inl rfl)) (pgs_cons (pg_name (i := 4) sc_law_kin.nd rfl (.inl rfl)) pgs_nil))) (fun _ _ _ _ _ => (pts_one (pt_val (pv 4)))) (fun _ _ _ _ _ => (pv 3)) (fun _ => rfl) (fun _ => rfl))))))))))
theorem kin_is (B : Bt mg) (ER : Et K mg a0 a1 a2 a3 a4 a5 a6 a7 a8 a9 aR) (F : DefAt K mg "_law_kin" "_law_kin" ["e"] st_law_kin) (k : Nat) : KinOk P w K mg base "_law_kin" (k + 1) (clOf [a1, a2, a3]) kinN := by
  refine kin_ok F sc_law_kin rfl (by decide) (fun c yy hk => ?_) fun D a oe f cdv A outer s H EC hz hd hot hr => kin_body B ER D a oe f cdv A outer s H EC hz hd hot hr
  match c with
    | 0 => cases hk; exact ⟨a1, _, _, _, _, rfl, ER.e_NoNumber.ec, ER.s1_NoNumber, ER.s2_NoNumber, ER.s3_NoNumber, ER.s4_NoNumber, rfl, by decide, by decide +kernel, by decide +kernel⟩
    | 1 => cases hk; exact ⟨a2, _, _, _, _, rfl, ER.e_NoLot.ec, ER.s1_NoLot, ER.s2_NoLot, ER.s3_NoLot, ER.s4_NoLot, rfl, by decide, by decide +kernel, by decide +kernel⟩
    | 2 => cases hk; exact ⟨a3, _, _, _, _, rfl, ER.e_NoHouse.ec, ER.s1_NoHouse, ER.s2_NoHouse, ER.s3_NoHouse, ER.s4_NoHouse, rfl, by decide, by decide +kernel, by decide +kernel⟩
    | _ + 3 => cases hk
abbrev st_law_try : Stmt := topS 64
theorem sc_law_try : FnScope ["door", "found", "e"] ["door"] (defScope st_law_try) := ⟨rfl, rfl, rfl, by decide +kernel, rfl, by decide +kernel, by decide +kernel⟩
theorem try_is (B : Bt mg) (ER : Et K mg a0 a1 a2 a3 a4 a5 a6 a7 a8 a9 aR) (FK : DefAt K mg "_law_kin" "_law_kin" ["e"] st_law_kin) (F : DefAt K mg "_law_try" "_law_try" ["door"] st_law_try) (k : Nat) : TryAt P w K mg base "_law_try" "told" (k + 1) (clOf [a1, a2, a3]) kinN := by
  refine tryAt_mk F sc_law_try rfl (.inl rfl) fun X q g cdv h1 h2 h3 h4 h5 => ?_
  subst h1 h2 h3 h4 h5
  refine try_gives sc_law_try.nd rfl rfl rfl rfl rfl rfl rfl rfl ER.g_RoofError (by decide) (by decide) (by decide) (by decide) (by decide) (fun c yy hk => ?_) (kin_is B ER FK k)
  match c with
    | 0 => exact ER.x_NoNumber
    | 1 => exact ER.x_NoLot
    | 2 => exact ER.x_NoHouse
    | _ + 3 => cases hk
end
noncomputable section
variable {P : Program} {w : World} {K : PySem.W.Frag} {mg : Str → Option Value} {base : Heap}
abbrev st_is_from : Stmt := topS 14
abbrev N_is_from : List Str := ["thing", "low", "high"]
theorem sc_is_from : FnScope N_is_from ["thing", "low", "high"] (defScope st_is_from) := ⟨rfl, rfl, rfl, by decide +kernel, rfl, by decide +kernel, by decide +kernel⟩
def b_is_from : MS :=
    (mRet (mAndV (mIsi [.int] (mVar 0)) (mAndV (mNotV (mIsi [.bool] (mVar 0))) (mCh (mVar 1) (cLink gLe (mVar 0) (cLast gLe (mVar 2)))))))
def f_is_from : Fn := fun ds S => (fnOf 3 b_is_from ds S).nox
theorem ok_is_from (B : Bt mg) (F : DefAt K mg "is_from" "is_from" ["thing", "low", "high"] st_is_from)  : Cal P w K mg base "is_from" ["thing", "low", "high"] 1 f_is_from := cal_mk F sc_is_from fun cdv A outer s H E f hr =>
    (iss_one (is_ret (ie_and (ie_isi (t := .int) rfl B.n_isinstance rfl B.n_int (by decide +kernel) (iv 0)) (ie_and (ie_not (ie_isi (t := .bool) rfl B.n_isinstance rfl B.n_bool (by decide +kernel) (iv 0))) (ie_one (ie_ch (iv 1) (ck_le hr.units (iv 0) (cl_le hr.units (iv 2)))))))))
abbrev st_is_rising : Stmt := topS 15
abbrev N_is_rising : List Str := ["things", "one", "other"]
theorem sc_is_rising : FnScope N_is_rising ["things"] (defScope st_is_rising) := ⟨rfl, rfl, rfl, by decide +kernel, rfl, by decide +kernel, by decide +kernel⟩
def b_is_rising : MS :=
    (mRet (mCB gAll (mCons (mP (mLc (mZip (mCons (mVar 0) (mCons (mSl (mVar 0) (mPart (some (mC (.int 1)))) (mPart none)) mNil))) (gT 2 (gsCons (gN 1) (gsCons (gN 2) gsNil))) mYes (m2 gLt (mVar 1) (mVar 2)) [1, 2])) mNil)))
def f_is_rising : Fn := fun ds S => (fnOf 3 b_is_rising ds S).nox
theorem ok_is_rising (B : Bt mg) (F : DefAt K mg "is_rising" "is_rising" ["things"] st_is_rising)  : Cal P w K mg base "is_rising" ["things"] 1 f_is_rising := cal_mk F sc_is_rising fun cdv A outer s H E f hr =>
    (iss_one (is_ret (ie_cb (cr_all rfl) imp_all rfl B.n_all boot_all1 (ia_cons (IL.p (il_lc (own := [("one", 1), ("other", 2)]) rfl sc_is_rising.nd (ii_zip rfl B.n_zip (ia_cons (iv 0) (ia_cons (ie_slice (iv 0) (ip_some ie_int) ip_none) ia_nil))) (blkOk_by (own := [("one", 1), ("other", 2)]) (N := N_is_rising) (sc := defScope st_is_rising) (by decide +kernel)) (by decide) (fun _ _ _ _ _ => (ig_tup rfl (igs_cons (ig_name (i := 1) sc_is_rising.nd rfl (.inl rfl)) (igs_cons (ig_name (i := 2) sc_is_rising.nd rfl (.inl rfl)) igs_nil)))) (fun _ _ _ _ _ => its_nil) (fun _ _ _ _ _ => (ie_lt hr.units (iv 1) (iv 2))))) ia_nil))))
abbrev st_is_lot : Stmt := topS 16
abbrev N_is_lot : List Str := ["many", "thing", "pair"]
theorem sc_is_lot : FnScope N_is_lot ["many", "thing"] (defScope st_is_lot) := ⟨rfl, rfl, rfl, by decide +kernel, rfl, by decide +kernel, by decide +kernel⟩
def b_is_lot : MS :=
    (mSeq (mIf (mNot (mTest (mIsi [.tuple] (mVar 1)))) (mRet (mC (.bool false))) mNext)
    (mSeq (mFor (mItems (mVar 1)) (gN 2) (mSeq (mIf (mOr (mNot (mTest (mIsi [.tuple] (mVar 2)))) (mOr (mTest (m2 gNe (mCB gLen (mCons (mVar 2) mNil)) (mC (.int 2)))) (mNot (mTest (mCall f_is_from (mCons (m2 gIx (mVar 2) (mC (.int 0))) (mCons (mC (.int 0)) (mCons (m2 gSub (mVar 0) (mC (.int 2))) mNil)))))))) (mRet (mC (.bool false))) mNext)
    (mIf (mNot (mTest (mCall f_is_from (mCons (m2 gIx (mVar 2) (mC (.int 1))) (mCons (m2 gAdd (m2 gIx (mVar 2) (mC (.int 0))) (mC (.int 1))) (mCons (m2 gSub (mVar 0) (mC (.int 1))) mNil)))))) (mRet (mC (.bool false))) mNext)))
    (mRet (mCall f_is_rising (mCons (mVar 1) mNil)))))
def f_is_lot : Fn := fun ds S => (fnOf 3 b_is_lot ds S).nox
theorem ok_is_lot (B : Bt mg) (F : DefAt K mg "is_lot" "is_lot" ["many", "thing"] st_is_lot) (C_is_rising : Cal P w K mg base "is_rising" ["things"] 1 f_is_rising) (C_is_from : Cal P w K mg base "is_from" ["thing", "low", "high"] 1 f_is_from) : Cal P w K mg base "is_lot" ["many", "thing"] 2 f_is_lot := cal_mk F sc_is_lot fun cdv A outer s H E f hr =>
    (iss_cons (is_if (it_not (it_val (ie_isi (t := .tuple) rfl B.n_isinstance rfl B.n_tuple (by decide +kernel) (iv 1)))) (iss_one (is_ret ie_bl)) iss_nil)
    (iss_cons (is_for .never rfl (ii_any (iv 1)) (ig_name (i := 2) sc_is_lot.nd rfl (.inl rfl)) (iss_cons (is_if (IW.it (iw_or (it_not (it_val (ie_isi (t := .tuple) rfl B.n_isinstance rfl B.n_tuple (by decide +kernel) (iv 2)))) (iw_or (it_ne hr.units (ie_cb call_len_seq imp_len rfl B.n_len boot_len (ia_cons (iv 2) ia_nil)) ie_int) (iw_or1 (it_not (it_val (ie_own C_is_from hr rfl (ia_cons (ie_item (iv 2) ie_int) (ia_cons ie_int (ia_cons (ie_sub (iv 0) ie_int) ia_nil)))))))))) (iss_one (is_ret ie_bl)) iss_nil)
    (iss_one (is_if (it_not (it_val (ie_own C_is_from hr rfl (ia_cons (ie_item (iv 2) ie_int) (ia_cons (ie_add (ie_item (iv 2) ie_int) ie_int) (ia_cons (ie_sub (iv 0) ie_int) ia_nil)))))) (iss_one (is_ret ie_bl)) iss_nil))))
    (iss_one (is_ret (ie_own C_is_rising hr rfl (ia_cons (iv 1) ia_nil))))))
abbrev st_need_many : Stmt := topS 17
abbrev N_need_many : List Str := ["many"]
theorem sc_need_many : FnScope N_need_many ["many"] (defScope st_need_many) := ⟨rfl, rfl, rfl, by decide +kernel, rfl, by decide +kernel, by decide +kernel⟩
def b_need_many : MS :=
    (mIf (mNot (mTest (mCall f_is_from (mCons (mVar 0) (mCons (mC (.int 1)) (mCons (mC (.int 12)) mNil)))))) (mRaise 0) mNext)
def f_need_many : Fn := fnOf 1 b_need_many
theorem ok_need_many (B : Bt mg) {a0 a1 a2 a3 a4 a5 a6 a7 a8 a9 aR : Addr} (ER : Et K mg a0 a1 a2 a3 a4 a5 a6 a7 a8 a9 aR) (F : DefAt K mg "need_many" "need_many" ["many"] st_need_many) (C_is_from : Cal P w K mg base "is_from" ["thing", "low", "high"] 1 f_is_from) : CalX P w K mg base (clOf [a1, a2, a3]) "need_many" ["many"] 2 f_need_many := cal_mkX F sc_need_many fun cdv A outer s H Ex f hr =>
    (iss_one (is_if (it_not (it_val (ie_own C_is_from hr rfl (ia_cons (iv 0) (ia_cons ie_int (ia_cons (ie_globE rfl B.k_MOST_HOUSES) ia_nil)))))) (iss_one (is_raiseE ER.e_NoNumber rfl tk_def rfl)) iss_nil))
abbrev st_need_lot : Stmt := topS 18
abbrev N_need_lot : List Str := ["many", "lot"]
theorem sc_need_lot : FnScope N_need_lot ["many", "lot"] (defScope st_need_lot) := ⟨rfl, rfl, rfl, by decide +kernel, rfl, by decide +kernel, by decide +kernel⟩
def b_need_lot : MS :=
    (mSeq (mDrop (mCallX f_need_many (mCons (mVar 0) mNil)))
    (mIf (mNot (mTest (mCall f_is_lot (mCons (mVar 0) (mCons (mVar 1) mNil))))) (mRaise 1) mNext))
def f_need_lot : Fn := fnOf 2 b_need_lot
theorem ok_need_lot (B : Bt mg) {a0 a1 a2 a3 a4 a5 a6 a7 a8 a9 aR : Addr} (ER : Et K mg a0 a1 a2 a3 a4 a5 a6 a7 a8 a9 aR) (F : DefAt K mg "need_lot" "need_lot" ["many", "lot"] st_need_lot) (C_need_many : CalX P w K mg base (clOf [a1, a2, a3]) "need_many" ["many"] 2 f_need_many) (C_is_lot : Cal P w K mg base "is_lot" ["many", "thing"] 2 f_is_lot) : CalX P w K mg base (clOf [a1, a2, a3]) "need_lot" ["many", "lot"] 3 f_need_lot := cal_mkX F sc_need_lot fun cdv A outer s H Ex f hr =>
    (iss_cons (is_expr (ie_ownX C_need_many tk_def hr rfl (ia_cons (iv 0) ia_nil)))
    (iss_one (is_if (it_not (it_val (ie_own C_is_lot hr rfl (ia_cons (iv 0) (ia_cons (iv 1) ia_nil))))) (iss_one (is_raiseE ER.e_NoLot rfl tk_def rfl)) iss_nil)))
abbrev st_all_bars : Stmt := topS 19
abbrev N_all_bars : List Str := ["many", "lot", "found", "one", "other", "between", "third", "fourth", "place"]
theorem sc_all_bars : FnScope N_all_bars ["many", "lot"] (defScope st_all_bars) := ⟨rfl, rfl, rfl, by decide +kernel, rfl, by decide +kernel, by decide +kernel⟩
def b_all_bars : MS :=
    (mSeq (mAsg (mR (mLc (mRng1 (mCons (m2 gSub (mVar 0) (mC (.int 1))) mNil)) (gN 3) (mTest (m2 gNotIn (mTup (mCons (mVar 3) (mCons (m2 gAdd (mVar 3) (mC (.int 1))) mNil))) (mVar 1))) (mTup (mCons (mC (.str "apart")) (mCons (mVar 3) (mCons (m2 gAdd (mVar 3) (mC (.int 1))) mNil)))) [3])) (gN 2))
    (mSeq (mFor (mItems (mVar 1)) (gT 2 (gsCons (gN 3) (gsCons (gN 4) gsNil))) (mFor (mItems (mVar 1)) (gT 2 (gsCons (gN 6) (gsCons (gN 7) gsNil))) (mIf (mTest (mCh (mVar 3) (cLink gLt (mVar 6) (cLink gLt (mVar 4) (cLast gLt (mVar 7)))))) (mDrop (mMth gApp (mVar 2) (mCons (mTup (mCons (mC (.str "cross")) (mCons (mVar 3) (mCons (mVar 4) (mCons (mVar 6) (mCons (mVar 7) mNil)))))) mNil))) mNext)))
    (mSeq (mFor (mItems (mVar 1)) (gT 2 (gsCons (gN 3) (gsCons (gN 4) gsNil))) (mSeq (mAsg (mP (mLc (mRng2 (mCons (m2 gAdd (mVar 3) (mC (.int 1))) (mCons (mVar 4) mNil))) (gN 8) (mAnd (mTest (m2 gIn (mTup (mCons (mVar 3) (mCons (mVar 8) mNil))) (mVar 1))) (mTest (m2 gIn (mTup (mCons (mVar 8) (mCons (mVar 4) mNil))) (mVar 1)))) (mVar 8) [8])) (gN 5))
    (mIf (mAnd (mTest (m2 gGt (mVar 4) (m2 gAdd (mVar 3) (mC (.int 1))))) (mTest (m2 gEq (mVar 5) (mP (mLst mNil))))) (mDrop (mMth gApp (mVar 2) (mCons (mTup (mCons (mC (.str "alone")) (mCons (mVar 3) (mCons (mVar 4) mNil)))) mNil))) mNext)))
    (mFz 2 (mRet (mVar 2))))))
def f_all_bars : Fn := fun ds S => (fnOf 9 b_all_bars ds S).nox
theorem ok_all_bars (B : Bt mg) (F : DefAt K mg "all_bars" "all_bars" ["many", "lot"] st_all_bars)  : Cal P w K mg base "all_bars" ["many", "lot"] 1 f_all_bars := cal_mk F sc_all_bars fun cdv A outer s H E f hr =>
    (iss_cons (is_setLc (i := 2) (own := [("one", 3)]) (fun _ _ h => h.r) rfl sc_all_bars.nd rfl rfl (sw_true rfl rfl rfl (by decide +kernel)) (ii_rng1 rfl B.n_range (ia_cons (ie_sub (iv 0) ie_int) ia_nil)) (blkOk_by (own := [("one", 3)]) (N := N_all_bars) (sc := defScope st_all_bars) (by decide +kernel)) (by decide) (fun _ _ _ _ _ => (ig_name (i := 3) sc_all_bars.nd rfl (.inl rfl))) (fun _ _ _ _ _ => (its_one (it_notIn (u65 hr) (ie_tup (ia_cons (iv 3) (ia_cons (ie_add (iv 3) ie_int) ia_nil))) (iv 1)))) (fun _ _ _ _ _ => (ie_tup (ia_cons ie_str (ia_cons (iv 3) (ia_cons (ie_add (iv 3) ie_int) ia_nil))))))
    (iss_cons (is_for .never rfl (ii_any (iv 1)) (ig_tup rfl (igs_cons (ig_name (i := 3) sc_all_bars.nd rfl (.inr rfl)) (igs_cons (ig_name (i := 4) sc_all_bars.nd rfl (.inr rfl)) igs_nil))) (iss_one (is_for .never rfl (ii_any (iv 1)) (ig_tup rfl (igs_cons (ig_name (i := 6) sc_all_bars.nd rfl (.inl rfl)) (igs_cons (ig_name (i := 7) sc_all_bars.nd rfl (.inl rfl)) igs_nil))) (iss_one (is_if (it_ch (iv 3) (ck_lt hr.units (iv 6) (ck_lt hr.units (iv 4) (cl_lt hr.units (iv 7))))) (iss_one (is_expr (ie_mth mt_append imp_app PySem.F.slot_list_append PySem.F.type_list_append (iv 2) (ia_cons (ie_tup (ia_cons ie_str (ia_cons (iv 3) (ia_cons (iv 4) (ia_cons (iv 6) (ia_cons (iv 7) ia_nil)))))) ia_nil)))) iss_nil)))))
    (iss_cons (is_for .never rfl (ii_any (iv 1)) (ig_tup rfl (igs_cons (ig_name (i := 3) sc_all_bars.nd rfl (.inr rfl)) (igs_cons (ig_name (i := 4) sc_all_bars.nd rfl (.inr rfl)) igs_nil))) (iss_cons (is_setLc (i := 5) (own := [("place", 8)]) (fun _ _ h => h.p) rfl sc_all_bars.nd rfl rfl (sw_true rfl rfl rfl (by decide +kernel)) (ii_rng2 rfl B.n_range (ia_cons (ie_add (iv 3) ie_int) (ia_cons (iv 4) ia_nil))) (blkOk_by (own := [("place", 8)]) (N := N_all_bars) (sc := defScope st_all_bars) (by decide +kernel)) (by decide) (fun _ _ _ _ _ => (ig_name (i := 8) sc_all_bars.nd rfl (.inl rfl))) (fun _ _ _ _ _ => (its_one (IW.it (iw_and (it_in (u65 hr) (ie_tup (ia_cons (iv 3) (ia_cons (iv 8) ia_nil))) (iv 1)) (iw_and1 (it_in (u65 hr) (ie_tup (ia_cons (iv 8) (ia_cons (iv 4) ia_nil))) (iv 1))))))) (fun _ _ _ _ _ => (iv 8)))
    (iss_one (is_if (IW.it (iw_and (it_gt hr.units (iv 4) (ie_add (iv 3) ie_int)) (iw_and1 (it_eq hr.units (iv 5) (IL.p (il_lst ia_nil)))))) (iss_one (is_expr (ie_mth mt_append imp_app PySem.F.slot_list_append PySem.F.type_list_append (iv 2) (ia_cons (ie_tup (ia_cons ie_str (ia_cons (iv 3) (ia_cons (iv 4) ia_nil)))) ia_nil)))) iss_nil))))
    (iss_one (is_fz 2 (is_ret (iv 2)))))))
abbrev st_is_sound : Stmt := topS 20
abbrev N_is_sound : List Str := ["many", "lot"]
theorem sc_is_sound : FnScope N_is_sound ["many", "lot"] (defScope st_is_sound) := ⟨rfl, rfl, rfl, by decide +kernel, rfl, by decide +kernel, by decide +kernel⟩
def b_is_sound : MS :=
    (mRet (m2 gEq (mCall f_all_bars (mCons (mVar 0) (mCons (mVar 1) mNil))) (mP (mLst mNil))))
def f_is_sound : Fn := fun ds S => (fnOf 2 b_is_sound ds S).nox
theorem ok_is_sound (B : Bt mg) (F : DefAt K mg "is_sound" "is_sound" ["many", "lot"] st_is_sound) (C_all_bars : Cal P w K mg base "all_bars" ["many", "lot"] 1 f_all_bars) : Cal P w K mg base "is_sound" ["many", "lot"] 2 f_is_sound := cal_mk F sc_is_sound fun cdv A outer s H E f hr =>
    (iss_one (is_ret (ie_eq hr.units (ie_own C_all_bars hr rfl (ia_cons (iv 0) (ia_cons (iv 1) ia_nil))) (IL.p (il_lst ia_nil)))))
abbrev st_can_be : Stmt := topS 21
abbrev N_can_be : List Str := ["many", "lot"]
theorem sc_can_be : FnScope N_can_be ["many", "lot"] (defScope st_can_be) := ⟨rfl, rfl, rfl, by decide +kernel, rfl, by decide +kernel, by decide +kernel⟩
def b_can_be : MS :=
    (mSeq (mDrop (mCallX f_need_lot (mCons (mVar 0) (mCons (mVar 1) mNil))))
    mStuck)
def f_can_be : Fn := fnOf 2 b_can_be
theorem ok_can_be (B : Bt mg) {a0 a1 a2 a3 a4 a5 a6 a7 a8 a9 aR : Addr} (ER : Et K mg a0 a1 a2 a3 a4 a5 a6 a7 a8 a9 aR) (F : DefAt K mg "can_be" "can_be" ["many", "lot"] st_can_be) (C_need_lot : CalX P w K mg base (clOf [a1, a2, a3]) "need_lot" ["many", "lot"] 3 f_need_lot) : CalX P w K mg base (clOf [a1, a2, a3]) "can_be" ["many", "lot"] 4 f_can_be := cal_mkX F sc_can_be fun cdv A outer s H Ex f hr =>
    (iss_cons (is_expr (ie_ownX C_need_lot tk_def hr rfl (ia_cons (iv 0) (ia_cons (iv 1) ia_nil))))
    (iss_one is_never))
abbrev st_what_bars : Stmt := topS 22
abbrev N_what_bars : List Str := ["many", "lot"]
theorem sc_what_bars : FnScope N_what_bars ["many", "lot"] (defScope st_what_bars) := ⟨rfl, rfl, rfl, by decide +kernel, rfl, by decide +kernel, by decide +kernel⟩
def b_what_bars : MS :=
    (mSeq (mDrop (mCallX f_need_lot (mCons (mVar 0) (mCons (mVar 1) mNil))))
    (mSeq mStuck
    mStuck))
def f_what_bars : Fn := fnOf 2 b_what_bars
theorem ok_what_bars (B : Bt mg) {a0 a1 a2 a3 a4 a5 a6 a7 a8 a9 aR : Addr} (ER : Et K mg a0 a1 a2 a3 a4 a5 a6 a7 a8 a9 aR) (F : DefAt K mg "what_bars" "what_bars" ["many", "lot"] st_what_bars) (C_need_lot : CalX P w K mg base (clOf [a1, a2, a3]) "need_lot" ["many", "lot"] 3 f_need_lot) : CalX P w K mg base (clOf [a1, a2, a3]) "what_bars" ["many", "lot"] 4 f_what_bars := cal_mkX F sc_what_bars fun cdv A outer s H Ex f hr =>
    (iss_cons (is_expr (ie_ownX C_need_lot tk_def hr rfl (ia_cons (iv 0) (ia_cons (iv 1) ia_nil))))
    (iss_cons is_never
    (iss_one is_never)))
abbrev st_bars : Stmt := topS 23
abbrev N_bars : List Str := ["many", "lot", "thing"]
theorem sc_bars : FnScope N_bars ["many", "lot", "thing"] (defScope st_bars) := ⟨rfl, rfl, rfl, by decide +kernel, rfl, by decide +kernel, by decide +kernel⟩
def b_bars : MS :=
    (mSeq (mDrop (mCallX f_need_lot (mCons (mVar 0) (mCons (mVar 1) mNil))))
    (mSeq mStuck
    (mSeq mStuck
    mStuck)))
def f_bars : Fn := fnOf 3 b_bars
theorem ok_bars (B : Bt mg) {a0 a1 a2 a3 a4 a5 a6 a7 a8 a9 aR : Addr} (ER : Et K mg a0 a1 a2 a3 a4 a5 a6 a7 a8 a9 aR) (F : DefAt K mg "bars" "bars" ["many", "lot", "thing"] st_bars) (C_need_lot : CalX P w K mg base (clOf [a1, a2, a3]) "need_lot" ["many", "lot"] 3 f_need_lot) : CalX P w K mg base (clOf [a1, a2, a3]) "bars" ["many", "lot", "thing"] 4 f_bars := cal_mkX F sc_bars fun cdv A outer s H Ex f hr =>
    (iss_cons (is_expr (ie_ownX C_need_lot tk_def hr rfl (ia_cons (iv 0) (ia_cons (iv 1) ia_nil))))
    (iss_cons is_never
    (iss_cons is_never
    (iss_one is_never))))
abbrev st_how_many : Stmt := topS 35
abbrev N_how_many : List Str := ["many", "lot"]
theorem sc_how_many : FnScope N_how_many ["many", "lot"] (defScope st_how_many) := ⟨rfl, rfl, rfl, by decide +kernel, rfl, by decide +kernel, by decide +kernel⟩
def b_how_many : MS :=
    (mSeq (mDrop (mCallX f_need_lot (mCons (mVar 0) (mCons (mVar 1) mNil))))
    (mSeq mStuck
    mStuck))
def f_how_many : Fn := fnOf 2 b_how_many
theorem ok_how_many (B : Bt mg) {a0 a1 a2 a3 a4 a5 a6 a7 a8 a9 aR : Addr} (ER : Et K mg a0 a1 a2 a3 a4 a5 a6 a7 a8 a9 aR) (F : DefAt K mg "how_many" "how_many" ["many", "lot"] st_how_many) (C_need_lot : CalX P w K mg base (clOf [a1, a2, a3]) "need_lot" ["many", "lot"] 3 f_need_lot) : CalX P w K mg base (clOf [a1, a2, a3]) "how_many" ["many", "lot"] 4 f_how_many := cal_mkX F sc_how_many fun cdv A outer s H Ex f hr =>
    (iss_cons (is_expr (ie_ownX C_need_lot tk_def hr rfl (ia_cons (iv 0) (ia_cons (iv 1) ia_nil))))
    (iss_cons is_never
    (iss_one is_never)))
abbrev st_first_order : Stmt := topS 36
abbrev N_first_order : List Str := ["many", "lot"]
theorem sc_first_order : FnScope N_first_order ["many", "lot"] (defScope st_first_order) := ⟨rfl, rfl, rfl, by decide +kernel, rfl, by decide +kernel, by decide +kernel⟩
def b_first_order : MS :=
    (mSeq (mDrop (mCallX f_need_lot (mCons (mVar 0) (mCons (mVar 1) mNil))))
    (mSeq mStuck
    mStuck))
def f_first_order : Fn := fnOf 2 b_first_order
theorem ok_first_order (B : Bt mg) {a0 a1 a2 a3 a4 a5 a6 a7 a8 a9 aR : Addr} (ER : Et K mg a0 a1 a2 a3 a4 a5 a6 a7 a8 a9 aR) (F : DefAt K mg "first_order" "first_order" ["many", "lot"] st_first_order) (C_need_lot : CalX P w K mg base (clOf [a1, a2, a3]) "need_lot" ["many", "lot"] 3 f_need_lot) : CalX P w K mg base (clOf [a1, a2, a3]) "first_order" ["many", "lot"] 4 f_first_order := cal_mkX F sc_first_order fun cdv A outer s H Ex f hr =>
    (iss_cons (is_expr (ie_ownX C_need_lot tk_def hr rfl (ia_cons (iv 0) (ia_cons (iv 1) ia_nil))))
    (iss_cons is_never
    (iss_one is_never)))
abbrev st_highest : Stmt := topS 37
abbrev N_highest : List Str := ["many", "lot"]
theorem sc_highest : FnScope N_highest ["many", "lot"] (defScope st_highest) := ⟨rfl, rfl, rfl, by decide +kernel, rfl, by decide +kernel, by decide +kernel⟩
def b_highest : MS :=
    (mSeq (mDrop (mCallX f_need_lot (mCons (mVar 0) (mCons (mVar 1) mNil))))
    (mSeq mStuck
    mStuck))
def f_highest : Fn := fnOf 2 b_highest
theorem ok_highest (B : Bt mg) {a0 a1 a2 a3 a4 a5 a6 a7 a8 a9 aR : Addr} (ER : Et K mg a0 a1 a2 a3 a4 a5 a6 a7 a8 a9 aR) (F : DefAt K mg "highest" "highest" ["many", "lot"] st_highest) (C_need_lot : CalX P w K mg base (clOf [a1, a2, a3]) "need_lot" ["many", "lot"] 3 f_need_lot) : CalX P w K mg base (clOf [a1, a2, a3]) "highest" ["many", "lot"] 4 f_highest := cal_mkX F sc_highest fun cdv A outer s H Ex f hr =>
    (iss_cons (is_expr (ie_ownX C_need_lot tk_def hr rfl (ia_cons (iv 0) (ia_cons (iv 1) ia_nil))))
    (iss_cons is_never
    (iss_one is_never)))
abbrev st_need_sound : Stmt := topS 38
abbrev N_need_sound : List Str := ["many", "lot"]
theorem sc_need_sound : FnScope N_need_sound ["many", "lot"] (defScope st_need_sound) := ⟨rfl, rfl, rfl, by decide +kernel, rfl, by decide +kernel, by decide +kernel⟩
def b_need_sound : MS :=
    (mSeq (mDrop (mCallX f_need_lot (mCons (mVar 0) (mCons (mVar 1) mNil))))
    (mIf (mNot (mTest (mCall f_is_sound (mCons (mVar 0) (mCons (mVar 1) mNil))))) (mRaise 1) mNext))
def f_need_sound : Fn := fnOf 2 b_need_sound
theorem ok_need_sound (B : Bt mg) {a0 a1 a2 a3 a4 a5 a6 a7 a8 a9 aR : Addr} (ER : Et K mg a0 a1 a2 a3 a4 a5 a6 a7 a8 a9 aR) (F : DefAt K mg "need_sound" "need_sound" ["many", "lot"] st_need_sound) (C_need_lot : CalX P w K mg base (clOf [a1, a2, a3]) "need_lot" ["many", "lot"] 3 f_need_lot) (C_is_sound : Cal P w K mg base "is_sound" ["many", "lot"] 2 f_is_sound) : CalX P w K mg base (clOf [a1, a2, a3]) "need_sound" ["many", "lot"] 4 f_need_sound := cal_mkX F sc_need_sound fun cdv A outer s H Ex f hr =>
    (iss_cons (is_expr (ie_ownX C_need_lot tk_def hr rfl (ia_cons (iv 0) (ia_cons (iv 1) ia_nil))))
    (iss_one (is_if (it_not (it_val (ie_own C_is_sound (hr.mono (by decide)) rfl (ia_cons (iv 0) (ia_cons (iv 1) ia_nil))))) (iss_one (is_raiseE ER.e_NoLot rfl tk_def rfl)) iss_nil)))
abbrev st_higher : Stmt := topS 39
abbrev N_higher : List Str := ["many", "lot", "one", "other"]
theorem sc_higher : FnScope N_higher ["many", "lot", "one", "other"] (defScope st_higher) := ⟨rfl, rfl, rfl, by decide +kernel, rfl, by decide +kernel, by decide +kernel⟩
def b_higher : MS :=
    (mSeq (mDrop (mCallX f_need_sound (mCons (mVar 0) (mCons (mVar 1) mNil))))
    (mSeq (mIf (mOr (mNot (mTest (mCall f_is_from (mCons (mVar 2) (mCons (mC (.int 0)) (mCons (m2 gSub (mVar 0) (mC (.int 1))) mNil)))))) (mOr (mNot (mTest (mCall f_is_from (mCons (mVar 3) (mCons (mC (.int 0)) (mCons (m2 gSub (mVar 0) (mC (.int 1))) mNil)))))) (mTest (m2 gEq (mVar 2) (mVar 3))))) (mRaise 2) mNext)
    (mSeq mStuck
    (mSeq mStuck
    mStuck))))
def f_higher : Fn := fnOf 4 b_higher
theorem ok_higher (B : Bt mg) {a0 a1 a2 a3 a4 a5 a6 a7 a8 a9 aR : Addr} (ER : Et K mg a0 a1 a2 a3 a4 a5 a6 a7 a8 a9 aR) (F : DefAt K mg "higher" "higher" ["many", "lot", "one", "other"] st_higher) (C_need_sound : CalX P w K mg base (clOf [a1, a2, a3]) "need_sound" ["many", "lot"] 4 f_need_sound) (C_is_from : Cal P w K mg base "is_from" ["thing", "low", "high"] 1 f_is_from) : CalX P w K mg base (clOf [a1, a2, a3]) "higher" ["many", "lot", "one", "other"] 5 f_higher := cal_mkX F sc_higher fun cdv A outer s H Ex f hr =>
    (iss_cons (is_expr (ie_ownX C_need_sound tk_def hr rfl (ia_cons (iv 0) (ia_cons (iv 1) ia_nil))))
    (iss_cons (is_if (IW.it (iw_or (it_not (it_val (ie_own C_is_from (hr.mono (by decide)) rfl (ia_cons (iv 2) (ia_cons ie_int (ia_cons (ie_sub (iv 0) ie_int) ia_nil)))))) (iw_or (it_not (it_val (ie_own C_is_from (hr.mono (by decide)) rfl (ia_cons (iv 3) (ia_cons ie_int (ia_cons (ie_sub (iv 0) ie_int) ia_nil)))))) (iw_or1 (it_eq hr.units (iv 2) (iv 3)))))) (iss_one (is_raiseE ER.e_NoHouse rfl tk_def rfl)) iss_nil)
    (iss_cons is_never
    (iss_cons is_never
    (iss_one is_never)))))
abbrev st_from_ends : Stmt := topS 40
abbrev N_from_ends : List Str := ["many", "lot"]
theorem sc_from_ends : FnScope N_from_ends ["many", "lot"] (defScope st_from_ends) := ⟨rfl, rfl, rfl, by decide +kernel, rfl, by decide +kernel, by decide +kernel⟩
def b_from_ends : MS :=
    (mSeq (mDrop (mCallX f_need_sound (mCons (mVar 0) (mCons (mVar 1) mNil))))
    (mSeq mStuck
    (mSeq mStuck
    (mSeq mStuck
    mStuck))))
def f_from_ends : Fn := fnOf 2 b_from_ends
theorem ok_from_ends (B : Bt mg) {a0 a1 a2 a3 a4 a5 a6 a7 a8 a9 aR : Addr} (ER : Et K mg a0 a1 a2 a3 a4 a5 a6 a7 a8 a9 aR) (F : DefAt K mg "from_ends" "from_ends" ["many", "lot"] st_from_ends) (C_need_sound : CalX P w K mg base (clOf [a1, a2, a3]) "need_sound" ["many", "lot"] 4 f_need_sound) : CalX P w K mg base (clOf [a1, a2, a3]) "from_ends" ["many", "lot"] 5 f_from_ends := cal_mkX F sc_from_ends fun cdv A outer s H Ex f hr =>
    (iss_cons (is_expr (ie_ownX C_need_sound tk_def hr rfl (ia_cons (iv 0) (ia_cons (iv 1) ia_nil))))
    (iss_cons is_never
    (iss_cons is_never
    (iss_cons is_never
    (iss_one is_never)))))
abbrev st_need_known : Stmt := topS 42
abbrev N_need_known : List Str := ["many", "seen", "unseen"]
theorem sc_need_known : FnScope N_need_known ["many", "seen", "unseen"] (defScope st_need_known) := ⟨rfl, rfl, rfl, by decide +kernel, rfl, by decide +kernel, by decide +kernel⟩
def b_need_known : MS :=
    (mSeq (mDrop (mCallX f_need_lot (mCons (mVar 0) (mCons (mVar 1) mNil))))
    (mIf (mNot (mTest (mCall f_is_lot (mCons (mVar 0) (mCons (mVar 2) mNil))))) (mRaise 1) mNext))
def f_need_known : Fn := fnOf 3 b_need_known
theorem ok_need_known (B : Bt mg) {a0 a1 a2 a3 a4 a5 a6 a7 a8 a9 aR : Addr} (ER : Et K mg a0 a1 a2 a3 a4 a5 a6 a7 a8 a9 aR) (F : DefAt K mg "need_known" "need_known" ["many", "seen", "unseen"] st_need_known) (C_need_lot : CalX P w K mg base (clOf [a1, a2, a3]) "need_lot" ["many", "lot"] 3 f_need_lot) (C_is_lot : Cal P w K mg base "is_lot" ["many", "thing"] 2 f_is_lot) : CalX P w K mg base (clOf [a1, a2, a3]) "need_known" ["many", "seen", "unseen"] 4 f_need_known := cal_mkX F sc_need_known fun cdv A outer s H Ex f hr =>
    (iss_cons (is_expr (ie_ownX C_need_lot tk_def hr rfl (ia_cons (iv 0) (ia_cons (iv 1) ia_nil))))
    (iss_one (is_if (it_not (it_val (ie_own C_is_lot (hr.mono (by decide)) rfl (ia_cons (iv 0) (ia_cons (iv 2) ia_nil))))) (iss_one (is_raiseE ER.e_NoLot rfl tk_def rfl)) iss_nil)))
abbrev st_lots_with : Stmt := topS 53
abbrev N_lots_with : List Str := ["many", "seen", "unseen"]
theorem sc_lots_with : FnScope N_lots_with ["many", "seen", "unseen"] (defScope st_lots_with) := ⟨rfl, rfl, rfl, by decide +kernel, rfl, by decide +kernel, by decide +kernel⟩
def b_lots_with : MS :=
    (mSeq (mDrop (mCallX f_need_known (mCons (mVar 0) (mCons (mVar 1) (mCons (mVar 2) mNil)))))
    mStuck)
def f_lots_with : Fn := fnOf 3 b_lots_with
theorem ok_lots_with (B : Bt mg) {a0 a1 a2 a3 a4 a5 a6 a7 a8 a9 aR : Addr} (ER : Et K mg a0 a1 a2 a3 a4 a5 a6 a7 a8 a9 aR) (F : DefAt K mg "lots_with" "lots_with" ["many", "seen", "unseen"] st_lots_with) (C_need_known : CalX P w K mg base (clOf [a1, a2, a3]) "need_known" ["many", "seen", "unseen"] 4 f_need_known) : CalX P w K mg base (clOf [a1, a2, a3]) "lots_with" ["many", "seen", "unseen"] 5 f_lots_with := cal_mkX F sc_lots_with fun cdv A outer s H Ex f hr =>
    (iss_cons (is_expr (ie_ownX C_need_known tk_def hr rfl (ia_cons (iv 0) (ia_cons (iv 1) (ia_cons (iv 2) ia_nil)))))
    (iss_one is_never))
abbrev st_orders_with : Stmt := topS 54
abbrev N_orders_with : List Str := ["many", "seen", "unseen"]
theorem sc_orders_with : FnScope N_orders_with ["many", "seen", "unseen"] (defScope st_orders_with) := ⟨rfl, rfl, rfl, by decide +kernel, rfl, by decide +kernel, by decide +kernel⟩
def b_orders_with : MS :=
    (mSeq (mDrop (mCallX f_need_known (mCons (mVar 0) (mCons (mVar 1) (mCons (mVar 2) mNil)))))
    mStuck)
def f_orders_with : Fn := fnOf 3 b_orders_with
theorem ok_orders_with (B : Bt mg) {a0 a1 a2 a3 a4 a5 a6 a7 a8 a9 aR : Addr} (ER : Et K mg a0 a1 a2 a3 a4 a5 a6 a7 a8 a9 aR) (F : DefAt K mg "orders_with" "orders_with" ["many", "seen", "unseen"] st_orders_with) (C_need_known : CalX P w K mg base (clOf [a1, a2, a3]) "need_known" ["many", "seen", "unseen"] 4 f_need_known) : CalX P w K mg base (clOf [a1, a2, a3]) "orders_with" ["many", "seen", "unseen"] 5 f_orders_with := cal_mkX F sc_orders_with fun cdv A outer s H Ex f hr =>
    (iss_cons (is_expr (ie_ownX C_need_known tk_def hr rfl (ia_cons (iv 0) (ia_cons (iv 1) (ia_cons (iv 2) ia_nil)))))
    (iss_one is_never))
abbrev st_first_with : Stmt := topS 58
abbrev N_first_with : List Str := ["many", "seen", "unseen"]
theorem sc_first_with : FnScope N_first_with ["many", "seen", "unseen"] (defScope st_first_with) := ⟨rfl, rfl, rfl, by decide +kernel, rfl, by decide +kernel, by decide +kernel⟩
def b_first_with : MS :=
    (mSeq (mDrop (mCallX f_need_known (mCons (mVar 0) (mCons (mVar 1) (mCons (mVar 2) mNil)))))
    mStuck)
def f_first_with : Fn := fnOf 3 b_first_with
theorem ok_first_with (B : Bt mg) {a0 a1 a2 a3 a4 a5 a6 a7 a8 a9 aR : Addr} (ER : Et K mg a0 a1 a2 a3 a4 a5 a6 a7 a8 a9 aR) (F : DefAt K mg "first_with" "first_with" ["many", "seen", "unseen"] st_first_with) (C_need_known : CalX P w K mg base (clOf [a1, a2, a3]) "need_known" ["many", "seen", "unseen"] 4 f_need_known) : CalX P w K mg base (clOf [a1, a2, a3]) "first_with" ["many", "seen", "unseen"] 5 f_first_with := cal_mkX F sc_first_with fun cdv A outer s H Ex f hr =>
    (iss_cons (is_expr (ie_ownX C_need_known tk_def hr rfl (ia_cons (iv 0) (ia_cons (iv 1) (ia_cons (iv 2) ia_nil)))))
    (iss_one is_never))
abbrev st_sure : Stmt := topS 59
abbrev N_sure : List Str := ["many", "seen", "unseen"]
theorem sc_sure : FnScope N_sure ["many", "seen", "unseen"] (defScope st_sure) := ⟨rfl, rfl, rfl, by decide +kernel, rfl, by decide +kernel, by decide +kernel⟩
def b_sure : MS :=
    (mSeq (mDrop (mCallX f_need_known (mCons (mVar 0) (mCons (mVar 1) (mCons (mVar 2) mNil)))))
    (mSeq mStuck
    (mSeq mStuck
    (mSeq mStuck
    mStuck))))
def f_sure : Fn := fnOf 3 b_sure
theorem ok_sure (B : Bt mg) {a0 a1 a2 a3 a4 a5 a6 a7 a8 a9 aR : Addr} (ER : Et K mg a0 a1 a2 a3 a4 a5 a6 a7 a8 a9 aR) (F : DefAt K mg "sure" "sure" ["many", "seen", "unseen"] st_sure) (C_need_known : CalX P w K mg base (clOf [a1, a2, a3]) "need_known" ["many", "seen", "unseen"] 4 f_need_known) : CalX P w K mg base (clOf [a1, a2, a3]) "sure" ["many", "seen", "unseen"] 5 f_sure := cal_mkX F sc_sure fun cdv A outer s H Ex f hr =>
    (iss_cons (is_expr (ie_ownX C_need_known tk_def hr rfl (ia_cons (iv 0) (ia_cons (iv 1) (ia_cons (iv 2) ia_nil)))))
    (iss_cons is_never
    (iss_cons is_never
    (iss_cons is_never
    (iss_one is_never)))))
abbrev st_law_deck : Stmt := topS 61
abbrev N_law_deck : List Str := ["cell", "turn"]
theorem sc_law_deck : FnScope N_law_deck ["cell", "turn"] (defScope st_law_deck) := ⟨rfl, rfl, rfl, by decide +kernel, rfl, by decide +kernel, by decide +kernel⟩
def b_law_deck : MS :=
    (mSeq (mIf (mTest (m2 gGe (mVar 0) (m2 gPow (mC (.int 10)) (mC (.int 18))))) (mRet (mR (mLst (mCons (m2 gSub (mVar 0) (m2 gPow (mC (.int 10)) (mC (.int 18)))) (mCons (m2 gMod (mVar 0) (mC (.int 2147483579))) (mCons (mVar 1) mNil)))))) mNext)
    (mRet (mR (mLst (mCons (mC (.int 0)) (mCons (m2 gMod (mVar 0) (mC (.int 2147483579))) (mCons (mVar 1) mNil)))))))
def f_law_deck : Fn := fun ds S => (fnOf 2 b_law_deck ds S).nox
theorem ok_law_deck (B : Bt mg) (F : DefAt K mg "_law_deck" "_law_deck" ["cell", "turn"] st_law_deck)  : Cal P w K mg base "_law_deck" ["cell", "turn"] 1 f_law_deck := cal_mk F sc_law_deck fun cdv A outer s H E f hr =>
    (iss_cons (is_if (it_ge hr.units (iv 0) (ie_pow ie_int ie_int)) (iss_one (is_ret (IL.r (il_lst (ia_cons (ie_sub (iv 0) (ie_pow ie_int ie_int)) (ia_cons (ie_mod (iv 0) ie_int) (ia_cons (iv 1) ia_nil))))))) iss_nil)
    (iss_one (is_ret (IL.r (il_lst (ia_cons ie_int (ia_cons (ie_mod (iv 0) ie_int) (ia_cons (iv 1) ia_nil))))))))
abbrev st_law_pick : Stmt := topS 62
abbrev N_law_pick : List Str := ["deck", "size", "number", "found"]
theorem sc_law_pick : FnScope N_law_pick ["deck", "size"] (defScope st_law_pick) := ⟨rfl, rfl, rfl, by decide +kernel, rfl, by decide +kernel, by decide +kernel⟩
def b_law_pick : MS :=
    (mSeq (mIf (mTest (m2 gGt (m2 gIx (mVar 0) (mC (.int 0))) (mC (.int 1)))) (mSeq (mAsg (m2 gMod (m2 gIx (mVar 0) (mC (.int 0))) (mVar 1)) (gN 3))
    (mSeq (mAsg (m2 gDiv (m2 gIx (mVar 0) (mC (.int 0))) (mVar 1)) (gSubT (mVar 0) (mC (.int 0)) gSet))
    (mRet (mVar 3)))) mNext)
    (mSeq (mAsg (m2 gAdd (m2 gIx (mVar 0) (mC (.int 2))) (mC (.int 1))) (gSubT (mVar 0) (mC (.int 2)) gSet))
    (mSeq (mAsg (m2 gMod (m2 gPow (m2 gAdd (m2 gIx (mVar 0) (mC (.int 1))) (m2 gMul (mC (.int 15485867)) (m2 gIx (mVar 0) (mC (.int 2))))) (mC (.int 5))) (mC (.int 2147483647))) (gN 2))
    (mSeq (mAsg (m2 gDiv (m2 gMod (m2 gPow (m2 gAdd (mVar 2) (m2 gMul (mC (.int 7919)) (m2 gIx (mVar 0) (mC (.int 2))))) (mC (.int 3))) (mC (.int 2147483629))) (mC (.int 32))) (gN 3))
    (mRet (m2 gMod (mVar 3) (mVar 1)))))))
def f_law_pick : Fn := fun ds S => (fnOf 4 b_law_pick ds S).nox
theorem ok_law_pick (B : Bt mg) (F : DefAt K mg "_law_pick" "_law_pick" ["deck", "size"] st_law_pick)  : Cal P w K mg base "_law_pick" ["deck", "size"] 1 f_law_pick := cal_mk F sc_law_pick fun cdv A outer s H E f hr =>
    (iss_cons (is_if (it_gt hr.units (ie_item (iv 0) ie_int) ie_int) (iss_cons (is_set (i := 3) sc_law_pick.nd rfl (.inl rfl) (ie_mod (ie_item (iv 0) ie_int) (iv 1)))
    (iss_cons (is_asg (ie_div (ie_item (iv 0) ie_int) (iv 1)) (ig_item (iv 0) ie_int))
    (iss_one (is_ret (iv 3))))) iss_nil)
    (iss_cons (is_asg (ie_add (ie_item (iv 0) ie_int) ie_int) (ig_item (iv 0) ie_int))
    (iss_cons (is_set (i := 2) sc_law_pick.nd rfl (.inl rfl) (ie_mod (ie_pow (ie_add (ie_item (iv 0) ie_int) (ie_mul ie_int (ie_item (iv 0) ie_int))) ie_int) ie_int))
    (iss_cons (is_set (i := 3) sc_law_pick.nd rfl (.inl rfl) (ie_div (ie_mod (ie_pow (ie_add (iv 2) (ie_mul ie_int (ie_item (iv 0) ie_int))) ie_int) ie_int) ie_int))
    (iss_one (is_ret (ie_mod (iv 3) (iv 1))))))))
abbrev st_law_heights : Stmt := topS 65
abbrev N_law_heights : List Str := ["deck", "many", "top", "found", "turn", "height"]
theorem sc_law_heights : FnScope N_law_heights ["deck", "many", "top"] (defScope st_law_heights) := ⟨rfl, rfl, rfl, by decide +kernel, rfl, by decide +kernel, by decide +kernel⟩
def b_law_heights : MS :=
    (mSeq (mAsg (mR (mLst mNil)) (gN 3))
    (mSeq (mFor (mRng1 (mCons (mVar 1) mNil)) (gN 4) (mSeq (mAsg (mCall f_law_pick (mCons (mVar 0) (mCons (m2 gAdd (mVar 2) (mC (.int 1))) mNil))) (gN 5))
    (mSeq (mWhile (mTest (m2 gIn (mVar 5) (mVar 3))) (mAsg (m2 gMod (m2 gAdd (mVar 5) (mC (.int 1))) (m2 gAdd (mVar 2) (mC (.int 1)))) (gN 5)) 20)
    (mDrop (mMth gApp (mVar 3) (mCons (mVar 5) mNil))))))
    (mRet (mCB gTuple (mCons (mVar 3) mNil)))))
def f_law_heights : Fn := fun ds S => (fnOf 6 b_law_heights ds S).nox
theorem ok_law_heights (B : Bt mg) (F : DefAt K mg "_law_heights" "_law_heights" ["deck", "many", "top"] st_law_heights) (C_law_pick : Cal P w K mg base "_law_pick" ["deck", "size"] 1 f_law_pick) : Cal P w K mg base "_law_heights" ["deck", "many", "top"] 2 f_law_heights := cal_mk F sc_law_heights fun cdv A outer s H E f hr =>
    (iss_cons (is_set (i := 3) sc_law_heights.nd rfl (.inl rfl) (IL.r (il_lst ia_nil)))
    (iss_cons (is_for .never rfl (ii_rng1 rfl B.n_range (ia_cons (iv 1) ia_nil)) (ig_name (i := 4) sc_law_heights.nd rfl (.inl rfl)) (iss_cons (is_set (i := 5) sc_law_heights.nd rfl (.inl rfl) (ie_own C_law_pick hr rfl (ia_cons (iv 0) (ia_cons (ie_add (iv 2) ie_int) ia_nil))))
    (iss_cons (is_while 20 .never (it_in (u65 hr) (iv 5) (iv 3)) (iss_one (is_set (i := 5) sc_law_heights.nd rfl (.inl rfl) (ie_mod (ie_add (iv 5) ie_int) (ie_add (iv 2) ie_int)))))
    (iss_one (is_expr (ie_mth mt_append imp_app PySem.F.slot_list_append PySem.F.type_list_append (iv 3) (ia_cons (iv 5) ia_nil)))))))
    (iss_one (is_ret (ie_ct call_tuple_of imp_tuple rfl B.n_tuple boot_ttuple (ia_cons (iv 3) ia_nil))))))
abbrev st_law_seen : Stmt := topS 66
abbrev N_law_seen : List Str := ["heights_so", "found", "one", "other", "low", "height"]
theorem sc_law_seen : FnScope N_law_seen ["heights_so"] (defScope st_law_seen) := ⟨rfl, rfl, rfl, by decide +kernel, rfl, by decide +kernel, by decide +kernel⟩
def b_law_seen : MS :=
    (mSeq (mAsg (mR (mLst mNil)) (gN 1))
    (mSeq (mFor (mRng1 (mCons (mCB gLen (mCons (mVar 0) mNil)) mNil)) (gN 2) (mFor (mRng2 (mCons (m2 gAdd (mVar 2) (mC (.int 1))) (mCons (mCB gLen (mCons (mVar 0) mNil)) mNil))) (gN 3) (mSeq (mAsg (mCB gMin (mCons (m2 gIx (mVar 0) (mVar 2)) (mCons (m2 gIx (mVar 0) (mVar 3)) mNil))) (gN 4))
    (mIf (mTest (m2 gEq (mP (mLc (mItems (mSl (mVar 0) (mPart (some (m2 gAdd (mVar 2) (mC (.int 1))))) (mPart (some (mVar 3))))) (gN 5) (mTest (m2 gGt (mVar 5) (mVar 4))) (mVar 5) [5])) (mP (mLst mNil)))) (mDrop (mMth gApp (mVar 1) (mCons (mTup (mCons (mVar 2) (mCons (mVar 3) mNil))) mNil))) mNext))))
    (mRet (mCB gTuple (mCons (mVar 1) mNil)))))
def f_law_seen : Fn := fun ds S => (fnOf 6 b_law_seen ds S).nox
theorem ok_law_seen (B : Bt mg) (F : DefAt K mg "_law_seen" "_law_seen" ["heights_so"] st_law_seen)  : Cal P w K mg base "_law_seen" ["heights_so"] 1 f_law_seen := cal_mk F sc_law_seen fun cdv A outer s H E f hr =>
    (iss_cons (is_set (i := 1) sc_law_seen.nd rfl (.inl rfl) (IL.r (il_lst ia_nil)))
    (iss_cons (is_for .never rfl (ii_rng1 rfl B.n_range (ia_cons (ie_cb call_len_seq imp_len rfl B.n_len boot_len (ia_cons (iv 0) ia_nil)) ia_nil)) (ig_name (i := 2) sc_law_seen.nd rfl (.inl rfl)) (iss_one (is_for .never rfl (ii_rng2 rfl B.n_range (ia_cons (ie_add (iv 2) ie_int) (ia_cons (ie_cb call_len_seq imp_len rfl B.n_len boot_len (ia_cons (iv 0) ia_nil)) ia_nil))) (ig_name (i := 3) sc_law_seen.nd rfl (.inl rfl)) (iss_cons (is_set (i := 4) sc_law_seen.nd rfl (.inr rfl) (ie_cb (call_min2 rfl) imp_I2 rfl B.n_min boot_min1 (ia_cons (ie_item (iv 0) (iv 2)) (ia_cons (ie_item (iv 0) (iv 3)) ia_nil))))
    (iss_one (is_if (it_eq hr.units (IL.p (il_lc (own := [("height", 5)]) rfl sc_law_seen.nd (ii_any (ie_slice (iv 0) (ip_some (ie_add (iv 2) ie_int)) (ip_some (iv 3)))) (blkOk_by (own := [("height", 5)]) (N := N_law_seen) (sc := defScope st_law_seen) (by decide +kernel)) (by decide) (fun _ _ _ _ _ => (ig_name (i := 5) sc_law_seen.nd rfl (.inl rfl))) (fun _ _ _ _ _ => (its_one (it_gt hr.units (iv 5) (iv 4)))) (fun _ _ _ _ _ => (iv 5)))) (IL.p (il_lst ia_nil))) (iss_one (is_expr (ie_mth mt_append imp_app PySem.F.slot_list_append PySem.F.type_list_append (iv 1) (ia_cons (ie_tup (ia_cons (iv 2) (ia_cons (iv 3) ia_nil))) ia_nil)))) iss_nil))))))
    (iss_one (is_ret (ie_ct call_tuple_of imp_tuple rfl B.n_tuple boot_ttuple (ia_cons (iv 1) ia_nil))))))
abbrev st_law_by_lot : Stmt := topS 67
abbrev N_law_by_lot : List Str := ["many", "lot", "found"]
theorem sc_law_by_lot : FnScope N_law_by_lot ["many", "lot"] (defScope st_law_by_lot) := ⟨rfl, rfl, rfl, by decide +kernel, rfl, by decide +kernel, by decide +kernel⟩
def lam_law_by_lot_0 : ME := (mCallX f_can_be (mCons (mVar 0) (mCons (mVar 1) mNil)))
def lam_law_by_lot_1 : ME := (mCallX f_what_bars (mCons (mVar 0) (mCons (mVar 1) mNil)))
def lam_law_by_lot_2 : ME := (mCallX f_bars (mCons (mVar 0) (mCons (mVar 1) (mCons (mC .none) mNil))))
def lam_law_by_lot_3 : ME := (mCallX f_how_many (mCons (mVar 0) (mCons (mVar 1) mNil)))
def lam_law_by_lot_4 : ME := (mCallX f_first_order (mCons (mVar 0) (mCons (mVar 1) mNil)))
def lam_law_by_lot_5 : ME := (mCallX f_highest (mCons (mVar 0) (mCons (mVar 1) mNil)))
def f_law_by_lot (DP : Nat → Hp → V → Prop) (Tl T1 T2 T3 : Addr) : Fn := mkFn 3 1 T1 lamQ_law_by_lot DP [lam_law_by_lot_0, lam_law_by_lot_1, lam_law_by_lot_2, lam_law_by_lot_3, lam_law_by_lot_4, lam_law_by_lot_5]
theorem ok_law_by_lot (B : Bt mg) {a1 a2 a3 Tl T1 T2 T3 : Addr} (F : DefAtT K mg base "_law_by_lot" "_law_by_lot" ["many", "lot"] st_law_by_lot T1) (C_can_be : CalX P w K mg base (clOf [a1, a2, a3]) "can_be" ["many", "lot"] 4 f_can_be) (C_what_bars : CalX P w K mg base (clOf [a1, a2, a3]) "what_bars" ["many", "lot"] 4 f_what_bars) (C_bars : CalX P w K mg base (clOf [a1, a2, a3]) "bars" ["many", "lot", "thing"] 4 f_bars) (C_how_many : CalX P w K mg base (clOf [a1, a2, a3]) "how_many" ["many", "lot"] 4 f_how_many) (C_first_order : CalX P w K mg base (clOf [a1, a2, a3]) "first_order" ["many", "lot"] 4 f_first_order) (C_highest : CalX P w K mg base (clOf [a1, a2, a3]) "highest" ["many", "lot"] 4 f_highest) : Cal P w K mg base "_law_by_lot" ["many", "lot"] 5 (f_law_by_lot (DoorP P w K mg base (clOf [a1, a2, a3]) 5) Tl T1 T2 T3) := cal_mkD (k := 4) (kk := 5) (i := 2) F sc_law_by_lot (by decide +kernel) (by decide) (by decide) (by decide) fun c TB A outer s H E f hr =>
    (.first (is_set (i := 2) sc_law_by_lot.nd rfl (.inl rfl) (ie_newD TB rfl (LamX.lamS_by (sc := defScope st_law_by_lot) (by decide +kernel)))) ⟨LamX.lamS_by (sc := defScope st_law_by_lot) (by decide +kernel), by intros; rfl, fun A outer s H Ex f c' hr => (ie_ownX C_can_be tk_lam (hr.mono (by decide)) rfl (ia_cons (iv 0) (ia_cons (iv 1) ia_nil)))⟩
    (.more (is_expr (ie_appD TB rfl (LamX.lamS_by (sc := defScope st_law_by_lot) (by decide +kernel)) (pv 2))) ⟨LamX.lamS_by (sc := defScope st_law_by_lot) (by decide +kernel), by intros; rfl, fun A outer s H Ex f c' hr => (ie_ownX C_what_bars tk_lam (hr.mono (by decide)) rfl (ia_cons (iv 0) (ia_cons (iv 1) ia_nil)))⟩
    (.more (is_expr (ie_appD TB rfl (LamX.lamS_by (sc := defScope st_law_by_lot) (by decide +kernel)) (pv 2))) ⟨LamX.lamS_by (sc := defScope st_law_by_lot) (by decide +kernel), by intros; rfl, fun A outer s H Ex f c' hr => (ie_ownX C_bars tk_lam (hr.mono (by decide)) rfl (ia_cons (iv 0) (ia_cons (iv 1) (ia_cons ie_non ia_nil))))⟩
    (.more (is_expr (ie_appD TB rfl (LamX.lamS_by (sc := defScope st_law_by_lot) (by decide +kernel)) (pv 2))) ⟨LamX.lamS_by (sc := defScope st_law_by_lot) (by decide +kernel), by intros; rfl, fun A outer s H Ex f c' hr => (ie_ownX C_how_many tk_lam (hr.mono (by decide)) rfl (ia_cons (iv 0) (ia_cons (iv 1) ia_nil)))⟩
    (.more (is_expr (ie_appD TB rfl (LamX.lamS_by (sc := defScope st_law_by_lot) (by decide +kernel)) (pv 2))) ⟨LamX.lamS_by (sc := defScope st_law_by_lot) (by decide +kernel), by intros; rfl, fun A outer s H Ex f c' hr => (ie_ownX C_first_order tk_lam (hr.mono (by decide)) rfl (ia_cons (iv 0) (ia_cons (iv 1) ia_nil)))⟩
    (.more (is_expr (ie_appD TB rfl (LamX.lamS_by (sc := defScope st_law_by_lot) (by decide +kernel)) (pv 2))) ⟨LamX.lamS_by (sc := defScope st_law_by_lot) (by decide +kernel), by intros; rfl, fun A outer s H Ex f c' hr => (ie_ownX C_highest tk_lam (hr.mono (by decide)) rfl (ia_cons (iv 0) (ia_cons (iv 1) ia_nil)))⟩ (.ret (pv 2))))))))
abbrev st_law_by_sound : Stmt := topS 68
abbrev N_law_by_sound : List Str := ["many", "lot", "found"]
theorem sc_law_by_sound : FnScope N_law_by_sound ["many", "lot"] (defScope st_law_by_sound) := ⟨rfl, rfl, rfl, by decide +kernel, rfl, by decide +kernel, by decide +kernel⟩
def lam_law_by_sound_0 : ME := (mCallX f_higher (mCons (mVar 0) (mCons (mVar 1) (mCons (mC .none) (mCons (mC .none) mNil)))))
def lam_law_by_sound_1 : ME := (mCallX f_from_ends (mCons (mVar 0) (mCons (mVar 1) mNil)))
def f_law_by_sound (DP : Nat → Hp → V → Prop) (Tl T1 T2 T3 : Addr) : Fn := mkFn 3 2 T2 lamQ_law_by_sound DP [lam_law_by_sound_0, lam_law_by_sound_1]
theorem ok_law_by_sound (B : Bt mg) {a1 a2 a3 Tl T1 T2 T3 : Addr} (F : DefAtT K mg base "_law_by_sound" "_law_by_sound" ["many", "lot"] st_law_by_sound T2) (C_higher : CalX P w K mg base (clOf [a1, a2, a3]) "higher" ["many", "lot", "one", "other"] 5 f_higher) (C_from_ends : CalX P w K mg base (clOf [a1, a2, a3]) "from_ends" ["many", "lot"] 5 f_from_ends) : Cal P w K mg base "_law_by_sound" ["many", "lot"] 6 (f_law_by_sound (DoorP P w K mg base (clOf [a1, a2, a3]) 5) Tl T1 T2 T3) := cal_mkD (k := 5) (kk := 5) (i := 2) F sc_law_by_sound (by decide +kernel) (by decide) (by decide) (by decide) fun c TB A outer s H E f hr =>
    (.first (is_set (i := 2) sc_law_by_sound.nd rfl (.inl rfl) (ie_newD TB rfl (LamX.lamS_by (sc := defScope st_law_by_sound) (by decide +kernel)))) ⟨LamX.lamS_by (sc := defScope st_law_by_sound) (by decide +kernel), by intros; rfl, fun A outer s H Ex f c' hr => (ie_ownX C_higher tk_lam hr rfl (ia_cons (iv 0) (ia_cons (iv 1) (ia_cons ie_non (ia_cons ie_non ia_nil)))))⟩
    (.more (is_expr (ie_appD TB rfl (LamX.lamS_by (sc := defScope st_law_by_sound) (by decide +kernel)) (pv 2))) ⟨LamX.lamS_by (sc := defScope st_law_by_sound) (by decide +kernel), by intros; rfl, fun A outer s H Ex f c' hr => (ie_ownX C_from_ends tk_lam hr rfl (ia_cons (iv 0) (ia_cons (iv 1) ia_nil)))⟩ (.ret (pv 2))))
abbrev st_law_by_known : Stmt := topS 69
abbrev N_law_by_known : List Str := ["many", "seen", "unseen", "found"]
theorem sc_law_by_known : FnScope N_law_by_known ["many", "seen", "unseen"] (defScope st_law_by_known) := ⟨rfl, rfl, rfl, by decide +kernel, rfl, by decide +kernel, by decide +kernel⟩
def lam_law_by_known_0 : ME := (mCallX f_lots_with (mCons (mVar 0) (mCons (mVar 1) (mCons (mVar 2) mNil))))
def lam_law_by_known_1 : ME := (mCallX f_orders_with (mCons (mVar 0) (mCons (mVar 1) (mCons (mVar 2) mNil))))
def lam_law_by_known_2 : ME := (mCallX f_first_with (mCons (mVar 0) (mCons (mVar 1) (mCons (mVar 2) mNil))))
def lam_law_by_known_3 : ME := (mCallX f_sure (mCons (mVar 0) (mCons (mVar 1) (mCons (mVar 2) mNil))))
def f_law_by_known (DP : Nat → Hp → V → Prop) (Tl T1 T2 T3 : Addr) : Fn := mkFn 4 3 T3 lamQ_law_by_known DP [lam_law_by_known_0, lam_law_by_known_1, lam_law_by_known_2, lam_law_by_known_3]
theorem ok_law_by_known (B : Bt mg) {a1 a2 a3 Tl T1 T2 T3 : Addr} (F : DefAtT K mg base "_law_by_known" "_law_by_known" ["many", "seen", "unseen"] st_law_by_known T3) (C_lots_with : CalX P w K mg base (clOf [a1, a2, a3]) "lots_with" ["many", "seen", "unseen"] 5 f_lots_with) (C_orders_with : CalX P w K mg base (clOf [a1, a2, a3]) "orders_with" ["many", "seen", "unseen"] 5 f_orders_with) (C_first_with : CalX P w K mg base (clOf [a1, a2, a3]) "first_with" ["many", "seen", "unseen"] 5 f_first_with) (C_sure : CalX P w K mg base (clOf [a1, a2, a3]) "sure" ["many", "seen", "unseen"] 5 f_sure) : Cal P w K mg base "_law_by_known" ["many", "seen", "unseen"] 6 (f_law_by_known (DoorP P w K mg base (clOf [a1, a2, a3]) 5) Tl T1 T2 T3) := cal_mkD (k := 5) (kk := 5) (i := 3) F sc_law_by_known (by decide +kernel) (by decide) (by decide) (by decide) fun c TB A outer s H E f hr =>
    (.first (is_set (i := 3) sc_law_by_known.nd rfl (.inl rfl) (ie_newD TB rfl (LamX.lamS_by (sc := defScope st_law_by_known) (by decide +kernel)))) ⟨LamX.lamS_by (sc := defScope st_law_by_known) (by decide +kernel), by intros; rfl, fun A outer s H Ex f c' hr => (ie_ownX C_lots_with tk_lam hr rfl (ia_cons (iv 0) (ia_cons (iv 1) (ia_cons (iv 2) ia_nil))))⟩
    (.more (is_expr (ie_appD TB rfl (LamX.lamS_by (sc := defScope st_law_by_known) (by decide +kernel)) (pv 3))) ⟨LamX.lamS_by (sc := defScope st_law_by_known) (by decide +kernel), by intros; rfl, fun A outer s H Ex f c' hr => (ie_ownX C_orders_with tk_lam hr rfl (ia_cons (iv 0) (ia_cons (iv 1) (ia_cons (iv 2) ia_nil))))⟩
    (.more (is_expr (ie_appD TB rfl (LamX.lamS_by (sc := defScope st_law_by_known) (by decide +kernel)) (pv 3))) ⟨LamX.lamS_by (sc := defScope st_law_by_known) (by decide +kernel), by intros; rfl, fun A outer s H Ex f c' hr => (ie_ownX C_first_with tk_lam hr rfl (ia_cons (iv 0) (ia_cons (iv 1) (ia_cons (iv 2) ia_nil))))⟩
    (.more (is_expr (ie_appD TB rfl (LamX.lamS_by (sc := defScope st_law_by_known) (by decide +kernel)) (pv 3))) ⟨LamX.lamS_by (sc := defScope st_law_by_known) (by decide +kernel), by intros; rfl, fun A outer s H Ex f c' hr => (ie_ownX C_sure tk_lam hr rfl (ia_cons (iv 0) (ia_cons (iv 1) (ia_cons (iv 2) ia_nil))))⟩ (.ret (pv 3))))))
abbrev st_law_all_told : Stmt := topS 70
abbrev N_law_all_told : List Str := ["doors", "word", "door"]
theorem sc_law_all_told : FnScope N_law_all_told ["doors", "word"] (defScope st_law_all_told) := ⟨rfl, rfl, rfl, by decide +kernel, rfl, by decide +kernel, by decide +kernel⟩
def b_law_all_told (DP : Nat → Hp → V → Prop) (Tl T1 T2 T3 : Addr) : MS := mRet (m2 gEq (mP (mTold DP kinN 0 1 2)) (mP (mLst mNil)))
def f_law_all_told (DP : Nat → Hp → V → Prop) (Tl T1 T2 T3 : Addr) : Fn := fun ds S => (fnOf 3 (b_law_all_told DP Tl T1 T2 T3) ds S).nox
theorem ok_law_all_told (B : Bt mg) {a1 a2 a3 Tl T1 T2 T3 : Addr} (T : TryAt P w K mg base "_law_try" "told" 6 (clOf [a1, a2, a3]) kinN) (F : DefAt K mg "_law_all_told" "_law_all_told" ["doors", "word"] st_law_all_told) : Cal P w K mg base "_law_all_told" ["doors", "word"] 8 (f_law_all_told (DoorP P w K mg base (clOf [a1, a2, a3]) 5) Tl T1 T2 T3) := cal_mk F sc_law_all_told fun cdv A outer s H E f hr =>
    iss_one (is_ret (ie_eq hr.units (IL.p (il_told (own := [("door", 2)]) (k := 5) (i := 0) (jw := 1) (jd := 2) rfl sc_law_all_told.nd hr.units T hr (pv 0) (blkOk_by (own := [("door", 2)]) (N := N_law_all_told) (sc := defScope st_law_all_told) (by decide +kernel)) (by decide) (by decide) (fun _ _ _ _ _ => pg_name (i := 2) sc_law_all_told.nd rfl (.inl rfl)) (fun _ _ _ _ _ => rfl) (fun _ _ _ _ _ => pv 2) (fun _ _ _ _ _ => pv 1) (fun _ _ _ _ _ => pv 2))) (IL.p (il_lst ia_nil))))
abbrev st_law : Stmt := topS 71
abbrev N_law : List Str := ["script", "cell", "deck", "many", "lot", "odd", "bads", "bad", "doors", "one", "other"]
theorem sc_law : FnScope N_law ["script"] (defScope st_law) := ⟨rfl, rfl, rfl, by decide +kernel, rfl, by decide +kernel, by decide +kernel⟩
def s_law_1 (DP : Nat → Hp → V → Prop) (Tl T1 T2 T3 : Addr) : MS :=
    (mAsg (mCall f_law_deck (mCons (mVar 1) (mCons (mC (.int 12)) mNil))) (gN 2))
def s_law_2 (DP : Nat → Hp → V → Prop) (Tl T1 T2 T3 : Addr) : MS :=
    (mAsg (m2 gAdd (mC (.int 2)) (mCall f_law_pick (mCons (mVar 2) (mCons (mC (.int 11)) mNil)))) (gN 3))
def s_law_3 (DP : Nat → Hp → V → Prop) (Tl T1 T2 T3 : Addr) : MS :=
    (mAsg (mCall f_law_seen (mCons (mCall f_law_heights (mCons (mVar 2) (mCons (mVar 3) (mCons (mC (.int 99)) mNil)))) mNil)) (gN 4))
def b_law_4 (DP : Nat → Hp → V → Prop) (Tl T1 T2 T3 : Addr) : MS :=
    (mSeq (mAsg (m2 gCatD (m2 gCatD (mCall (f_law_by_lot DP Tl T1 T2 T3) (mCons (mVar 5) (mCons (mC .none) mNil))) (mCall (f_law_by_sound DP Tl T1 T2 T3) (mCons (mVar 5) (mCons (mC .none) mNil)))) (mCall (f_law_by_known DP Tl T1 T2 T3) (mCons (mVar 5) (mCons (mC .none) (mCons (mC .none) mNil))))) (gN 8))
    (mIf (mNot (mTest (mCall (f_law_all_told DP Tl T1 T2 T3) (mCons (mVar 8) (mCons (mC (.str "NoNumber+")) mNil))))) (mRet (mC (.bool false))) mNext))
def s_law_4 (DP : Nat → Hp → V → Prop) (Tl T1 T2 T3 : Addr) : MS :=
    (mAsg (mP (mLst (mCons (mC .none) (mCons (mP (mCL gList (mCons (mVar 4) mNil))) (mCons (m2 gAdd (mVar 4) (mSl (mVar 4) (mPart none) (mPart (some (mC (.int 1)))))) (mCons (mTup (mCons (mTup (mCons (mC (.int 0)) (mCons (mVar 3) mNil))) mNil)) (mCons (mTup (mCons (mTup (mCons (mC (.int 1)) (mCons (mC (.int 0)) mNil))) mNil)) (mCons (mTup (mCons (mTup (mCons (mC (.int 0)) (mCons (mC (.int 0)) mNil))) mNil)) (mCons (mTup (mCons (mTup (mCons (mC (.bool true)) (mCons (mC (.int 1)) mNil))) mNil)) (mCons (mTup (mCons (mTup (mCons (mC (.int 0)) (mCons (mC (.int 1)) (mCons (mC (.int 2)) mNil)))) mNil)) mNil)))))))))) (gN 6))
def b_law_6 (DP : Nat → Hp → V → Prop) (Tl T1 T2 T3 : Addr) : MS :=
    (mSeq (mAsg (m2 gCatD (m2 gCatD (mCall (f_law_by_lot DP Tl T1 T2 T3) (mCons (mVar 3) (mCons (mVar 7) mNil))) (mCall (f_law_by_sound DP Tl T1 T2 T3) (mCons (mVar 3) (mCons (mVar 7) mNil)))) (mCall (f_law_by_known DP Tl T1 T2 T3) (mCons (mVar 3) (mCons (mVar 7) (mCons (mC .none) mNil))))) (gN 8))
    (mIf (mNot (mTest (mCall (f_law_all_told DP Tl T1 T2 T3) (mCons (m2 gCatD (mVar 8) (mCall (f_law_by_known DP Tl T1 T2 T3) (mCons (mVar 3) (mCons (mVar 4) (mCons (mVar 7) mNil))))) (mCons (mC (.str "NoLot+")) mNil))))) (mRet (mC (.bool false))) mNext))
def s_law_5 (DP : Nat → Hp → V → Prop) (Tl T1 T2 T3 : Addr) : MS :=
    (mIf (mNot (mTest (mCall (f_law_all_told DP Tl T1 T2 T3) (mCons (m2 gCatD (mCall (f_law_by_sound DP Tl T1 T2 T3) (mCons (mVar 3) (mCons (mTup mNil) mNil))) (mCall (f_law_by_sound DP Tl T1 T2 T3) (mCons (mVar 3) (mCons (mSl (mVar 4) (mPart (some (mC (.int 1)))) (mPart none)) mNil)))) (mCons (mC (.str "NoLot+")) mNil))))) (mRet (mC (.bool false))) mNext)
def b_law_8 (DP : Nat → Hp → V → Prop) (Tl T1 T2 T3 : Addr) : MS :=
    (mIf (mTest (m2 gNe (mTry 0 Tl lamQ "told" kinN (mCallX f_higher (mCons (mVar 3) (mCons (mVar 4) (mCons (mVar 9) (mCons (mVar 10) mNil)))))) (mC (.str "NoHouse+")))) (mRet (mC (.bool false))) mNext)
def b_law_9 (DP : Nat → Hp → V → Prop) (Tl T1 T2 T3 : Addr) : MS :=
    (mSeq (s_law_1 DP Tl T1 T2 T3)
    (mSeq (s_law_2 DP Tl T1 T2 T3)
    (mSeq (s_law_3 DP Tl T1 T2 T3)
    (mSeq (mFor (mItems (mP (mLst (mCons (mC .none) (mCons (mC (.bool true)) (mCons (mC (.int 0)) (mCons (mC (.int 13)) (mCons (mC (.str "3")) (mCons (mTup (mCons (mC (.int 3)) mNil)) mNil))))))))) (gN 5) (b_law_4 DP Tl T1 T2 T3))
    (mSeq (s_law_4 DP Tl T1 T2 T3)
    (mSeq (mFor (mItems (m2 gAdd (mVar 6) (mP (mLst (mCons (mTup (mCons (mC (.int 0)) (mCons (mC (.int 1)) mNil))) (mCons (mTup (mCons (mTup (mCons (m1 gNeg (mC (.int 1))) (mCons (mC (.int 1)) mNil))) mNil)) mNil)))))) (gN 7) (b_law_6 DP Tl T1 T2 T3))
    (mSeq (s_law_5 DP Tl T1 T2 T3)
    (mFor (mItems (mP (mLst (mCons (mTup (mCons (mC .none) (mCons (mC (.int 0)) mNil))) (mCons (mTup (mCons (mC (.int 0)) (mCons (mC .none) mNil))) (mCons (mTup (mCons (mC (.int 0)) (mCons (mC (.int 0)) mNil))) (mCons (mTup (mCons (mC (.bool true)) (mCons (mC (.int 0)) mNil))) (mCons (mTup (mCons (mC (.int 0)) (mCons (mVar 3) mNil))) (mCons (mTup (mCons (m1 gNeg (mC (.int 1))) (mCons (mC (.int 0)) mNil))) (mCons (mTup (mCons (mC (.str "0")) (mCons (mC (.int 1)) mNil))) mNil)))))))))) (gT 2 (gsCons (gN 9) (gsCons (gN 10) gsNil))) (b_law_8 DP Tl T1 T2 T3)))))))))
def s_law_6 (DP : Nat → Hp → V → Prop) (Tl T1 T2 T3 : Addr) : MS :=
    (mRet (mC (.bool true)))
def b_law (DP : Nat → Hp → V → Prop) (Tl T1 T2 T3 : Addr) : MS :=
    (mSeq (mFor (mItems (mSl (m2 gAdd (mP (mLst (mCons (mC (.int 0)) mNil))) (mVar 0)) (mPart none) (mPart (some (mC (.int 8)))))) (gN 1) (mCut (b_law_9 DP Tl T1 T2 T3)))
    (s_law_6 DP Tl T1 T2 T3))
def f_law (DP : Nat → Hp → V → Prop) (Tl T1 T2 T3 : Addr) : Fn := fun ds S => (fnOf 11 (b_law DP Tl T1 T2 T3) ds S).nox
theorem okF_law (B : Bt mg) {DP : Nat → Hp → V → Prop} {a1 a2 a3 Tl T1 T2 T3 c f : Addr} (T : TryAt P w K mg base "_law_try" "told" 6 (clOf [a1, a2, a3]) kinN) (TB : LamX.TabB base mg c Tl) {oc kV dc pm ct : Value} {od an : Option Addr} {sl : Array (Option Value)} (lk : K.lookup f = some ⟨oc, od, .func (PySem.W.fnOf "law" "law" (defArgs st_law) (defBody st_law) (defScope st_law) .none kV dc pm an (.ref c) ct), sl⟩) (hcd : PySem.W.codeIn K (.ref c) "law" = true) (C_law_deck : Cal P w K mg base "_law_deck" ["cell", "turn"] 1 f_law_deck) (C_law_seen : Cal P w K mg base "_law_seen" ["heights_so"] 1 f_law_seen) (C_law_pick : Cal P w K mg base "_law_pick" ["deck", "size"] 1 f_law_pick) (C_law_heights : Cal P w K mg base "_law_heights" ["deck", "many", "top"] 2 f_law_heights) (C_law_all_told : Cal P w K mg base "_law_all_told" ["doors", "word"] 8 (f_law_all_told DP Tl T1 T2 T3)) (C_law_by_known : Cal P w K mg base "_law_by_known" ["many", "seen", "unseen"] 6 (f_law_by_known DP Tl T1 T2 T3)) (C_law_by_lot : Cal P w K mg base "_law_by_lot" ["many", "lot"] 5 (f_law_by_lot DP Tl T1 T2 T3)) (C_law_by_sound : Cal P w K mg base "_law_by_sound" ["many", "lot"] 6 (f_law_by_sound DP Tl T1 T2 T3)) (C_higher : CalX P w K mg base (clOf [a1, a2, a3]) "higher" ["many", "lot", "one", "other"] 5 f_higher) : FnOk P w K mg base CX0 9 f (PySem.W.fnOf "law" "law" (defArgs st_law) (defBody st_law) (defScope st_law) .none kV dc pm an (.ref c) ct) ["script"] (spF K (fun _ => .none) 1 (f_law DP Tl T1 T2 T3)) := fn_okT lk hcd sc_law fun A outer s H E hr =>
    (iss_cons (is_for .never rfl (ii_any (ie_slice (ie_add (IL.p (il_lst (ia_cons ie_int ia_nil))) (iv 0)) ip_none (ip_some ie_int))) (ig_name (i := 1) sc_law.nd rfl (.inl rfl)) (iss_cut (iss_cons (is_set (i := 2) sc_law.nd rfl (.inl rfl) (ie_own C_law_deck (hr.mono (by decide)) rfl (ia_cons (iv 1) (ia_cons ie_int ia_nil))))
    (iss_cons (is_set (i := 3) sc_law.nd rfl (.inr rfl) (ie_add ie_int (ie_own C_law_pick (hr.mono (by decide)) rfl (ia_cons (iv 2) (ia_cons ie_int ia_nil)))))
    (iss_cons (is_set (i := 4) sc_law.nd rfl (.inr rfl) (ie_own C_law_seen (hr.mono (by decide)) rfl (ia_cons (ie_own C_law_heights (hr.mono (by decide)) rfl (ia_cons (iv 2) (ia_cons (iv 3) (ia_cons ie_int ia_nil)))) ia_nil)))
    (iss_cons (is_for .never rfl (ii_any (IL.p (il_lst (ia_cons ie_non (ia_cons ie_bl (ia_cons ie_int (ia_cons ie_int (ia_cons ie_str (ia_cons (ie_tup (ia_cons ie_int ia_nil)) ia_nil))))))))) (ig_name (i := 5) sc_law.nd rfl (.inl rfl)) (iss_cons (is_set (i := 8) sc_law.nd rfl (.inl rfl) (ie_catD (ie_catD (ie_own C_law_by_lot (hr.mono (by decide)) rfl (ia_cons (iv 5) (ia_cons ie_non ia_nil))) (ie_own C_law_by_sound (hr.mono (by decide)) rfl (ia_cons (iv 5) (ia_cons ie_non ia_nil)))) (ie_own C_law_by_known (hr.mono (by decide)) rfl (ia_cons (iv 5) (ia_cons ie_non (ia_cons ie_non ia_nil))))))
    (iss_one (is_if (it_not (it_val (ie_own C_law_all_told hr rfl (ia_cons (iv 8) (ia_cons ie_str ia_nil))))) (iss_one (is_ret ie_bl)) iss_nil))))
    (iss_cons (is_set (i := 6) sc_law.nd rfl (.inl rfl) (IL.p (il_lst (ia_cons ie_non (ia_cons (IL.p (il_ct call_list_of imp_list rfl B.n_list boot_tlist (ia_cons (iv 4) ia_nil))) (ia_cons (ie_add (iv 4) (ie_slice (iv 4) ip_none (ip_some ie_int))) (ia_cons (ie_tup (ia_cons (ie_tup (ia_cons ie_int (ia_cons (iv 3) ia_nil))) ia_nil)) (ia_cons (ie_tup (ia_cons (ie_tup (ia_cons ie_int (ia_cons ie_int ia_nil))) ia_nil)) (ia_cons (ie_tup (ia_cons (ie_tup (ia_cons ie_int (ia_cons ie_int ia_nil))) ia_nil)) (ia_cons (ie_tup (ia_cons (ie_tup (ia_cons ie_bl (ia_cons ie_int ia_nil))) ia_nil)) (ia_cons (ie_tup (ia_cons (ie_tup (ia_cons ie_int (ia_cons ie_int (ia_cons ie_int ia_nil)))) ia_nil)) ia_nil)))))))))))
    (iss_cons (is_for .never rfl (ii_any (ie_add (iv 6) (IL.p (il_lst (ia_cons (ie_tup (ia_cons ie_int (ia_cons ie_int ia_nil))) (ia_cons (ie_tup (ia_cons (ie_tup (ia_cons (ie_neg ie_int) (ia_cons ie_int ia_nil))) ia_nil)) ia_nil)))))) (ig_name (i := 7) sc_law.nd rfl (.inl rfl)) (iss_cons (is_set (i := 8) sc_law.nd rfl (.inl rfl) (ie_catD (ie_catD (ie_own C_law_by_lot (hr.mono (by decide)) rfl (ia_cons (iv 3) (ia_cons (iv 7) ia_nil))) (ie_own C_law_by_sound (hr.mono (by decide)) rfl (ia_cons (iv 3) (ia_cons (iv 7) ia_nil)))) (ie_own C_law_by_known (hr.mono (by decide)) rfl (ia_cons (iv 3) (ia_cons (iv 7) (ia_cons ie_non ia_nil))))))
    (iss_one (is_if (it_not (it_val (ie_own C_law_all_told hr rfl (ia_cons (ie_catD (iv 8) (ie_own C_law_by_known (hr.mono (by decide)) rfl (ia_cons (iv 3) (ia_cons (iv 4) (ia_cons (iv 7) ia_nil))))) (ia_cons ie_str ia_nil))))) (iss_one (is_ret ie_bl)) iss_nil))))
    (iss_cons (is_if (it_not (it_val (ie_own C_law_all_told hr rfl (ia_cons (ie_catD (ie_own C_law_by_sound (hr.mono (by decide)) rfl (ia_cons (iv 3) (ia_cons (ie_tup ia_nil) ia_nil))) (ie_own C_law_by_sound (hr.mono (by decide)) rfl (ia_cons (iv 3) (ia_cons (ie_slice (iv 4) (ip_some ie_int) ip_none) ia_nil)))) (ia_cons ie_str ia_nil))))) (iss_one (is_ret ie_bl)) iss_nil)
    (iss_one (is_for .never rfl (ii_any (IL.p (il_lst (ia_cons (ie_tup (ia_cons ie_non (ia_cons ie_int ia_nil))) (ia_cons (ie_tup (ia_cons ie_int (ia_cons ie_non ia_nil))) (ia_cons (ie_tup (ia_cons ie_int (ia_cons ie_int ia_nil))) (ia_cons (ie_tup (ia_cons ie_bl (ia_cons ie_int ia_nil))) (ia_cons (ie_tup (ia_cons ie_int (ia_cons (iv 3) ia_nil))) (ia_cons (ie_tup (ia_cons (ie_neg ie_int) (ia_cons ie_int ia_nil))) (ia_cons (ie_tup (ia_cons ie_str (ia_cons ie_int ia_nil))) ia_nil)))))))))) (ig_tup rfl (igs_cons (ig_name (i := 9) sc_law.nd rfl (.inr rfl)) (igs_cons (ig_name (i := 10) sc_law.nd rfl (.inr rfl)) igs_nil))) (iss_one (is_if (it_ne hr.units (ie_tryD (k := 5) 0 T rfl TB rfl (hr.mono (by decide)) (LamX.lamS_by (sc := defScope st_law) (by decide +kernel)) (fun A outer s H Ex f c' hr => (ie_ownX C_higher tk_lam hr rfl (ia_cons (iv 3) (ia_cons (iv 4) (ia_cons (iv 9) (ia_cons (iv 10) ia_nil))))))) ie_str) (iss_one (is_ret ie_bl)) iss_nil)))))))))))))
    (iss_one (is_ret ie_bl)))
theorem all_ok (B : Bt mg) {a0 a1 a2 a3 a4 a5 a6 a7 a8 a9 aR Tl T1 T2 T3 c f : Addr} (ER : Et K mg a0 a1 a2 a3 a4 a5 a6 a7 a8 a9 aR) (FK : DefAt K mg "_law_kin" "_law_kin" ["e"] st_law_kin) (FT : DefAt K mg "_law_try" "_law_try" ["door"] st_law_try) (D_is_from : DefAt K mg "is_from" "is_from" ["thing", "low", "high"] st_is_from) (D_is_rising : DefAt K mg "is_rising" "is_rising" ["things"] st_is_rising) (D_is_lot : DefAt K mg "is_lot" "is_lot" ["many", "thing"] st_is_lot) (D_need_many : DefAt K mg "need_many" "need_many" ["many"] st_need_many) (D_need_lot : DefAt K mg "need_lot" "need_lot" ["many", "lot"] st_need_lot) (D_all_bars : DefAt K mg "all_bars" "all_bars" ["many", "lot"] st_all_bars) (D_is_sound : DefAt K mg "is_sound" "is_sound" ["many", "lot"] st_is_sound) (D_can_be : DefAt K mg "can_be" "can_be" ["many", "lot"] st_can_be) (D_what_bars : DefAt K mg "what_bars" "what_bars" ["many", "lot"] st_what_bars) (D_bars : DefAt K mg "bars" "bars" ["many", "lot", "thing"] st_bars) (D_how_many : DefAt K mg "how_many" "how_many" ["many", "lot"] st_how_many) (D_first_order : DefAt K mg "first_order" "first_order" ["many", "lot"] st_first_order) (D_highest : DefAt K mg "highest" "highest" ["many", "lot"] st_highest) (D_need_sound : DefAt K mg "need_sound" "need_sound" ["many", "lot"] st_need_sound) (D_higher : DefAt K mg "higher" "higher" ["many", "lot", "one", "other"] st_higher) (D_from_ends : DefAt K mg "from_ends" "from_ends" ["many", "lot"] st_from_ends) (D_need_known : DefAt K mg "need_known" "need_known" ["many", "seen", "unseen"] st_need_known) (D_lots_with : DefAt K mg "lots_with" "lots_with" ["many", "seen", "unseen"] st_lots_with) (D_orders_with : DefAt K mg "orders_with" "orders_with" ["many", "seen", "unseen"] st_orders_with) (D_first_with : DefAt K mg "first_with" "first_with" ["many", "seen", "unseen"] st_first_with) (D_sure : DefAt K mg "sure" "sure" ["many", "seen", "unseen"] st_sure) (D_law_deck : DefAt K mg "_law_deck" "_law_deck" ["cell", "turn"] st_law_deck) (D_law_pick : DefAt K mg "_law_pick" "_law_pick" ["deck", "size"] st_law_pick) (D_law_heights : DefAt K mg "_law_heights" "_law_heights" ["deck", "many", "top"] st_law_heights) (D_law_seen : DefAt K mg "_law_seen" "_law_seen" ["heights_so"] st_law_seen) (D_law_by_lot : DefAtT K mg base "_law_by_lot" "_law_by_lot" ["many", "lot"] st_law_by_lot T1) (D_law_by_sound : DefAtT K mg base "_law_by_sound" "_law_by_sound" ["many", "lot"] st_law_by_sound T2) (D_law_by_known : DefAtT K mg base "_law_by_known" "_law_by_known" ["many", "seen", "unseen"] st_law_by_known T3) (D_law_all_told : DefAt K mg "_law_all_told" "_law_all_told" ["doors", "word"] st_law_all_told) (TB : LamX.TabB base mg c Tl) {oc kV dc pm ct : Value} {od an : Option Addr} {sl : Array (Option Value)} (lk : K.lookup f = some ⟨oc, od, .func (PySem.W.fnOf "law" "law" (defArgs st_law) (defBody st_law) (defScope st_law) .none kV dc pm an (.ref c) ct), sl⟩) (hcd : PySem.W.codeIn K (.ref c) "law" = true) : FnOk P w K mg base CX0 9 f (PySem.W.fnOf "law" "law" (defArgs st_law) (defBody st_law) (defScope st_law) .none kV dc pm an (.ref c) ct) ["script"] (spF K (fun _ => .none) 1 (f_law (DoorP P w K mg base (clOf [a1, a2, a3]) 5) Tl T1 T2 T3)) := by
  have C_is_from := ok_is_from (P := P) (w := w) (base := base) B D_is_from 
  have C_is_rising := ok_is_rising (P := P) (w := w) (base := base) B D_is_rising 
  have C_is_lot := ok_is_lot (P := P) (w := w) (base := base) B D_is_lot C_is_rising C_is_from
  have C_need_many := ok_need_many (P := P) (w := w) (base := base) B ER D_need_many C_is_from
  have C_need_lot := ok_need_lot (P := P) (w := w) (base := base) B ER D_need_lot C_need_many C_is_lot
  have C_all_bars := ok_all_bars (P := P) (w := w) (base := base) B D_all_bars 
  have C_is_sound := ok_is_sound (P := P) (w := w) (base := base) B D_is_sound C_all_bars
  have C_can_be := ok_can_be (P := P) (w := w) (base := base) B ER D_can_be C_need_lot
  have C_what_bars := ok_what_bars (P := P) (w := w) (base := base) B ER D_what_bars C_need_lot
  have C_bars := ok_bars (P := P) (w := w) (base := base) B ER D_bars C_need_lot
  have C_how_many := ok_how_many (P := P) (w := w) (base := base) B ER D_how_many C_need_lot
  have C_first_order := ok_first_order (P := P) (w := w) (base := base) B ER D_first_order C_need_lot
  have C_highest := ok_highest (P := P) (w := w) (base := base) B ER D_highest C_need_lot
  have C_need_sound := ok_need_sound (P := P) (w := w) (base := base) B ER D_need_sound C_need_lot C_is_sound
  have C_higher := ok_higher (P := P) (w := w) (base := base) B ER D_higher C_need_sound C_is_from
  have C_from_ends := ok_from_ends (P := P) (w := w) (base := base) B ER D_from_ends C_need_sound
  have C_need_known := ok_need_known (P := P) (w := w) (base := base) B ER D_need_known C_need_lot C_is_lot
  have C_lots_with := ok_lots_with (P := P) (w := w) (base := base) B ER D_lots_with C_need_known
  have C_orders_with := ok_orders_with (P := P) (w := w) (base := base) B ER D_orders_with C_need_known
  have C_first_with := ok_first_with (P := P) (w := w) (base := base) B ER D_first_with C_need_known
  have C_sure := ok_sure (P := P) (w := w) (base := base) B ER D_sure C_need_known
  have C_law_deck := ok_law_deck (P := P) (w := w) (base := base) B D_law_deck 
  have C_law_pick := ok_law_pick (P := P) (w := w) (base := base) B D_law_pick 
  have C_law_heights := ok_law_heights (P := P) (w := w) (base := base) B D_law_heights C_law_pick
  have C_law_seen := ok_law_seen (P := P) (w := w) (base := base) B D_law_seen 
  have C_law_by_lot := ok_law_by_lot (P := P) (w := w) (base := base) (Tl := Tl) (T1 := T1) (T2 := T2) (T3 := T3) B D_law_by_lot C_can_be C_what_bars C_bars C_how_many C_first_order C_highest
  have C_law_by_sound := ok_law_by_sound (P := P) (w := w) (base := base) (Tl := Tl) (T1 := T1) (T2 := T2) (T3 := T3) B D_law_by_sound C_higher C_from_ends
  have C_law_by_known := ok_law_by_known (P := P) (w := w) (base := base) (Tl := Tl) (T1 := T1) (T2 := T2) (T3 := T3) B D_law_by_known C_lots_with C_orders_with C_first_with C_sure
  have C_law_all_told := ok_law_all_told (P := P) (w := w) (base := base) (Tl := Tl) (T1 := T1) (T2 := T2) (T3 := T3) B (try_is B ER FK FT 5) D_law_all_told 
  exact okF_law B (try_is B ER FK FT 5) TB lk hcd C_law_deck C_law_seen C_law_pick C_law_heights C_law_all_told C_law_by_known C_law_by_lot C_law_by_sound C_higher
end
end LK


set_option maxHeartbeats 4000000
namespace LK
open PySem L2 G
def Dk (S : Sto) (l k : Nat) : Prop := ∃ a b c : Int, S[l]? = some (some (.lst [.int a, .int b, .int c])) ∧ 0 ≤ b ∧ b < 2147483579 ∧ 0 ≤ c ∧ c ≤ k
theorem Dk.mono {S : Sto} {l k k' : Nat} (h : Dk S l k) (hk : k ≤ k') : Dk S l k' := by
  obtain ⟨a, b, c, h1, h2, h3, h4, h5⟩ := h
  exact ⟨a, b, c, h1, h2, h3, h4, by omega⟩
theorem take_set {S : Sto} {l : Nat} {o : Option Ob} : (S.set l o).take S.length = S.set l o := by
  rw [List.take_of_length_le]; rw [List.length_set]; exact Nat.le_refl _
theorem set_get {S : Sto} {l : Nat} {o o' : Option Ob} (h : S[l]? = some o) : (S.set l o')[l]? = some o' := by
  rw [List.getElem?_set_self]; exact (List.getElem?_eq_some_iff.mp h).1
theorem pick_wp {S : Sto} {l k : Nat} {n : Int} {P : D → Sto → Prop} (h : Dk S l k) (hk : k < 68719476736) (hn : 0 < n) (hn2 : n < 1073741824)
    (q : ∀ v o, 0 ≤ v → v < n → Dk (S.set l o) l (k+1) → P (.p (.int v)) (S.set l o)) : wp (f_law_pick [.r l, .p (.int n)] S) P := by
  obtain ⟨a, b, c, h1, h2, h3, h4, h5⟩ := h
  unfold f_law_pick
  rw [wp_nox]
  apply wp_fn
  by_cases ha : a > 1
  · simp [b_law_pick, startL, mSeq, mIf, mTest, m2, mVar, mC, mAsg, mRet, gN, gSubT, gSet, gIx, gGt, gMod, gDiv, gAdd, gMul, gPow, i2, okB, cPos, cDiv, cTrue, cMul, cPow, seqOf, atI, ixN, toB, Res.bind, wp_ok, h1, ha, hn, hn2]
    rw [take_set]
    refine q _ _ (Int.emod_nonneg _ (by omega)) (Int.emod_lt_of_pos _ hn) ⟨_, b, c, set_get h1, h2, h3, h4, by omega⟩
  · have hb1 : (b + 15485867 * (c + 1)).natAbs < 18446744073709551616 := by omega
    have hr : 0 ≤ (b + 15485867 * (c + 1)) ^ 5 % 2147483647 := Int.emod_nonneg _ (by decide)
    have hr2 : (b + 15485867 * (c + 1)) ^ 5 % 2147483647 < 2147483647 := Int.emod_lt_of_pos _ (by decide)
    have hb2 : ((b + 15485867 * (c + 1)) ^ 5 % 2147483647 + 7919 * (c + 1)).natAbs < 18446744073709551616 := by omega
    simp [b_law_pick, startL, mSeq, mIf, mTest, m2, mVar, mC, mAsg, mRet, mNext, gN, gSubT, gSet, gIx, gGt, gMod, gDiv, gAdd, gMul, gPow, i2, okB, cPos, cDiv, cTrue, cMul, cPow, seqOf, atI, ixN, toB, Res.bind, wp_ok, h1, ha, hn, hn2, set_get h1, hb1, hb2]
    rw [take_set]
    refine q _ _ (Int.emod_nonneg _ (by omega)) (Int.emod_lt_of_pos _ hn) ⟨_, b, _, set_get h1, h2, h3, by omega, by omega⟩
end LK


set_option maxHeartbeats 4000000
namespace LK
open PySem L2 G
/-! ### shapes -/
def La (n : Nat) (x : PyData) : Prop := x.canLay0 = true ∧ x.depth ≤ n
theorem La.lay {n : Nat} {x : PyData} (h : La n x) (hn : n ≤ 64) : lay x = true := by
  unfold G.lay SeqAt.shaped
  rw [h.1, Bool.true_and]
  exact decide_eq_true (Nat.le_trans h.2 hn)
theorem La.mono {n m : Nat} {x : PyData} (h : La n x) (hn : n ≤ m) : La m x := ⟨h.1, Nat.le_trans h.2 hn⟩
theorem La.all {n : Nat} : ∀ {xs : List PyData}, (∀ x ∈ xs, La n x) → PyData.canLayAll0 xs = true ∧ PyData.depthAll xs ≤ n
  | [], _ => ⟨rfl, Nat.zero_le _⟩
  | x :: xs, h => by
    obtain ⟨a, b⟩ := La.all fun y hy => h y (List.mem_cons_of_mem _ hy)
    obtain ⟨c, d⟩ := h x (List.mem_cons_self ..)
    refine ⟨?_, ?_⟩
    · rw [PyData.canLayAll0, a, c]; rfl
    · rw [PyData.depthAll]; exact Nat.max_le.mpr ⟨d, b⟩
theorem La.list {n : Nat} {xs : List PyData} (h : ∀ x ∈ xs, La n x) : La (n + 1) (.list xs) := by
  obtain ⟨a, b⟩ := La.all h
  refine ⟨?_, ?_⟩
  · rw [PyData.canLay0]; exact a
  · rw [PyData.depth]; omega
theorem La.tuple {n : Nat} {xs : List PyData} (h : ∀ x ∈ xs, La n x) : La (n + 1) (.tuple xs) := by
  obtain ⟨a, b⟩ := La.all h
  refine ⟨?_, ?_⟩
  · rw [PyData.canLay0]; exact a
  · rw [PyData.depth]; omega
theorem La.int {n : Nat} (i : Int) : La n (.int i) := ⟨rfl, Nat.zero_le _⟩
theorem La.bool {n : Nat} (i : Bool) : La n (.bool i) := ⟨rfl, Nat.zero_le _⟩
theorem La.none {n : Nat} : La n .none := ⟨rfl, Nat.zero_le _⟩
theorem La.ints {n : Nat} (hs : List Int) : ∀ x ∈ hs.map PyData.int, La n x := fun x h => by
  obtain ⟨i, _, rfl⟩ := List.mem_map.mp h
  exact .int i
/-! ### the store -/
section
variable {S : Sto} {x y : Option Ob} {l k : Nat}
theorem Dk.lt (h : Dk S l k) : l < S.length := by
  obtain ⟨a, b, c, h1, _⟩ := h
  exact (List.getElem?_eq_some_iff.mp h1).1
theorem Dk.app {t : Sto} (h : Dk S l k) : Dk (S ++ t) l k := by
  have hl := h.lt
  obtain ⟨a, b, c, h1, h2⟩ := h
  exact ⟨a, b, c, by rw [List.getElem?_append_left hl]; exact h1, h2⟩
theorem Dk.unapp {t : Sto} (h : Dk (S ++ t) l k) (hl : l < S.length) : Dk S l k := by
  obtain ⟨a, b, c, h1, h2⟩ := h
  exact ⟨a, b, c, by rw [List.getElem?_append_left hl] at h1; exact h1, h2⟩
theorem app_set {t : Sto} (hl : l < S.length) : (S ++ t).set l x = S.set l x ++ t := by
  rw [List.set_append_left _ _ hl]
theorem last_get : (S ++ [x])[S.length]? = some x := List.getElem?_concat_length ..
theorem last_set : (S ++ [x]).set S.length y = S ++ [y] := by
  rw [List.set_append_right _ _ (Nat.le_refl _), Nat.sub_self]; rfl
theorem last_take : (S ++ [x]).take S.length = S := List.take_left ..
theorem last_get' {n : Nat} (hn : n = S.length) : (S ++ [x])[n]? = some x := by rw [hn]; exact last_get
theorem last_set' {n : Nat} (hn : n = S.length) : (S ++ [x]).set n y = S ++ [y] := by rw [hn]; exact last_set
theorem last_take' {n : Nat} (hn : n = S.length) : (S ++ [x]).take n = S := by rw [hn]; exact last_take
end
/-! ### items -/
theorem atI_nat {α : Type} {xs : List α} {v : Int} (h0 : 0 ≤ v) (h1 : v < xs.length) : ∃ x, atI xs v = some x ∧ x ∈ xs ∧ xs[v.toNat]? = some x := by
  have hv : v.toNat < xs.length := by omega
  refine ⟨xs[v.toNat], ?_, List.getElem_mem hv, List.getElem?_eq_getElem hv⟩
  unfold atI ixN
  rw [if_pos h0, if_pos h1]
  exact List.getElem?_eq_getElem hv
theorem deck_eq {S : Sto} {c t : Int} {k : Nat} (ht : 0 ≤ t) (hk : t ≤ k) : ∃ o, f_law_deck [.p (.int c), .p (.int t)] S = .ok (.r S.length) (S ++ [o]) ∧ Dk (S ++ [o]) S.length k := by
  have hb := Int.emod_nonneg c (b := 2147483579) (by decide)
  have hb2 := Int.emod_lt_of_pos c (b := 2147483579) (by decide)
  by_cases hc : (1000000000000000000 : Int) ≤ c
  · refine ⟨some (.lst [.int (c - 1000000000000000000), .int (c % 2147483579), .int t]), ?_, _, _, _, last_get, hb, hb2, ht, hk⟩
    simp [f_law_deck, fnOf, G.finish, Res.nox, b_law_deck, startL, mSeq, mIf, mTest, m2, mVar, mC, mAsg, mRet, mNext, mR, mLst, mCons, mNil, pures, gGe, gPow, i2, okB, cPow, cTrue, cPos, G.gSub, gMod, toB, Res.bind, hc]
  · refine ⟨some (.lst [.int 0, .int (c % 2147483579), .int t]), ?_, _, _, _, last_get, hb, hb2, ht, hk⟩
    simp [f_law_deck, fnOf, G.finish, Res.nox, b_law_deck, startL, mSeq, mIf, mTest, m2, mVar, mC, mAsg, mRet, mNext, mR, mLst, mCons, mNil, pures, gGe, gPow, i2, okB, cPow, cTrue, cPos, G.gSub, gMod, toB, Res.bind, hc]
/-! ### numbers in a row -/
theorem any_ints {h : Int} : ∀ {hs : List Int}, (hs.map PyData.int).any (fun z => PyData.eqv z (.int h)) = decide (h ∈ hs)
  | [] => rfl
  | x :: hs => by
    rw [List.map_cons, List.any_cons, any_ints]
    simp only [PyData.eqv]
    by_cases hx : x = h
    · subst hx; simp
    · have : ¬ h = x := fun e => hx e.symm
      simp [hx, this]
theorem isIn_ints {h : Int} {hs : List Int} : isIn (.int h) (.list (hs.map PyData.int)) = decide (h ∈ hs) := any_ints
theorem layIn_ints {h : Int} {hs : List Int} : layIn (.int h) (.list (hs.map PyData.int)) = true := by
  unfold layIn
  rw [(La.int (n := 0) h).lay (by omega), (La.list (La.ints (n := 0) hs)).lay (by omega)]
  rfl
end LK


set_option maxHeartbeats 4000000
namespace LK
open PySem L2 G
/-- among so many numbers one is free -/
theorem pigeon {α : Type} [DecidableEq α] : ∀ (n : Nat) (g : Nat → α) (L : List α), (∀ i j, i ≤ n → j ≤ n → g i = g j → i = j) → L.length ≤ n → ∃ i, i ≤ n ∧ g i ∉ L
  | 0, g, L, _, hl => ⟨0, Nat.le_refl _, by
      have : L = [] := List.length_eq_zero_iff.mp (by omega)
      rw [this]; exact List.not_mem_nil⟩
  | n + 1, g, L, hi, hl => by
    by_cases h : g (n + 1) ∈ L
    · have hl' := List.length_erase_of_mem h
      obtain ⟨i, h1, h2⟩ := pigeon n g (L.erase (g (n + 1))) (fun i j a b e => hi i j (by omega) (by omega) e) (by omega)
      refine ⟨i, by omega, fun hm => h2 ?_⟩
      have hne : g i ≠ g (n + 1) := fun e => by have := hi i (n + 1) (by omega) (by omega) e; omega
      exact (List.mem_erase_of_ne hne).mpr hm
    · exact ⟨n + 1, Nat.le_refl _, h⟩

theorem mod_inj {h m : Int} {i j n : Nat} (hm : (n : Int) < m) (hi : i ≤ n) (hj : j ≤ n) (e : (h + i) % m = (h + j) % m) : i = j := by
  have h1 := Int.emod_emod_of_dvd
  have : (h + i - (h + j)) % m = 0 := by
    rw [Int.sub_emod, e, Int.sub_self]; rfl
  have e2 : h + i - (h + j) = (i : Int) - j := by omega
  rw [e2] at this
  obtain ⟨c, hc⟩ := Int.dvd_of_emod_eq_zero this
  have : c = 0 := by
    rcases Int.lt_trichotomy c 0 with h | h | h
    · have : m * c ≤ m * (-1) := Int.mul_le_mul_of_nonneg_left (by omega) (by omega)
      omega
    · exact h
    · have : m * 1 ≤ m * c := Int.mul_le_mul_of_nonneg_left (by omega) (by omega)
      omega
  rw [this] at hc
  omega
/-- the walk over heights that are taken -/
theorem taken {top h : Int} {hs : List Int} (h0 : 0 ≤ h) (h1 : h ≤ top) (hl : (hs.length : Int) ≤ top) : ∃ i : Nat, i ≤ hs.length ∧ (h + i) % (top + 1) ∉ hs :=
  pigeon hs.length (fun i => (h + i) % (top + 1)) hs (fun i j a b e => mod_inj (n := hs.length) (by omega) a b e) (Nat.le_refl _)
theorem seek_wp {S0 : Sto} {l : Nat} {many top h : Int} {hs : List Int} {n0 fuel : Nat} {o4 : Option D} {P : Fl × G.Loc → Sto → Prop} (hn : n0 = S0.length) (h0 : 0 ≤ h) (h1 : h ≤ top) (i : Nat) (hi : (h + i) % (top + 1) ∉ hs) (hf : i < fuel)
    (q : ∀ v, 0 ≤ v → v ≤ top → v ∉ hs → P (.nx, [some (.r l), some (.p (.int many)), some (.p (.int top)), some (.r n0), o4, some (.p (.int v))]) (S0 ++ [some (.lst (hs.map PyData.int))])) :
    wp (mWhile (mTest (m2 gIn (mVar 5) (mVar 3))) (mAsg (m2 gMod (m2 gAdd (mVar 5) (mC (.int 1))) (m2 gAdd (mVar 2) (mC (.int 1)))) (gN 5)) fuel [some (.r l), some (.p (.int many)), some (.p (.int top)), some (.r n0), o4, some (.p (.int h))] (S0 ++ [some (.lst (hs.map PyData.int))])) P := by
  refine wp_while (fun n ρ S => ∃ (v : Int) (j : Nat), 0 ≤ v ∧ v ≤ top ∧ (v + j) % (top + 1) ∉ hs ∧ j < n ∧ ρ = [some (.r l), some (.p (.int many)), some (.p (.int top)), some (.r n0), o4, some (.p (.int v))] ∧ S = S0 ++ [some (.lst (hs.map PyData.int))]) fuel ⟨h, i, h0, h1, hi, hf, rfl, rfl⟩ ?_
  rintro n ρ S ⟨v, j, v0, v1, hj, hn2, rfl, rfl⟩
  obtain ⟨m, rfl⟩ : ∃ m, n = m + 1 := ⟨n - 1, by omega⟩
  refine ⟨m, decide (v ∈ hs), rfl, ?_, ?_, ?_⟩
  · simp [mTest, m2, mVar, gIn, g2, okB, datOf, last_get' hn, layIn_ints, isIn_ints, Res.bind, toB]
  · intro e
    exact q v v0 v1 (of_decide_eq_false e)
  · intro e
    have hv := of_decide_eq_true e
    have hp : (0 : Int) < top + 1 := by omega
    simp [mSeq, mIf, mTest, m2, m1, mVar, mC, mAsg, mRet, mNext, mDrop, mR, mP, mLst, mTup, mCons, mNil, pures, mCall, mCB, mCL, gN, gT, gsCons, gsNil, gSubT, gSet, gIx, gGt, gGe, gLt, gLe, gMod, gDiv, G.gSub, gAdd, gMul, gPow, gNeg, i2, okB, cPos, cDiv, cTrue, cMul, cPow, seqOf, datOf, toB, Res.bind, Res.nox, wp_ok, wp_bind, wp_nox, mNot, mAnd, mOr, mAndV, mNotV, mOrV, mIfE, mIsi, isTs, isT, gLen, gSeq, gSeqL, gList, gTuple, mMth, isLst, gApp, gPut, mFz, thaw, mSl, mPart, startL, hp]
    cases j with
    | zero =>
      exfalso
      apply hj
      have e0 : (v + ((0 : Nat) : Int)) % (top + 1) = v := by
        rw [Int.emod_eq_of_lt] <;> omega
      rw [e0]; exact hv
    | succ j =>
      refine ⟨(v + 1) % (top + 1), Int.emod_nonneg _ (by omega), by have := Int.emod_lt_of_pos (v + 1) hp; omega, j, ?_, by omega, rfl⟩
      rw [Int.emod_add_emod]
      have : v + 1 + (j : Int) = v + ((j + 1 : Nat) : Int) := by omega
      rw [this]; exact hj
theorem heights_wp {S : Sto} {l k : Nat} {many top : Int} {P : D → Sto → Prop} (h : Dk S l k) (hk : k < 1000000) (hm0 : 0 ≤ many) (hm : many ≤ 19) (ht : many ≤ top + 1) (ht2 : top + 1 < 1073741824)
    (q : ∀ (hs : List Int) o, hs.length = many.toNat → hs.Nodup → (∀ h ∈ hs, 0 ≤ h ∧ h ≤ top) → Dk (S.set l o) l (k + 19) → P (.p (.tuple (hs.map PyData.int))) (S.set l o)) :
    wp (f_law_heights [.r l, .p (.int many), .p (.int top)] S) P := by
  unfold f_law_heights
  rw [wp_nox]
  apply wp_fn
  unfold b_law_heights
  apply wp_seq
  intro k1 hk1 _ _ _
  have hS : S.set l (S[l]?.getD none) = S := by
    obtain ⟨a, b, c, h1, _⟩ := h
    rw [h1]
    obtain ⟨hl, e⟩ := List.getElem?_eq_some_iff.mp h1
    rw [← e]
    exact List.set_getElem_self hl
  simp [mSeq, mIf, mTest, m2, m1, mVar, mC, mAsg, mRet, mNext, mDrop, mR, mP, mLst, mTup, mCons, mNil, pures, mCall, mCB, mCL, gN, gT, gsCons, gsNil, gSubT, gSet, gIx, gGt, gGe, gLt, gLe, gMod, gDiv, G.gSub, gAdd, gMul, gPow, gNeg, i2, okB, cPos, cDiv, cTrue, cMul, cPow, seqOf, datOf, toB, Res.bind, Res.nox, wp_ok, wp_bind, wp_nox, mNot, mAnd, mOr, mAndV, mNotV, mOrV, mIfE, mIsi, isTs, isT, gLen, gSeq, gSeqL, gList, gTuple, mMth, isLst, gApp, gPut, mFz, thaw, mSl, mPart, startL]
  apply hk1
  apply wp_seq
  intro k2 hk2 _ _ _
  rw [wp_for]
  have hb : inB many = true := by unfold inB; simp; omega
  simp [mSeq, mIf, mTest, m2, m1, mVar, mC, mAsg, mRet, mNext, mDrop, mR, mP, mLst, mTup, mCons, mNil, pures, mCall, mCB, mCL, gN, gT, gsCons, gsNil, gSubT, gSet, gIx, gGt, gGe, gLt, gLe, gMod, gDiv, G.gSub, gAdd, gMul, gPow, gNeg, i2, okB, cPos, cDiv, cTrue, cMul, cPow, seqOf, datOf, toB, Res.bind, Res.nox, wp_ok, wp_bind, wp_nox, mNot, mAnd, mOr, mAndV, mNotV, mOrV, mIfE, mIsi, isTs, isT, gLen, gSeq, gSeqL, gList, gTuple, mMth, isLst, gApp, gPut, mFz, thaw, mSl, mPart, startL, mRng1, hb]
  refine wp_loop (fun r ρ S1 => ∃ (hs : List Int) (o4 o5 : Option D) (o : Option Ob), ρ = [some (.r l), some (.p (.int many)), some (.p (.int top)), some (.r S.length), o4, o5] ∧ S1 = S.set l o ++ [some (.lst (hs.map PyData.int))] ∧ hs.Nodup ∧ (∀ h ∈ hs, 0 ≤ h ∧ h ≤ top) ∧ hs.length + r.length = many.toNat ∧ Dk (S.set l o) l (k + hs.length)) _ ?_ ?_ ?_
  · refine ⟨[], none, none, S[l]?.getD none, rfl, by rw [hS]; rfl, List.nodup_nil, fun _ h => (nomatch h), ?_, by rw [hS]; exact h⟩
    rw [rangeP_length]; simp
  · rintro x r ρ S1 ⟨hs, o4, o5, o, rfl, rfl, hnd, hbd, hlen, hd⟩ k3 hk3
    rw [wp_gN]
    apply wp_seq
    intro k4 hk4 _ _ _
    simp [mSeq, mIf, mTest, m2, m1, mVar, mC, mAsg, mRet, mNext, mDrop, mR, mP, mLst, mTup, mCons, mNil, pures, mCall, mCB, mCL, gN, gT, gsCons, gsNil, gSubT, gSet, gIx, gGt, gGe, gLt, gLe, gMod, gDiv, G.gSub, gAdd, gMul, gPow, gNeg, i2, okB, cPos, cDiv, cTrue, cMul, cPow, seqOf, datOf, toB, wp_ok, wp_bind, wp_nox, mNot, mAnd, mOr, mAndV, mNotV, mOrV, mIfE, mIsi, isTs, isT, gLen, gSeq, gSeqL, gList, gTuple, mMth, isLst, gApp, gPut, mFz, thaw, mSl, mPart, startL]
    rw [List.length_cons] at hlen
    have hlt : l < (S.set l o).length := hd.lt
    refine pick_wp (n := top + 1) hd.app (by omega) (by omega) (by omega) fun v o' v0 v1 hd' => ?_
    rw [app_set hlt, List.set_set] at hd' ⊢
    have hlt' : l < (S.set l o').length := by rw [List.length_set] at hlt ⊢; exact hlt
    have hd' := hd'.unapp hlt'
    apply hk4
    apply wp_seq
    intro k5 hk5 _ _ _
    obtain ⟨i, hi1, hi2⟩ := taken (top := top) (h := v) (hs := hs) v0 (by omega) (by omega)
    refine seek_wp (by rw [List.length_set]) v0 (by omega) i hi2 (by omega) fun v v0 v1 hv => ?_
    apply hk5
    have hlen1 : hs.length ≤ 1000000 := by omega
    simp [mSeq, mIf, mTest, m2, m1, mVar, mC, mAsg, mRet, mNext, mDrop, mR, mP, mLst, mTup, mCons, mNil, pures, mCall, mCB, mCL, gN, gT, gsCons, gsNil, gSubT, gSet, gIx, gGt, gGe, gLt, gLe, gMod, gDiv, G.gSub, gAdd, gMul, gPow, gNeg, i2, okB, cPos, cDiv, cTrue, cMul, cPow, seqOf, datOf, toB, Res.bind, Res.nox, wp_ok, wp_bind, wp_nox, mNot, mAnd, mOr, mAndV, mNotV, mOrV, mIfE, mIsi, isTs, isT, gLen, gSeq, gSeqL, gList, gTuple, mMth, isLst, gApp, gPut, mFz, thaw, mSl, mPart, startL, last_get' (S := S.set l o') (n := S.length) (by rw [List.length_set]), last_set' (S := S.set l o') (n := S.length) (by rw [List.length_set]), hlen1]
    apply hk3
    refine ⟨hs ++ [v], _, _, o', rfl, by simp, ?_, ?_, by rw [List.length_append, List.length_singleton]; omega, by rw [List.length_append, List.length_singleton]; exact hd'⟩
    · rw [List.nodup_append]
      refine ⟨hnd, (by simp), fun a ha b hb => ?_⟩
      rw [List.mem_singleton] at hb
      intro e
      rw [e, hb] at ha
      exact hv ha
    · intro x hx
      rcases List.mem_append.mp hx with hx | hx
      · exact hbd x hx
      · rw [List.mem_singleton] at hx; subst hx; exact ⟨v0, v1⟩
  · rintro ρ S1 ⟨hs, o4, o5, o, rfl, rfl, hnd, hbd, hlen, hd⟩
    apply hk2
    simp [mSeq, mIf, mTest, m2, m1, mVar, mC, mAsg, mRet, mNext, mDrop, mR, mP, mLst, mTup, mCons, mNil, pures, mCall, mCB, mCL, gN, gT, gsCons, gsNil, gSubT, gSet, gIx, gGt, gGe, gLt, gLe, gMod, gDiv, G.gSub, gAdd, gMul, gPow, gNeg, i2, okB, cPos, cDiv, cTrue, cMul, cPow, seqOf, datOf, toB, Res.bind, Res.nox, wp_ok, wp_bind, wp_nox, mNot, mAnd, mOr, mAndV, mNotV, mOrV, mIfE, mIsi, isTs, isT, gLen, gSeq, gSeqL, gList, gTuple, mMth, isLst, gApp, gPut, mFz, thaw, mSl, mPart, startL, last_get' (S := S.set l o) (n := S.length) (by rw [List.length_set]), last_take' (S := S.set l o) (n := S.length) (by rw [List.length_set])]
    refine q hs o ?_ hnd hbd (hd.mono ?_)
    · simp at hlen; exact hlen
    · simp at hlen; omega
end LK


set_option maxHeartbeats 4000000
namespace LK
open PySem L2 G
/-! ### rows of numbers, pairs -/
def ran (lo : Int) : Nat → List Int
  | 0 => []
  | n + 1 => lo :: ran (lo + 1) n
theorem rangeP_ran : ∀ (n : Nat) (lo : Int), rangeP lo n = (ran lo n).map PyData.int
  | 0, _ => rfl
  | n + 1, lo => by rw [rangeP, ran, List.map_cons, rangeP_ran n]
theorem mem_ran : ∀ {n : Nat} {lo x : Int}, x ∈ ran lo n ↔ lo ≤ x ∧ x < lo + n
  | 0, lo, x => by
    constructor
    · intro h; cases h
    · intro h; omega
  | n + 1, lo, x => by
    rw [ran, List.mem_cons, mem_ran]
    omega
theorem ran_len : ∀ {n : Nat} {lo : Int}, (ran lo n).length = n
  | 0, _ => rfl
  | n + 1, lo => by rw [ran, List.length_cons, ran_len]
theorem ran_sorted : ∀ {n : Nat} {lo : Int}, (ran lo n).Pairwise (· < ·)
  | 0, _ => .nil
  | n + 1, lo => .cons (fun x h => by have := mem_ran.mp h; omega) ran_sorted
def pr (p : Int × Int) : PyData := .tuple [.int p.1, .int p.2]
def ltP (a b : Int × Int) : Prop := a.1 < b.1 ∨ (a.1 = b.1 ∧ a.2 < b.2)
structure Lot (n : Int) (ps : List (Int × Int)) : Prop where
  inr : ∀ p ∈ ps, 0 ≤ p.1 ∧ p.1 < p.2 ∧ p.2 < n
  srt : ps.Pairwise ltP
theorem Lot.sub {n : Int} {ps qs : List (Int × Int)} (h : Lot n ps) (s : qs.Sublist ps) : Lot n qs := ⟨fun p hp => h.inr p (s.subset hp), h.srt.sublist s⟩
def pairsOf (n : Int) : List (Int × Int) := (ran 0 n.toNat).flatMap fun i => (ran (i + 1) (n - (i + 1)).toNat).map fun j => (i, j)
theorem mem_pairs {n : Int} {p : Int × Int} : p ∈ pairsOf n ↔ 0 ≤ p.1 ∧ p.1 < p.2 ∧ p.2 < n := by
  unfold pairsOf
  rw [List.mem_flatMap]
  constructor
  · rintro ⟨i, hi, h⟩
    obtain ⟨j, hj, rfl⟩ := List.mem_map.mp h
    have h1 := mem_ran.mp hi
    have h2 := mem_ran.mp hj
    exact ⟨by omega, by show i < j; omega, by show j < n; omega⟩
  · rintro ⟨h1, h2, h3⟩
    exact ⟨p.1, mem_ran.mpr (by omega), List.mem_map.mpr ⟨p.2, mem_ran.mpr (by omega), rfl⟩⟩
theorem srt_flat {F : Int → List (Int × Int)} (hF : ∀ i, ∀ p ∈ F i, p.1 = i) (hs : ∀ i, (F i).Pairwise ltP) : ∀ {is : List Int}, is.Pairwise (· < ·) → (is.flatMap F).Pairwise ltP
  | [], _ => .nil
  | i :: is, h => by
    rw [List.flatMap_cons, List.pairwise_append]
    refine ⟨hs i, srt_flat hF hs (List.pairwise_cons.mp h).2, fun a ha b hb => ?_⟩
    obtain ⟨j, hj, hb⟩ := List.mem_flatMap.mp hb
    have := (List.pairwise_cons.mp h).1 j hj
    left
    rw [hF _ a ha, hF _ b hb]
    exact this
theorem pairs_lot (n : Int) : Lot n (pairsOf n) := ⟨fun p h => mem_pairs.mp h, srt_flat (fun i p h => by obtain ⟨j, _, rfl⟩ := List.mem_map.mp h; rfl) (fun i => by
    rw [List.pairwise_map]
    exact ran_sorted.imp fun h => .inr ⟨rfl, h⟩) ran_sorted⟩
theorem len_pairs {n : Int} (h : n ≤ 12) : (pairsOf n).length ≤ 144 := by
  unfold pairsOf
  rw [List.length_flatMap]
  have : ∀ (is : List Int), (∀ i ∈ is, 0 ≤ i) → (is.map fun i => ((ran (i + 1) (n - (i + 1)).toNat).map fun j => (i, j)).length).sum ≤ is.length * 12 := by
    intro is
    induction is with
    | nil => intro _; exact Nat.le_refl _
    | cons i is ih =>
      intro hi
      have := ih fun j hj => hi j (List.mem_cons_of_mem _ hj)
      have h0 := hi i (List.mem_cons_self ..)
      rw [List.map_cons, List.sum_cons, List.length_cons, List.length_map, ran_len]
      omega
  have h2 := this (ran 0 n.toNat) fun i hi => (mem_ran.mp hi).1
  rw [ran_len] at h2
  omega
theorem La.pr {n : Nat} (p : Int × Int) : La (n + 1) (pr p) := La.tuple fun x h => by
  rcases List.mem_cons.mp h with rfl | h
  · exact .int _
  · rw [List.mem_singleton] at h; subst h; exact .int _
theorem La.prs {n : Nat} (ps : List (Int × Int)) : ∀ x ∈ ps.map LK.pr, La (n + 1) x := fun x h => by
  obtain ⟨p, _, rfl⟩ := List.mem_map.mp h
  exact .pr p
theorem eqv_pr {p q : Int × Int} : PyData.eqv (pr p) (pr q) = decide (p = q) := by
  obtain ⟨a, b⟩ := p
  obtain ⟨c, d⟩ := q
  simp only [LK.pr, PyData.eqv, PyData.eqvAll, Bool.and_true]
  by_cases h1 : a = c <;> by_cases h2 : b = d <;> simp [h1, h2]
theorem any_prs {p : Int × Int} : ∀ {ps : List (Int × Int)}, (ps.map pr).any (fun z => PyData.eqv z (pr p)) = decide (p ∈ ps)
  | [] => rfl
  | x :: hs => by
    rw [List.map_cons, List.any_cons, any_prs, eqv_pr]
    by_cases hx : x = p
    · subst hx; simp
    · have : ¬ p = x := fun e => hx e.symm
      simp [hx, this]
theorem isIn_prs {p : Int × Int} {ps : List (Int × Int)} : isIn (pr p) (.tuple (ps.map pr)) = decide (p ∈ ps) := any_prs
theorem isIn_prsL {p : Int × Int} {ps : List (Int × Int)} : isIn (pr p) (.list (ps.map pr)) = decide (p ∈ ps) := any_prs
theorem layIn_prs {p : Int × Int} {ps : List (Int × Int)} : layIn (pr p) (.tuple (ps.map pr)) = true := by
  unfold layIn
  rw [(La.pr (n := 0) p).lay (by omega), (La.tuple (La.prs (n := 0) ps)).lay (by omega)]
  rfl
theorem layIn_prsL {p : Int × Int} {ps : List (Int × Int)} : layIn (pr p) (.list (ps.map pr)) = true := by
  unfold layIn
  rw [(La.pr (n := 0) p).lay (by omega), (La.list (La.prs (n := 0) ps)).lay (by omega)]
  rfl
theorem inB_of {i : Int} (h : -1000000 ≤ i) (h' : i ≤ 1000000) : inB i = true := by unfold inB; simp; omega
/-- a comprehension over a row that stands for plain things -/
theorem lc_map {α : Type} {g : MG} {tt : MT} {te : ME} {ρ : G.Loc} {S : Sto} (c : α → PyData) {t : α → Bool} {v : α → PyData} (xs : List α)
    (hg : ∀ x ∈ xs, ∃ ρ1, g (.p (c x)) ρ S = .ok ρ1 S ∧ tt ρ1 S = .ok (t x) S ∧ (t x = true → te ρ1 S = .ok (.p (v x)) S)) : mLcL g tt te ρ (xs.map c) S = .ok ((xs.filter t).map v) S := by
  induction xs with
  | nil => rfl
  | cons x r ih =>
    obtain ⟨ρ1, h1, h2, h3⟩ := hg x (List.mem_cons_self ..)
    have i := ih fun y hy => hg y (List.mem_cons_of_mem _ hy)
    rw [List.map_cons]
    unfold mLcL
    rw [h1]
    simp only [Res.nox, Res.bind, h2]
    cases ht : t x with
    | true => simp only [if_true, h3 ht, Res.nox, Res.bind, i, List.filter_cons, ht, List.map_cons]
    | false => simp only [Bool.false_eq_true, if_false, i, List.filter_cons, ht]
end LK


set_option maxHeartbeats 4000000
namespace LK
open PySem L2 G
/-! ### what the houses see -/
def cutI (hs : List Int) (lo hi : Option Int) : List Int := (hs.drop (HT.sIx hs.length 0 lo)).take (HT.sIx hs.length hs.length hi - HT.sIx hs.length 0 lo)
theorem cutP_ints {hs : List Int} {lo hi : Option Int} : cutP (hs.map PyData.int) lo hi = (cutI hs lo hi).map PyData.int := by
  unfold cutP cutI
  rw [List.length_map, List.map_take, List.map_drop]
def minI (a b : Int) : Int := if b < a then b else a
def seesB (hs : List Int) (p : Int × Int) : Bool := ((cutI hs (some (p.1 + 1)) (some p.2)).filter fun h => decide (minI (hs[p.1.toNat]?.getD 0) (hs[p.2.toNat]?.getD 0) < h)).isEmpty
def seenP (hs : List Int) : List (Int × Int) := (pairsOf hs.length).filter (seesB hs)
theorem seenP_lot (hs : List Int) : Lot hs.length (seenP hs) := (pairs_lot _).sub List.filter_sublist
theorem eqv_nil (xs : List PyData) : PyData.eqv (.list xs) (.list []) = xs.isEmpty := by
  cases xs <;> simp [PyData.eqv, PyData.eqvAll]
theorem lay2_nil {n : Nat} {xs : List PyData} (h : ∀ x ∈ xs, La n x) (hn : n ≤ 63) : lay2 (.list xs) (.list []) = true := by
  unfold lay2
  rw [(La.list h).lay (by omega), (La.list (n := 0) (xs := []) fun _ h => (nomatch h)).lay (by omega)]
  rfl
theorem gEq_nil {n : Nat} {xs : List PyData} {S : Sto} (h : ∀ x ∈ xs, La n x) (hn : n ≤ 63) : gEq (.p (.list xs)) (.p (.list [])) S = .ok (.p (.bool xs.isEmpty)) S := by
  simp [gEq, g2, datOf, lay2_nil h hn, eqv_nil, okB]
theorem gNe_nil {n : Nat} {xs : List PyData} {S : Sto} (h : ∀ x ∈ xs, La n x) (hn : n ≤ 63) : gNe (.p (.list xs)) (.p (.list [])) S = .ok (.p (.bool !xs.isEmpty)) S := by
  simp [gNe, g2, datOf, lay2_nil h hn, eqv_nil, okB]
theorem atI_ints {hs : List Int} {v : Int} (h0 : 0 ≤ v) (h1 : v < hs.length) : atI (hs.map PyData.int) v = some (.int (hs[v.toNat]?.getD 0)) := by
  obtain ⟨x, e1, e2, e3⟩ := atI_nat (xs := hs.map PyData.int) h0 (by rw [List.length_map]; exact h1)
  rw [List.getElem?_map] at e3
  obtain ⟨y, e4, rfl⟩ := Option.map_eq_some_iff.mp e3
  rw [e1, e4]
  rfl
end LK


set_option maxHeartbeats 4000000
namespace LK
open PySem L2 G
theorem seen_eq {S : Sto} {hs : List Int} (hl : hs.length ≤ 12) : f_law_seen [.p (.tuple (hs.map PyData.int))] S = .ok (.p (.tuple ((seenP hs).map pr))) S := by
  suffices h : wp (f_law_seen [.p (.tuple (hs.map PyData.int))] S) (fun d S1 => d = .p (.tuple ((seenP hs).map pr)) ∧ S1 = S) by
    obtain ⟨d, S1, e, rfl, rfl⟩ := h
    exact e
  unfold f_law_seen
  rw [wp_nox]
  apply wp_fn
  unfold b_law_seen
  apply wp_seq
  intro k1 hk1 _ _ _
  simp [mSeq, mIf, mTest, m2, m1, mVar, mC, mAsg, mRet, mNext, mDrop, mR, mP, mLst, mTup, mCons, mNil, pures, mCall, mCB, mCL, gN, gT, gsCons, gsNil, gSubT, gSet, gIx, gGt, gGe, gLt, gLe, gMod, gDiv, G.gSub, gAdd, gMul, gPow, gNeg, i2, okB, cPos, cDiv, cTrue, cMul, cPow, seqOf, datOf, toB, wp_ok, wp_bind, wp_nox, mNot, mAnd, mOr, mAndV, mNotV, mOrV, mIfE, mIsi, isTs, isT, gLen, gSeq, gSeqL, gList, gTuple, mMth, isLst, gApp, gPut, mFz, thaw, mSl, mPart, startL]
  apply hk1
  apply wp_seq
  intro k2 hk2 _ _ _
  rw [wp_for]
  have hn : inB hs.length = true := inB_of (by omega) (by omega)
  simp [mSeq, mIf, mTest, m2, m1, mVar, mC, mAsg, mRet, mNext, mDrop, mR, mP, mLst, mTup, mCons, mNil, pures, mCall, mCB, mCL, gN, gT, gsCons, gsNil, gSubT, gSet, gIx, gGt, gGe, gLt, gLe, gMod, gDiv, G.gSub, gAdd, gMul, gPow, gNeg, i2, okB, cPos, cDiv, cTrue, cMul, cPow, seqOf, datOf, toB, wp_ok, wp_bind, wp_nox, mNot, mAnd, mOr, mAndV, mNotV, mOrV, mIfE, mIsi, isTs, isT, gLen, gSeq, gSeqL, gList, gTuple, mMth, isLst, gApp, gPut, mFz, thaw, mSl, mPart, startL, mRng1, hn, rangeP_ran]
  have hlp := len_pairs (n := hs.length) (by omega)
  have hle : (seenP hs).length ≤ 144 := Nat.le_trans (List.length_filter_le _ _) hlp
  refine wp_loop (fun r ρ S1 => ∃ (is : List Int) (fs : List (Int × Int)) (o2 o3 o4 : Option D), r = is.map PyData.int ∧ ρ = [some (.p (.tuple (hs.map PyData.int))), some (.r S.length), o2, o3, o4, none] ∧ S1 = S ++ [some (.lst (fs.map pr))] ∧ (∀ i ∈ is, 0 ≤ i ∧ i < hs.length) ∧ fs ++ (is.flatMap fun i => (ran (i + 1) (hs.length - (i + 1)).toNat).map fun j => (i, j)).filter (seesB hs) = seenP hs) _ ?_ ?_ ?_
  · exact ⟨_, [], none, none, none, rfl, rfl, rfl, fun i hi => by have := mem_ran.mp hi; omega, rfl⟩
  · rintro x r ρ S1 ⟨is, fs, o2, o3, o4, e, rfl, rfl, hi, hf⟩ k3 hk3
    cases is with
    | nil => cases e
    | cons i is =>
      cases e
      rw [wp_gN, wp_for]
      have hi' := hi i (List.mem_cons_self ..)
      simp [mSeq, mIf, mTest, m2, m1, mVar, mC, mAsg, mRet, mNext, mDrop, mR, mP, mLst, mTup, mCons, mNil, pures, mCall, mCB, mCL, gN, gT, gsCons, gsNil, gSubT, gSet, gIx, gGt, gGe, gLt, gLe, gMod, gDiv, G.gSub, gAdd, gMul, gPow, gNeg, i2, okB, cPos, cDiv, cTrue, cMul, cPow, seqOf, datOf, toB, wp_ok, wp_bind, wp_nox, mNot, mAnd, mOr, mAndV, mNotV, mOrV, mIfE, mIsi, isTs, isT, gLen, gSeq, gSeqL, gList, gTuple, mMth, isLst, gApp, gPut, mFz, thaw, mSl, mPart, startL, mRng2, hn, inB_of (i := i + 1) (by omega) (by omega), rangeP_ran]
      refine wp_loop (fun r ρ S1 => ∃ (js : List Int) (gs : List (Int × Int)) (o3 o4 : Option D), r = js.map PyData.int ∧ ρ = [some (.p (.tuple (hs.map PyData.int))), some (.r S.length), some (.p (.int i)), o3, o4, none] ∧ S1 = S ++ [some (.lst (gs.map pr))] ∧ (∀ j ∈ js, i < j ∧ j < hs.length) ∧ gs ++ ((js.map fun j => (i, j)).filter (seesB hs) ++ (is.flatMap fun i => (ran (i + 1) (hs.length - (i + 1)).toNat).map fun j => (i, j)).filter (seesB hs)) = seenP hs) _ ?_ ?_ ?_
      · refine ⟨_, fs, _, _, rfl, rfl, rfl, fun j hj => by have := mem_ran.mp hj; omega, ?_⟩
        rw [← hf, List.flatMap_cons, List.filter_append]
      · rintro x r ρ S1 ⟨js, gs, o3, o4, e, rfl, rfl, hj, hg⟩ k4 hk4
        cases js with
        | nil => cases e
        | cons j js =>
          cases e
          rw [wp_gN]
          have hj' := hj j (List.mem_cons_self ..)
          apply wp_seq
          intro k5 hk5 _ _ _
          simp [mSeq, mIf, mTest, m2, m1, mVar, mC, mAsg, mRet, mNext, mDrop, mR, mP, mLst, mTup, mCons, mNil, pures, mCall, mCB, mCL, gN, gT, gsCons, gsNil, gSubT, gSet, gIx, gGt, gGe, gLt, gLe, gMod, gDiv, G.gSub, gAdd, gMul, gPow, gNeg, i2, okB, cPos, cDiv, cTrue, cMul, cPow, seqOf, datOf, toB, wp_ok, wp_bind, wp_nox, mNot, mAnd, mOr, mAndV, mNotV, mOrV, mIfE, mIsi, isTs, isT, gLen, gSeq, gSeqL, gList, gTuple, mMth, isLst, gApp, gPut, mFz, thaw, mSl, mPart, startL, atI_ints (hs := hs) (v := i) (by omega) (by omega), atI_ints (hs := hs) (v := j) (by omega) (by omega), gMin, gI2]
          apply hk5
          rw [wp_mif]
          have hlc : ∀ (m : Int) ρ0 S0, ρ0 = [some (.p (.tuple (hs.map PyData.int))), some (.r S.length), some (.p (.int i)), some (.p (.int j)), some (.p (.int m)), none] → mLcL (gN 5) (mTest (m2 gGt (mVar 5) (mVar 4))) (mVar 5) ρ0 ((cutI hs (some (i + 1)) (some j)).map PyData.int) S0 = .ok (((cutI hs (some (i + 1)) (some j)).filter fun h => decide (m < h)).map PyData.int) S0 := by
            rintro m _ S0 rfl
            exact lc_map PyData.int _ fun h _ => ⟨_, rfl, by simp [mSeq, mIf, mTest, m2, m1, mVar, mC, mAsg, mRet, mNext, mDrop, mR, mP, mLst, mTup, mCons, mNil, pures, mCall, mCB, mCL, gN, gT, gsCons, gsNil, gSubT, gSet, gIx, gGt, gGe, gLt, gLe, gMod, gDiv, G.gSub, gAdd, gMul, gPow, gNeg, i2, okB, cPos, cDiv, cTrue, cMul, cPow, seqOf, datOf, toB, Res.bind, Res.nox, wp_ok, wp_bind, wp_nox, mNot, mAnd, mOr, mAndV, mNotV, mOrV, mIfE, mIsi, isTs, isT, gLen, gSeq, gSeqL, gList, gTuple, mMth, isLst, gApp, gPut, mFz, thaw, mSl, mPart, startL], fun _ => by simp [mSeq, mIf, mTest, m2, m1, mVar, mC, mAsg, mRet, mNext, mDrop, mR, mP, mLst, mTup, mCons, mNil, pures, mCall, mCB, mCL, gN, gT, gsCons, gsNil, gSubT, gSet, gIx, gGt, gGe, gLt, gLe, gMod, gDiv, G.gSub, gAdd, gMul, gPow, gNeg, i2, okB, cPos, cDiv, cTrue, cMul, cPow, seqOf, datOf, toB, Res.bind, Res.nox, wp_ok, wp_bind, wp_nox, mNot, mAnd, mOr, mAndV, mNotV, mOrV, mIfE, mIsi, isTs, isT, gLen, gSeq, gSeqL, gList, gTuple, mMth, isLst, gApp, gPut, mFz, thaw, mSl, mPart, startL]⟩
          have hcl : (cutI hs (some (i + 1)) (some j)).length ≤ 1000000 := by
            unfold cutI
            have := List.length_take_le' (HT.sIx hs.length hs.length (some j) - HT.sIx hs.length 0 (some (i + 1))) (hs.drop (HT.sIx hs.length 0 (some (i + 1))))
            rw [List.length_drop] at this
            omega
          have hgl : gs.length ≤ 1000000 := by
            have := congrArg List.length hg
            rw [List.length_append] at this
            omega
          simp [mSeq, mIf, mTest, m2, m1, mVar, mC, mAsg, mRet, mNext, mDrop, mR, mP, mLst, mTup, mCons, mNil, pures, mCall, mCB, mCL, gN, gT, gsCons, gsNil, gSubT, gSet, gIx, gGt, gGe, gLt, gLe, gMod, gDiv, G.gSub, gAdd, gMul, gPow, gNeg, i2, okB, cPos, cDiv, cTrue, cMul, cPow, seqOf, datOf, toB, wp_ok, wp_bind, wp_nox, mNot, mAnd, mOr, mAndV, mNotV, mOrV, mIfE, mIsi, isTs, isT, gLen, gSeq, gSeqL, gList, gTuple, mMth, isLst, gApp, gPut, mFz, thaw, mSl, mPart, startL, mLc, mItems, gSl, cutP_ints, wipeL, hcl, hlc _ _ _ rfl]
          rw [gEq_nil (La.ints (n := 0) _) (by omega)]
          simp [wp_ok]
          by_cases hsee : seesB hs (i, j) = true
          · rw [if_pos (by simpa [seesB, minI, List.isEmpty_iff] using hsee)]
            simp [mSeq, mIf, mTest, m2, m1, mVar, mC, mAsg, mRet, mNext, mDrop, mR, mP, mLst, mTup, mCons, mNil, pures, mCall, mCB, mCL, gN, gT, gsCons, gsNil, gSubT, gSet, gIx, gGt, gGe, gLt, gLe, gMod, gDiv, G.gSub, gAdd, gMul, gPow, gNeg, i2, okB, cPos, cDiv, cTrue, cMul, cPow, seqOf, datOf, toB, wp_ok, wp_bind, wp_nox, mNot, mAnd, mOr, mAndV, mNotV, mOrV, mIfE, mIsi, isTs, isT, gLen, gSeq, gSeqL, gList, gTuple, mMth, isLst, gApp, gPut, mFz, thaw, mSl, mPart, startL, last_get, last_set, hgl]
            apply hk4
            refine ⟨js, gs ++ [(i, j)], _, _, rfl, rfl, by simp [LK.pr], fun j hj'' => hj j (List.mem_cons_of_mem _ hj''), ?_⟩
            rw [List.append_assoc, ← hg, List.map_cons, List.filter_cons, if_pos hsee]
            simp
          · rw [if_neg (by simpa [seesB, minI, List.isEmpty_iff] using hsee)]
            apply hk4
            refine ⟨js, gs, _, _, rfl, rfl, rfl, fun j hj'' => hj j (List.mem_cons_of_mem _ hj''), ?_⟩
            rw [← hg, List.map_cons, List.filter_cons, if_neg hsee]
      · rintro ρ S1 ⟨js, gs, o3, o4, e, rfl, rfl, hj, hg⟩
        cases js with
        | cons j js => cases e
        | nil =>
          apply hk3
          exact ⟨is, gs, _, _, _, rfl, rfl, rfl, fun j hj => hi j (List.mem_cons_of_mem _ hj), hg⟩
  · rintro ρ S1 ⟨is, fs, o2, o3, o4, e, rfl, rfl, hi, hf⟩
    cases is with
    | cons i is => cases e
    | nil =>
      apply hk2
      rw [List.flatMap_nil, List.filter_nil, List.append_nil] at hf
      subst hf
      simp [mSeq, mIf, mTest, m2, m1, mVar, mC, mAsg, mRet, mNext, mDrop, mR, mP, mLst, mTup, mCons, mNil, pures, mCall, mCB, mCL, gN, gT, gsCons, gsNil, gSubT, gSet, gIx, gGt, gGe, gLt, gLe, gMod, gDiv, G.gSub, gAdd, gMul, gPow, gNeg, i2, okB, cPos, cDiv, cTrue, cMul, cPow, seqOf, datOf, toB, wp_ok, wp_bind, wp_nox, mNot, mAnd, mOr, mAndV, mNotV, mOrV, mIfE, mIsi, isTs, isT, gLen, gSeq, gSeqL, gList, gTuple, mMth, isLst, gApp, gPut, mFz, thaw, mSl, mPart, startL, last_get, last_take]
end LK


set_option maxHeartbeats 4000000
namespace LK
open PySem L2 G
/-! ### numbers within bounds, rising rows, lots -/
def isFromB : PyData → Int → Int → Bool
  | .int i, lo, hi => decide (lo ≤ i) && decide (i ≤ hi)
  | _, _, _ => false
theorem is_from_eq {S : Sto} {t : PyData} {lo hi : Int} (ht : ∀ kvs, t ≠ .dict kvs) : f_is_from [.p t, .p (.int lo), .p (.int hi)] S = .ok (.p (.bool (isFromB t lo hi))) S := by
  cases t with
  | dict kvs => exact absurd rfl (ht kvs)
  | int i =>
    by_cases h : lo ≤ i
    · simp [f_is_from, b_is_from, fnOf, G.finish, mSeq, mIf, mTest, m2, m1, mVar, mC, mAsg, mRet, mNext, mDrop, mR, mP, mLst, mTup, mCons, mNil, pures, mCall, mCB, mCL, gN, gT, gsCons, gsNil, gSubT, gSet, gIx, gGt, gGe, gLt, gLe, gMod, gDiv, G.gSub, gAdd, gMul, gPow, gNeg, i2, okB, cPos, cDiv, cTrue, cMul, cPow, seqOf, datOf, toB, Res.bind, Res.nox, wp_ok, wp_bind, wp_nox, mNot, mAnd, mOr, mAndV, mNotV, mOrV, mIfE, mIsi, isTs, isT, gLen, gSeq, gSeqL, gList, gTuple, mMth, isLst, gApp, gPut, mFz, thaw, mSl, mPart, startL, mCh, cLink, cLast, isFromB, h]
    · simp [f_is_from, b_is_from, fnOf, G.finish, mSeq, mIf, mTest, m2, m1, mVar, mC, mAsg, mRet, mNext, mDrop, mR, mP, mLst, mTup, mCons, mNil, pures, mCall, mCB, mCL, gN, gT, gsCons, gsNil, gSubT, gSet, gIx, gGt, gGe, gLt, gLe, gMod, gDiv, G.gSub, gAdd, gMul, gPow, gNeg, i2, okB, cPos, cDiv, cTrue, cMul, cPow, seqOf, datOf, toB, Res.bind, Res.nox, wp_ok, wp_bind, wp_nox, mNot, mAnd, mOr, mAndV, mNotV, mOrV, mIfE, mIsi, isTs, isT, gLen, gSeq, gSeqL, gList, gTuple, mMth, isLst, gApp, gPut, mFz, thaw, mSl, mPart, startL, mCh, cLink, cLast, isFromB, h]
  | _ => simp [f_is_from, b_is_from, fnOf, G.finish, mSeq, mIf, mTest, m2, m1, mVar, mC, mAsg, mRet, mNext, mDrop, mR, mP, mLst, mTup, mCons, mNil, pures, mCall, mCB, mCL, gN, gT, gsCons, gsNil, gSubT, gSet, gIx, gGt, gGe, gLt, gLe, gMod, gDiv, G.gSub, gAdd, gMul, gPow, gNeg, i2, okB, cPos, cDiv, cTrue, cMul, cPow, seqOf, datOf, toB, Res.bind, Res.nox, wp_ok, wp_bind, wp_nox, mNot, mAnd, mOr, mAndV, mNotV, mOrV, mIfE, mIsi, isTs, isT, gLen, gSeq, gSeqL, gList, gTuple, mMth, isLst, gApp, gPut, mFz, thaw, mSl, mPart, startL, isFromB]
instance ltP_dec (a b : Int × Int) : Decidable (ltP a b) := by unfold ltP; exact inferInstance
theorem lt_pr {p q : Int × Int} : PySem.W.dataLt (pr p) (pr q) = decide (ltP p q) := by
  unfold LK.pr
  rw [PySem.W.dataLt_tuple]
  simp only [PySem.W.keyToksAll, PySem.W.keyToks, List.singleton_append, PyProof.Rows.lex_cons, PyProof.Rows.itemOrd, PyProof.Rows.itemLt, PyProof.Rows.lexLt]
  unfold ltP
  by_cases h1 : p.1 < q.1
  · simp [h1]
  · by_cases h2 : q.1 < p.1
    · have : ¬ p.1 = q.1 := by omega
      simp [h1, h2, this]
    · have : p.1 = q.1 := by omega
      simp [this]
theorem gLt_pr {p q : Int × Int} {S : Sto} : gLt (.p (pr p)) (.p (pr q)) S = .ok (.p (.bool (decide (ltP p q)))) S := by
  have h1 : lay3 (pr p) (pr q) = true := by
    unfold lay3
    rw [(La.pr (n := 0) p).lay (by omega), (La.pr (n := 0) q).lay (by omega)]
    rfl
  show g2 lay3 (fun x y => .bool (PySem.W.dataLt x y)) (.p (pr p)) (.p (pr q)) S = _
  simp [g2, datOf, h1, okB, lt_pr]
def risB (ps : List (Int × Int)) : Bool := (ps.zip (ps.drop 1)).all fun z => decide (ltP z.1 z.2)
theorem zipP_pr : ∀ (ps qs : List (Int × Int)), zipP (ps.map pr) (qs.map pr) = (ps.zip qs).map fun z => PyData.tuple [pr z.1, pr z.2]
  | [], _ => by cases ‹List (Int × Int)› <;> rfl
  | _ :: _, [] => rfl
  | p :: ps, q :: qs => by
    show PyData.tuple [pr p, pr q] :: zipP (ps.map pr) (qs.map pr) = _
    rw [zipP_pr ps qs]; rfl
theorem risB_of : ∀ {ps : List (Int × Int)}, ps.Pairwise ltP → risB ps = true
  | [], _ => rfl
  | [_], _ => rfl
  | a :: b :: ps, h => by
    have ih := risB_of (List.pairwise_cons.mp h).2
    have h1 := (List.pairwise_cons.mp h).1 b (List.mem_cons_self ..)
    unfold risB at ih ⊢
    simp only [List.drop_succ_cons, List.drop_zero, List.zip_cons_cons, List.all_cons, decide_eq_true h1, Bool.true_and]
    exact ih
theorem bools_map : ∀ (bs : List Bool), bools (bs.map PyData.bool) = some bs
  | [] => rfl
  | b :: bs => by
    show (bools (bs.map PyData.bool)).map (b :: ·) = _
    rw [bools_map bs]; rfl
theorem cutP_tail {xs : List PyData} : cutP xs (some 1) none = xs.drop 1 := by
  unfold cutP
  have h1 : HT.sIx xs.length 0 (some 1) = min 1 xs.length := HT.sIx_nat _ _ 1
  rw [HT.sIx_none, h1]
  cases xs with
  | nil => rfl
  | cons x xs =>
    have : min 1 (x :: xs).length = 1 := by simp
    rw [this]
    simp
theorem rising_gen {S : Sto} {ps : List (Int × Int)} (hl : ps.length ≤ 1000000) : f_is_rising [.p (.tuple (ps.map pr))] S = .ok (.p (.bool (risB ps))) S := by
  have hlc : mLcL (gT 2 (gsCons (gN 1) (gsCons (gN 2) gsNil))) mYes (m2 gLt (mVar 1) (mVar 2)) [some (.p (.tuple (ps.map pr))), none, none] (zipP (ps.map pr) ((ps.drop 1).map pr)) S = .ok (((ps.zip (ps.drop 1)).map fun z => decide (ltP z.1 z.2)).map PyData.bool) S := by
    rw [zipP_pr]
    have := lc_map (g := gT 2 (gsCons (gN 1) (gsCons (gN 2) gsNil))) (tt := mYes) (te := m2 gLt (mVar 1) (mVar 2)) (ρ := [some (.p (.tuple (ps.map pr))), none, none]) (S := S) (fun z : (Int × Int) × (Int × Int) => PyData.tuple [pr z.1, pr z.2]) (t := fun _ => true) (v := fun z => PyData.bool (decide (ltP z.1 z.2))) (ps.zip (ps.drop 1)) fun z hz => ⟨[some (.p (.tuple (ps.map pr))), some (.p (pr z.1)), some (.p (pr z.2))], by simp [mSeq, mIf, mTest, m2, m1, mVar, mC, mAsg, mRet, mNext, mDrop, mR, mP, mLst, mTup, mCons, mNil, pures, mCall, mCB, mCL, gN, gT, gsCons, gsNil, gSubT, gSet, gIx, gGt, gGe, gLt, gLe, gMod, gDiv, G.gSub, gAdd, gMul, gPow, gNeg, i2, okB, cPos, cDiv, cTrue, cMul, cPow, seqOf, datOf, toB, Res.bind, Res.nox, wp_ok, wp_bind, wp_nox, mNot, mAnd, mOr, mAndV, mNotV, mOrV, mIfE, mIsi, isTs, isT, gLen, gSeq, gSeqL, gList, gTuple, mMth, isLst, gApp, gPut, mFz, thaw, mSl, mPart, startL], rfl, fun _ => by simp only [m2, mVar, List.getElem?_cons_succ, List.getElem?_cons_zero, Res.bind, gLt_pr]⟩
    rw [this, List.filter_eq_self.mpr (fun _ _ => rfl), List.map_map]
    rfl
  have hl2 : (zipP (ps.map pr) ((ps.drop 1).map pr)).length ≤ 1000000 := by
    rw [zipP_length, List.length_map]; omega
  have hall : ((ps.zip (ps.drop 1)).map fun z => decide (ltP z.1 z.2)).all id = risB ps := by
    unfold risB
    rw [List.all_map]; rfl
  simp only [List.drop_one, List.map_tail] at hlc hl2 hall
  generalize hbs : ((ps.zip ps.tail).map fun z => decide (ltP z.1 z.2)) = bs at hlc hall
  simp [f_is_rising, fnOf, b_is_rising, mRet, mCB, mCons, mP, mLc, mZip, mVar, mSl, mPart, mC, mNil, startL, Res.bind, gSl, seqOf, cutP_tail, hl2, wipeL, hlc, gAll, gSeq, bools_map, G.finish, Res.nox]
  simpa using hall
theorem is_lot_gen {S : Sto} {n : Int} {ps : List (Int × Int)} (h : ∀ p ∈ ps, 0 ≤ p.1 ∧ p.1 < p.2 ∧ p.2 < n) (hl : ps.length ≤ 1000000) : f_is_lot [.p (.int n), .p (.tuple (ps.map pr))] S = .ok (.p (.bool (risB ps))) S := by
  suffices h : wp (f_is_lot [.p (.int n), .p (.tuple (ps.map pr))] S) (fun d S1 => d = .p (.bool (risB ps)) ∧ S1 = S) by
    obtain ⟨d, S1, e, rfl, rfl⟩ := h
    exact e
  unfold f_is_lot
  rw [wp_nox]
  apply wp_fn
  unfold b_is_lot
  apply wp_seq
  intro k1 hk1 _ _ _
  simp [mSeq, mIf, mTest, m2, m1, mVar, mC, mAsg, mRet, mNext, mDrop, mR, mP, mLst, mTup, mCons, mNil, pures, mCall, mCB, mCL, gN, gT, gsCons, gsNil, gSubT, gSet, gIx, gGt, gGe, gLt, gLe, gMod, gDiv, G.gSub, gAdd, gMul, gPow, gNeg, i2, okB, cPos, cDiv, cTrue, cMul, cPow, seqOf, datOf, toB, wp_ok, wp_bind, wp_nox, mNot, mAnd, mOr, mAndV, mNotV, mOrV, mIfE, mIsi, isTs, isT, gLen, gSeq, gSeqL, gList, gTuple, mMth, isLst, gApp, gPut, mFz, thaw, mSl, mPart, startL]
  apply hk1
  apply wp_seq
  intro k2 hk2 _ _ _
  rw [wp_for]
  simp [mSeq, mIf, mTest, m2, m1, mVar, mC, mAsg, mRet, mNext, mDrop, mR, mP, mLst, mTup, mCons, mNil, pures, mCall, mCB, mCL, gN, gT, gsCons, gsNil, gSubT, gSet, gIx, gGt, gGe, gLt, gLe, gMod, gDiv, G.gSub, gAdd, gMul, gPow, gNeg, i2, okB, cPos, cDiv, cTrue, cMul, cPow, seqOf, datOf, toB, wp_ok, wp_bind, wp_nox, mNot, mAnd, mOr, mAndV, mNotV, mOrV, mIfE, mIsi, isTs, isT, gLen, gSeq, gSeqL, gList, gTuple, mMth, isLst, gApp, gPut, mFz, thaw, mSl, mPart, startL, mItems]
  refine wp_loop (fun r ρ S1 => ∃ (qs : List (Int × Int)) (o2 : Option D), r = qs.map pr ∧ ρ = [some (.p (.int n)), some (.p (.tuple (ps.map pr))), o2] ∧ S1 = S ∧ ∀ p ∈ qs, 0 ≤ p.1 ∧ p.1 < p.2 ∧ p.2 < n) _ ?_ ?_ ?_
  · exact ⟨_, _, rfl, rfl, rfl, h⟩
  · rintro x r ρ S1 ⟨qs, o2, e, rfl, rfl, hq⟩ k3 hk3
    cases qs with
    | nil => cases e
    | cons p qs =>
      cases e
      rw [wp_gN]
      obtain ⟨h1, h2, h3⟩ := hq p (List.mem_cons_self ..)
      have e0 : atI [PyData.int p.1, .int p.2] 0 = some (.int p.1) := rfl
      have e1 : atI [PyData.int p.1, .int p.2] 1 = some (.int p.2) := rfl
      have f0 : isFromB (.int p.1) 0 (n - 2) = true := by simp only [isFromB]; simp; omega
      have f1 : isFromB (.int p.2) (p.1 + 1) (n - 1) = true := by simp only [isFromB]; simp; omega
      have ne2 : gNe (.p (.int 2)) (.p (.int 2)) S1 = .ok (.p (.bool false)) S1 := rfl
      apply wp_seq
      intro k4 hk4 _ _ _
      simp [mSeq, mIf, mTest, m2, m1, mVar, mC, mAsg, mRet, mNext, mDrop, mR, mP, mLst, mTup, mCons, mNil, pures, mCall, mCB, mCL, gN, gT, gsCons, gsNil, gSubT, gSet, gIx, gGt, gGe, gLt, gLe, gMod, gDiv, G.gSub, gAdd, gMul, gPow, gNeg, i2, okB, cPos, cDiv, cTrue, cMul, cPow, seqOf, datOf, toB, wp_ok, wp_bind, wp_nox, mNot, mAnd, mOr, mAndV, mNotV, mOrV, mIfE, mIsi, isTs, isT, gLen, gSeq, gSeqL, gList, gTuple, mMth, isLst, gApp, gPut, mFz, thaw, mSl, mPart, startL, LK.pr, e0, is_from_eq, f0, ne2]
      apply hk4
      simp [mSeq, mIf, mTest, m2, m1, mVar, mC, mAsg, mRet, mNext, mDrop, mR, mP, mLst, mTup, mCons, mNil, pures, mCall, mCB, mCL, gN, gT, gsCons, gsNil, gSubT, gSet, gIx, gGt, gGe, gLt, gLe, gMod, gDiv, G.gSub, gAdd, gMul, gPow, gNeg, i2, okB, cPos, cDiv, cTrue, cMul, cPow, seqOf, datOf, toB, wp_ok, wp_bind, wp_nox, mNot, mAnd, mOr, mAndV, mNotV, mOrV, mIfE, mIsi, isTs, isT, gLen, gSeq, gSeqL, gList, gTuple, mMth, isLst, gApp, gPut, mFz, thaw, mSl, mPart, startL, LK.pr, e0, e1, is_from_eq, f1]
      apply hk3
      exact ⟨qs, _, rfl, rfl, rfl, fun p hp => hq p (List.mem_cons_of_mem _ hp)⟩
  · rintro ρ S1 ⟨qs, o2, e, rfl, rfl, hq⟩
    apply hk2
    simp [mSeq, mIf, mTest, m2, m1, mVar, mC, mAsg, mRet, mNext, mDrop, mR, mP, mLst, mTup, mCons, mNil, pures, mCall, mCB, mCL, gN, gT, gsCons, gsNil, gSubT, gSet, gIx, gGt, gGe, gLt, gLe, gMod, gDiv, G.gSub, gAdd, gMul, gPow, gNeg, i2, okB, cPos, cDiv, cTrue, cMul, cPow, seqOf, datOf, toB, wp_ok, wp_bind, wp_nox, mNot, mAnd, mOr, mAndV, mNotV, mOrV, mIfE, mIsi, isTs, isT, gLen, gSeq, gSeqL, gList, gTuple, mMth, isLst, gApp, gPut, mFz, thaw, mSl, mPart, startL, rising_gen hl]
theorem is_lot_eq {S : Sto} {n : Int} {ps : List (Int × Int)} (h : Lot n ps) (hl : ps.length ≤ 1000000) : f_is_lot [.p (.int n), .p (.tuple (ps.map pr))] S = .ok (.p (.bool true)) S := by
  rw [is_lot_gen h.inr hl, risB_of h.srt]
end LK


set_option maxHeartbeats 4000000
namespace LK
open PySem L2 G
/-! ### what bars a lot -/
abbrev Bar := Str × List Int
def bd (b : Bar) : PyData := .tuple (.str b.1 :: b.2.map PyData.int)
def apartL (n : Int) (ps : List (Int × Int)) : List Bar := ((ran 0 (n - 1).toNat).filter fun i => !decide ((i, i + 1) ∈ ps)).map fun i => ("apart", [i, i + 1])
def crossB (p q : Int × Int) : Bool := decide (p.1 < q.1) && (decide (q.1 < p.2) && decide (p.2 < q.2))
def crossL (ps : List (Int × Int)) (p : Int × Int) : List Bar := (ps.filter (crossB p)).map fun q => ("cross", [p.1, p.2, q.1, q.2])
def aloneB (ps : List (Int × Int)) (p : Int × Int) : Bool := decide (p.1 + 1 < p.2) && ((ran (p.1 + 1) (p.2 - (p.1 + 1)).toNat).filter fun m => decide ((p.1, m) ∈ ps) && decide ((m, p.2) ∈ ps)).isEmpty
def aloneL (ps qs : List (Int × Int)) : List Bar := (qs.filter (aloneB ps)).map fun p => ("alone", [p.1, p.2])
def barsL (n : Int) (ps : List (Int × Int)) : List Bar := (apartL n ps ++ ps.flatMap (crossL ps)) ++ aloneL ps ps
theorem flat_len {α β : Type} {f : α → List β} {m : Nat} (h : ∀ x, (f x).length ≤ m) : ∀ (xs : List α), (xs.flatMap f).length ≤ xs.length * m
  | [] => Nat.zero_le _
  | x :: xs => by
    have := flat_len h xs
    have := h x
    rw [List.flatMap_cons, List.length_append, List.length_cons, Nat.succ_mul]
    omega
theorem apart_len {n : Int} {ps : List (Int × Int)} (hn : n ≤ 12) : (apartL n ps).length ≤ 12 := by
  unfold apartL
  rw [List.length_map]
  have := List.length_filter_le (fun i => !decide ((i, i + 1) ∈ ps)) (ran 0 (n - 1).toNat)
  rw [ran_len] at this
  omega
theorem cross_len {ps : List (Int × Int)} (h : ps.length ≤ 200) : (ps.flatMap (crossL ps)).length ≤ 40000 := by
  have := flat_len (f := crossL ps) (m := ps.length) (fun p => by unfold crossL; rw [List.length_map]; exact List.length_filter_le _ _) ps
  exact Nat.le_trans this (Nat.le_trans (Nat.mul_le_mul h h) (by decide))
theorem alone_len {ps qs : List (Int × Int)} (h : qs.length ≤ 200) : (aloneL ps qs).length ≤ 200 := by
  unfold aloneL
  rw [List.length_map]
  exact Nat.le_trans (List.length_filter_le _ _) h
theorem bars_len {n : Int} {ps : List (Int × Int)} (hn : n ≤ 12) (h : ps.length ≤ 200) : (barsL n ps).length ≤ 40212 := by
  unfold barsL
  rw [List.length_append, List.length_append]
  have := apart_len (ps := ps) hn
  have := cross_len h
  have := alone_len (ps := ps) h
  omega
theorem gIn_pr {a b : Int} {ps : List (Int × Int)} {S : Sto} : gIn (.p (.tuple [.int a, .int b])) (.p (.tuple (ps.map pr))) S = .ok (.p (.bool (decide ((a, b) ∈ ps)))) S := by
  have h1 := layIn_prs (p := (a, b)) (ps := ps)
  have h2 := isIn_prs (p := (a, b)) (ps := ps)
  simp only [LK.pr] at h1 h2
  simp only [gIn, g2, datOf, LK.pr, h1, h2, okB, if_true]
theorem gNotIn_pr {a b : Int} {ps : List (Int × Int)} {S : Sto} : gNotIn (.p (.tuple [.int a, .int b])) (.p (.tuple (ps.map pr))) S = .ok (.p (.bool (!decide ((a, b) ∈ ps)))) S := by
  have h1 := layIn_prs (p := (a, b)) (ps := ps)
  have h2 := isIn_prs (p := (a, b)) (ps := ps)
  simp only [LK.pr] at h1 h2
  simp only [gNotIn, g2, datOf, LK.pr, h1, h2, okB, if_true]
theorem all_bars_eq {S : Sto} {n : Int} {ps : List (Int × Int)} (h : Lot n ps) (hl : ps.length ≤ 200) (h1 : 1 ≤ n) (h2 : n ≤ 12) : f_all_bars [.p (.int n), .p (.tuple (ps.map pr))] S = .ok (.p (.list ((barsL n ps).map bd))) S := by
  suffices h : wp (f_all_bars [.p (.int n), .p (.tuple (ps.map pr))] S) (fun d S1 => d = .p (.list ((barsL n ps).map bd)) ∧ S1 = S) by
    obtain ⟨d, S1, e, rfl, rfl⟩ := h
    exact e
  have hap := apart_len (ps := ps) h2
  have hcr := cross_len hl
  have hal := alone_len (ps := ps) hl
  unfold f_all_bars
  rw [wp_nox]
  apply wp_fn
  unfold b_all_bars
  apply wp_seq
  intro k1 hk1 _ _ _
  have hA : mLcL (gN 3) (mTest (m2 gNotIn (mTup (mCons (mVar 3) (mCons (m2 gAdd (mVar 3) (mC (.int 1))) mNil))) (mVar 1))) (mTup (mCons (mC (.str "apart")) (mCons (mVar 3) (mCons (m2 gAdd (mVar 3) (mC (.int 1))) mNil)))) [some (.p (.int n)), some (.p (.tuple (ps.map pr))), none, none, none, none, none, none, none] ((ran 0 (n - 1).toNat).map PyData.int) S = .ok (((ran 0 (n - 1).toNat).filter fun i => !decide ((i, i + 1) ∈ ps)).map fun i => bd ("apart", [i, i + 1])) S :=
    lc_map PyData.int _ fun i _ => ⟨_, rfl, by simp [mSeq, mIf, mTest, m2, m1, mVar, mC, mAsg, mRet, mNext, mDrop, mR, mP, mLst, mTup, mCons, mNil, pures, mCall, mCB, mCL, gN, gT, gsCons, gsNil, gSubT, gSet, gIx, gGt, gGe, gLt, gLe, gMod, gDiv, G.gSub, gAdd, gMul, gPow, gNeg, i2, okB, cPos, cDiv, cTrue, cMul, cPow, seqOf, datOf, toB, Res.bind, Res.nox, wp_ok, wp_bind, wp_nox, mNot, mAnd, mOr, mAndV, mNotV, mOrV, mIfE, mIsi, isTs, isT, gLen, gSeq, gSeqL, gList, gTuple, mMth, isLst, gApp, gPut, mFz, thaw, mSl, mPart, startL, gNotIn_pr], fun _ => by simp [mSeq, mIf, mTest, m2, m1, mVar, mC, mAsg, mRet, mNext, mDrop, mR, mP, mLst, mTup, mCons, mNil, pures, mCall, mCB, mCL, gN, gT, gsCons, gsNil, gSubT, gSet, gIx, gGt, gGe, gLt, gLe, gMod, gDiv, G.gSub, gAdd, gMul, gPow, gNeg, i2, okB, cPos, cDiv, cTrue, cMul, cPow, seqOf, datOf, toB, Res.bind, Res.nox, wp_ok, wp_bind, wp_nox, mNot, mAnd, mOr, mAndV, mNotV, mOrV, mIfE, mIsi, isTs, isT, gLen, gSeq, gSeqL, gList, gTuple, mMth, isLst, gApp, gPut, mFz, thaw, mSl, mPart, startL, bd]⟩
  have hrl : (n - 1).toNat ≤ 1000000 := by omega
  simp [-Int.pred_toNat, -Int.toNat_le, mSeq, mIf, mTest, m2, m1, mVar, mC, mAsg, mRet, mNext, mDrop, mR, mP, mLst, mTup, mCons, mNil, pures, mCall, mCB, mCL, gN, gT, gsCons, gsNil, gSubT, gSet, gIx, gGt, gGe, gLt, gLe, gMod, gDiv, G.gSub, gAdd, gMul, gPow, gNeg, i2, okB, cPos, cDiv, cTrue, cMul, cPow, seqOf, datOf, toB, wp_ok, wp_bind, wp_nox, mNot, mAnd, mOr, mAndV, mNotV, mOrV, mIfE, mIsi, isTs, isT, gLen, gSeq, gSeqL, gList, gTuple, mMth, isLst, gApp, gPut, mFz, thaw, mSl, mPart, startL, mLc, mRng1, inB_of (i := n - 1) (by omega) (by omega), rangeP_ran, wipeL, ran_len, hA, hrl]
  apply hk1
  apply wp_seq
  intro k2 hk2 _ _ _
  rw [wp_for]
  simp [mSeq, mIf, mTest, m2, m1, mVar, mC, mAsg, mRet, mNext, mDrop, mR, mP, mLst, mTup, mCons, mNil, pures, mCall, mCB, mCL, gN, gT, gsCons, gsNil, gSubT, gSet, gIx, gGt, gGe, gLt, gLe, gMod, gDiv, G.gSub, gAdd, gMul, gPow, gNeg, i2, okB, cPos, cDiv, cTrue, cMul, cPow, seqOf, datOf, toB, wp_ok, wp_bind, wp_nox, mNot, mAnd, mOr, mAndV, mNotV, mOrV, mIfE, mIsi, isTs, isT, gLen, gSeq, gSeqL, gList, gTuple, mMth, isLst, gApp, gPut, mFz, thaw, mSl, mPart, startL, mItems]
  refine wp_loop (fun r ρ S1 => ∃ (qs : List (Int × Int)) (bs : List Bar) (o3 o4 o6 o7 : Option D), r = qs.map pr ∧ ρ = [some (.p (.int n)), some (.p (.tuple (ps.map pr))), some (.r S.length), o3, o4, none, o6, o7, none] ∧ S1 = S ++ [some (.lst (bs.map bd))] ∧ bs ++ qs.flatMap (crossL ps) = apartL n ps ++ ps.flatMap (crossL ps)) _ ?_ ?_ ?_
  · exact ⟨ps, apartL n ps, _, _, _, _, rfl, rfl, by simp [apartL], rfl⟩
  · rintro x r ρ S1 ⟨qs, bs, o3, o4, o6, o7, e, rfl, rfl, hb⟩ k3 hk3
    cases qs with
    | nil => cases e
    | cons p qs =>
      cases e
      simp [mSeq, mIf, mTest, m2, m1, mVar, mC, mAsg, mRet, mNext, mDrop, mR, mP, mLst, mTup, mCons, mNil, pures, mCall, mCB, mCL, gN, gT, gsCons, gsNil, gSubT, gSet, gIx, gGt, gGe, gLt, gLe, gMod, gDiv, G.gSub, gAdd, gMul, gPow, gNeg, i2, okB, cPos, cDiv, cTrue, cMul, cPow, seqOf, datOf, toB, wp_ok, wp_bind, wp_nox, mNot, mAnd, mOr, mAndV, mNotV, mOrV, mIfE, mIsi, isTs, isT, gLen, gSeq, gSeqL, gList, gTuple, mMth, isLst, gApp, gPut, mFz, thaw, mSl, mPart, startL, LK.pr, wp_for, mItems]
      refine wp_loop (fun r ρ S1 => ∃ (rs : List (Int × Int)) (bs : List Bar) (o6 o7 : Option D), r = rs.map pr ∧ ρ = [some (.p (.int n)), some (.p (.tuple (ps.map pr))), some (.r S.length), some (.p (.int p.1)), some (.p (.int p.2)), none, o6, o7, none] ∧ S1 = S ++ [some (.lst (bs.map bd))] ∧ bs ++ ((rs.filter (crossB p)).map (fun q => (("cross", [p.1, p.2, q.1, q.2]) : Bar)) ++ qs.flatMap (crossL ps)) = apartL n ps ++ ps.flatMap (crossL ps)) _ ?_ ?_ ?_
      · exact ⟨ps, bs, _, _, by rfl, rfl, rfl, by rw [← hb, List.flatMap_cons]; rfl⟩
      · rintro x r ρ S1 ⟨rs, bs, o6, o7, e, rfl, rfl, hb⟩ k4 hk4
        cases rs with
        | nil => cases e
        | cons q rs =>
          cases e
          have hbl : bs.length ≤ 1000000 := by
            have := congrArg List.length hb
            rw [List.length_append, List.length_append (as := apartL n ps)] at this
            omega
          simp [mSeq, mIf, mTest, m2, m1, mVar, mC, mAsg, mRet, mNext, mDrop, mR, mP, mLst, mTup, mCons, mNil, pures, mCall, mCB, mCL, gN, gT, gsCons, gsNil, gSubT, gSet, gIx, gGt, gGe, gLt, gLe, gMod, gDiv, G.gSub, gAdd, gMul, gPow, gNeg, i2, okB, cPos, cDiv, cTrue, cMul, cPow, seqOf, datOf, toB, wp_ok, wp_bind, wp_nox, mNot, mAnd, mOr, mAndV, mNotV, mOrV, mIfE, mIsi, isTs, isT, gLen, gSeq, gSeqL, gList, gTuple, mMth, isLst, gApp, gPut, mFz, thaw, mSl, mPart, startL, LK.pr, mCh, cLink, cLast]
          by_cases c1 : p.1 < q.1
          · by_cases c2 : q.1 < p.2
            · by_cases c3 : p.2 < q.2
              · simp [c1, c2, c3, mSeq, mIf, mTest, m2, m1, mVar, mC, mAsg, mRet, mNext, mDrop, mR, mP, mLst, mTup, mCons, mNil, pures, mCall, mCB, mCL, gN, gT, gsCons, gsNil, gSubT, gSet, gIx, gGt, gGe, gLt, gLe, gMod, gDiv, G.gSub, gAdd, gMul, gPow, gNeg, i2, okB, cPos, cDiv, cTrue, cMul, cPow, seqOf, datOf, toB, wp_ok, wp_bind, wp_nox, mNot, mAnd, mOr, mAndV, mNotV, mOrV, mIfE, mIsi, isTs, isT, gLen, gSeq, gSeqL, gList, gTuple, mMth, isLst, gApp, gPut, mFz, thaw, mSl, mPart, startL, last_get, last_set, hbl]
                apply hk4
                refine ⟨rs, bs ++ [(("cross", [p.1, p.2, q.1, q.2]) : Bar)], _, _, rfl, rfl, by simp [bd], ?_⟩
                rw [← hb, List.filter_cons, if_pos (by simp [crossB, c1, c2, c3])]
                simp
              · simp [c1, c2, c3, mSeq, mIf, mTest, m2, m1, mVar, mC, mAsg, mRet, mNext, mDrop, mR, mP, mLst, mTup, mCons, mNil, pures, mCall, mCB, mCL, gN, gT, gsCons, gsNil, gSubT, gSet, gIx, gGt, gGe, gLt, gLe, gMod, gDiv, G.gSub, gAdd, gMul, gPow, gNeg, i2, okB, cPos, cDiv, cTrue, cMul, cPow, seqOf, datOf, toB, wp_ok, wp_bind, wp_nox, mNot, mAnd, mOr, mAndV, mNotV, mOrV, mIfE, mIsi, isTs, isT, gLen, gSeq, gSeqL, gList, gTuple, mMth, isLst, gApp, gPut, mFz, thaw, mSl, mPart, startL]
                apply hk4
                refine ⟨rs, bs, _, _, rfl, rfl, rfl, ?_⟩
                rw [← hb, List.filter_cons, if_neg (by simp [crossB, c1, c2, c3])]
            · simp [c1, c2, mSeq, mIf, mTest, m2, m1, mVar, mC, mAsg, mRet, mNext, mDrop, mR, mP, mLst, mTup, mCons, mNil, pures, mCall, mCB, mCL, gN, gT, gsCons, gsNil, gSubT, gSet, gIx, gGt, gGe, gLt, gLe, gMod, gDiv, G.gSub, gAdd, gMul, gPow, gNeg, i2, okB, cPos, cDiv, cTrue, cMul, cPow, seqOf, datOf, toB, wp_ok, wp_bind, wp_nox, mNot, mAnd, mOr, mAndV, mNotV, mOrV, mIfE, mIsi, isTs, isT, gLen, gSeq, gSeqL, gList, gTuple, mMth, isLst, gApp, gPut, mFz, thaw, mSl, mPart, startL]
              apply hk4
              refine ⟨rs, bs, _, _, rfl, rfl, rfl, ?_⟩
              rw [← hb, List.filter_cons, if_neg (by simp [crossB, c1, c2])]
          · simp [c1, mSeq, mIf, mTest, m2, m1, mVar, mC, mAsg, mRet, mNext, mDrop, mR, mP, mLst, mTup, mCons, mNil, pures, mCall, mCB, mCL, gN, gT, gsCons, gsNil, gSubT, gSet, gIx, gGt, gGe, gLt, gLe, gMod, gDiv, G.gSub, gAdd, gMul, gPow, gNeg, i2, okB, cPos, cDiv, cTrue, cMul, cPow, seqOf, datOf, toB, wp_ok, wp_bind, wp_nox, mNot, mAnd, mOr, mAndV, mNotV, mOrV, mIfE, mIsi, isTs, isT, gLen, gSeq, gSeqL, gList, gTuple, mMth, isLst, gApp, gPut, mFz, thaw, mSl, mPart, startL]
            apply hk4
            refine ⟨rs, bs, _, _, rfl, rfl, rfl, ?_⟩
            rw [← hb, List.filter_cons, if_neg (by simp [crossB, c1])]
      · rintro ρ S1 ⟨rs, bs, o6, o7, e, rfl, rfl, hb⟩
        cases rs with
        | cons j js => cases e
        | nil =>
          apply hk3
          exact ⟨qs, bs, _, _, _, _, rfl, rfl, rfl, hb⟩
  · rintro ρ S1 ⟨qs, bs, o3, o4, o6, o7, e, rfl, rfl, hb⟩
    cases qs with
    | cons i is => cases e
    | nil =>
      apply hk2
      rw [List.flatMap_nil, List.append_nil] at hb
      apply wp_seq
      intro k3 hk3 _ _ _
      rw [wp_for]
      simp [mSeq, mIf, mTest, m2, m1, mVar, mC, mAsg, mRet, mNext, mDrop, mR, mP, mLst, mTup, mCons, mNil, pures, mCall, mCB, mCL, gN, gT, gsCons, gsNil, gSubT, gSet, gIx, gGt, gGe, gLt, gLe, gMod, gDiv, G.gSub, gAdd, gMul, gPow, gNeg, i2, okB, cPos, cDiv, cTrue, cMul, cPow, seqOf, datOf, toB, wp_ok, wp_bind, wp_nox, mNot, mAnd, mOr, mAndV, mNotV, mOrV, mIfE, mIsi, isTs, isT, gLen, gSeq, gSeqL, gList, gTuple, mMth, isLst, gApp, gPut, mFz, thaw, mSl, mPart, startL, mItems]
      refine wp_loop (fun r ρ S1 => ∃ (qs : List (Int × Int)) (bs : List Bar) (o3 o4 o5 : Option D), r = qs.map pr ∧ ρ = [some (.p (.int n)), some (.p (.tuple (ps.map pr))), some (.r S.length), o3, o4, o5, o6, o7, none] ∧ S1 = S ++ [some (.lst (bs.map bd))] ∧ (∀ p ∈ qs, 0 ≤ p.1 ∧ p.1 < p.2 ∧ p.2 < n) ∧ bs ++ aloneL ps qs = barsL n ps) _ ?_ ?_ ?_
      · exact ⟨ps, bs, _, _, _, rfl, rfl, rfl, h.inr, by rw [hb]; rfl⟩
      · rintro x r ρ S1 ⟨qs, bs, o3, o4, o5, e, rfl, rfl, hq, hb⟩ k4 hk4
        cases qs with
        | nil => cases e
        | cons p qs =>
          cases e
          obtain ⟨p1, p2, p3⟩ := hq p (List.mem_cons_self ..)
          have hbl : bs.length ≤ 1000000 := by
            have := congrArg List.length hb
            rw [List.length_append, barsL, List.length_append, List.length_append] at this
            omega
          have hM : mLcL (gN 8) (mAnd (mTest (m2 gIn (mTup (mCons (mVar 3) (mCons (mVar 8) mNil))) (mVar 1))) (mTest (m2 gIn (mTup (mCons (mVar 8) (mCons (mVar 4) mNil))) (mVar 1)))) (mVar 8) [some (.p (.int n)), some (.p (.tuple (ps.map pr))), some (.r S.length), some (.p (.int p.1)), some (.p (.int p.2)), o5, o6, o7, none] ((ran (p.1 + 1) (p.2 - (p.1 + 1)).toNat).map PyData.int) (S ++ [some (.lst (bs.map bd))]) = .ok (((ran (p.1 + 1) (p.2 - (p.1 + 1)).toNat).filter fun m => decide ((p.1, m) ∈ ps) && decide ((m, p.2) ∈ ps)).map PyData.int) (S ++ [some (.lst (bs.map bd))]) :=
            lc_map PyData.int _ fun i _ => ⟨_, rfl, by by_cases c : (p.1, i) ∈ ps <;> simp [mSeq, mIf, mTest, m2, m1, mVar, mC, mAsg, mRet, mNext, mDrop, mR, mP, mLst, mTup, mCons, mNil, pures, mCall, mCB, mCL, gN, gT, gsCons, gsNil, gSubT, gSet, gIx, gGt, gGe, gLt, gLe, gMod, gDiv, G.gSub, gAdd, gMul, gPow, gNeg, i2, okB, cPos, cDiv, cTrue, cMul, cPow, seqOf, datOf, toB, Res.bind, Res.nox, wp_ok, wp_bind, wp_nox, mNot, mAnd, mOr, mAndV, mNotV, mOrV, mIfE, mIsi, isTs, isT, gLen, gSeq, gSeqL, gList, gTuple, mMth, isLst, gApp, gPut, mFz, thaw, mSl, mPart, startL, gIn_pr, c], fun _ => by simp [mSeq, mIf, mTest, m2, m1, mVar, mC, mAsg, mRet, mNext, mDrop, mR, mP, mLst, mTup, mCons, mNil, pures, mCall, mCB, mCL, gN, gT, gsCons, gsNil, gSubT, gSet, gIx, gGt, gGe, gLt, gLe, gMod, gDiv, G.gSub, gAdd, gMul, gPow, gNeg, i2, okB, cPos, cDiv, cTrue, cMul, cPow, seqOf, datOf, toB, Res.bind, Res.nox, wp_ok, wp_bind, wp_nox, mNot, mAnd, mOr, mAndV, mNotV, mOrV, mIfE, mIsi, isTs, isT, gLen, gSeq, gSeqL, gList, gTuple, mMth, isLst, gApp, gPut, mFz, thaw, mSl, mPart, startL]⟩
          have hrl : (p.2 - (p.1 + 1)).toNat ≤ 1000000 := by omega
          simp only [LK.pr, gT, List.length_cons, List.length_nil, if_pos, List.map_cons, List.map_nil, gsCons, gsNil, gN, Res.bind, wp_ok, List.set_cons_succ, List.set_cons_zero]
          apply wp_seq
          intro k5 hk5 _ _ _
          simp [mSeq, mIf, mTest, m2, m1, mVar, mC, mAsg, mRet, mNext, mDrop, mR, mP, mLst, mTup, mCons, mNil, pures, mCall, mCB, mCL, gN, gT, gsCons, gsNil, gSubT, gSet, gIx, gGt, gGe, gLt, gLe, gMod, gDiv, G.gSub, gAdd, gMul, gPow, gNeg, i2, okB, cPos, cDiv, cTrue, cMul, cPow, seqOf, datOf, toB, wp_ok, wp_bind, wp_nox, mNot, mAnd, mOr, mAndV, mNotV, mOrV, mIfE, mIsi, isTs, isT, gLen, gSeq, gSeqL, gList, gTuple, mMth, isLst, gApp, gPut, mFz, thaw, mSl, mPart, startL, mLc, mRng2, inB_of (i := p.1 + 1) (by omega) (by omega), inB_of (i := p.2) (by omega) (by omega), rangeP_ran, wipeL, ran_len, hM, hrl]
          apply hk5
          simp only [wp_mif, mAnd, mTest, m2, mVar, mP, mLst, mNil, mC, List.getElem?_cons_succ, List.getElem?_cons_zero, Res.bind, gAdd, gGt, toB, pures, List.length_nil, Nat.zero_le, if_true]
          by_cases c1 : p.1 + 1 < p.2
          · simp only [c1, decide_true, if_true, gEq_nil (La.ints (n := 0) _) (by omega), wp_ok]
            by_cases c2 : ((ran (p.1 + 1) (p.2 - (p.1 + 1)).toNat).filter fun m => decide ((p.1, m) ∈ ps) && decide ((m, p.2) ∈ ps)).isEmpty = true
            · have c3 : aloneB ps p = true := by unfold aloneB; rw [c2, decide_eq_true c1]; rfl
              rw [if_pos (by rw [List.isEmpty_iff] at c2 ⊢; rw [c2]; rfl)]
              simp [mSeq, mIf, mTest, m2, m1, mVar, mC, mAsg, mRet, mNext, mDrop, mR, mP, mLst, mTup, mCons, mNil, pures, mCall, mCB, mCL, gN, gT, gsCons, gsNil, gSubT, gSet, gIx, gGt, gGe, gLt, gLe, gMod, gDiv, G.gSub, gAdd, gMul, gPow, gNeg, i2, okB, cPos, cDiv, cTrue, cMul, cPow, seqOf, datOf, toB, wp_ok, wp_bind, wp_nox, mNot, mAnd, mOr, mAndV, mNotV, mOrV, mIfE, mIsi, isTs, isT, gLen, gSeq, gSeqL, gList, gTuple, mMth, isLst, gApp, gPut, mFz, thaw, mSl, mPart, startL, last_get, last_set, hbl]
              apply hk4
              refine ⟨qs, bs ++ [(("alone", [p.1, p.2]) : Bar)], _, _, _, rfl, rfl, by simp [bd], fun p hp => hq p (List.mem_cons_of_mem _ hp), ?_⟩
              rw [← hb, aloneL, aloneL, List.filter_cons, if_pos c3]
              simp
            · have c3 : ¬ aloneB ps p = true := by unfold aloneB; rw [decide_eq_true c1, Bool.true_and]; exact c2
              rw [if_neg (by rw [List.isEmpty_iff] at c2 ⊢; intro e; exact c2 (List.map_eq_nil_iff.mp e))]
              simp [mSeq, mIf, mTest, m2, m1, mVar, mC, mAsg, mRet, mNext, mDrop, mR, mP, mLst, mTup, mCons, mNil, pures, mCall, mCB, mCL, gN, gT, gsCons, gsNil, gSubT, gSet, gIx, gGt, gGe, gLt, gLe, gMod, gDiv, G.gSub, gAdd, gMul, gPow, gNeg, i2, okB, cPos, cDiv, cTrue, cMul, cPow, seqOf, datOf, toB, wp_ok, wp_bind, wp_nox, mNot, mAnd, mOr, mAndV, mNotV, mOrV, mIfE, mIsi, isTs, isT, gLen, gSeq, gSeqL, gList, gTuple, mMth, isLst, gApp, gPut, mFz, thaw, mSl, mPart, startL]
              apply hk4
              refine ⟨qs, bs, _, _, _, rfl, rfl, rfl, fun p hp => hq p (List.mem_cons_of_mem _ hp), ?_⟩
              rw [← hb, aloneL, aloneL, List.filter_cons, if_neg c3]
          · have c3 : ¬ aloneB ps p = true := by unfold aloneB; rw [decide_eq_false c1]; exact Bool.false_ne_true
            simp [c1, mSeq, mIf, mTest, m2, m1, mVar, mC, mAsg, mRet, mNext, mDrop, mR, mP, mLst, mTup, mCons, mNil, pures, mCall, mCB, mCL, gN, gT, gsCons, gsNil, gSubT, gSet, gIx, gGt, gGe, gLt, gLe, gMod, gDiv, G.gSub, gAdd, gMul, gPow, gNeg, i2, okB, cPos, cDiv, cTrue, cMul, cPow, seqOf, datOf, toB, wp_ok, wp_bind, wp_nox, mNot, mAnd, mOr, mAndV, mNotV, mOrV, mIfE, mIsi, isTs, isT, gLen, gSeq, gSeqL, gList, gTuple, mMth, isLst, gApp, gPut, mFz, thaw, mSl, mPart, startL]
            apply hk4
            refine ⟨qs, bs, _, _, _, rfl, rfl, rfl, fun p hp => hq p (List.mem_cons_of_mem _ hp), ?_⟩
            rw [← hb, aloneL, aloneL, List.filter_cons, if_neg c3]
      · rintro ρ S1 ⟨qs, bs, o3, o4, o5, e, rfl, rfl, hq, hb⟩
        cases qs with
        | cons i is => cases e
        | nil =>
          apply hk3
          have hb : bs = barsL n ps := by rw [← hb]; simp [aloneL]
          subst hb
          simp [mSeq, mIf, mTest, m2, m1, mVar, mC, mAsg, mRet, mNext, mDrop, mR, mP, mLst, mTup, mCons, mNil, pures, mCall, mCB, mCL, gN, gT, gsCons, gsNil, gSubT, gSet, gIx, gGt, gGe, gLt, gLe, gMod, gDiv, G.gSub, gAdd, gMul, gPow, gNeg, i2, okB, cPos, cDiv, cTrue, cMul, cPow, seqOf, datOf, toB, wp_ok, wp_bind, wp_nox, mNot, mAnd, mOr, mAndV, mNotV, mOrV, mIfE, mIsi, isTs, isT, gLen, gSeq, gSeqL, gList, gTuple, mMth, isLst, gApp, gPut, mFz, thaw, mSl, mPart, startL, last_get, last_set, last_take]
end LK


set_option maxHeartbeats 4000000
namespace LK
open PySem L2 G
/-! ### the first that bars, and whether a thing bars -/
structure BarOk (n : Int) (b : Bar) : Prop where
  nm : PyData.canLay0 (.str b.1) = true
  len : b.2.length = 2 ∨ b.2.length = 4
  inr : ∀ i ∈ b.2, 0 ≤ i ∧ i < n
theorem nm_apart : PyData.canLay0 (.str "apart") = true := by decide +kernel
theorem nm_cross : PyData.canLay0 (.str "cross") = true := by decide +kernel
theorem nm_alone : PyData.canLay0 (.str "alone") = true := by decide +kernel
theorem bars_ok {n : Int} {ps : List (Int × Int)} (h : Lot n ps) : ∀ b ∈ barsL n ps, BarOk n b := by
  intro b hb
  unfold barsL at hb
  rcases List.mem_append.mp hb with hb | hb
  · rcases List.mem_append.mp hb with hb | hb
    · obtain ⟨i, hi, rfl⟩ := List.mem_map.mp hb
      have := mem_ran.mp (List.mem_filter.mp hi).1
      refine ⟨nm_apart, .inl rfl, fun j hj => ?_⟩
      simp at hj
      omega
    · obtain ⟨p, hp, hb⟩ := List.mem_flatMap.mp hb
      obtain ⟨q, hq, rfl⟩ := List.mem_map.mp hb
      have h1 := h.inr p hp
      have h2 := h.inr q (List.mem_filter.mp hq).1
      refine ⟨nm_cross, .inr rfl, fun j hj => ?_⟩
      simp at hj
      omega
  · obtain ⟨p, hp, rfl⟩ := List.mem_map.mp hb
    have h1 := h.inr p (List.mem_filter.mp hp).1
    refine ⟨nm_alone, .inl rfl, fun j hj => ?_⟩
    simp at hj
    omega
theorem bars_la {n : Int} {ps : List (Int × Int)} (h : Lot n ps) : ∀ x ∈ (barsL n ps).map bd, La 1 x := by
  intro x hx
  obtain ⟨b, hb, rfl⟩ := List.mem_map.mp hx
  have hok := bars_ok h b hb
  unfold bd
  refine La.tuple fun y hy => ?_
  rcases List.mem_cons.mp hy with rfl | hy
  · exact ⟨hok.nm, Nat.zero_le _⟩
  · obtain ⟨i, _, rfl⟩ := List.mem_map.mp hy
    exact La.int i
end LK


set_option maxHeartbeats 4000000
namespace LK
open PySem L2 G
/-! ### what is seen can be -/
def gH (hs : List Int) (k : Int) : Int := hs[k.toNat]?.getD 0
theorem mem_cut {hs : List Int} {i j x : Int} (hi : 0 ≤ i) (hij : i < j) (hj : j ≤ hs.length) : x ∈ cutI hs (some (i + 1)) (some j) ↔ ∃ k : Int, i < k ∧ k < j ∧ hs[k.toNat]? = some x := by
  have e1 : HT.sIx hs.length 0 (some (i + 1)) = (i + 1).toNat := by
    show (if i + 1 < 0 then _ else min (i + 1).toNat hs.length) = _
    rw [if_neg (by omega)]
    omega
  have e2 : HT.sIx hs.length hs.length (some j) = j.toNat := by
    show (if j < 0 then _ else min j.toNat hs.length) = _
    rw [if_neg (by omega)]
    omega
  unfold cutI
  rw [e1, e2, List.mem_iff_getElem?]
  constructor
  · rintro ⟨n, h⟩
    rw [List.getElem?_take] at h
    split at h
    · next hn =>
      rw [List.getElem?_drop] at h
      refine ⟨i + 1 + n, by omega, by omega, ?_⟩
      have : (i + 1 + (n : Int)).toNat = (i + 1).toNat + n := by omega
      rw [this]
      exact h
    · cases h
  · rintro ⟨k, h1, h2, h3⟩
    refine ⟨(k - (i + 1)).toNat, ?_⟩
    rw [List.getElem?_take, if_pos (by omega), List.getElem?_drop]
    have : (i + 1).toNat + (k - (i + 1)).toNat = k.toNat := by omega
    rw [this]
    exact h3
theorem gH_some {hs : List Int} {k : Int} (h0 : 0 ≤ k) (h1 : k < hs.length) : hs[k.toNat]? = some (gH hs k) := by
  have : k.toNat < hs.length := by omega
  unfold gH
  rw [List.getElem?_eq_getElem this]
  rfl
theorem sees_iff {hs : List Int} {p : Int × Int} (h0 : 0 ≤ p.1) (h1 : p.1 < p.2) (h2 : p.2 < hs.length) : seesB hs p = true ↔ ∀ k, p.1 < k → k < p.2 → gH hs k ≤ gH hs p.1 ∧ gH hs k ≤ gH hs p.2 := by
  unfold seesB
  rw [List.isEmpty_iff, List.filter_eq_nil_iff]
  have hm : ∀ x : Int, ¬ (decide (minI (hs[p.1.toNat]?.getD 0) (hs[p.2.toNat]?.getD 0) < x) = true) ↔ x ≤ gH hs p.1 ∧ x ≤ gH hs p.2 := by
    intro x
    rw [decide_eq_true_eq]
    unfold minI gH
    split <;> omega
  constructor
  · intro h k hk1 hk2
    exact (hm _).mp (h _ ((mem_cut h0 h1 (by omega)).mpr ⟨k, hk1, hk2, gH_some (by omega) (by omega)⟩))
  · intro h x hx
    obtain ⟨k, hk1, hk2, hk3⟩ := (mem_cut h0 h1 (by omega)).mp hx
    have := gH_some (hs := hs) (k := k) (by omega) (by omega)
    rw [hk3] at this
    cases this
    exact (hm _).mpr (h k hk1 hk2)
theorem mem_seen {hs : List Int} {p : Int × Int} : p ∈ seenP hs ↔ (0 ≤ p.1 ∧ p.1 < p.2 ∧ p.2 < hs.length) ∧ ∀ k, p.1 < k → k < p.2 → gH hs k ≤ gH hs p.1 ∧ gH hs k ≤ gH hs p.2 := by
  unfold seenP
  rw [List.mem_filter, mem_pairs]
  constructor
  · rintro ⟨h, h'⟩
    exact ⟨h, (sees_iff h.1 h.2.1 h.2.2).mp h'⟩
  · rintro ⟨h, h'⟩
    exact ⟨h, (sees_iff h.1 h.2.1 h.2.2).mpr h'⟩
theorem gH_inj {hs : List Int} (hn : hs.Nodup) {i j : Int} (hi : 0 ≤ i) (hi' : i < hs.length) (hj : 0 ≤ j) (hj' : j < hs.length) (e : gH hs i = gH hs j) : i = j := by
  have h1 := gH_some hi hi'
  have h2 := gH_some hj hj'
  rw [e, ← h2] at h1
  have h3 : i.toNat < hs.length := by omega
  have := (List.getElem?_inj h3 hn).mp h1
  omega
theorem max_at (f : Int → Int) (lo : Int) : ∀ n : Nat, ∃ m, lo ≤ m ∧ m ≤ lo + n ∧ ∀ k, lo ≤ k → k ≤ lo + n → f k ≤ f m
  | 0 => ⟨lo, by omega, by omega, fun k h1 h2 => by
      have : k = lo := by omega
      rw [this]; exact Int.le_refl _⟩
  | n + 1 => by
    obtain ⟨m, h1, h2, h3⟩ := max_at f lo n
    by_cases h : f (lo + (n + 1 : Nat)) ≤ f m
    · refine ⟨m, h1, by omega, fun k hk1 hk2 => ?_⟩
      by_cases e : k = lo + (n + 1 : Nat)
      · rw [e]; exact h
      · exact h3 k hk1 (by omega)
    · refine ⟨lo + (n + 1 : Nat), by omega, by omega, fun k hk1 hk2 => ?_⟩
      by_cases e : k = lo + (n + 1 : Nat)
      · rw [e]; exact Int.le_refl _
      · have := h3 k hk1 (by omega)
        omega
theorem seen_sound {hs : List Int} (hn : hs.Nodup) : barsL hs.length (seenP hs) = [] := by
  have ha : apartL hs.length (seenP hs) = [] := by
    unfold apartL
    rw [List.map_eq_nil_iff, List.filter_eq_nil_iff]
    intro i hi
    have := mem_ran.mp hi
    have hm : (i, i + 1) ∈ seenP hs := mem_seen.mpr ⟨⟨by omega, by show i < i + 1; omega, by show i + 1 < _; omega⟩, fun k h1 h2 => by
      exfalso
      have h1 : i < k := h1
      have h2 : k < i + 1 := h2
      omega⟩
    simp [hm]
  have hc : (seenP hs).flatMap (crossL (seenP hs)) = [] := by
    rw [List.flatMap_eq_nil_iff]
    intro p hp
    unfold crossL
    rw [List.map_eq_nil_iff, List.filter_eq_nil_iff]
    intro q hq hc
    unfold crossB at hc
    simp only [Bool.and_eq_true, decide_eq_true_eq] at hc
    obtain ⟨c1, c2, c3⟩ := hc
    obtain ⟨⟨p1, p2, p3⟩, hp⟩ := mem_seen.mp hp
    obtain ⟨⟨q1, q2, q3⟩, hq⟩ := mem_seen.mp hq
    have h1 := hp q.1 c1 c2
    have h2 := hq p.2 c2 c3
    have h3 := gH_inj hn q1 (by omega) (show 0 ≤ p.2 by omega) p3 (by omega)
    omega
  have hl : aloneL (seenP hs) (seenP hs) = [] := by
    unfold aloneL
    rw [List.map_eq_nil_iff, List.filter_eq_nil_iff]
    intro p hp hb
    unfold aloneB at hb
    rw [Bool.and_eq_true, decide_eq_true_eq, List.isEmpty_iff, List.filter_eq_nil_iff] at hb
    obtain ⟨b1, b2⟩ := hb
    obtain ⟨⟨p1, p2, p3⟩, hp⟩ := mem_seen.mp hp
    obtain ⟨m, m1, m2, m3⟩ := max_at (gH hs) (p.1 + 1) (p.2 - (p.1 + 2)).toNat
    refine b2 m (mem_ran.mpr (by omega)) ?_
    rw [Bool.and_eq_true, decide_eq_true_eq, decide_eq_true_eq]
    refine ⟨mem_seen.mpr ⟨⟨p1, by show p.1 < m; omega, by show m < _; omega⟩, fun k k1 k2 => ?_⟩, mem_seen.mpr ⟨⟨by show 0 ≤ m; omega, by show m < p.2; omega, p3⟩, fun k k1 k2 => ?_⟩⟩
    · have k1 : p.1 < k := k1
      have k2 : k < m := k2
      exact ⟨(hp k k1 (by omega)).1, m3 k (by omega) (by omega)⟩
    · have k1 : m < k := k1
      have k2 : k < p.2 := k2
      exact ⟨m3 k (by omega) (by omega), (hp k (by omega) k2).2⟩
  unfold barsL
  rw [ha, hc, hl]
  rfl
end LK


set_option maxHeartbeats 4000000
namespace LK
open PySem L2 G
/-! ### what is needed, and what is refused -/
theorem is_sound_eq {S : Sto} {n : Int} {ps : List (Int × Int)} (h : Lot n ps) (hl : ps.length ≤ 200) (h1 : 1 ≤ n) (h2 : n ≤ 12) : f_is_sound [.p (.int n), .p (.tuple (ps.map pr))] S = .ok (.p (.bool (barsL n ps).isEmpty)) S := by
  have e := fun S => gEq_nil (S := S) (bars_la h) (by omega)
  have e2 : ((barsL n ps).map bd).isEmpty = (barsL n ps).isEmpty := by cases barsL n ps <;> rfl
  simp only [e2] at e
  simp [f_is_sound, b_is_sound, fnOf, G.finish, mSeq, mIf, mTest, m2, m1, mVar, mC, mAsg, mRet, mNext, mDrop, mR, mP, mLst, mTup, mCons, mNil, pures, mCall, mCB, mCL, gN, gT, gsCons, gsNil, gSubT, gSet, gIx, gGt, gGe, gLt, gLe, gMod, gDiv, G.gSub, gAdd, gMul, gPow, gNeg, i2, okB, cPos, cDiv, cTrue, cMul, cPow, seqOf, datOf, toB, Res.bind, Res.nox, wp_ok, wp_bind, wp_nox, mNot, mAnd, mOr, mAndV, mNotV, mOrV, mIfE, mIsi, isTs, isT, gLen, gSeq, gSeqL, gList, gTuple, mMth, isLst, gApp, gPut, mFz, thaw, mSl, mPart, startL, all_bars_eq h hl h1 h2, e]
def nod (x : PyData) : Prop := ∀ kvs, x ≠ .dict kvs
theorem need_many_no {S : Sto} {x : PyData} (hx : nod x) (h : isFromB x 1 12 = false) : f_need_many [.p x] S = .exc 0 S := by
  simp [f_need_many, b_need_many, fnOf, G.finish, mSeq, mIf, mTest, m2, m1, mVar, mC, mAsg, mRet, mNext, mDrop, mR, mP, mLst, mTup, mCons, mNil, pures, mCall, mCB, mCL, gN, gT, gsCons, gsNil, gSubT, gSet, gIx, gGt, gGe, gLt, gLe, gMod, gDiv, G.gSub, gAdd, gMul, gPow, gNeg, i2, okB, cPos, cDiv, cTrue, cMul, cPow, seqOf, datOf, toB, Res.bind, Res.nox, wp_ok, wp_bind, wp_nox, mNot, mAnd, mOr, mAndV, mNotV, mOrV, mIfE, mIsi, isTs, isT, gLen, gSeq, gSeqL, gList, gTuple, mMth, isLst, gApp, gPut, mFz, thaw, mSl, mPart, startL, mRaise, is_from_eq hx, h]
theorem need_many_ok {S : Sto} {n : Int} (h1 : 1 ≤ n) (h2 : n ≤ 12) : f_need_many [.p (.int n)] S = .ok (.p .none) S := by
  have f0 : isFromB (.int n) 1 12 = true := by simp only [isFromB]; simp; omega
  simp [f_need_many, b_need_many, fnOf, G.finish, mSeq, mIf, mTest, m2, m1, mVar, mC, mAsg, mRet, mNext, mDrop, mR, mP, mLst, mTup, mCons, mNil, pures, mCall, mCB, mCL, gN, gT, gsCons, gsNil, gSubT, gSet, gIx, gGt, gGe, gLt, gLe, gMod, gDiv, G.gSub, gAdd, gMul, gPow, gNeg, i2, okB, cPos, cDiv, cTrue, cMul, cPow, seqOf, datOf, toB, Res.bind, Res.nox, wp_ok, wp_bind, wp_nox, mNot, mAnd, mOr, mAndV, mNotV, mOrV, mIfE, mIsi, isTs, isT, gLen, gSeq, gSeqL, gList, gTuple, mMth, isLst, gApp, gPut, mFz, thaw, mSl, mPart, startL, mRaise, is_from_eq, f0]
theorem need_lot_num {S : Sto} {x y : PyData} (hx : nod x) (h : isFromB x 1 12 = false) : f_need_lot [.p x, .p y] S = .exc 0 S := by
  simp [f_need_lot, b_need_lot, fnOf, G.finish, mSeq, mIf, mTest, m2, m1, mVar, mC, mAsg, mRet, mNext, mDrop, mR, mP, mLst, mTup, mCons, mNil, pures, mCall, mCB, mCL, gN, gT, gsCons, gsNil, gSubT, gSet, gIx, gGt, gGe, gLt, gLe, gMod, gDiv, G.gSub, gAdd, gMul, gPow, gNeg, i2, okB, cPos, cDiv, cTrue, cMul, cPow, seqOf, datOf, toB, Res.bind, Res.nox, wp_ok, wp_bind, wp_nox, mNot, mAnd, mOr, mAndV, mNotV, mOrV, mIfE, mIsi, isTs, isT, gLen, gSeq, gSeqL, gList, gTuple, mMth, isLst, gApp, gPut, mFz, thaw, mSl, mPart, startL, mCallX, need_many_no hx h]
theorem need_lot_no {S : Sto} {n : Int} {y : PyData} (h1 : 1 ≤ n) (h2 : n ≤ 12) (h : f_is_lot [.p (.int n), .p y] S = .ok (.p (.bool false)) S) : f_need_lot [.p (.int n), .p y] S = .exc 1 S := by
  simp [f_need_lot, b_need_lot, fnOf, G.finish, mSeq, mIf, mTest, m2, m1, mVar, mC, mAsg, mRet, mNext, mDrop, mR, mP, mLst, mTup, mCons, mNil, pures, mCall, mCB, mCL, gN, gT, gsCons, gsNil, gSubT, gSet, gIx, gGt, gGe, gLt, gLe, gMod, gDiv, G.gSub, gAdd, gMul, gPow, gNeg, i2, okB, cPos, cDiv, cTrue, cMul, cPow, seqOf, datOf, toB, Res.bind, Res.nox, wp_ok, wp_bind, wp_nox, mNot, mAnd, mOr, mAndV, mNotV, mOrV, mIfE, mIsi, isTs, isT, gLen, gSeq, gSeqL, gList, gTuple, mMth, isLst, gApp, gPut, mFz, thaw, mSl, mPart, startL, mCallX, mRaise, need_many_ok h1 h2, h]
theorem need_lot_eq {S : Sto} {n : Int} {ps : List (Int × Int)} (h : Lot n ps) (hl : ps.length ≤ 1000000) (h1 : 1 ≤ n) (h2 : n ≤ 12) : f_need_lot [.p (.int n), .p (.tuple (ps.map pr))] S = .ok (.p .none) S := by
  simp [f_need_lot, b_need_lot, fnOf, G.finish, mSeq, mIf, mTest, m2, m1, mVar, mC, mAsg, mRet, mNext, mDrop, mR, mP, mLst, mTup, mCons, mNil, pures, mCall, mCB, mCL, gN, gT, gsCons, gsNil, gSubT, gSet, gIx, gGt, gGe, gLt, gLe, gMod, gDiv, G.gSub, gAdd, gMul, gPow, gNeg, i2, okB, cPos, cDiv, cTrue, cMul, cPow, seqOf, datOf, toB, Res.bind, Res.nox, wp_ok, wp_bind, wp_nox, mNot, mAnd, mOr, mAndV, mNotV, mOrV, mIfE, mIsi, isTs, isT, gLen, gSeq, gSeqL, gList, gTuple, mMth, isLst, gApp, gPut, mFz, thaw, mSl, mPart, startL, mCallX, mRaise, need_many_ok h1 h2, is_lot_eq h hl]
/-- of what is refused by need_lot the other needers refuse too -/
theorem need_sound_no {S : Sto} {x y : PyData} {c : Nat} (h : f_need_lot [.p x, .p y] S = .exc c S) : f_need_sound [.p x, .p y] S = .exc c S := by
  simp [f_need_sound, b_need_sound, fnOf, G.finish, mSeq, mIf, mTest, m2, m1, mVar, mC, mAsg, mRet, mNext, mDrop, mR, mP, mLst, mTup, mCons, mNil, pures, mCall, mCB, mCL, gN, gT, gsCons, gsNil, gSubT, gSet, gIx, gGt, gGe, gLt, gLe, gMod, gDiv, G.gSub, gAdd, gMul, gPow, gNeg, i2, okB, cPos, cDiv, cTrue, cMul, cPow, seqOf, datOf, toB, Res.bind, Res.nox, wp_ok, wp_bind, wp_nox, mNot, mAnd, mOr, mAndV, mNotV, mOrV, mIfE, mIsi, isTs, isT, gLen, gSeq, gSeqL, gList, gTuple, mMth, isLst, gApp, gPut, mFz, thaw, mSl, mPart, startL, mCallX, mRaise, h]
theorem need_sound_bars {S : Sto} {n : Int} {ps : List (Int × Int)} (h : Lot n ps) (hl : ps.length ≤ 200) (h1 : 1 ≤ n) (h2 : n ≤ 12) (hb : (barsL n ps).isEmpty = false) : f_need_sound [.p (.int n), .p (.tuple (ps.map pr))] S = .exc 1 S := by
  simp [f_need_sound, b_need_sound, fnOf, G.finish, mSeq, mIf, mTest, m2, m1, mVar, mC, mAsg, mRet, mNext, mDrop, mR, mP, mLst, mTup, mCons, mNil, pures, mCall, mCB, mCL, gN, gT, gsCons, gsNil, gSubT, gSet, gIx, gGt, gGe, gLt, gLe, gMod, gDiv, G.gSub, gAdd, gMul, gPow, gNeg, i2, okB, cPos, cDiv, cTrue, cMul, cPow, seqOf, datOf, toB, Res.bind, Res.nox, wp_ok, wp_bind, wp_nox, mNot, mAnd, mOr, mAndV, mNotV, mOrV, mIfE, mIsi, isTs, isT, gLen, gSeq, gSeqL, gList, gTuple, mMth, isLst, gApp, gPut, mFz, thaw, mSl, mPart, startL, mCallX, mRaise, need_lot_eq h (by omega) h1 h2, is_sound_eq h hl h1 h2, hb]
theorem need_sound_ok {S : Sto} {n : Int} {ps : List (Int × Int)} (h : Lot n ps) (hl : ps.length ≤ 200) (h1 : 1 ≤ n) (h2 : n ≤ 12) (hb : barsL n ps = []) : f_need_sound [.p (.int n), .p (.tuple (ps.map pr))] S = .ok (.p .none) S := by
  simp [f_need_sound, b_need_sound, fnOf, G.finish, mSeq, mIf, mTest, m2, m1, mVar, mC, mAsg, mRet, mNext, mDrop, mR, mP, mLst, mTup, mCons, mNil, pures, mCall, mCB, mCL, gN, gT, gsCons, gsNil, gSubT, gSet, gIx, gGt, gGe, gLt, gLe, gMod, gDiv, G.gSub, gAdd, gMul, gPow, gNeg, i2, okB, cPos, cDiv, cTrue, cMul, cPow, seqOf, datOf, toB, Res.bind, Res.nox, wp_ok, wp_bind, wp_nox, mNot, mAnd, mOr, mAndV, mNotV, mOrV, mIfE, mIsi, isTs, isT, gLen, gSeq, gSeqL, gList, gTuple, mMth, isLst, gApp, gPut, mFz, thaw, mSl, mPart, startL, mCallX, mRaise, need_lot_eq h (by omega) h1 h2, is_sound_eq h hl h1 h2, hb]
theorem need_known_no {S : Sto} {x y z : PyData} {c : Nat} (h : f_need_lot [.p x, .p y] S = .exc c S) : f_need_known [.p x, .p y, .p z] S = .exc c S := by
  simp [f_need_known, b_need_known, fnOf, G.finish, mSeq, mIf, mTest, m2, m1, mVar, mC, mAsg, mRet, mNext, mDrop, mR, mP, mLst, mTup, mCons, mNil, pures, mCall, mCB, mCL, gN, gT, gsCons, gsNil, gSubT, gSet, gIx, gGt, gGe, gLt, gLe, gMod, gDiv, G.gSub, gAdd, gMul, gPow, gNeg, i2, okB, cPos, cDiv, cTrue, cMul, cPow, seqOf, datOf, toB, Res.bind, Res.nox, wp_ok, wp_bind, wp_nox, mNot, mAnd, mOr, mAndV, mNotV, mOrV, mIfE, mIsi, isTs, isT, gLen, gSeq, gSeqL, gList, gTuple, mMth, isLst, gApp, gPut, mFz, thaw, mSl, mPart, startL, mCallX, mRaise, h]
theorem need_known_bad {S : Sto} {n : Int} {ps : List (Int × Int)} {z : PyData} (h : Lot n ps) (hl : ps.length ≤ 200) (h1 : 1 ≤ n) (h2 : n ≤ 12) (hz : f_is_lot [.p (.int n), .p z] S = .ok (.p (.bool false)) S) : f_need_known [.p (.int n), .p (.tuple (ps.map pr)), .p z] S = .exc 1 S := by
  simp [f_need_known, b_need_known, fnOf, G.finish, mSeq, mIf, mTest, m2, m1, mVar, mC, mAsg, mRet, mNext, mDrop, mR, mP, mLst, mTup, mCons, mNil, pures, mCall, mCB, mCL, gN, gT, gsCons, gsNil, gSubT, gSet, gIx, gGt, gGe, gLt, gLe, gMod, gDiv, G.gSub, gAdd, gMul, gPow, gNeg, i2, okB, cPos, cDiv, cTrue, cMul, cPow, seqOf, datOf, toB, Res.bind, Res.nox, wp_ok, wp_bind, wp_nox, mNot, mAnd, mOr, mAndV, mNotV, mOrV, mIfE, mIsi, isTs, isT, gLen, gSeq, gSeqL, gList, gTuple, mMth, isLst, gApp, gPut, mFz, thaw, mSl, mPart, startL, mCallX, mRaise, need_lot_eq h (by omega) h1 h2, hz]
/-! ### the doors -/
theorem outs_lot {x y : PyData} {c : Nat} (h : f_need_lot [.p x, .p y] [] = .exc c []) : outs (startL 3 [.p x, .p y]) [lam_law_by_lot_0, lam_law_by_lot_1, lam_law_by_lot_2, lam_law_by_lot_3, lam_law_by_lot_4, lam_law_by_lot_5] = some [c, c, c, c, c, c] := by
  simp [outs, lam_law_by_lot_0, lam_law_by_lot_1, lam_law_by_lot_2, lam_law_by_lot_3, lam_law_by_lot_4, lam_law_by_lot_5, f_can_be, b_can_be, f_what_bars, b_what_bars, f_bars, b_bars, f_how_many, b_how_many, f_first_order, b_first_order, f_highest, b_highest, fnOf, G.finish, mSeq, mIf, mTest, m2, m1, mVar, mC, mAsg, mRet, mNext, mDrop, mR, mP, mLst, mTup, mCons, mNil, pures, mCall, mCB, mCL, gN, gT, gsCons, gsNil, gSubT, gSet, gIx, gGt, gGe, gLt, gLe, gMod, gDiv, G.gSub, gAdd, gMul, gPow, gNeg, i2, okB, cPos, cDiv, cTrue, cMul, cPow, seqOf, datOf, toB, Res.bind, Res.nox, wp_ok, wp_bind, wp_nox, mNot, mAnd, mOr, mAndV, mNotV, mOrV, mIfE, mIsi, isTs, isT, gLen, gSeq, gSeqL, gList, gTuple, mMth, isLst, gApp, gPut, mFz, thaw, mSl, mPart, startL, mCallX, mRaise, h]
theorem outs_sound {x y : PyData} {c : Nat} (h : f_need_sound [.p x, .p y] [] = .exc c []) : outs (startL 3 [.p x, .p y]) [lam_law_by_sound_0, lam_law_by_sound_1] = some [c, c] := by
  simp [outs, lam_law_by_sound_0, lam_law_by_sound_1, f_higher, b_higher, f_from_ends, b_from_ends, fnOf, G.finish, mSeq, mIf, mTest, m2, m1, mVar, mC, mAsg, mRet, mNext, mDrop, mR, mP, mLst, mTup, mCons, mNil, pures, mCall, mCB, mCL, gN, gT, gsCons, gsNil, gSubT, gSet, gIx, gGt, gGe, gLt, gLe, gMod, gDiv, G.gSub, gAdd, gMul, gPow, gNeg, i2, okB, cPos, cDiv, cTrue, cMul, cPow, seqOf, datOf, toB, Res.bind, Res.nox, wp_ok, wp_bind, wp_nox, mNot, mAnd, mOr, mAndV, mNotV, mOrV, mIfE, mIsi, isTs, isT, gLen, gSeq, gSeqL, gList, gTuple, mMth, isLst, gApp, gPut, mFz, thaw, mSl, mPart, startL, mCallX, mRaise, h]
theorem outs_known {x y z : PyData} {c : Nat} (h : f_need_known [.p x, .p y, .p z] [] = .exc c []) : outs (startL 4 [.p x, .p y, .p z]) [lam_law_by_known_0, lam_law_by_known_1, lam_law_by_known_2, lam_law_by_known_3] = some [c, c, c, c] := by
  simp [outs, lam_law_by_known_0, lam_law_by_known_1, lam_law_by_known_2, lam_law_by_known_3, f_lots_with, b_lots_with, f_orders_with, b_orders_with, f_first_with, b_first_with, f_sure, b_sure, fnOf, G.finish, mSeq, mIf, mTest, m2, m1, mVar, mC, mAsg, mRet, mNext, mDrop, mR, mP, mLst, mTup, mCons, mNil, pures, mCall, mCB, mCL, gN, gT, gsCons, gsNil, gSubT, gSet, gIx, gGt, gGe, gLt, gLe, gMod, gDiv, G.gSub, gAdd, gMul, gPow, gNeg, i2, okB, cPos, cDiv, cTrue, cMul, cPow, seqOf, datOf, toB, Res.bind, Res.nox, wp_ok, wp_bind, wp_nox, mNot, mAnd, mOr, mAndV, mNotV, mOrV, mIfE, mIsi, isTs, isT, gLen, gSeq, gSeqL, gList, gTuple, mMth, isLst, gApp, gPut, mFz, thaw, mSl, mPart, startL, mCallX, mRaise, h]
section
variable {DP : Nat → Hp → V → Prop} {Tl T1 T2 T3 : Addr}
/-- where the tables stand -/
structure Tabs (S : Sto) (Tl T1 T2 T3 : Addr) : Prop where
  t0 : S[0]? = some (some (.tab Tl lamQ))
  t1 : S[1]? = some (some (.tab T1 lamQ_law_by_lot))
  t2 : S[2]? = some (some (.tab T2 lamQ_law_by_sound))
  t3 : S[3]? = some (some (.tab T3 lamQ_law_by_known))
theorem app_get {α : Type} {S t : List α} {i : Nat} {o : α} (h : S[i]? = some o) : (S ++ t)[i]? = some o := by
  rw [List.getElem?_append_left (List.getElem?_eq_some_iff.mp h).1]; exact h
theorem Tabs.app {S : Sto} (h : Tabs S Tl T1 T2 T3) (t : Sto) : Tabs (S ++ t) Tl T1 T2 T3 := ⟨app_get h.t0, app_get h.t1, app_get h.t2, app_get h.t3⟩
def dr (DP : Nat → Hp → V → Prop) (cs : List Nat) : Option Ob := some (.drs (cs.map DP))
theorem by_lot_eq {S : Sto} {x y : PyData} {c : Nat} (T : Tabs S Tl T1 T2 T3) (h : f_need_lot [.p x, .p y] [] = .exc c []) : f_law_by_lot DP Tl T1 T2 T3 [.p x, .p y] S = .ok (.r S.length) (S ++ [dr DP [c, c, c, c, c, c]]) := by
  unfold f_law_by_lot mkFn
  rw [if_pos ⟨T.t1, rfl⟩, outs_lot h]
  rfl
theorem by_sound_eq {S : Sto} {x y : PyData} {c : Nat} (T : Tabs S Tl T1 T2 T3) (h : f_need_sound [.p x, .p y] [] = .exc c []) : f_law_by_sound DP Tl T1 T2 T3 [.p x, .p y] S = .ok (.r S.length) (S ++ [dr DP [c, c]]) := by
  unfold f_law_by_sound mkFn
  rw [if_pos ⟨T.t2, rfl⟩, outs_sound h]
  rfl
theorem by_known_eq {S : Sto} {x y z : PyData} {c : Nat} (T : Tabs S Tl T1 T2 T3) (h : f_need_known [.p x, .p y, .p z] [] = .exc c []) : f_law_by_known DP Tl T1 T2 T3 [.p x, .p y, .p z] S = .ok (.r S.length) (S ++ [dr DP [c, c, c, c]]) := by
  unfold f_law_by_known mkFn
  rw [if_pos ⟨T.t3, rfl⟩, outs_known h]
  rfl
theorem cat_eq {S : Sto} {a b : Nat} {cs ds : List Nat} (ha : S[a]? = some (dr DP cs)) (hb : S[b]? = some (dr DP ds)) (hl : cs.length + ds.length ≤ 1000) : gCatD (.r a) (.r b) S = .ok (.r S.length) (S ++ [dr DP (cs ++ ds)]) := by
  unfold dr at ha hb ⊢
  simp only [gCatD, ha, hb, List.length_map]
  rw [if_pos hl, List.map_append]
theorem told_eq {S : Sto} {l : Nat} {cs : List Nat} {w : Str} (h : S[l]? = some (dr DP cs)) (hw : ∀ c ∈ cs, kinN c = some w) (hl : lay2 (.str w) (.str w) = true) : f_law_all_told DP Tl T1 T2 T3 [.r l, .p (.str w)] S = .ok (.p (.bool true)) S := by
  have e : mTold DP kinN 0 1 2 [some (.r l), some (.p (.str w)), none] S = .ok [] S := by
    unfold mTold
    unfold dr at h
    simp only [List.getElem?_cons_zero, List.getElem?_cons_succ, h]
    rw [if_pos ⟨⟨Nat.lt_succ_self 2, hl⟩, cs, rfl, hw⟩]
  have e2 : gEq (.p (.list [])) (.p (.list [])) S = .ok (.p (.bool true)) S := gEq_nil (n := 0) (xs := []) (fun x h => by cases h) (by omega)
  simp [f_law_all_told, b_law_all_told, fnOf, startL, mRet, m2, mP, mLst, mNil, pures, e, e2, Res.bind, Res.nox, G.finish]
end
end LK


set_option maxHeartbeats 4000000
namespace LK
open PySem L2 G
/-! ### things that are no lots -/
theorem ltP_irr {p : Int × Int} : ¬ ltP p p := fun h => by unfold ltP at h; omega
theorem ltP_asym {p q : Int × Int} (h : ltP p q) : ¬ ltP q p := fun k => by unfold ltP at h k; omega
theorem ris_last {p : Int × Int} : ∀ (r : List (Int × Int)) (a : Int × Int), risB (a :: r ++ [p]) = true → ∃ q ∈ a :: r, ltP q p
  | [], a, h => by
    refine ⟨a, List.mem_cons_self .., ?_⟩
    simpa [risB] using h
  | b :: r, a, h => by
    have h2 : risB (b :: r ++ [p]) = true := by
      unfold risB at h ⊢
      simp only [List.cons_append, List.drop_succ_cons, List.drop_zero, List.zip_cons_cons, List.all_cons, Bool.and_eq_true] at h
      exact h.2
    obtain ⟨q, hq, hl⟩ := ris_last r b h2
    exact ⟨q, List.mem_cons_of_mem _ hq, hl⟩
theorem twice_no {ps : List (Int × Int)} (h : ps.Pairwise ltP) (hne : ps ≠ []) : risB (ps ++ ps.take 1) = false := by
  cases ps with
  | nil => exact absurd rfl hne
  | cons p r =>
    cases e : risB (p :: r ++ List.take 1 (p :: r)) with
    | false => rfl
    | true =>
      have e : risB (p :: r ++ [p]) = true := e
      obtain ⟨q, hq, hl⟩ := ris_last r p e
      rcases List.mem_cons.mp hq with rfl | hq
      · exact absurd hl ltP_irr
      · exact absurd hl (ltP_asym ((List.pairwise_cons.mp h).1 q hq))
def NoL (n : Int) (b : PyData) : Prop := f_is_lot [.p (.int n), .p b] [] = .ok (.p (.bool false)) []
theorem nol_none {n : Int} : NoL n .none := by
  unfold NoL
  simp [f_is_lot, b_is_lot, fnOf, G.finish, mSeq, mIf, mTest, m2, m1, mVar, mC, mAsg, mRet, mNext, mDrop, mR, mP, mLst, mTup, mCons, mNil, pures, mCall, mCB, mCL, gN, gT, gsCons, gsNil, gSubT, gSet, gIx, gGt, gGe, gLt, gLe, gMod, gDiv, G.gSub, gAdd, gMul, gPow, gNeg, i2, okB, cPos, cDiv, cTrue, cMul, cPow, seqOf, datOf, toB, Res.bind, Res.nox, wp_ok, wp_bind, wp_nox, mNot, mAnd, mOr, mAndV, mNotV, mOrV, mIfE, mIsi, isTs, isT, gLen, gSeq, gSeqL, gList, gTuple, mMth, isLst, gApp, gPut, mFz, thaw, mSl, mPart, startL]
theorem nol_list {n : Int} {xs : List PyData} : NoL n (.list xs) := by
  unfold NoL
  simp [f_is_lot, b_is_lot, fnOf, G.finish, mSeq, mIf, mTest, m2, m1, mVar, mC, mAsg, mRet, mNext, mDrop, mR, mP, mLst, mTup, mCons, mNil, pures, mCall, mCB, mCL, gN, gT, gsCons, gsNil, gSubT, gSet, gIx, gGt, gGe, gLt, gLe, gMod, gDiv, G.gSub, gAdd, gMul, gPow, gNeg, i2, okB, cPos, cDiv, cTrue, cMul, cPow, seqOf, datOf, toB, Res.bind, Res.nox, wp_ok, wp_bind, wp_nox, mNot, mAnd, mOr, mAndV, mNotV, mOrV, mIfE, mIsi, isTs, isT, gLen, gSeq, gSeqL, gList, gTuple, mMth, isLst, gApp, gPut, mFz, thaw, mSl, mPart, startL]
theorem nol_twice {n : Int} {ps : List (Int × Int)} (h : Lot n ps) (hl : ps.length ≤ 200) (hne : ps ≠ []) : NoL n (.tuple ((ps ++ ps.take 1).map pr)) := by
  unfold NoL
  rw [is_lot_gen (fun p hp => ?_) (by rw [List.length_append, List.length_take]; omega), twice_no h.srt hne]
  rcases List.mem_append.mp hp with hp | hp
  · exact h.inr p hp
  · exact h.inr p (List.mem_of_mem_take hp)
theorem n_cases {n : Int} (h1 : 2 ≤ n) (h2 : n ≤ 12) : n = 2 ∨ n = 3 ∨ n = 4 ∨ n = 5 ∨ n = 6 ∨ n = 7 ∨ n = 8 ∨ n = 9 ∨ n = 10 ∨ n = 11 ∨ n = 12 := by omega
theorem nol3 {n : Int} (h1 : 2 ≤ n) (h2 : n ≤ 12) : NoL n (.tuple [.tuple [.int 0, .int n]]) := by
  unfold NoL
  rcases n_cases h1 h2 with rfl | rfl | rfl | rfl | rfl | rfl | rfl | rfl | rfl | rfl | rfl <;> kernel_rfl
theorem nol4 {n : Int} (h1 : 2 ≤ n) (h2 : n ≤ 12) : NoL n (.tuple [.tuple [.int 1, .int 0]]) := by
  unfold NoL
  rcases n_cases h1 h2 with rfl | rfl | rfl | rfl | rfl | rfl | rfl | rfl | rfl | rfl | rfl <;> kernel_rfl
theorem nol5 {n : Int} (h1 : 2 ≤ n) (h2 : n ≤ 12) : NoL n (.tuple [.tuple [.int 0, .int 0]]) := by
  unfold NoL
  rcases n_cases h1 h2 with rfl | rfl | rfl | rfl | rfl | rfl | rfl | rfl | rfl | rfl | rfl <;> kernel_rfl
theorem nol6 {n : Int} (h1 : 2 ≤ n) (h2 : n ≤ 12) : NoL n (.tuple [.tuple [.bool true, .int 1]]) := by
  unfold NoL
  rcases n_cases h1 h2 with rfl | rfl | rfl | rfl | rfl | rfl | rfl | rfl | rfl | rfl | rfl <;> kernel_rfl
theorem nol7 {n : Int} (h1 : 2 ≤ n) (h2 : n ≤ 12) : NoL n (.tuple [.tuple [.int 0, .int 1, .int 2]]) := by
  unfold NoL
  rcases n_cases h1 h2 with rfl | rfl | rfl | rfl | rfl | rfl | rfl | rfl | rfl | rfl | rfl <;> kernel_rfl
theorem nol8 {n : Int} (h1 : 2 ≤ n) (h2 : n ≤ 12) : NoL n (.tuple [.int 0, .int 1]) := by
  unfold NoL
  rcases n_cases h1 h2 with rfl | rfl | rfl | rfl | rfl | rfl | rfl | rfl | rfl | rfl | rfl <;> kernel_rfl
theorem nol9 {n : Int} (h1 : 2 ≤ n) (h2 : n ≤ 12) : NoL n (.tuple [.tuple [.int (-1), .int 1]]) := by
  unfold NoL
  rcases n_cases h1 h2 with rfl | rfl | rfl | rfl | rfl | rfl | rfl | rfl | rfl | rfl | rfl <;> kernel_rfl
/-- lots without the first pair -/
theorem apart_no {n : Int} {ps : List (Int × Int)} (h1 : 2 ≤ n) (h : (0, 1) ∉ ps) : (barsL n ps).isEmpty = false := by
  have hm : (("apart", [0, 0 + 1]) : Bar) ∈ barsL n ps := by
    unfold barsL apartL
    refine List.mem_append_left _ (List.mem_append_left _ (List.mem_map.mpr ⟨0, List.mem_filter.mpr ⟨mem_ran.mpr ⟨by omega, by omega⟩, ?_⟩, rfl⟩))
    simpa using h
  cases e : barsL n ps with
  | nil => rw [e] at hm; cases hm
  | cons b r => rfl
theorem first_no {n : Int} {ps : List (Int × Int)} (h : Lot n ps) : (0, 1) ∉ ps.drop 1 := fun hm => by
  cases ps with
  | nil => cases hm
  | cons p r =>
    have hl := (List.pairwise_cons.mp h.srt).1 _ hm
    have := h.inr p (List.mem_cons_self ..)
    unfold ltP at hl
    simp only at hl
    omega
theorem seen_ne {hs : List Int} (hn : hs.Nodup) (h2 : 2 ≤ hs.length) : seenP hs ≠ [] := fun e => by
  have hb := seen_sound hn
  have := apart_no (n := hs.length) (ps := seenP hs) (by omega) (by rw [e]; exact fun h => by cases h)
  rw [hb] at this
  cases this
/-! ### doors together -/
section
variable {DP : Nat → Hp → V → Prop} {Tl T1 T2 T3 : Addr}
/-- at n stand doors, each of them of the kind c -/
def Drs (DP : Nat → Hp → V → Prop) (S : Sto) (n c : Nat) (k : Nat) : Prop := ∃ cs : List Nat, S[n]? = some (dr DP cs) ∧ (∀ d ∈ cs, d = c) ∧ cs.length ≤ k
theorem doors3 {ρ : G.Loc} {S : Sto} {x y z : PyData} {c : Nat} {nl ns nk : MA} (T : Tabs S Tl T1 T2 T3) (h : f_need_lot [.p x, .p y] [] = .exc c []) (hl : ∀ S, nl ρ S = .ok [.p x, .p y] S) (hs : ∀ S, ns ρ S = .ok [.p x, .p y] S) (hk : ∀ S, nk ρ S = .ok [.p x, .p y, .p z] S) :
    ∃ (n : Nat) (t : Sto), m2 gCatD (m2 gCatD (mCall (f_law_by_lot DP Tl T1 T2 T3) nl) (mCall (f_law_by_sound DP Tl T1 T2 T3) ns)) (mCall (f_law_by_known DP Tl T1 T2 T3) nk) ρ S = .ok (.r n) (S ++ t) ∧ Drs DP (S ++ t) n c 12 := by
  have e1 := by_lot_eq (DP := DP) T h
  have e2 := by_sound_eq (DP := DP) (T.app [dr DP [c, c, c, c, c, c]]) (need_sound_no h)
  generalize hS1 : S ++ [dr DP [c, c, c, c, c, c]] = S1 at e1 e2
  have g1 : S1[S.length]? = some (dr DP [c, c, c, c, c, c]) := by rw [← hS1]; exact last_get
  have T1' : Tabs S1 Tl T1 T2 T3 := by rw [← hS1]; exact T.app _
  have e3 := cat_eq (DP := DP) (S := S1 ++ [dr DP [c, c]]) (a := S.length) (b := S1.length) (app_get g1) last_get (by simp)
  have T2' := T1'.app [dr DP [c, c]]
  generalize hS2 : S1 ++ [dr DP [c, c]] = S2 at e2 e3 T2'
  have e4 := by_known_eq (DP := DP) (z := z) (T2'.app [dr DP ([c, c, c, c, c, c] ++ [c, c])]) (need_known_no h)
  have g2 : (S2 ++ [dr DP ([c, c, c, c, c, c] ++ [c, c])])[S2.length]? = some (dr DP ([c, c, c, c, c, c] ++ [c, c])) := last_get
  generalize hS3 : S2 ++ [dr DP ([c, c, c, c, c, c] ++ [c, c])] = S3 at e3 e4 g2
  have e5 := cat_eq (DP := DP) (S := S3 ++ [dr DP [c, c, c, c]]) (a := S2.length) (b := S3.length) (app_get g2) last_get (by simp)
  have g3 : (S3 ++ [dr DP [c, c, c, c]] ++ [dr DP (([c, c, c, c, c, c] ++ [c, c]) ++ [c, c, c, c])])[(S3 ++ [dr DP [c, c, c, c]]).length]? = some (dr DP (([c, c, c, c, c, c] ++ [c, c]) ++ [c, c, c, c])) := last_get
  refine ⟨(S3 ++ [dr DP [c, c, c, c]]).length, [dr DP [c, c, c, c, c, c], dr DP [c, c], dr DP ([c, c, c, c, c, c] ++ [c, c]), dr DP [c, c, c, c], dr DP (([c, c, c, c, c, c] ++ [c, c]) ++ [c, c, c, c])], ?_, ?_⟩
  · have eS : S ++ [dr DP [c, c, c, c, c, c], dr DP [c, c], dr DP ([c, c, c, c, c, c] ++ [c, c]), dr DP [c, c, c, c], dr DP (([c, c, c, c, c, c] ++ [c, c]) ++ [c, c, c, c])] = S3 ++ [dr DP [c, c, c, c]] ++ [dr DP (([c, c, c, c, c, c] ++ [c, c]) ++ [c, c, c, c])] := by
      rw [← hS3, ← hS2, ← hS1]; simp
    rw [eS]
    simp only [m2, mCall, hl, hs, hk, Res.bind, Res.nox, e1, e2, e3, e4, e5]
  · have eS : S ++ [dr DP [c, c, c, c, c, c], dr DP [c, c], dr DP ([c, c, c, c, c, c] ++ [c, c]), dr DP [c, c, c, c], dr DP (([c, c, c, c, c, c] ++ [c, c]) ++ [c, c, c, c])] = S3 ++ [dr DP [c, c, c, c]] ++ [dr DP (([c, c, c, c, c, c] ++ [c, c]) ++ [c, c, c, c])] := by
      rw [← hS3, ← hS2, ← hS1]; simp
    rw [eS]
    refine ⟨_, g3, fun d hd => ?_, by simp⟩
    simp at hd; exact hd
theorem told_drs {S : Sto} {n c k : Nat} {w : Str} (h : Drs DP S n c k) (hw : kinN c = some w) (hl : lay2 (.str w) (.str w) = true) : f_law_all_told DP Tl T1 T2 T3 [.r n, .p (.str w)] S = .ok (.p (.bool true)) S := by
  obtain ⟨cs, h1, h2, _⟩ := h
  exact told_eq h1 (fun d hd => by rw [h2 d hd]; exact hw) hl
theorem lay_num : lay2 (.str "NoNumber+") (.str "NoNumber+") = true := by decide +kernel
theorem lay_lot : lay2 (.str "NoLot+") (.str "NoLot+") = true := by decide +kernel
/-- one that is no number -/
theorem odd_eq {d0 d1 d2 d3 d4 d6 d7 d8 d9 d10 : Option D} {S : Sto} {x : PyData} (T : Tabs S Tl T1 T2 T3) (hx : nod x) (h : isFromB x 1 12 = false) :
    ∃ (d8' : Option D) (t : Sto), b_law_4 DP Tl T1 T2 T3 [d0, d1, d2, d3, d4, some (.p x), d6, d7, d8, d9, d10] S = .ok (.nx, [d0, d1, d2, d3, d4, some (.p x), d6, d7, d8', d9, d10]) (S ++ t) := by
  obtain ⟨n, t, e, hd⟩ := doors3 (DP := DP) (ρ := [d0, d1, d2, d3, d4, some (.p x), d6, d7, d8, d9, d10]) (x := x) (y := .none) (z := .none) (nl := mCons (mVar 5) (mCons (mC .none) mNil)) (ns := mCons (mVar 5) (mCons (mC .none) mNil)) (nk := mCons (mVar 5) (mCons (mC .none) (mCons (mC .none) mNil))) T (need_lot_num hx h) (fun S => rfl) (fun S => rfl) (fun S => rfl)
  refine ⟨some (.r n), t, ?_⟩
  have et := told_drs (Tl := Tl) (T1 := T1) (T2 := T2) (T3 := T3) (w := "NoNumber+") hd rfl lay_num
  simp only [b_law_4, mSeq, mAsg, e, Res.bind, gN, List.set, mIf, mNot, mTest, mCall, mCons, mVar, mC, mNil, List.getElem?_cons_succ, List.getElem?_cons_zero, et, Res.nox, toB, Bool.not_true, Bool.false_eq_true, if_false, mNext]
/-- one that is no lot -/
theorem bad_eq {d0 d1 d2 d5 d6 d8 d9 d10 : Option D} {S : Sto} {n : Int} {ps : List (Int × Int)} {b : PyData} (T : Tabs S Tl T1 T2 T3) (hp : Lot n ps) (hl : ps.length ≤ 200) (h1 : 1 ≤ n) (h2 : n ≤ 12) (hb : NoL n b) :
    ∃ (d8' : Option D) (t : Sto), b_law_6 DP Tl T1 T2 T3 [d0, d1, d2, some (.p (.int n)), some (.p (.tuple (ps.map pr))), d5, d6, some (.p b), d8, d9, d10] S = .ok (.nx, [d0, d1, d2, some (.p (.int n)), some (.p (.tuple (ps.map pr))), d5, d6, some (.p b), d8', d9, d10]) (S ++ t) := by
  obtain ⟨m, t, e, hd⟩ := doors3 (DP := DP) (ρ := [d0, d1, d2, some (.p (.int n)), some (.p (.tuple (ps.map pr))), d5, d6, some (.p b), d8, d9, d10]) (x := .int n) (y := b) (z := .none) (nl := mCons (mVar 3) (mCons (mVar 7) mNil)) (ns := mCons (mVar 3) (mCons (mVar 7) mNil)) (nk := mCons (mVar 3) (mCons (mVar 7) (mCons (mC .none) mNil))) T (need_lot_no h1 h2 hb) (fun S => rfl) (fun S => rfl) (fun S => rfl)
  have T5 := T.app t
  generalize hS5 : S ++ t = S5 at e hd T5
  have e2 := by_known_eq (DP := DP) T5 (need_known_bad hp hl h1 h2 hb)
  obtain ⟨cs, g1, g2, g3⟩ := hd
  have e3 := cat_eq (DP := DP) (S := S5 ++ [dr DP [1, 1, 1, 1]]) (a := m) (b := S5.length) (app_get g1) last_get (by show _ + 4 ≤ _; omega)
  have hd2 : Drs DP (S5 ++ [dr DP [1, 1, 1, 1]] ++ [dr DP (cs ++ [1, 1, 1, 1])]) (S5 ++ [dr DP [1, 1, 1, 1]]).length 1 16 := by
    refine ⟨_, last_get, fun d hd => ?_, by rw [List.length_append]; show _ + 4 ≤ _; omega⟩
    rcases List.mem_append.mp hd with hd | hd
    · exact g2 d hd
    · simp at hd; exact hd
  have et := told_drs (Tl := Tl) (T1 := T1) (T2 := T2) (T3 := T3) (w := "NoLot+") hd2 rfl lay_lot
  refine ⟨some (.r m), t ++ [dr DP [1, 1, 1, 1]] ++ [dr DP (cs ++ [1, 1, 1, 1])], ?_⟩
  rw [← List.append_assoc, ← List.append_assoc, hS5]
  simp only [b_law_6, mSeq, mAsg, e, Res.bind, gN, List.set]
  simp only [mIf, Res.bind, mNot, mTest, mCall, mCons, mVar, mC, mNil, m2, List.getElem?_cons_succ, List.getElem?_cons_zero, e2, e3, et, Res.nox, toB, Bool.not_true, Bool.false_eq_true, if_false, mNext]
/-- lots that can't be -/
theorem cant_eq {d0 d1 d2 d5 d6 d7 d8 d9 d10 : Option D} {S : Sto} {n : Int} {ps : List (Int × Int)} (T : Tabs S Tl T1 T2 T3) (hp : Lot n ps) (hl : ps.length ≤ 200) (h1 : 2 ≤ n) (h2 : n ≤ 12) :
    ∃ t : Sto, s_law_5 DP Tl T1 T2 T3 [d0, d1, d2, some (.p (.int n)), some (.p (.tuple (ps.map pr))), d5, d6, d7, d8, d9, d10] S = .ok (.nx, [d0, d1, d2, some (.p (.int n)), some (.p (.tuple (ps.map pr))), d5, d6, d7, d8, d9, d10]) (S ++ t) := by
  have hl1 : Lot n ([] : List (Int × Int)) := hp.sub (List.nil_sublist _)
  have hl2 : Lot n (ps.drop 1) := hp.sub (List.drop_sublist ..)
  have s1 : f_need_sound [.p (.int n), .p (.tuple [])] [] = .exc 1 [] := need_sound_bars (ps := []) hl1 (by simp) (by omega) h2 (apart_no h1 (fun h => by cases h))
  have s2 : f_need_sound [.p (.int n), .p (.tuple ((ps.drop 1).map pr))] [] = .exc 1 [] := need_sound_bars hl2 (by rw [List.length_drop]; omega) (by omega) h2 (apart_no h1 (first_no hp))
  have e1 := by_sound_eq (DP := DP) T s1
  have e2 := by_sound_eq (DP := DP) (T.app [dr DP [1, 1]]) s2
  have g1 : (S ++ [dr DP [1, 1]])[S.length]? = some (dr DP [1, 1]) := last_get
  generalize hS1 : S ++ [dr DP [1, 1]] = S1 at e1 e2 g1
  have e3 := cat_eq (DP := DP) (S := S1 ++ [dr DP [1, 1]]) (a := S.length) (b := S1.length) (app_get g1) last_get (by decide)
  have hd : Drs DP (S1 ++ [dr DP [1, 1]] ++ [dr DP ([1, 1] ++ [1, 1])]) (S1 ++ [dr DP [1, 1]]).length 1 16 := ⟨_, last_get, fun d hd => by simp at hd; exact hd, by decide⟩
  have et := told_drs (Tl := Tl) (T1 := T1) (T2 := T2) (T3 := T3) (w := "NoLot+") hd rfl lay_lot
  have ec : ∀ S, gSl (.p (.tuple (ps.map pr))) (some 1) none S = .ok (.p (.tuple ((ps.drop 1).map pr))) S := fun S => by
    simp only [gSl, seqOf, cutP_tail, List.map_drop]
    try rfl
  have eT : ∀ ρ S, mTup mNil ρ S = .ok (.p (.tuple [])) S := fun _ _ => rfl
  have eL : ∀ S, mSl (mVar 4) (mPart (some (mC (.int 1)))) (mPart none) [d0, d1, d2, some (.p (.int n)), some (.p (.tuple (ps.map pr))), d5, d6, d7, d8, d9, d10] S = .ok (.p (.tuple ((ps.drop 1).map pr))) S := fun S => by
    simp only [mSl, mVar, mPart, mC, Res.bind, List.getElem?_cons_succ, List.getElem?_cons_zero, ec]
  refine ⟨[dr DP [1, 1]] ++ [dr DP [1, 1]] ++ [dr DP ([1, 1] ++ [1, 1])], ?_⟩
  rw [← List.append_assoc, ← List.append_assoc, hS1]
  simp only [s_law_5, Res.bind, mIf, mNot, mTest, mCall, mCons, mVar, mC, mNil, m2, eT, eL, List.getElem?_cons_succ, List.getElem?_cons_zero, e1, e2, e3, et, Res.nox, toB, Bool.not_true, Bool.false_eq_true, if_false, mNext]
end
end LK


set_option maxHeartbeats 4000000
namespace LK
open PySem L2 G
/-! ### houses that are none -/
def NoH (n : Int) (a b : PyData) : Prop := (nod a ∧ nod b) ∧ (isFromB a 0 (n - 1) = false ∨ isFromB b 0 (n - 1) = false ∨ (a = .int 0 ∧ b = .int 0))
theorem higher_no {S : Sto} {n : Int} {ps : List (Int × Int)} {a b : PyData} (hp : Lot n ps) (hl : ps.length ≤ 200) (h1 : 1 ≤ n) (h2 : n ≤ 12) (hs : barsL n ps = []) (h : NoH n a b) : f_higher [.p (.int n), .p (.tuple (ps.map pr)), .p a, .p b] S = .exc 2 S := by
  obtain ⟨⟨ha, hb⟩, h⟩ := h
  cases ea : isFromB a 0 (n - 1) with
  | false => simp [f_higher, b_higher, fnOf, G.finish, mSeq, mIf, mTest, m2, m1, mVar, mC, mAsg, mRet, mNext, mDrop, mR, mP, mLst, mTup, mCons, mNil, pures, mCall, mCB, mCL, gN, gT, gsCons, gsNil, gSubT, gSet, gIx, gGt, gGe, gLt, gLe, gMod, gDiv, G.gSub, gAdd, gMul, gPow, gNeg, i2, okB, cPos, cDiv, cTrue, cMul, cPow, seqOf, datOf, toB, Res.bind, Res.nox, wp_ok, wp_bind, wp_nox, mNot, mAnd, mOr, mAndV, mNotV, mOrV, mIfE, mIsi, isTs, isT, gLen, gSeq, gSeqL, gList, gTuple, mMth, isLst, gApp, gPut, mFz, thaw, mSl, mPart, startL, mCallX, mRaise, need_sound_ok hp hl h1 h2 hs, is_from_eq ha, ea]
  | true =>
    cases eb : isFromB b 0 (n - 1) with
    | false => simp [f_higher, b_higher, fnOf, G.finish, mSeq, mIf, mTest, m2, m1, mVar, mC, mAsg, mRet, mNext, mDrop, mR, mP, mLst, mTup, mCons, mNil, pures, mCall, mCB, mCL, gN, gT, gsCons, gsNil, gSubT, gSet, gIx, gGt, gGe, gLt, gLe, gMod, gDiv, G.gSub, gAdd, gMul, gPow, gNeg, i2, okB, cPos, cDiv, cTrue, cMul, cPow, seqOf, datOf, toB, Res.bind, Res.nox, wp_ok, wp_bind, wp_nox, mNot, mAnd, mOr, mAndV, mNotV, mOrV, mIfE, mIsi, isTs, isT, gLen, gSeq, gSeqL, gList, gTuple, mMth, isLst, gApp, gPut, mFz, thaw, mSl, mPart, startL, mCallX, mRaise, need_sound_ok hp hl h1 h2 hs, is_from_eq ha, is_from_eq hb, ea, eb]
    | true =>
      rcases h with h | h | ⟨rfl, rfl⟩
      · rw [ea] at h; cases h
      · rw [eb] at h; cases h
      · have e0 : ∀ S, gEq (.p (.int 0)) (.p (.int 0)) S = .ok (.p (.bool true)) S := fun _ => rfl
        simp [f_higher, b_higher, fnOf, G.finish, mSeq, mIf, mTest, m2, m1, mVar, mC, mAsg, mRet, mNext, mDrop, mR, mP, mLst, mTup, mCons, mNil, pures, mCall, mCB, mCL, gN, gT, gsCons, gsNil, gSubT, gSet, gIx, gGt, gGe, gLt, gLe, gMod, gDiv, G.gSub, gAdd, gMul, gPow, gNeg, i2, okB, cPos, cDiv, cTrue, cMul, cPow, seqOf, datOf, toB, Res.bind, Res.nox, wp_ok, wp_bind, wp_nox, mNot, mAnd, mOr, mAndV, mNotV, mOrV, mIfE, mIsi, isTs, isT, gLen, gSeq, gSeqL, gList, gTuple, mMth, isLst, gApp, gPut, mFz, thaw, mSl, mPart, startL, mCallX, mRaise, need_sound_ok hp hl h1 h2 hs, is_from_eq ha, is_from_eq hb, ea, eb, e0]
theorem lay_house : lay2 (.str "NoHouse+") (.str "NoHouse+") = true := by decide +kernel
section
variable {DP : Nat → Hp → V → Prop} {Tl T1 T2 T3 : Addr}
theorem ne_house {S : Sto} : gNe (.p (.str "NoHouse+")) (.p (.str "NoHouse+")) S = .ok (.p (.bool false)) S := by
  show g2 lay2 (fun x y => .bool (!PyData.eqv x y)) (.p (.str "NoHouse+")) (.p (.str "NoHouse+")) S = _
  have : PyData.eqv (.str "NoHouse+") (.str "NoHouse+") = true := by simp [PyData.eqv]
  simp only [g2, datOf, lay_house, okB, if_true, this, Bool.not_true]
theorem house_eq {d0 d1 d2 d5 d6 d7 d8 : Option D} {S : Sto} {n : Int} {ps : List (Int × Int)} {a b : PyData} (T : Tabs S Tl T1 T2 T3) (hp : Lot n ps) (hl : ps.length ≤ 200) (h1 : 1 ≤ n) (h2 : n ≤ 12) (hs : barsL n ps = []) (h : NoH n a b) :
    b_law_8 DP Tl T1 T2 T3 [d0, d1, d2, some (.p (.int n)), some (.p (.tuple (ps.map pr))), d5, d6, d7, d8, some (.p a), some (.p b)] S = .ok (.nx, [d0, d1, d2, some (.p (.int n)), some (.p (.tuple (ps.map pr))), d5, d6, d7, d8, some (.p a), some (.p b)]) S := by
  have e : mTry 0 Tl lamQ "told" kinN (mCallX f_higher (mCons (mVar 3) (mCons (mVar 4) (mCons (mVar 9) (mCons (mVar 10) mNil))))) [d0, d1, d2, some (.p (.int n)), some (.p (.tuple (ps.map pr))), d5, d6, d7, d8, some (.p a), some (.p b)] S = .ok (.p (.str "NoHouse+")) S := by
    unfold mTry
    rw [T.t0]
    simp only [true_and, if_true, mCallX, mCons, mVar, mNil, Res.bind, List.getElem?_cons_succ, List.getElem?_cons_zero, higher_no hp hl h1 h2 hs h, kinN]
  simp only [b_law_8, mIf, mTest, m2, e, mC, Res.bind, ne_house, toB, Bool.false_eq_true, if_false, mNext]
/-! ### a cell -/
def S0 (Tl T1 T2 T3 : Addr) : Sto := [some (.tab Tl lamQ), some (.tab T1 lamQ_law_by_lot), some (.tab T2 lamQ_law_by_sound), some (.tab T3 lamQ_law_by_known)]
theorem tabs0 : Tabs (S0 Tl T1 T2 T3) Tl T1 T2 T3 := ⟨rfl, rfl, rfl, rfl⟩
def odds : List PyData := [.none, .bool true, .int 0, .int 13, .str "3", .tuple [.int 3]]
theorem odds_no : ∀ x ∈ odds, nod x ∧ isFromB x 1 12 = false := by
  intro x hx
  simp only [odds, List.mem_cons, List.not_mem_nil, or_false] at hx
  rcases hx with rfl | rfl | rfl | rfl | rfl | rfl
  all_goals exact ⟨fun kvs e => (by cases e), rfl⟩
def badsD (n : Int) (ps : List (Int × Int)) : List PyData := [.none, .list (ps.map pr), .tuple ((ps ++ ps.take 1).map pr), .tuple [.tuple [.int 0, .int n]], .tuple [.tuple [.int 1, .int 0]], .tuple [.tuple [.int 0, .int 0]], .tuple [.tuple [.bool true, .int 1]], .tuple [.tuple [.int 0, .int 1, .int 2]]]
def moreD : List PyData := [.tuple [.int 0, .int 1], .tuple [.tuple [.int (-1), .int 1]]]
theorem bads_no {n : Int} {ps : List (Int × Int)} (hp : Lot n ps) (hl : ps.length ≤ 200) (hne : ps ≠ []) (h1 : 2 ≤ n) (h2 : n ≤ 12) : ∀ x ∈ badsD n ps ++ moreD, NoL n x := by
  intro x hx
  simp only [badsD, moreD, List.cons_append, List.nil_append, List.mem_cons, List.not_mem_nil, or_false] at hx
  rcases hx with rfl | rfl | rfl | rfl | rfl | rfl | rfl | rfl | rfl | rfl
  · exact nol_none
  · exact nol_list
  · exact nol_twice hp hl hne
  · exact nol3 h1 h2
  · exact nol4 h1 h2
  · exact nol5 h1 h2
  · exact nol6 h1 h2
  · exact nol7 h1 h2
  · exact nol8 h1 h2
  · exact nol9 h1 h2
def twoD (n : Int) : List (PyData × PyData) := [(.none, .int 0), (.int 0, .none), (.int 0, .int 0), (.bool true, .int 0), (.int 0, .int n), (.int (-1), .int 0), (.str "0", .int 1)]
theorem two_no {n : Int} (h1 : 2 ≤ n) : ∀ z ∈ twoD n, NoH n z.1 z.2 := by
  intro z hz
  simp only [twoD, List.mem_cons, List.not_mem_nil, or_false] at hz
  rcases hz with rfl | rfl | rfl | rfl | rfl | rfl | rfl
  · exact ⟨⟨fun kvs e => (by cases e), fun kvs e => (by cases e)⟩, .inl rfl⟩
  · exact ⟨⟨fun kvs e => (by cases e), fun kvs e => (by cases e)⟩, .inr (.inl rfl)⟩
  · exact ⟨⟨fun kvs e => (by cases e), fun kvs e => (by cases e)⟩, .inr (.inr ⟨rfl, rfl⟩)⟩
  · exact ⟨⟨fun kvs e => (by cases e), fun kvs e => (by cases e)⟩, .inl rfl⟩
  · refine ⟨⟨fun kvs e => (by cases e), fun kvs e => (by cases e)⟩, .inr (.inl ?_)⟩
    simp only [isFromB]; simp; omega
  · refine ⟨⟨fun kvs e => (by cases e), fun kvs e => (by cases e)⟩, .inl ?_⟩
    simp only [isFromB]; simp
  · exact ⟨⟨fun kvs e => (by cases e), fun kvs e => (by cases e)⟩, .inl rfl⟩
theorem odds_wp {d0 d1 d2 d3 d4 d5 d6 d7 d8 d9 d10 : Option D} {t : Sto} {P : Fl × G.Loc → Sto → Prop}
    (q : ∀ f5 f8 t', P (.nx, [d0, d1, d2, d3, d4, f5, d6, d7, f8, d9, d10]) (S0 Tl T1 T2 T3 ++ t')) :
    wp (mLoop (gN 5) (b_law_4 DP Tl T1 T2 T3) odds [d0, d1, d2, d3, d4, d5, d6, d7, d8, d9, d10] (S0 Tl T1 T2 T3 ++ t)) P := by
  refine wp_loop (fun r ρ S => (∀ x ∈ r, x ∈ odds) ∧ ∃ f5 f8 t', S = S0 Tl T1 T2 T3 ++ t' ∧ ρ = [d0, d1, d2, d3, d4, f5, d6, d7, f8, d9, d10]) _ ?_ ?_ ?_
  · exact ⟨fun _ h => h, _, _, _, rfl, rfl⟩
  · rintro x r ρ S ⟨hr, f5, f8, t', rfl, rfl⟩ k hk
    obtain ⟨hx, hx2⟩ := odds_no x (hr x (List.mem_cons_self ..))
    rw [wp_gN]
    obtain ⟨f8', t2, e⟩ := @odd_eq DP Tl T1 T2 T3 d0 d1 d2 d3 d4 d6 d7 f8 d9 d10 (S0 Tl T1 T2 T3 ++ t') x (tabs0.app t') hx hx2
    simp only [List.set]
    rw [e, wp_ok]
    apply hk
    exact ⟨fun y hy => hr y (List.mem_cons_of_mem _ hy), _, _, t' ++ t2, List.append_assoc .., rfl⟩
  · rintro ρ S ⟨_, f5, f8, t', rfl, rfl⟩
    exact q _ _ _
theorem bads_wp {d0 d1 d2 d5 d6 d7 d8 d9 d10 : Option D} {t : Sto} {n : Int} {ps : List (Int × Int)} {P : Fl × G.Loc → Sto → Prop} (hp : Lot n ps) (hl : ps.length ≤ 200) (hne : ps ≠ []) (h1 : 2 ≤ n) (h2 : n ≤ 12)
    (q : ∀ f7 f8 t', P (.nx, [d0, d1, d2, some (.p (.int n)), some (.p (.tuple (ps.map pr))), d5, d6, f7, f8, d9, d10]) (S0 Tl T1 T2 T3 ++ t')) :
    wp (mLoop (gN 7) (b_law_6 DP Tl T1 T2 T3) (badsD n ps ++ moreD) [d0, d1, d2, some (.p (.int n)), some (.p (.tuple (ps.map pr))), d5, d6, d7, d8, d9, d10] (S0 Tl T1 T2 T3 ++ t)) P := by
  have hall := bads_no hp hl hne h1 h2
  refine wp_loop (fun r ρ S => (∀ x ∈ r, NoL n x) ∧ ∃ f7 f8 t', S = S0 Tl T1 T2 T3 ++ t' ∧ ρ = [d0, d1, d2, some (.p (.int n)), some (.p (.tuple (ps.map pr))), d5, d6, f7, f8, d9, d10]) _ ?_ ?_ ?_
  · exact ⟨hall, _, _, _, rfl, rfl⟩
  · rintro x r ρ S ⟨hr, f7, f8, t', rfl, rfl⟩ k hk
    rw [wp_gN]
    obtain ⟨f8', t2, e⟩ := @bad_eq DP Tl T1 T2 T3 d0 d1 d2 d5 d6 f8 d9 d10 (S0 Tl T1 T2 T3 ++ t') n ps x (tabs0.app t') hp hl (by omega) h2 (hr x (List.mem_cons_self ..))
    simp only [List.set]
    rw [e, wp_ok]
    apply hk
    exact ⟨fun y hy => hr y (List.mem_cons_of_mem _ hy), _, _, t' ++ t2, List.append_assoc .., rfl⟩
  · rintro ρ S ⟨_, f7, f8, t', rfl, rfl⟩
    exact q _ _ _
theorem two_wp {d0 d1 d2 d5 d6 d7 d8 d9 d10 : Option D} {t : Sto} {n : Int} {ps : List (Int × Int)} {P : Fl × G.Loc → Sto → Prop} (hp : Lot n ps) (hl : ps.length ≤ 200) (hs : barsL n ps = []) (h1 : 2 ≤ n) (h2 : n ≤ 12)
    (q : ∀ f9 f10, P (.nx, [d0, d1, d2, some (.p (.int n)), some (.p (.tuple (ps.map pr))), d5, d6, d7, d8, f9, f10]) (S0 Tl T1 T2 T3 ++ t)) :
    wp (mLoop (gT 2 (gsCons (gN 9) (gsCons (gN 10) gsNil))) (b_law_8 DP Tl T1 T2 T3) ((twoD n).map fun z => .tuple [z.1, z.2]) [d0, d1, d2, some (.p (.int n)), some (.p (.tuple (ps.map pr))), d5, d6, d7, d8, d9, d10] (S0 Tl T1 T2 T3 ++ t)) P := by
  refine wp_loop (fun r ρ S => ∃ zs : List (PyData × PyData), r = zs.map (fun z => PyData.tuple [z.1, z.2]) ∧ (∀ z ∈ zs, NoH n z.1 z.2) ∧ ∃ f9 f10, S = S0 Tl T1 T2 T3 ++ t ∧ ρ = [d0, d1, d2, some (.p (.int n)), some (.p (.tuple (ps.map pr))), d5, d6, d7, d8, f9, f10]) _ ?_ ?_ ?_
  · exact ⟨_, rfl, two_no h1, _, _, rfl, rfl⟩
  · rintro x r ρ S ⟨zs, e, hr, f9, f10, rfl, rfl⟩ k hk
    cases zs with
    | nil => cases e
    | cons z zs =>
      cases e
      have e1 := @house_eq DP Tl T1 T2 T3 d0 d1 d2 d5 d6 d7 d8 (S0 Tl T1 T2 T3 ++ t) n ps z.1 z.2 (tabs0.app t) hp hl (by omega) h2 hs (hr z (List.mem_cons_self ..))
      have eg : gT 2 (gsCons (gN 9) (gsCons (gN 10) gsNil)) (.p (.tuple [z.1, z.2])) [d0, d1, d2, some (.p (.int n)), some (.p (.tuple (ps.map pr))), d5, d6, d7, d8, f9, f10] (S0 Tl T1 T2 T3 ++ t) = .ok [d0, d1, d2, some (.p (.int n)), some (.p (.tuple (ps.map pr))), d5, d6, d7, d8, some (.p z.1), some (.p z.2)] (S0 Tl T1 T2 T3 ++ t) := rfl
      rw [eg, wp_ok, e1, wp_ok]
      apply hk
      exact ⟨zs, rfl, fun y hy => hr y (List.mem_cons_of_mem _ hy), _, _, rfl, rfl⟩
  · rintro ρ S ⟨zs, e, _, f9, f10, rfl, rfl⟩
    exact q _ _
end
end LK


set_option maxHeartbeats 4000000
namespace LK
open PySem L2 G
theorem wp_cut {b : MS} {ρ : G.Loc} {S : Sto} {P : Fl × G.Loc → Sto → Prop} (h : wp (b ρ S) fun r S' => r.1 = .nx ∧ P (.nx, r.2.map (fgt S.length)) (S'.take S.length)) : wp (mCut b ρ S) P := by
  obtain ⟨⟨f, ρ'⟩, S', e, h1, h2⟩ := h
  simp only at h1
  subst h1
  unfold mCut
  rw [e]
  exact wp_ok.mpr h2
section
variable {DP : Nat → Hp → V → Prop} {Tl T1 T2 T3 : Addr}
theorem set_last {t : Sto} {o o' : Option Ob} : (S0 Tl T1 T2 T3 ++ [o]).set 4 o' = S0 Tl T1 T2 T3 ++ [o'] := rfl
theorem bads_eq {d0 d1 d2 d5 d6 d7 d8 d9 d10 : Option D} {S : Sto} {n : Int} {ps : List (Int × Int)} (hl : ps.length ≤ 200) :
    s_law_4 DP Tl T1 T2 T3 [d0, d1, d2, some (.p (.int n)), some (.p (.tuple (ps.map pr))), d5, d6, d7, d8, d9, d10] S = .ok (.nx, [d0, d1, d2, some (.p (.int n)), some (.p (.tuple (ps.map pr))), d5, some (.p (.list (badsD n ps))), d7, d8, d9, d10]) S := by
  have e1 : ∀ S, mP (mCL gList (mCons (mVar 4) mNil)) [d0, d1, d2, some (.p (.int n)), some (.p (.tuple (ps.map pr))), d5, d6, d7, d8, d9, d10] S = .ok (.p (.list (ps.map pr))) S := fun S => rfl
  have e2 : ∀ S, m2 gAdd (mVar 4) (mSl (mVar 4) (mPart none) (mPart (some (mC (.int 1))))) [d0, d1, d2, some (.p (.int n)), some (.p (.tuple (ps.map pr))), d5, d6, d7, d8, d9, d10] S = .ok (.p (.tuple ((ps ++ ps.take 1).map pr))) S := fun S => by
    have ec : cutP (ps.map pr) none (some 1) = (ps.take 1).map pr := by
      unfold cutP
      have h1 : HT.sIx (ps.map pr).length (ps.map pr).length (some 1) = min 1 (ps.map pr).length := HT.sIx_nat _ _ 1
      rw [HT.sIx_none, h1]
      cases ps with
      | nil => rfl
      | cons p r => simp
    have hz : (ps.map pr).length + ((ps.take 1).map pr).length ≤ 1000000 := by simp; omega
    simp only [m2, mVar, mSl, mPart, mC, Res.bind, List.getElem?_cons_succ, List.getElem?_cons_zero, gSl, seqOf, ec, gAdd, if_pos hz, List.map_append]
  simp only [s_law_4, mAsg, mP, mLst]
  simp only [mCons, e1, e2, mC, mNil, mTup, mVar, pures, Res.bind, Option.map_some, Option.map, List.getElem?_cons_succ, List.getElem?_cons_zero, gN, List.set, badsD]
  rfl
theorem cell_wp {c : Int} {d0 d2 d3 d4 d5 d6 d7 d8 d9 d10 : Option D} {P : Fl × G.Loc → Sto → Prop}
    (q : ∀ f2 f3 f4 f5 f6 f7 f8 f9 f10 t, P (.nx, [d0, some (.p (.int c)), f2, f3, f4, f5, f6, f7, f8, f9, f10]) (S0 Tl T1 T2 T3 ++ t)) :
    wp (b_law_9 DP Tl T1 T2 T3 [d0, some (.p (.int c)), d2, d3, d4, d5, d6, d7, d8, d9, d10] (S0 Tl T1 T2 T3)) P := by
  unfold b_law_9
  apply wp_seq
  intro k1 hk1 _ _ _
  obtain ⟨o, e, hd⟩ := deck_eq (S := S0 Tl T1 T2 T3) (c := c) (t := 12) (k := 12) (by omega) (by omega)
  have hl4 : (S0 Tl T1 T2 T3).length = 4 := rfl
  rw [hl4] at hd e
  simp only [s_law_1, wp_asg, wp_gN, mCall, mCons, mVar, mC, mNil, wp_bind, wp_ok, wp_nox, List.getElem?_cons_succ, List.getElem?_cons_zero, e, List.set]
  apply hk1
  apply wp_seq
  intro k2 hk2 _ _ _
  simp only [s_law_2, wp_asg, wp_gN, m2, mCall, mCons, mVar, mC, mNil, wp_bind, wp_ok, wp_nox, List.getElem?_cons_succ, List.getElem?_cons_zero, List.set]
  refine pick_wp hd (by omega) (by omega) (by omega) fun v o2 hv0 hv1 hd2 => ?_
  rw [set_last (t := [])] at hd2 ⊢
  have ea : gAdd (.p (.int 2)) (.p (.int v)) (S0 Tl T1 T2 T3 ++ [o2]) = .ok (.p (.int (2 + v))) (S0 Tl T1 T2 T3 ++ [o2]) := rfl
  rw [ea, wp_ok]
  apply hk2
  apply wp_seq
  intro k3 hk3 _ _ _
  simp only [s_law_3, wp_asg, wp_gN, mCall, mCons, mVar, mC, mNil, wp_bind, wp_ok, wp_nox, List.getElem?_cons_succ, List.getElem?_cons_zero, List.set]
  refine heights_wp hd2 (by omega) (by omega) (by omega) (by omega) (by omega) fun hs o3 hlen hnd _ hd3 => ?_
  rw [set_last (t := [])]
  have hlen' : (hs.length : Int) = 2 + v := by rw [hlen]; omega
  rw [seen_eq (by omega), wp_ok]
  apply hk3
  have hp := seenP_lot hs
  rw [hlen'] at hp
  have hsd := seen_sound hnd
  rw [hlen'] at hsd
  have hne := seen_ne hnd (by omega)
  have hl : (seenP hs).length ≤ 200 := by
    have h1 : (seenP hs).length ≤ (pairsOf hs.length).length := List.length_filter_le ..
    have h2 := len_pairs (n := hs.length) (by omega)
    omega
  generalize seenP hs = ps at hp hsd hne hl ⊢
  have hn1 : 2 ≤ 2 + v := by omega
  have hn2 : 2 + v ≤ 12 := by omega
  generalize 2 + v = n at hp hsd hn1 hn2 ⊢
  apply wp_seq
  intro k4 hk4 _ _ _
  rw [wp_for]
  have eo : ∀ ρ S, mItems (mP (mLst (mCons (mC .none) (mCons (mC (.bool true)) (mCons (mC (.int 0)) (mCons (mC (.int 13)) (mCons (mC (.str "3")) (mCons (mTup (mCons (mC (.int 3)) mNil)) mNil)))))))) ρ S = .ok odds S := fun _ _ => rfl
  rw [eo, wp_ok]
  refine odds_wp fun f5 f8 t1 => ?_
  apply hk4
  apply wp_seq
  intro k5 hk5 _ _ _
  rw [bads_eq hl, wp_ok]
  apply hk5
  apply wp_seq
  intro k6 hk6 _ _ _
  rw [wp_for]
  have eb : ∀ S, mItems (m2 gAdd (mVar 6) (mP (mLst (mCons (mTup (mCons (mC (.int 0)) (mCons (mC (.int 1)) mNil))) (mCons (mTup (mCons (mTup (mCons (m1 gNeg (mC (.int 1))) (mCons (mC (.int 1)) mNil))) mNil)) mNil))))) [d0, some (.p (.int c)), some (.r 4), some (.p (.int n)), some (.p (.tuple (ps.map pr))), f5, some (.p (.list (badsD n ps))), d7, f8, d9, d10] S = .ok (badsD n ps ++ moreD) S := fun _ => rfl
  rw [eb, wp_ok]
  refine bads_wp hp hl hne hn1 hn2 fun f7 f8 t2 => ?_
  apply hk6
  apply wp_seq
  intro k7 hk7 _ _ _
  obtain ⟨t3, e7⟩ := @cant_eq DP Tl T1 T2 T3 d0 (some (.p (.int c))) (some (.r 4)) f5 (some (.p (.list (badsD n ps)))) f7 f8 d9 d10 (S0 Tl T1 T2 T3 ++ t2) n ps (tabs0.app t2) hp hl hn1 hn2
  rw [e7, wp_ok, List.append_assoc]
  apply hk7
  rw [wp_for]
  have et : ∀ S, mItems (mP (mLst (mCons (mTup (mCons (mC .none) (mCons (mC (.int 0)) mNil))) (mCons (mTup (mCons (mC (.int 0)) (mCons (mC .none) mNil))) (mCons (mTup (mCons (mC (.int 0)) (mCons (mC (.int 0)) mNil))) (mCons (mTup (mCons (mC (.bool true)) (mCons (mC (.int 0)) mNil))) (mCons (mTup (mCons (mC (.int 0)) (mCons (mVar 3) mNil))) (mCons (mTup (mCons (m1 gNeg (mC (.int 1))) (mCons (mC (.int 0)) mNil))) (mCons (mTup (mCons (mC (.str "0")) (mCons (mC (.int 1)) mNil))) mNil))))))))) [d0, some (.p (.int c)), some (.r 4), some (.p (.int n)), some (.p (.tuple (ps.map pr))), f5, some (.p (.list (badsD n ps))), f7, f8, d9, d10] S = .ok ((twoD n).map fun z => PyData.tuple [z.1, z.2]) S := fun _ => rfl
  rw [et, wp_ok]
  refine two_wp hp hl hsd hn1 hn2 fun f9 f10 => ?_
  exact q _ _ _ _ _ _ _ _ _ _
end
theorem law_true (DP : Nat → Hp → V → Prop) (Tl T1 T2 T3 : Addr) : ∀ ns : List Int, ns.length ≤ 63 → ∃ S, f_law DP Tl T1 T2 T3 [.p (.list (ns.map PyData.int))] (tabsOf [Tl, T1, T2, T3] [lamQ, lamQ_law_by_lot, lamQ_law_by_sound, lamQ_law_by_known]) = .ok (.p (.bool true)) S := by
  intro ns hl
  show ∃ S, f_law DP Tl T1 T2 T3 [.p (.list (ns.map PyData.int))] (S0 Tl T1 T2 T3) = .ok (.p (.bool true)) S
  suffices h : wp (f_law DP Tl T1 T2 T3 [.p (.list (ns.map PyData.int))] (S0 Tl T1 T2 T3)) (fun d _ => d = .p (.bool true)) by
    obtain ⟨d, S, e, rfl⟩ := h
    exact ⟨S, e⟩
  unfold f_law
  rw [wp_nox]
  apply wp_fn
  unfold b_law
  simp only [startL, List.map_cons, List.map_nil, List.length_cons, List.length_nil, List.cons_append, List.nil_append]
  apply wp_seq
  intro k2 hk2 _ _ _
  rw [wp_for]
  have hadd : ∀ S, gAdd (.p (.list [.int 0])) (.p (.list (ns.map PyData.int))) S = .ok (.p (.list ((0 :: ns).map PyData.int))) S := fun S => by
    have : [PyData.int 0].length + (ns.map PyData.int).length ≤ 1000000 := by simp; omega
    simp only [gAdd, seqOf, this, if_true]
    rfl
  simp only [mItems, mSl, m2, mP, mLst, mCons, mC, mNil, mVar, mPart, wp_bind, wp_ok, List.replicate, List.set_cons_succ, List.set_cons_zero, List.getElem?_cons_zero, pures, Option.map_some, Option.map, hadd, gSl, seqOf, cutP_ints]
  rw [if_pos (by simp), wp_ok, hadd, wp_ok]
  simp only [wp_ok, cutP_ints]
  refine wp_loop (fun r ρ S => ∃ (cs : List Int) (d1 d2 d3 d4 d5 d6 d7 d8 d9 d10 : Option D), r = cs.map PyData.int ∧ S = S0 Tl T1 T2 T3 ∧ ρ = [some (.p (.list (ns.map PyData.int))), d1, d2, d3, d4, d5, d6, d7, d8, d9, d10]) _ ?_ ?_ ?_
  · exact ⟨_, _, _, _, _, _, _, _, _, _, _, rfl, rfl, rfl⟩
  · rintro x r ρ S ⟨cs, d1, d2, d3, d4, d5, d6, d7, d8, d9, d10, e, rfl, rfl⟩ k hk
    cases cs with
    | nil => cases e
    | cons c cs =>
      cases e
      rw [wp_gN]
      apply wp_cut
      refine cell_wp fun f2 f3 f4 f5 f6 f7 f8 f9 f10 t => ⟨rfl, ?_⟩
      rw [show (S0 Tl T1 T2 T3).length = 4 from rfl, show (S0 Tl T1 T2 T3 ++ t).take 4 = S0 Tl T1 T2 T3 from rfl]
      apply hk
      exact ⟨cs, _, _, _, _, _, _, _, _, _, _, rfl, rfl, rfl⟩
  · rintro ρ S ⟨cs, d1, d2, d3, d4, d5, d6, d7, d8, d9, d10, e, rfl, rfl⟩
    apply hk2
    simp only [s_law_6, wp_ret, mC, wp_ok]
end LK


open PySem PySem.W PyProof.Rows in
set_option maxRecDepth 100000 in
set_option maxHeartbeats 0 in
theorem PySem.Challenge.cw_roofsights_k12_what_is_refused_holds : PySem.Challenge.rw_roofsights_k12_what_is_refused.Holds := by
  w_on; o_law; k_head; (case hw => w_witness2)
  k_fill
  refine G.walk_endXn (k := 9) (x := "script") (l := PySem.Challenge.rw_roofsights_k12_what_is_refused) rfl rfl ⟨rfl, by decide, by decide⟩ (fun w => ?nl) (fun w h Y => PySem.W.km_in_of Y) ?F
  case nl => kernel_rfl
  case F =>
    intro w mg fa h Y XX KX GG hmg
    have D_is_from := G.defAt_mk (x := "is_from") (nm := "is_from") (ps := ["thing", "low", "high"]) (st := LK.st_is_from) KX GG (by k_is) (by k_is) (by k_is) (by k_is) (fun _ _ _ _ _ _ us hl => match us, hl with | [_, _, _], _ => rfl)
    have D_is_rising := G.defAt_mk (x := "is_rising") (nm := "is_rising") (ps := ["things"]) (st := LK.st_is_rising) KX GG (by k_is) (by k_is) (by k_is) (by k_is) (fun _ _ _ _ _ _ us hl => match us, hl with | [_], _ => rfl)
    have D_is_lot := G.defAt_mk (x := "is_lot") (nm := "is_lot") (ps := ["many", "thing"]) (st := LK.st_is_lot) KX GG (by k_is) (by k_is) (by k_is) (by k_is) (fun _ _ _ _ _ _ us hl => match us, hl with | [_, _], _ => rfl)
    have D_need_many := G.defAt_mk (x := "need_many") (nm := "need_many") (ps := ["many"]) (st := LK.st_need_many) KX GG (by k_is) (by k_is) (by k_is) (by k_is) (fun _ _ _ _ _ _ us hl => match us, hl with | [_], _ => rfl)
    have D_need_lot := G.defAt_mk (x := "need_lot") (nm := "need_lot") (ps := ["many", "lot"]) (st := LK.st_need_lot) KX GG (by k_is) (by k_is) (by k_is) (by k_is) (fun _ _ _ _ _ _ us hl => match us, hl with | [_, _], _ => rfl)
    have D_all_bars := G.defAt_mk (x := "all_bars") (nm := "all_bars") (ps := ["many", "lot"]) (st := LK.st_all_bars) KX GG (by k_is) (by k_is) (by k_is) (by k_is) (fun _ _ _ _ _ _ us hl => match us, hl with | [_, _], _ => rfl)
    have D_is_sound := G.defAt_mk (x := "is_sound") (nm := "is_sound") (ps := ["many", "lot"]) (st := LK.st_is_sound) KX GG (by k_is) (by k_is) (by k_is) (by k_is) (fun _ _ _ _ _ _ us hl => match us, hl with | [_, _], _ => rfl)
    have D_can_be := G.defAt_mk (x := "can_be") (nm := "can_be") (ps := ["many", "lot"]) (st := LK.st_can_be) KX GG (by k_is) (by k_is) (by k_is) (by k_is) (fun _ _ _ _ _ _ us hl => match us, hl with | [_, _], _ => rfl)
    have D_what_bars := G.defAt_mk (x := "what_bars") (nm := "what_bars") (ps := ["many", "lot"]) (st := LK.st_what_bars) KX GG (by k_is) (by k_is) (by k_is) (by k_is) (fun _ _ _ _ _ _ us hl => match us, hl with | [_, _], _ => rfl)
    have D_bars := G.defAt_mk (x := "bars") (nm := "bars") (ps := ["many", "lot", "thing"]) (st := LK.st_bars) KX GG (by k_is) (by k_is) (by k_is) (by k_is) (fun _ _ _ _ _ _ us hl => match us, hl with | [_, _, _], _ => rfl)
    have D_how_many := G.defAt_mk (x := "how_many") (nm := "how_many") (ps := ["many", "lot"]) (st := LK.st_how_many) KX GG (by k_is) (by k_is) (by k_is) (by k_is) (fun _ _ _ _ _ _ us hl => match us, hl with | [_, _], _ => rfl)
    have D_first_order := G.defAt_mk (x := "first_order") (nm := "first_order") (ps := ["many", "lot"]) (st := LK.st_first_order) KX GG (by k_is) (by k_is) (by k_is) (by k_is) (fun _ _ _ _ _ _ us hl => match us, hl with | [_, _], _ => rfl)
    have D_highest := G.defAt_mk (x := "highest") (nm := "highest") (ps := ["many", "lot"]) (st := LK.st_highest) KX GG (by k_is) (by k_is) (by k_is) (by k_is) (fun _ _ _ _ _ _ us hl => match us, hl with | [_, _], _ => rfl)
    have D_need_sound := G.defAt_mk (x := "need_sound") (nm := "need_sound") (ps := ["many", "lot"]) (st := LK.st_need_sound) KX GG (by k_is) (by k_is) (by k_is) (by k_is) (fun _ _ _ _ _ _ us hl => match us, hl with | [_, _], _ => rfl)
    have D_higher := G.defAt_mk (x := "higher") (nm := "higher") (ps := ["many", "lot", "one", "other"]) (st := LK.st_higher) KX GG (by k_is) (by k_is) (by k_is) (by k_is) (fun _ _ _ _ _ _ us hl => match us, hl with | [_, _, _, _], _ => rfl)
    have D_from_ends := G.defAt_mk (x := "from_ends") (nm := "from_ends") (ps := ["many", "lot"]) (st := LK.st_from_ends) KX GG (by k_is) (by k_is) (by k_is) (by k_is) (fun _ _ _ _ _ _ us hl => match us, hl with | [_, _], _ => rfl)
    have D_need_known := G.defAt_mk (x := "need_known") (nm := "need_known") (ps := ["many", "seen", "unseen"]) (st := LK.st_need_known) KX GG (by k_is) (by k_is) (by k_is) (by k_is) (fun _ _ _ _ _ _ us hl => match us, hl with | [_, _, _], _ => rfl)
    have D_lots_with := G.defAt_mk (x := "lots_with") (nm := "lots_with") (ps := ["many", "seen", "unseen"]) (st := LK.st_lots_with) KX GG (by k_is) (by k_is) (by k_is) (by k_is) (fun _ _ _ _ _ _ us hl => match us, hl with | [_, _, _], _ => rfl)
    have D_orders_with := G.defAt_mk (x := "orders_with") (nm := "orders_with") (ps := ["many", "seen", "unseen"]) (st := LK.st_orders_with) KX GG (by k_is) (by k_is) (by k_is) (by k_is) (fun _ _ _ _ _ _ us hl => match us, hl with | [_, _, _], _ => rfl)
    have D_first_with := G.defAt_mk (x := "first_with") (nm := "first_with") (ps := ["many", "seen", "unseen"]) (st := LK.st_first_with) KX GG (by k_is) (by k_is) (by k_is) (by k_is) (fun _ _ _ _ _ _ us hl => match us, hl with | [_, _, _], _ => rfl)
    have D_sure := G.defAt_mk (x := "sure") (nm := "sure") (ps := ["many", "seen", "unseen"]) (st := LK.st_sure) KX GG (by k_is) (by k_is) (by k_is) (by k_is) (fun _ _ _ _ _ _ us hl => match us, hl with | [_, _, _], _ => rfl)
    have D_law_deck := G.defAt_mk (x := "_law_deck") (nm := "_law_deck") (ps := ["cell", "turn"]) (st := LK.st_law_deck) KX GG (by k_is) (by k_is) (by k_is) (by k_is) (fun _ _ _ _ _ _ us hl => match us, hl with | [_, _], _ => rfl)
    have D_law_pick := G.defAt_mk (x := "_law_pick") (nm := "_law_pick") (ps := ["deck", "size"]) (st := LK.st_law_pick) KX GG (by k_is) (by k_is) (by k_is) (by k_is) (fun _ _ _ _ _ _ us hl => match us, hl with | [_, _], _ => rfl)
    have D_law_heights := G.defAt_mk (x := "_law_heights") (nm := "_law_heights") (ps := ["deck", "many", "top"]) (st := LK.st_law_heights) KX GG (by k_is) (by k_is) (by k_is) (by k_is) (fun _ _ _ _ _ _ us hl => match us, hl with | [_, _, _], _ => rfl)
    have D_law_seen := G.defAt_mk (x := "_law_seen") (nm := "_law_seen") (ps := ["heights_so"]) (st := LK.st_law_seen) KX GG (by k_is) (by k_is) (by k_is) (by k_is) (fun _ _ _ _ _ _ us hl => match us, hl with | [_], _ => rfl)
    have D_law_all_told := G.defAt_mk (x := "_law_all_told") (nm := "_law_all_told") (ps := ["doors", "word"]) (st := LK.st_law_all_told) KX GG (by k_is) (by k_is) (by k_is) (by k_is) (fun _ _ _ _ _ _ us hl => match us, hl with | [_, _], _ => rfl)
    have D_law_kin := G.defAt_mk (x := "_law_kin") (nm := "_law_kin") (ps := ["e"]) (st := LK.st_law_kin) KX GG (by k_is) (by k_is) (by k_is) (by k_is) (fun _ _ _ _ _ _ us hl => match us, hl with | [_], _ => rfl)
    have D_law_try := G.defAt_mk (x := "_law_try") (nm := "_law_try") (ps := ["door"]) (st := LK.st_law_try) KX GG (by k_is) (by k_is) (by k_is) (by k_is) (fun _ _ _ _ _ _ us hl => match us, hl with | [_], _ => rfl)
    have B : LK.Bt mg := ⟨PySem.W.mg_none_of KX GG (by k_is), PySem.W.mg_none_of KX GG (by k_is), PySem.W.mg_none_of KX GG (by k_is), PySem.W.mg_none_of KX GG (by k_is), PySem.W.mg_none_of KX GG (by k_is), PySem.W.mg_none_of KX GG (by k_is), PySem.W.mg_none_of KX GG (by k_is), PySem.W.mg_none_of KX GG (by k_is), PySem.W.mg_none_of KX GG (by k_is), PySem.W.mg_none_of KX GG (by k_is), PySem.W.mg_none_of KX GG (by k_is), PySem.W.mg_none_of KX GG (by k_is), PySem.W.mg_none_of KX GG (by k_is), (by first | exact G.loose_int XX List.mem_cons_self | exact ⟨_, PySem.W.mg_of KX GG (by k_is)⟩)⟩
    have g_NoHeights := PySem.W.mg_of (n := "NoHeights") KX GG (by k_is)
    have g_NoNumber := PySem.W.mg_of (n := "NoNumber") KX GG (by k_is)
    have g_NoLot := PySem.W.mg_of (n := "NoLot") KX GG (by k_is)
    have g_NoHouse := PySem.W.mg_of (n := "NoHouse") KX GG (by k_is)
    have g_NoCounts := PySem.W.mg_of (n := "NoCounts") KX GG (by k_is)
    have g_NoPlace := PySem.W.mg_of (n := "NoPlace") KX GG (by k_is)
    have g_NoHeight := PySem.W.mg_of (n := "NoHeight") KX GG (by k_is)
    have g_Taken := PySem.W.mg_of (n := "Taken") KX GG (by k_is)
    have g_Full := PySem.W.mg_of (n := "Full") KX GG (by k_is)
    have g_NothingLeft := PySem.W.mg_of (n := "NothingLeft") KX GG (by k_is)
    have g_RoofError := PySem.W.mg_of (n := "RoofError") KX GG (by k_is)
    have ER := LK.et_of KX g_NoHeights
      g_NoNumber
      g_NoLot
      g_NoHouse
      g_NoCounts
      g_NoPlace
      g_NoHeight
      g_Taken
      g_Full
      g_NothingLeft
      g_RoofError
      ⟨g_NoNumber, by k_is, ⟨_, _, _, PySem.F.excBase_ValueError, by first | kernel_rfl | k_exc⟩, by k_is, by k_is, ⟨by k_is, by k_is, by k_is, by k_is, by k_is, by k_is, by k_is, by k_is⟩⟩
      (by kernel_rfl)
      (.cons (fun _ r => r) (by kernel_rfl) (.cons (fun _ r => r) (by kernel_rfl) (.cons (fun _ r => r) (by kernel_rfl) (.cons (fun _ r => r) (by kernel_rfl) .nil))))
      (.cons (fun _ r => r) (by kernel_rfl) (.cons (fun _ r => r) (by kernel_rfl) (.cons (fun _ r => r) (by kernel_rfl) .nil)))
      (.cons (fun _ r => r) (by kernel_rfl) (.cons (fun _ r => r) (by kernel_rfl) (.cons (fun _ r => r) (by kernel_rfl) .nil)))
      (.cons (fun _ r => r) (by kernel_rfl) .nil)
      ⟨g_NoLot, by k_is, ⟨_, _, _, PySem.F.excBase_ValueError, by first | kernel_rfl | k_exc⟩, by k_is, by k_is, ⟨by k_is, by k_is, by k_is, by k_is, by k_is, by k_is, by k_is, by k_is⟩⟩
      (by kernel_rfl)
      (.cons (fun _ r => r) (by kernel_rfl) (.cons (fun _ r => r) (by kernel_rfl) (.cons (fun _ r => r) (by kernel_rfl) (.cons (fun _ r => r) (by kernel_rfl) .nil))))
      (.cons (fun _ r => r) (by kernel_rfl) (.cons (fun _ r => r) (by kernel_rfl) (.cons (fun _ r => r) (by kernel_rfl) .nil)))
      (.cons (fun _ r => r) (by kernel_rfl) (.cons (fun _ r => r) (by kernel_rfl) (.cons (fun _ r => r) (by kernel_rfl) .nil)))
      (.cons (fun _ r => r) (by kernel_rfl) .nil)
      ⟨g_NoHouse, by k_is, ⟨_, _, _, PySem.F.excBase_ValueError, by first | kernel_rfl | k_exc⟩, by k_is, by k_is, ⟨by k_is, by k_is, by k_is, by k_is, by k_is, by k_is, by k_is, by k_is⟩⟩
      (by kernel_rfl)
      (.cons (fun _ r => r) (by kernel_rfl) (.cons (fun _ r => r) (by kernel_rfl) (.cons (fun _ r => r) (by kernel_rfl) (.cons (fun _ r => r) (by kernel_rfl) .nil))))
      (.cons (fun _ r => r) (by kernel_rfl) (.cons (fun _ r => r) (by kernel_rfl) (.cons (fun _ r => r) (by kernel_rfl) .nil)))
      (.cons (fun _ r => r) (by kernel_rfl) (.cons (fun _ r => r) (by kernel_rfl) (.cons (fun _ r => r) (by kernel_rfl) .nil)))
      (.cons (fun _ r => r) (by kernel_rfl) .nil)
    have k0 := G.keyL_mk (st := LK.st_law) KX GG hmg (PySem.W.km_tabs_of Y) (by k_is) (by k_is) (by k_is) (by k_is) rfl (by kernel_rfl) (by kernel_rfl) (by decide)
    have k1 := G.keyT_mk (x := "_law_by_lot") (nm := "_law_by_lot") (ps := ["many", "lot"]) (st := LK.st_law_by_lot) KX GG (PySem.W.km_tabs_of Y) (by k_is) (by k_is) (by k_is) (by k_is) (by k_is) rfl (by kernel_rfl) (by kernel_rfl) (by decide) (fun _ _ _ _ _ _ us hl => match us, hl with | [_, _], _ => rfl)
    have k2 := G.keyT_mk (x := "_law_by_sound") (nm := "_law_by_sound") (ps := ["many", "lot"]) (st := LK.st_law_by_sound) KX GG (PySem.W.km_tabs_of Y) (by k_is) (by k_is) (by k_is) (by k_is) (by k_is) rfl (by kernel_rfl) (by kernel_rfl) (by decide) (fun _ _ _ _ _ _ us hl => match us, hl with | [_, _], _ => rfl)
    have k3 := G.keyT_mk (x := "_law_by_known") (nm := "_law_by_known") (ps := ["many", "seen", "unseen"]) (st := LK.st_law_by_known) KX GG (PySem.W.km_tabs_of Y) (by k_is) (by k_is) (by k_is) (by k_is) (by k_is) rfl (by kernel_rfl) (by kernel_rfl) (by decide) (fun _ _ _ _ _ _ us hl => match us, hl with | [_, _, _], _ => rfl)
    obtain ⟨oc, kV, dc, pm, ct, od, an, sl, l4⟩ := k0.ex
    exact G.pack4 k0 k1 k2 k3 (by decide) (fun s v => .of_eq rfl) fun base TB TB1 TB2 TB3 => G.law_endTn (qs := [LK.lamQ, LK.lamQ_law_by_lot, LK.lamQ_law_by_sound, LK.lamQ_law_by_known]) rfl (LK.all_ok B ER D_law_kin D_law_try D_is_from D_is_rising D_is_lot D_need_many D_need_lot D_all_bars D_is_sound D_can_be D_what_bars D_bars D_how_many D_first_order D_highest D_need_sound D_higher D_from_ends D_need_known D_lots_with D_orders_with D_first_with D_sure D_law_deck D_law_pick D_law_heights D_law_seen (k1.ok base TB1) (k2.ok base TB2) (k3.ok base TB3) D_law_all_told TB l4 k0.cd) (LK.law_true _ _ _ _ _)

