import PyProof.Rows.All
import Wide.All
import OpenK.AllK
import Wide.FinOn
import HandS.ForMost
import HandS.Lambda
import KE.KDictKeyed
import HandS.TupAny
import HandS.Deep
import HandS.Style
import HandS.IsInst
import HandS.Conv
import KE.DataCmp
import KE.DataMinMax
import KE.SortData
import PyProof.Rows.InDataRows
import KE.DataFind
import HandS.Zip
import KE.GoesEnum
import HandS.TupLen
import HandS.WordsDict
import HandS.Small
import KE.DatumIndex
import HandS.SetFor
import KE.KIndexOf
import HandS.Strs
import PySem.Challenge.RW_roofsights_k04_whole_orders_with_just_th
set_option Elab.async false
set_option linter.all false
set_option maxRecDepth 100000
set_option autoImplicit false
set_option Elab.async false
set_option linter.all false
set_option maxRecDepth 100000
set_option autoImplicit false
namespace G
open PySem L2

/-! ### the evaluator's data -/
inductive D where
  | p (x : PyData)
  | r (l : Nat)
inductive Ob where
  | lst (xs : List PyData)
  | dct (kvs : List (PyData × PyData))
  | ins (C : Addr) (fs : List (Str × D))
  | tab (P : Addr) (q : Str)
abbrev Sto := List (Option Ob)
abbrev Loc := List (Option D)
inductive Res (α : Type) where
  | ok (a : α) (S : Sto)
  | exc (c : Nat) (S : Sto)
  | stuck
def Res.bind {α β : Type} (r : Res α) (f : α → Sto → Res β) : Res β := match r with
  | .ok a S => f a S
  | .exc c S => .exc c S
  | .stuck => .stuck

/-! ### worlds -/
structure Wd where
  F : Hp
  io : Nat → Option Addr

def keyP : Key → PyData
  | .inl i => .int i
  | .inr x => .str x
/-! dicts whose keys are tuples, of numbers and of such tuples -/
mutual
def ntK : NestedKey → Bool
  | .none => true
  | .num _ => true
  | .text _ => false
  | .tup ks => ntAll ks
def ntAll : List NestedKey → Bool
  | [] => true
  | k :: ks => ntK k && ntAll ks
end
mutual
theorem hash_nt (w w' : World) : ∀ k : NestedKey, ntK k = true → k.hash w = k.hash w'
  | .none, _ => rfl
  | .num _, _ => rfl
  | .text _, h => by cases h
  | .tup ks, h => by
    rw [NestedKey.hash, NestedKey.hash, hashes_nt w w' ks h]
theorem hashes_nt (w w' : World) : ∀ ks : List NestedKey, ntAll ks = true → NestedKey.hashes w ks = NestedKey.hashes w' ks
  | [], _ => rfl
  | k :: ks, h => by
    rw [ntAll, Bool.and_eq_true] at h
    rw [NestedKey.hashes, NestedKey.hashes, hash_nt w w' k h.1, hashes_nt w w' ks h.2]
end
abbrev NE := NestedKey × Addr × Value
/-- at a stands a dict with the entries xs -/
def dnF (a : Addr) (xs : List NE) (h : Heap) : Prop :=
  ((a == sysModules) = false ∧ xs.length ≤ sizeLine ∧ (∀ x ∈ xs, ntK x.1 = true ∧ x.1.depth ≤ 8)) ∧ ∃ o es ep, h.get? a = some o ∧ o.ExactDict ∧ o.data = .dict es ep ∧ (∀ (P : Program) (w : World), es.toList = xs.map (entryOfKey (nestedKind P w))) ∧ (xs.map (·.1)).Nodup
def dnO (a : Addr) (xs : List NE) : HO := .ext (dnF a xs)

/-- a tuple whose object is known, with no dict of its own -/
def GoodT (F : Hp) (a : Addr) (xs : List V) : Prop := ∃ o : Obj, F a = some (.frz o (.tup xs)) ∧ o.dict = none
/-- pairs of which less is known -/
def wkT : List PyData → Bool
  | [.int _, _] => false
  | [_, _] => true
  | _ => false
def SqN (K : PySem.W.Frag) (F : Hp) (a : Addr) (xs : List V) (ds : List PyData) : Prop := SqT K F a xs ∧ (wkT ds = true ∨ GoodT F a xs)
theorem SqN.good {K : PySem.W.Frag} {F : Hp} {a : Addr} {xs : List V} {ds : List PyData} {o : Obj} (h : F a = some (.frz o (.tup xs))) (d : o.dict = none) : SqN K F a xs ds := ⟨.inl (.inr ⟨o, h⟩), .inr ⟨o, h, d⟩⟩
mutual
inductive Rp (K : PySem.W.Frag) (F : Hp) : V → PyData → Prop
  | non : Rp K F .non .none
  | bl (b : Bool) : Rp K F (.bl b) (.bool b)
  | int (i : Int) : Rp K F (.int i) (.int i)
  | str (x : Str) : Rp K F (.str x) (.str x)
  | lst {a : Addr} {xs : List V} {ds : List PyData} : Rd F a (.lst xs) → RpAll K F xs ds → Rp K F (.ref a) (.list ds)
  | tup {a : Addr} {xs : List V} {ds : List PyData} : SqN K F a xs ds → RpAll K F xs ds → Rp K F (.ref a) (.tuple ds)
  | dK {a : Addr} {kvs : List (Key × V)} {ds : List PyData} : F a = some (.dK kvs) → RpAll K F (kvs.map (·.2)) ds → Rp K F (.ref a) (.dict ((kvs.map fun q => keyP q.1).zip ds))
  | dN {a : Addr} {xs : List NE} {vs : List V} {ds : List PyData} : F a = some (dnO a xs) → Vals vs (xs.map (·.2.2)) → RpAll K F vs ds → RpAll K F (xs.map fun x => V.ref x.2.1) (xs.map fun x => x.1.data) → xs ≠ [] → Rp K F (.ref a) (.dict ((xs.map fun x => x.1.data).zip ds))
inductive RpAll (K : PySem.W.Frag) (F : Hp) : List V → List PyData → Prop
  | nil : RpAll K F [] []
  | cons {v : V} {vs : List V} {d : PyData} {ds : List PyData} : Rp K F v d → RpAll K F vs ds → RpAll K F (v :: vs) (d :: ds)
end

def isD : HO → Bool
  | .dK _ => true
  | _ => false
/-- a part of a heap; a dict that is locked meanwhile counts -/
def Le (F H : Hp) : Prop := ∀ a o, F a = some o → H a = some o ∨ ∃ z, H a = some (.frz z o) ∧ isD o = true
def Sub (F F' : Hp) : Prop := ∀ a o, F a = some o → F' a = some o
theorem Sub.refl (F : Hp) : Sub F F := fun _ _ h => h
theorem Sub.trans {A B C : Hp} (h : Sub A B) (k : Sub B C) : Sub A C := fun a o e => k a o (h a o e)

theorem Rd.sub {F F' : Hp} {a : Addr} {u : HO} (s : Sub F F') (h : Rd F a u) : Rd F' a u := by
  rcases h with h | ⟨o, h⟩
  · exact .inl (s _ _ h)
  · exact .inr ⟨o, s _ _ h⟩
theorem SqT.sub {K : PySem.W.Frag} {F F' : Hp} {a : Addr} {xs : List V} {ds : List PyData} (s : Sub F F') (h : SqN K F a xs ds) : SqN K F' a xs ds := by
  obtain ⟨h, g⟩ := h
  refine ⟨?_, g.elim .inl fun ⟨o, h, d⟩ => .inr ⟨o, s _ _ h, d⟩⟩
  rcases h with (h | ⟨o, h⟩) | h
  · exact .inl (.inl (s _ _ h))
  · exact .inl (.inr ⟨o, s _ _ h⟩)
  · exact .inr h
mutual
theorem Rp.sub {K : PySem.W.Frag} {F F' : Hp} (s : Sub F F') : ∀ {v : V} {d : PyData}, Rp K F v d → Rp K F' v d
  | _, _, .non => .non
  | _, _, .bl b => .bl b
  | _, _, .int i => .int i
  | _, _, .str x => .str x
  | _, _, .lst h t => .lst (Rd.sub s h) (RpAll.sub s t)
  | _, _, .tup h t => .tup (SqT.sub s h) (RpAll.sub s t)
  | _, _, .dK h t => .dK (s _ _ h) (RpAll.sub s t)
  | _, _, .dN h v t k n => .dN (s _ _ h) v (RpAll.sub s t) (RpAll.sub s k) n
theorem RpAll.sub {K : PySem.W.Frag} {F F' : Hp} (s : Sub F F') : ∀ {vs : List V} {ds : List PyData}, RpAll K F vs ds → RpAll K F' vs ds
  | _, _, .nil => .nil
  | _, _, .cons h t => .cons (Rp.sub s h) (RpAll.sub s t)
end

def DctIs (K : PySem.W.Frag) (F : Hp) (a : Addr) (o : HO) (kvs : List (PyData × PyData)) : Prop := match o with
  | .dK ks => ∃ ds, RpAll K F (ks.map (·.2)) ds ∧ kvs = (ks.map fun q => keyP q.1).zip ds
  | .ext φ => ∃ xs vs ds, φ = dnF a xs ∧ Vals vs (xs.map (·.2.2)) ∧ RpAll K F vs ds ∧ RpAll K F (xs.map fun x => V.ref x.2.1) (xs.map fun x => x.1.data) ∧ kvs = (xs.map fun x => x.1.data).zip ds ∧ xs ≠ []
  | _ => False
def RelD (K : PySem.W.Frag) (U : Wd) : D → V → Prop
  | .p x, v => Rp K U.F v x
  | .r l, v => ∃ a, U.io l = some a ∧ v = .ref a
def FldIs (K : PySem.W.Frag) (U : Wd) : List (Str × D) → List (Str × V) → Prop := Paired fun p q => p.1 = q.1 ∧ RelD K U p.2 q.2
/-- a table of code objects, each of the name q -/
def TabIs (F : Hp) (o : HO) (q : Str) : Prop := ∃ ps : Array Value, o = .tbl ps ∧ TriplesOk ps.toList ∧ ∀ (pos : Pos) (cv : Value), codeAmong pos ps.toList = some cv → ∃ c, cv = .ref c ∧ F c = some (LamX.CodeO c q)
theorem TabIs.sub {F F' : Hp} (s : Sub F F') {o : HO} {q : Str} (h : TabIs F o q) : TabIs F' o q := by
  obtain ⟨ps, e, t, a⟩ := h
  exact ⟨ps, e, t, fun pos cv hc => let ⟨c, e1, e2⟩ := a pos cv hc; ⟨c, e1, s _ _ e2⟩⟩
def ObIs (K : PySem.W.Frag) (U : Wd) (a : Addr) (o : HO) : Ob → Prop
  | .lst ds => ∃ xs, o = .lst xs ∧ RpAll K U.F xs ds
  | .dct kvs => DctIs K U.F a o kvs
  | .ins C fs => ∃ dx gs, o = .ins C dx gs ∧ U.F dx = some (.own a) ∧ FldIs K U fs gs
  | .tab P q => a = P ∧ TabIs U.F o q
theorem RelD.grow {K : PySem.W.Frag} {U U' : Wd} {d : D} {v : V} (ef : Sub U.F U'.F) (ei : ∀ l a, U.io l = some a → U'.io l = some a) (h : RelD K U d v) : RelD K U' d v := by
  cases d with
  | p x => exact Rp.sub ef h
  | r l => obtain ⟨a, e, q⟩ := h; exact ⟨a, ei _ _ e, q⟩
theorem FldIs.grow {K : PySem.W.Frag} {U U' : Wd} (ef : Sub U.F U'.F) (ei : ∀ l a, U.io l = some a → U'.io l = some a) : ∀ {fs : List (Str × D)} {gs : List (Str × V)}, FldIs K U fs gs → FldIs K U' fs gs
  | _, _, .nil => .nil
  | _, _, .cons h t => .cons ⟨h.1, h.2.grow ef ei⟩ (FldIs.grow ef ei t)
theorem ObIs.grow {K : PySem.W.Frag} {U U' : Wd} (ef : Sub U.F U'.F) (ei : ∀ l a, U.io l = some a → U'.io l = some a) {a : Addr} {o : HO} {b : Ob} (h : ObIs K U a o b) : ObIs K U' a o b := by
  cases b with
  | lst ds => obtain ⟨xs, e, r⟩ := h; exact ⟨xs, e, r.sub ef⟩
  | dct kvs =>
    cases o with
    | dK ks => obtain ⟨ds, r, e⟩ := h; exact ⟨ds, r.sub ef, e⟩
    | ext φ => obtain ⟨xs, vs, ds, e, v, r, k, e2⟩ := h; exact ⟨xs, vs, ds, e, v, r.sub ef, k.sub ef, e2⟩
    | _ => exact h.elim
  | ins C fs => obtain ⟨dx, gs, e, hd, r⟩ := h; exact ⟨dx, gs, e, ef _ _ hd, r.grow ef ei⟩
  | tab P q => exact ⟨h.1, h.2.sub ef⟩
theorem ObIs.sub {K : PySem.W.Frag} {U : Wd} {F' : Hp} (s : Sub U.F F') {a : Addr} {o : HO} {b : Ob} (h : ObIs K U a o b) : ObIs K ⟨F', U.io⟩ a o b := ObIs.grow (U' := ⟨F', U.io⟩) s (fun _ _ h => h) h
/-- what an object of the store at l leans on stands ahead of it -/
def RfOk (l : Nat) : Ob → Prop
  | .ins _ fs => ∀ f m, (f, D.r m) ∈ fs → m < l
  | _ => True
theorem FldIs.few {K : PySem.W.Frag} {U U' : Wd} {n : Nat} (ef : U'.F = U.F) (ei : ∀ l a, l < n → U.io l = some a → U'.io l = some a) : ∀ {fs : List (Str × D)} {gs : List (Str × V)}, (∀ f m, (f, D.r m) ∈ fs → m < n) → FldIs K U fs gs → FldIs K U' fs gs
  | _, _, _, .nil => .nil
  | (f, d) :: fs, _, hn, .cons h t => by
    refine .cons ⟨h.1, ?_⟩ (FldIs.few ef ei (fun g m hm => hn g m (List.mem_cons_of_mem _ hm)) t)
    cases d with
    | p x => exact Rp.sub (by rw [ef]; exact Sub.refl _) h.2
    | r l => obtain ⟨a, e, q⟩ := h.2; exact ⟨a, ei l a (hn f l (List.mem_cons_self ..)) e, q⟩
theorem ObIs.few {K : PySem.W.Frag} {U U' : Wd} {n : Nat} (ef : U'.F = U.F) (ei : ∀ l a, l < n → U.io l = some a → U'.io l = some a) {a : Addr} {o : HO} {b : Ob} (hr : RfOk n b) (h : ObIs K U a o b) : ObIs K U' a o b := by
  cases b with
  | lst ds => obtain ⟨xs, e, r⟩ := h; exact ⟨xs, e, by rw [ef]; exact r⟩
  | dct kvs => show DctIs K U'.F a o kvs; rw [ef]; exact h
  | ins C fs => obtain ⟨dx, gs, e, hd, r⟩ := h; exact ⟨dx, gs, e, by rw [ef]; exact hd, r.few ef ei hr⟩
  | tab P q => exact ⟨h.1, by rw [ef]; exact h.2⟩
theorem RfOk.mono {l n : Nat} {b : Ob} (h : RfOk l b) (hl : l ≤ n) : RfOk n b := by
  cases b with
  | ins C fs => exact fun f m hm => Nat.lt_of_lt_of_le (h f m hm) hl
  | _ => trivial

structure Sat (K : PySem.W.Frag) (U : Wd) (S : Sto) (H : Hp) : Prop where
  fz : Le U.F H
  dom : ∀ l a, U.io l = some a → l < S.length
  tot : ∀ l, l < S.length → ∃ a, U.io l = some a
  inj : ∀ l l' a, U.io l = some a → U.io l' = some a → l = l'
  ob : ∀ (l : Nat) (a : Addr) (b : Ob), U.io l = some a → S[l]? = some (some b) → U.F a = none ∧ ∃ o, H a = some o ∧ ObIs K U a o b
  hs : ∀ l a, U.io l = some a → ∃ o, H a = some o
  rf : ∀ (l : Nat) (b : Ob), S[l]? = some (some b) → RfOk l b

structure Step (U : Wd) (H : Hp) (U' : Wd) (H' : Hp) : Prop where
  ef : Sub U.F U'.F
  ei : ∀ l a, U.io l = some a → U'.io l = some a
  fr : ∀ a o, H a = some o → (∀ l, U.io l ≠ some a) → H' a = some o
  ni : ∀ l a, U'.io l = some a → U.io l = some a ∨ H a = none
  nf : ∀ a o, U'.F a = some o → U.F a = some o ∨ H a = none ∨ ∃ l, U.io l = some a
  dm : ∀ a o, H a = some o → ∃ o', H' a = some o'
  ff : ∀ a o o', U.F a = some o' → H a = some o → H' a = some o
/-- what an iterator wants -/
structure Stp (U : Wd) (H : Hp) (U' : Wd) (H' : Hp) : Prop where
  ef : Sub U.F U'.F
  ff : ∀ a o o', U.F a = some o' → H a = some o → H' a = some o
theorem Step.p {U U' : Wd} {H H' : Hp} (t : Step U H U' H') : Stp U H U' H' := ⟨t.ef, t.ff⟩
theorem Stp.refl (U : Wd) (H : Hp) : Stp U H U H := ⟨Sub.refl _, fun _ _ _ _ h => h⟩
theorem Stp.trans {U U1 U2 : Wd} {H H1 H2 : Hp} (a : Stp U H U1 H1) (b : Stp U1 H1 U2 H2) : Stp U H U2 H2 := ⟨a.ef.trans b.ef, fun x o o' f h => b.ff x o o' (a.ef x o' f) (a.ff x o o' f h)⟩
theorem Step.refl (U : Wd) (H : Hp) : Step U H U H := ⟨Sub.refl _, fun _ _ h => h, fun _ _ h _ => h, fun _ _ h => .inl h, fun _ _ h => .inl h, fun _ o h => ⟨o, h⟩, fun _ _ _ _ h => h⟩
theorem Step.trans {U U1 U2 : Wd} {H H1 H2 : Hp} (a : Step U H U1 H1) (b : Step U1 H1 U2 H2) : Step U H U2 H2 where
  ef := a.ef.trans b.ef
  ei := fun l x h => b.ei l x (a.ei l x h)
  fr := fun x o h n => b.fr x o (a.fr x o h n) fun l e => by
    rcases a.ni l x e with q | q
    · exact n l q
    · rw [h] at q; cases q
  ni := fun l x h => by
    rcases b.ni l x h with q | q
    · exact a.ni l x q
    · refine .inr ?_
      cases e : H x with
      | none => rfl
      | some o =>
        obtain ⟨o', e'⟩ := a.dm x o e
        rw [q] at e'; cases e'
  nf := fun x o h => by
    rcases b.nf x o h with q | q | ⟨l, q⟩
    · exact a.nf x o q
    · refine .inr (.inl ?_)
      cases e : H x with
      | none => rfl
      | some o =>
        obtain ⟨o', e'⟩ := a.dm x o e
        rw [q] at e'; cases e'
    · rcases a.ni l x q with z | z
      · exact .inr (.inr ⟨l, z⟩)
      · exact .inr (.inl z)
  dm := fun x o h => by
    obtain ⟨o', e⟩ := a.dm x o h
    exact b.dm x o' e
  ff := fun x o o' f h => b.ff x o o' (a.ef x o' f) (a.ff x o o' f h)

theorem RelD.step {K : PySem.W.Frag} {U U' : Wd} {H H' : Hp} {d : D} {v : V} (s : Step U H U' H') (h : RelD K U d v) : RelD K U' d v := by
  cases d with
  | p x => exact Rp.sub s.ef h
  | r l => obtain ⟨a, e, q⟩ := h; exact ⟨a, s.ei _ _ e, q⟩
def RelDs (K : PySem.W.Frag) (U : Wd) : List D → List V → Prop := Paired (RelD K U)
theorem RelDs.step {K : PySem.W.Frag} {U U' : Wd} {H H' : Hp} (s : Step U H U' H') : ∀ {ds : List D} {vs : List V}, RelDs K U ds vs → RelDs K U' ds vs
  | _, _, .nil => .nil
  | _, _, .cons h t => .cons (h.step s) (RelDs.step s t)
structure RelL (K : PySem.W.Frag) (U : Wd) (ρ : Loc) (σ : St) : Prop where
  len : ρ.length = σ.length
  get : ∀ (i : Nat) (d : D), ρ[i]? = some (some d) → ∃ v, σ[i]? = some (some v) ∧ RelD K U d v
theorem RelL.step {K : PySem.W.Frag} {U U' : Wd} {H H' : Hp} {ρ : Loc} {σ : St} (s : Step U H U' H') (h : RelL K U ρ σ) : RelL K U' ρ σ :=
  ⟨h.len, fun i d e => let ⟨v, q, r⟩ := h.get i d e; ⟨v, q, r.step s⟩⟩
theorem RelL.set {K : PySem.W.Frag} {U : Wd} {ρ : Loc} {σ : St} (h : RelL K U ρ σ) (i : Nat) {d : D} {v : V} (r : RelD K U d v) : RelL K U (ρ.set i (some d)) (σ.set i (some v)) := by
  refine ⟨by simp [h.len], fun j e q => ?_⟩
  by_cases hj : i = j
  · subst hj
    by_cases hl : i < ρ.length
    · rw [List.getElem?_set_self hl] at q
      cases q
      exact ⟨v, by rw [List.getElem?_set_self (by rw [← h.len]; exact hl)], r⟩
    · rw [List.getElem?_eq_none (by simpa using hl)] at q; cases q
  · rw [List.getElem?_set_ne hj] at q
    rw [List.getElem?_set_ne hj]
    exact h.get j e q
theorem RelL.setNone {K : PySem.W.Frag} {U : Wd} {ρ : Loc} {σ : St} (h : RelL K U ρ σ) (i : Nat) : RelL K U (ρ.set i none) (σ.set i none) := by
  refine ⟨by simp [h.len], fun j e q => ?_⟩
  by_cases hj : i = j
  · subst hj
    by_cases hl : i < ρ.length
    · rw [List.getElem?_set_self hl] at q; cases q
    · rw [List.getElem?_eq_none (by simpa using hl)] at q; cases q
  · rw [List.getElem?_set_ne hj] at q
    rw [List.getElem?_set_ne hj]
    exact h.get j e q
theorem RelL.setL {K : PySem.W.Frag} {U : Wd} {ρ : Loc} {σ : St} (h : RelL K U ρ σ) (i : Nat) {d : D} (r : ∀ v, σ[i]? = some (some v) → RelD K U d v) (hs : ∃ e, ρ[i]? = some (some e)) : RelL K U (ρ.set i (some d)) σ := by
  refine ⟨by simp [h.len], fun j e q => ?_⟩
  by_cases hj : i = j
  · subst hj
    obtain ⟨e0, h0⟩ := hs
    obtain ⟨v, hv, _⟩ := h.get _ _ h0
    by_cases hl : i < ρ.length
    · rw [List.getElem?_set_self hl] at q
      cases q
      exact ⟨v, hv, r v hv⟩
    · rw [List.getElem?_eq_none (by simpa using hl)] at q; cases q
  · rw [List.getElem?_set_ne hj] at q
    exact h.get j e q

/-! ### what is wanted of a result -/
def Wants {α : Type} (K : PySem.W.Frag) (E : Nat → Hp → Prop) (U : Wd) (H : Hp) (r : Res α) (k : Wd → Sto → Hp → α → Prop) : Prop := match r with
  | .ok a S => ∀ U' H', Step U H U' H' → Sat K U' S H' → k U' S H' a
  | .exc c S => ∀ U' H', Step U H U' H' → Sat K U' S H' → E c H'
  | .stuck => False
section
variable {K : PySem.W.Frag} {E : Nat → Hp → Prop} {U : Wd} {H : Hp} {α β : Type}
theorem Wants.step {U1 : Wd} {H1 : Hp} {r : Res α} {k : Wd → Sto → Hp → α → Prop} (s : Step U H U1 H1) (h : Wants K E U H r k) : Wants K E U1 H1 r k := by
  cases r with
  | ok a S => exact fun U' H' t q => h U' H' (s.trans t) q
  | exc c S => exact fun U' H' t q => h U' H' (s.trans t) q
  | stuck => exact h
theorem Wants.bind {r : Res α} {f : α → Sto → Res β} {k : Wd → Sto → Hp → β → Prop} (h : Wants K E U H (r.bind f) k) : Wants K E U H r fun U' S' H' a => Wants K E U' H' (f a S') k := by
  cases r with
  | ok a S => exact fun U' H' s q => Wants.step (r := f a S) s h
  | exc c S => exact h
  | stuck => exact h
theorem Wants.mono {r : Res α} {k k' : Wd → Sto → Hp → α → Prop} (h : Wants K E U H r k) (m : ∀ U' S' H' a, Step U H U' H' → Sat K U' S' H' → k U' S' H' a → k' U' S' H' a) : Wants K E U H r k' := by
  cases r with
  | ok a S => exact fun U' H' s q => m U' S H' a s q (h U' H' s q)
  | exc c S => exact h
  | stuck => exact h
theorem Wants.ok {a : α} {S : Sto} {k : Wd → Sto → Hp → α → Prop} (h : Wants K E U H (.ok a S) k) (q : Sat K U S H) : k U S H a := h U H (Step.refl U H) q
end

/-! ### the four changes -/
section
variable {K : PySem.W.Frag} {U : Wd} {S : Sto} {H : Hp}
theorem Sat.no (s : Sat K U S H) {p : Addr} (hp : H p = none) : U.F p = none := by
  cases e : U.F p with
  | none => rfl
  | some o =>
    rcases s.fz p o e with q | ⟨_, q, _⟩
    · rw [hp] at q; cases q
    · rw [hp] at q; cases q
theorem Sat.noi (s : Sat K U S H) {p : Addr} (hp : H p = none) : ∀ l, U.io l ≠ some p := fun l e => by
  obtain ⟨o, q⟩ := s.hs l p e
  rw [hp] at q; cases q
theorem Sub.upd {F : Hp} {p : Addr} {o : HO} (h : F p = none) : Sub F (upd F p o) := fun a u e => by
  rw [upd_ne (ne_of_none e h)]; exact e
/-- a new thing that nobody changes -/
theorem Step.alloc {p : Addr} {o : HO} (hp : H p = none) (hf : U.F p = none) : Step U H ⟨upd U.F p o, U.io⟩ (upd H p o) where
  ef := Sub.upd hf
  ei := fun _ _ h => h
  fr := fun a u h _ => by rw [upd_ne (ne_of_none h hp)]; exact h
  ni := fun _ _ h => .inl h
  nf := fun a u h => by
    by_cases e : a = p
    · subst e; exact .inr (.inl hp)
    · have h' : upd U.F p o a = some u := h
      rw [upd_ne e] at h'; exact .inl h'
  dm := fun a u h => ⟨u, by rw [upd_ne (ne_of_none h hp)]; exact h⟩
  ff := fun a u _ _ h => by rw [upd_ne (ne_of_none h hp)]; exact h
theorem Sat.alloc (s : Sat K U S H) {p : Addr} {o : HO} (hp : H p = none) : Sat K ⟨upd U.F p o, U.io⟩ S (upd H p o) where
  fz := fun a u h => by
    by_cases e : a = p
    · subst e
      have h' : upd U.F a o a = some u := h
      rw [upd_same] at h'; cases h'
      exact .inl upd_same
    · have h' : upd U.F p o a = some u := h
      rw [upd_ne e] at h'
      rcases s.fz a u h' with q | ⟨z, q, iz⟩
      · exact .inl (by rw [upd_ne e]; exact q)
      · exact .inr ⟨z, by rw [upd_ne e]; exact q, iz⟩
  dom := s.dom
  tot := s.tot
  inj := s.inj
  ob := fun l a b h q => by
    obtain ⟨h1, u, h2, h3⟩ := s.ob l a b h q
    have e : a ≠ p := ne_of_none h2 hp
    exact ⟨by show upd U.F p o a = none; rw [upd_ne e]; exact h1, u, by rw [upd_ne e]; exact h2, h3.sub (Sub.upd (s.no hp))⟩
  hs := fun l a h => by
    obtain ⟨u, q⟩ := s.hs l a h
    exact ⟨u, by rw [upd_ne (ne_of_none q hp)]; exact q⟩
  rf := s.rf
/-- a new thing that will be changed -/
def Wd.more (U : Wd) (n : Nat) (p : Addr) : Wd := ⟨U.F, fun l => if l = n then some p else U.io l⟩
theorem Step.new (s : Sat K U S H) {p : Addr} {o : HO} (hp : H p = none) : Step U H (U.more S.length p) (upd H p o) where
  ef := Sub.refl _
  ei := fun l a h => by
    show (if l = S.length then some p else U.io l) = some a
    rw [if_neg (Nat.ne_of_lt (s.dom l a h))]; exact h
  fr := fun a u h _ => by rw [upd_ne (ne_of_none h hp)]; exact h
  ni := fun l a h => by
    have h' : (if l = S.length then some p else U.io l) = some a := h
    by_cases e : l = S.length
    · rw [if_pos e] at h'; cases h'; exact .inr hp
    · rw [if_neg e] at h'; exact .inl h'
  nf := fun _ _ h => .inl h
  dm := fun a u h => ⟨u, by rw [upd_ne (ne_of_none h hp)]; exact h⟩
  ff := fun a u _ _ h => by rw [upd_ne (ne_of_none h hp)]; exact h
theorem Wd.more_last (U : Wd) (n : Nat) (p : Addr) : (U.more n p).io n = some p := if_pos rfl
theorem Sat.new (s : Sat K U S H) {p : Addr} {o : HO} {b : Ob} (hp : H p = none) (ho : ObIs K U p o b) (hr : RfOk S.length b) : Sat K (U.more S.length p) (S ++ [some b]) (upd H p o) where
  fz := fun a u h => by
    have e : a ≠ p := fun e => by
      subst e
      have := s.no hp
      rw [show U.F a = some u from h] at this; cases this
    rcases s.fz a u h with q | ⟨z, q, iz⟩
    · exact .inl (by rw [upd_ne e]; exact q)
    · exact .inr ⟨z, by rw [upd_ne e]; exact q, iz⟩
  dom := fun l a h => by
    have h' : (if l = S.length then some p else U.io l) = some a := h
    rw [List.length_append, List.length_singleton]
    by_cases e : l = S.length
    · omega
    · rw [if_neg e] at h'
      have := s.dom l a h'; omega
  tot := fun l h => by
    rw [List.length_append, List.length_singleton] at h
    show ∃ a, (if l = S.length then some p else U.io l) = some a
    by_cases e : l = S.length
    · exact ⟨p, if_pos e⟩
    · rw [if_neg e]; exact s.tot l (by omega)
  inj := fun l l' a h h' => by
    have h1 : (if l = S.length then some p else U.io l) = some a := h
    have h2 : (if l' = S.length then some p else U.io l') = some a := h'
    by_cases e : l = S.length
    · by_cases e' : l' = S.length
      · rw [e, e']
      · rw [if_pos e] at h1; rw [if_neg e'] at h2
        cases h1
        exact absurd h2 (s.noi hp l')
    · by_cases e' : l' = S.length
      · rw [if_neg e] at h1; rw [if_pos e'] at h2
        cases h2
        exact absurd h1 (s.noi hp l)
      · rw [if_neg e] at h1; rw [if_neg e'] at h2
        exact s.inj l l' a h1 h2
  ob := fun l a c h q => by
    have h1 : (if l = S.length then some p else U.io l) = some a := h
    by_cases e : l = S.length
    · rw [if_pos e] at h1; cases h1
      subst e
      rw [List.getElem?_append_right (Nat.le_refl _)] at q
      simp at q
      subst q
      exact ⟨s.no hp, o, upd_same, ObIs.grow (U := U) (U' := U.more S.length p) (Sub.refl _) (Step.new (o := o) s hp).ei ho⟩
    · rw [if_neg e] at h1
      have hl := s.dom l a h1
      rw [List.getElem?_append_left hl] at q
      obtain ⟨z1, u, z2, z3⟩ := s.ob l a c h1 q
      exact ⟨z1, u, by rw [upd_ne (ne_of_none z2 hp)]; exact z2, ObIs.grow (U := U) (U' := U.more S.length p) (Sub.refl _) (Step.new (o := o) s hp).ei z3⟩
  hs := fun l a h => by
    have h1 : (if l = S.length then some p else U.io l) = some a := h
    by_cases e : l = S.length
    · rw [if_pos e] at h1; cases h1
      exact ⟨o, upd_same⟩
    · rw [if_neg e] at h1
      obtain ⟨u, q⟩ := s.hs l a h1
      exact ⟨u, by rw [upd_ne (ne_of_none q hp)]; exact q⟩
  rf := fun l c q => by
    by_cases e : l < S.length
    · rw [List.getElem?_append_left e] at q
      exact s.rf l c q
    · have hl := (List.getElem?_eq_some_iff.mp q).1
      rw [List.length_append, List.length_singleton] at hl
      have : l = S.length := by omega
      subst this
      rw [List.getElem?_append_right (Nat.le_refl _)] at q
      simp at q
      subst q
      exact hr
/-- a thing is changed -/
theorem Step.put {l : Nat} {a : Addr} {o : HO} (h : U.io l = some a) (hF : U.F a = none) : Step U H U (upd H a o) where
  ef := Sub.refl _
  ei := fun _ _ h => h
  fr := fun b u q n => by rw [upd_ne (fun e => n l (by rw [e]; exact h))]; exact q
  ni := fun _ _ h => .inl h
  nf := fun _ _ h => .inl h
  dm := fun b u q => by
    by_cases e : b = a
    · subst e; exact ⟨o, upd_same⟩
    · exact ⟨u, by rw [upd_ne e]; exact q⟩
  ff := fun b u u' f q => by rw [upd_ne (fun e => by rw [e, hF] at f; cases f)]; exact q
theorem Sat.put (s : Sat K U S H) {l : Nat} {a : Addr} {o : HO} {b c : Ob} (h : U.io l = some a) (hb : S[l]? = some (some b)) (ho : ObIs K U a o c) (hr : RfOk l c) : Sat K U (S.set l (some c)) (upd H a o) where
  fz := fun x u q => by
    have e : x ≠ a := fun e => by
      have := (s.ob l a b h hb).1
      rw [← e, q] at this; cases this
    rcases s.fz x u q with z | ⟨w, z, iz⟩
    · exact .inl (by rw [upd_ne e]; exact z)
    · exact .inr ⟨w, by rw [upd_ne e]; exact z, iz⟩
  dom := fun l' x q => by rw [List.length_set]; exact s.dom l' x q
  tot := fun l' q => by rw [List.length_set] at q; exact s.tot l' q
  inj := s.inj
  ob := fun l' x d q z => by
    by_cases e : l = l'
    · subst e
      rw [h] at q; cases q
      rw [List.getElem?_set_self (s.dom l a h)] at z
      cases z
      exact ⟨(s.ob l a b h hb).1, o, upd_same, ho⟩
    · rw [List.getElem?_set_ne e] at z
      obtain ⟨z1, u, z2, z3⟩ := s.ob l' x d q z
      have ne : x ≠ a := fun y => e (s.inj l l' a h (by rw [← y]; exact q))
      exact ⟨z1, u, by rw [upd_ne ne]; exact z2, z3⟩
  hs := fun l' x q => by
    by_cases e : x = a
    · subst e; exact ⟨o, upd_same⟩
    · obtain ⟨u, z⟩ := s.hs l' x q
      exact ⟨u, by rw [upd_ne e]; exact z⟩
  rf := fun l' d z => by
    by_cases e : l = l'
    · subst e
      rw [List.getElem?_set_self (s.dom l a h)] at z
      cases z
      exact hr
    · rw [List.getElem?_set_ne e] at z
      exact s.rf l' d z
/-- from now on nobody changes it -/
theorem Step.freeze {l : Nat} {a : Addr} {o : HO} (h : U.io l = some a) (hf : U.F a = none) : Step U H ⟨upd U.F a o, U.io⟩ H where
  ef := Sub.upd hf
  ei := fun _ _ h => h
  fr := fun _ _ h _ => h
  ni := fun _ _ h => .inl h
  nf := fun b u q => by
    by_cases e : b = a
    · exact .inr (.inr ⟨l, by rw [e]; exact h⟩)
    · have q' : upd U.F a o b = some u := q
      rw [upd_ne e] at q'; exact .inl q'
  dm := fun _ o h => ⟨o, h⟩
  ff := fun _ _ _ _ h => h
theorem Sat.freeze (s : Sat K U S H) {l : Nat} {a : Addr} {o : HO} {b : Ob} (h : U.io l = some a) (hb : S[l]? = some (some b)) (ho : H a = some o) : Sat K ⟨upd U.F a o, U.io⟩ (S.set l none) H where
  fz := fun x u q => by
    have q' : upd U.F a o x = some u := q
    by_cases e : x = a
    · subst e; rw [upd_same] at q'; cases q'; exact .inl ho
    · rw [upd_ne e] at q'; exact s.fz x u q'
  dom := fun l' x q => by rw [List.length_set]; exact s.dom l' x q
  tot := fun l' q => by rw [List.length_set] at q; exact s.tot l' q
  inj := s.inj
  ob := fun l' x d q z => by
    by_cases e : l = l'
    · subst e
      rw [List.getElem?_set_self (s.dom l a h)] at z; cases z
    · rw [List.getElem?_set_ne e] at z
      obtain ⟨z1, u, z2, z3⟩ := s.ob l' x d q z
      have ne : x ≠ a := fun y => e (s.inj l l' a h (by rw [← y]; exact q))
      exact ⟨by show upd U.F a o x = none; rw [upd_ne ne]; exact z1, u, z2, z3.sub (Sub.upd (s.ob l a b h hb).1)⟩
  hs := s.hs
  rf := fun l' d z => by
    by_cases e : l = l'
    · subst e
      rw [List.getElem?_set_self (s.dom l a h)] at z; cases z
    · rw [List.getElem?_set_ne e] at z
      exact s.rf l' d z
/-- what a def made is let go at its end -/
def Wd.cut (U : Wd) (n : Nat) : Wd := ⟨U.F, fun l => if l < n then U.io l else none⟩
theorem Sat.cut (s : Sat K U S H) (n : Nat) : Sat K (U.cut n) (S.take n) H where
  fz := s.fz
  dom := fun l a h => by
    have h' : (if l < n then U.io l else none) = some a := h
    by_cases e : l < n
    · rw [if_pos e] at h'
      have := s.dom l a h'
      rw [List.length_take]; omega
    · rw [if_neg e] at h'; cases h'
  tot := fun l h => by
    rw [List.length_take] at h
    show ∃ a, (if l < n then U.io l else none) = some a
    rw [if_pos (by omega)]
    exact s.tot l (by omega)
  inj := fun l l' a h h' => by
    have h1 : (if l < n then U.io l else none) = some a := h
    have h2 : (if l' < n then U.io l' else none) = some a := h'
    by_cases e : l < n
    · by_cases e' : l' < n
      · rw [if_pos e] at h1; rw [if_pos e'] at h2
        exact s.inj l l' a h1 h2
      · rw [if_neg e'] at h2; cases h2
    · rw [if_neg e] at h1; cases h1
  ob := fun l a b h q => by
    have h1 : (if l < n then U.io l else none) = some a := h
    by_cases e : l < n
    · rw [if_pos e] at h1
      rw [List.getElem?_take_of_lt e] at q
      obtain ⟨z1, u, z2, z3⟩ := s.ob l a b h1 q
      refine ⟨z1, u, z2, ObIs.few (U := U) (U' := U.cut n) (n := l) rfl (fun k x hk hx => ?_) (s.rf l b q) z3⟩
      show (if k < n then U.io k else none) = some x
      rw [if_pos (by omega)]; exact hx
    · rw [if_neg e] at h1; cases h1
  hs := fun l a h => by
    have h1 : (if l < n then U.io l else none) = some a := h
    by_cases e : l < n
    · rw [if_pos e] at h1; exact s.hs l a h1
    · rw [if_neg e] at h1; cases h1
  rf := fun l b q => by
    by_cases e : l < n
    · rw [List.getElem?_take_of_lt e] at q
      exact s.rf l b q
    · rw [List.getElem?_eq_none (by rw [List.length_take]; omega)] at q; cases q
theorem Step.cut {U0 : Wd} {H0 : Hp} {n : Nat} (t : Step U0 H0 U H) (d : ∀ l a, U0.io l = some a → l < n) : Step U0 H0 (U.cut n) H where
  ef := t.ef
  ei := fun l a h => by
    show (if l < n then U.io l else none) = some a
    rw [if_pos (d l a h)]; exact t.ei l a h
  fr := t.fr
  ni := fun l a h => by
    have h1 : (if l < n then U.io l else none) = some a := h
    by_cases e : l < n
    · rw [if_pos e] at h1; exact t.ni l a h1
    · rw [if_neg e] at h1; cases h1
  nf := t.nf
  dm := t.dm
  ff := t.ff
theorem Rd.le {F H : Hp} {a : Addr} {xs : List V} (s : Le F H) (h : Rd F a (.lst xs)) : Rd H a (.lst xs) := by
  rcases h with h | ⟨o, h⟩
  · rcases s _ _ h with q | ⟨z, q, e⟩
    · exact .inl q
    · cases e
  · rcases s _ _ h with q | ⟨z, q, e⟩
    · exact .inr ⟨o, q⟩
    · cases e
theorem SqT.le {F H : Hp} {a : Addr} {xs : List V} {ds : List PyData} (s : Le F H) (h : SqN K F a xs ds) : SqT K H a xs := by
  rcases h.1 with (h | ⟨o, h⟩) | h
  · rcases s _ _ h with q | ⟨z, q, e⟩
    · exact .inl (.inl q)
    · cases e
  · rcases s _ _ h with q | ⟨z, q, e⟩
    · exact .inl (.inr ⟨o, q⟩)
    · cases e
  · exact .inr h
theorem GoodT.le {F H : Hp} {a : Addr} {xs : List V} (s : Le F H) (h : GoodT F a xs) : GoodT H a xs := by
  obtain ⟨o, h, d⟩ := h
  rcases s _ _ h with q | ⟨z, q, e⟩
  · exact ⟨o, q, d⟩
  · cases e
end
theorem RpAll.length {K : PySem.W.Frag} {F : Hp} : ∀ {vs : List V} {ds : List PyData}, RpAll K F vs ds → vs.length = ds.length
  | _, _, .nil => rfl
  | _, _, .cons _ t => by rw [List.length_cons, List.length_cons, RpAll.length t]
theorem RpAll.get {K : PySem.W.Frag} {F : Hp} : ∀ {vs : List V} {ds : List PyData} {i : Nat} {x : PyData}, RpAll K F vs ds → ds[i]? = some x → ∃ v, vs[i]? = some v ∧ Rp K F v x
  | _, _, _, _, .nil, e => by simp at e
  | _, _, 0, _, .cons r _, e => by simp at e; subst e; exact ⟨_, rfl, r⟩
  | _, _, i + 1, x, .cons _ t, e => by
    obtain ⟨u, h1, h2⟩ := RpAll.get (i := i) (x := x) t (by simpa using e)
    exact ⟨u, by simpa using h1, h2⟩
theorem RpAll.getV {K : PySem.W.Frag} {F : Hp} : ∀ {vs : List V} {ds : List PyData} {i : Nat} {v : V}, RpAll K F vs ds → vs[i]? = some v → ∃ x, ds[i]? = some x ∧ Rp K F v x
  | _, _, _, _, .nil, e => by simp at e
  | _, _, 0, _, .cons r _, e => by simp at e; subst e; exact ⟨_, rfl, r⟩
  | _, _, i + 1, x, .cons _ t, e => by
    obtain ⟨u, h1, h2⟩ := RpAll.getV (i := i) (v := x) t (by simpa using e)
    exact ⟨u, by simpa using h1, h2⟩
theorem RpAll.append {K : PySem.W.Frag} {F : Hp} : ∀ {vs ws : List V} {ds es : List PyData}, RpAll K F vs ds → RpAll K F ws es → RpAll K F (vs ++ ws) (ds ++ es)
  | _, _, _, _, .nil, s => s
  | _, _, _, _, .cons r t, s => .cons r (RpAll.append t s)
theorem RpAll.take {K : PySem.W.Frag} {F : Hp} : ∀ {vs : List V} {ds : List PyData} (n : Nat), RpAll K F vs ds → RpAll K F (vs.take n) (ds.take n)
  | _, _, 0, _ => .nil
  | _, _, _ + 1, .nil => .nil
  | _, _, n + 1, .cons r t => .cons r (RpAll.take n t)
theorem RpAll.drop {K : PySem.W.Frag} {F : Hp} : ∀ {vs : List V} {ds : List PyData} (n : Nat), RpAll K F vs ds → RpAll K F (vs.drop n) (ds.drop n)
  | _, _, 0, r => r
  | _, _, _ + 1, .nil => .nil
  | _, _, n + 1, .cons _ t => RpAll.drop n t
theorem RpAll.set {K : PySem.W.Frag} {F : Hp} {v : V} {d : PyData} (r : Rp K F v d) : ∀ {vs : List V} {ds : List PyData} (i : Nat), RpAll K F vs ds → RpAll K F (vs.set i v) (ds.set i d)
  | _, _, _, .nil => .nil
  | _, _, 0, .cons _ t => .cons r t
  | _, _, i + 1, .cons q t => .cons q (RpAll.set r i t)
theorem RpAll.reverse {K : PySem.W.Frag} {F : Hp} {vs : List V} {ds : List PyData} (h : RpAll K F vs ds) : RpAll K F vs.reverse ds.reverse := by
  induction ds generalizing vs with
  | nil => cases h; exact .nil
  | cons d ds ih =>
    cases h with
    | cons r t => rw [List.reverse_cons, List.reverse_cons]; exact RpAll.append (ih t) (.cons r .nil)
end G


namespace G
open PySem L2

abbrev ME := Loc → Sto → Res D
abbrev MT := Loc → Sto → Res Bool
abbrev MA := Loc → Sto → Res (List D)
abbrev MI := Loc → Sto → Res (List PyData)
inductive Fl where
  | nx | rt (d : D) | bk | ct
abbrev MS := Loc → Sto → Res (Fl × Loc)
abbrev MG := D → Loc → Sto → Res Loc
abbrev Fn := List D → Sto → Res D
abbrev EX := Nat → Hp → Prop
def E1 : EX := fun _ _ => False
def Res.nox {α : Type} (r : Res α) : Res α := match r with
  | .ok a S => .ok a S
  | _ => .stuck
theorem Wants.nox {α : Type} {K : PySem.W.Frag} {E E' : EX} {U : Wd} {H : Hp} {r : Res α} {k : Wd → Sto → Hp → α → Prop} (h : Wants K E U H r.nox k) : Wants K E' U H r k := by
  cases r with
  | ok a S => exact h
  | exc c S => exact False.elim h
  | stuck => exact h
theorem Wants.noxb {α β : Type} {K : PySem.W.Frag} {E E' : EX} {U : Wd} {H : Hp} {r : Res α} {f : α → Sto → Res β} {k : Wd → Sto → Hp → β → Prop} (h : Wants K E U H (r.nox.bind f) k) : Wants K E' U H r fun U' S' H' a => Wants K E U' H' (f a S') k := by
  cases r with
  | ok a S => exact fun U' H' s q => Wants.step (r := f a S) s h
  | exc c S => exact False.elim h
  | stuck => exact h

section
variable (K : PySem.W.Frag) (E : EX)
def KD (Q : VK) : Wd → Sto → Hp → D → Prop := fun U' _ H' d => ∀ v, RelD K U' d v → Q v H'
def ImpE (t : TE) (m : ME) : Prop := ∀ (U : Wd) (S : Sto) (H : Hp) (σ : L2.St) (ρ : Loc) (Q : VK), Sat K U S H → RelL K U ρ σ → Wants K E U H (m ρ S) (KD K Q) → t σ H Q
def ImpT (t : TT) (m : MT) : Prop := ∀ (U : Wd) (S : Sto) (H : Hp) (σ : L2.St) (ρ : Loc) (Q : Bool → Hp → Prop), Sat K U S H → RelL K U ρ σ → Wants K E U H (m ρ S) (fun _ _ H' b => Q b H') → t σ H Q
def ImpA (t : TA) (m : MA) : Prop := ∀ (U : Wd) (S : Sto) (H : Hp) (σ : L2.St) (ρ : Loc) (Q : List V → Hp → Prop), Sat K U S H → RelL K U ρ σ → Wants K E U H (m ρ S) (fun U' _ H' ds => ∀ vs, RelDs K U' ds vs → Q vs H') → t σ H Q
def EndOf (U : Wd) (H : Hp) (N : Ends) (σ : L2.St) : Fl → Prop
  | .nx => N.nx σ H
  | .rt d => ∀ v, RelD K U d v → N.rt v H
  | .bk => N.bk σ H
  | .ct => N.ct σ H
def KS (N : Ends) : Wd → Sto → Hp → Fl × Loc → Prop := fun U' _ H' r => ∀ σ', RelL K U' r.2 σ' → EndOf K U' H' N σ' r.1
def ImpS (t : TS) (m : MS) : Prop := ∀ (U : Wd) (S : Sto) (H : Hp) (σ : L2.St) (ρ : Loc) (N : Ends), Sat K U S H → RelL K U ρ σ → Wants K E U H (m ρ S) (KS K N) → t N σ H
def Only (ws : List Nat) (σ σ' : L2.St) : Prop := σ'.length = σ.length ∧ ∀ i, i ∉ ws → σ'[i]? = σ[i]?
def ImpG (ws : List Nat) (t : TG) (g : MG) : Prop := ∀ (U : Wd) (S : Sto) (H : Hp) (σ : L2.St) (ρ : Loc) (v : V) (d : D) (Q : L2.St → Hp → Prop), Sat K U S H → RelL K U ρ σ → RelD K U d v →
  Wants K E U H (g d ρ S) (fun U' _ H' ρ' => ∀ σ', RelL K U' ρ' σ' → Only ws σ σ' → Q σ' H') → t v σ H Q
/-- an iterator that gives these -/
def Runs (U : Wd) (H : Hp) (J : It) (xs : List PyData) : Prop := ∀ (U' : Wd) (S' : Sto) (H' : Hp) (i : Nat), Stp U H U' H' → Sat K U' S' H' →
  (i = xs.length → J.stop i H') ∧ ∀ x, xs[i]? = some x → J.go i H' ∧ ∀ v H'', J.yld i H' v H'' → ∃ U'', Step U' H' U'' H'' ∧ Sat K U'' S' H'' ∧ Rp K U''.F v x
def ImpI (t : TI) (m : MI) : Prop := ∀ (U : Wd) (S : Sto) (H : Hp) (σ : L2.St) (ρ : Loc) (R : It → Hp → Prop), Sat K U S H → RelL K U ρ σ → Wants K E U H (m ρ S) (fun U' _ H' xs => ∀ J, Runs K U' H' J xs → R J H') → t σ H R
end

structure IE (X : Cx) (E : EX) (e : Expr) (m : ME) : Prop where
  ex : ∃ t, PE X e t ∧ ImpE X.K E t m
structure IT (X : Cx) (E : EX) (e : Expr) (m : MT) : Prop where
  ex : ∃ t, PT X e t ∧ ImpT X.K E t m
structure IW (X : Cx) (E : EX) (e : Expr) (m : MT) : Prop where
  ex : ∃ t, PW X e t ∧ ImpT X.K E t m
structure IA (X : Cx) (E : EX) (es : List Expr) (m : MA) : Prop where
  ex : ∃ t, PA X es t ∧ ImpA X.K E t m
  len : ∀ ρ S ds S', m ρ S = .ok ds S' → ds.length = es.length
structure IS (X : Cx) (E : EX) (st : Stmt) (m : MS) : Prop where
  ex : ∃ t, PS X st t ∧ ImpS X.K E t m
structure ISs (X : Cx) (E : EX) (st : List Stmt) (m : MS) : Prop where
  ex : ∃ t, PSs X st t ∧ ImpS X.K E t m
structure IG (X : Cx) (E : EX) (ws : List Nat) (e : Expr) (g : MG) : Prop where
  ex : ∃ t, PG X e t ∧ ImpG X.K E ws t g
structure II (X : Cx) (E : EX) (tg e : Expr) (m : MI) : Prop where
  ex : ∃ t, PI X tg e t ∧ ImpI X.K E t m

/-! ### names and constants -/
def mC (x : PyData) : ME := fun _ S => .ok (.p x) S
def mVar (i : Nat) : ME := fun ρ S => match ρ[i]? with
  | some (some d) => .ok d S
  | _ => .stuck
section
variable {X : Cx} {E : EX} {pos : Pos} {a b c e : Expr} {es : List Expr} {ma mb mc : ME}
theorem impC {K : PySem.W.Frag} {v : V} {x : PyData} (h : ∀ F, Rp K F v x) : ImpE K E (tC v) (mC x) := fun U S H σ ρ Q s _ w => (w.ok s) v (h _)
theorem ie_var {i : Nat} {x : Str} (h : PE X (.Name x pos) (tVar i)) : IE X E (.Name x pos) (mVar i) := by
  refine ⟨_, h, fun U S H σ ρ Q s rl w => ?_⟩
  unfold mVar at w
  split at w
  · next d e =>
    obtain ⟨v, q, r⟩ := rl.get i d e
    exact ⟨v, q, (w.ok s) v r⟩
  · exact False.elim w
theorem iv (i : Nat) {x : Str} (hN : X.N[i]? = some x := by rfl) (hv : Vis X.env.scope x := by first | exact Or.inl rfl | exact Or.inr (Or.inl rfl) | exact Or.inr (Or.inr rfl)) (hd : (x == ("__debug__" : Str)) = false := by decide)
    (hcd : (x == ("__classdict__" : Str)) = false := by decide) : IE X E (.Name x pos) (mVar i) := ie_var (pe_var hN hv hd hcd)
theorem ie_int {i : Int} {j : Nat} : IE X E (.Constant (.int i) j pos) (mC (.int i)) := ⟨_, pe_int, impC fun _ => .int i⟩
theorem ie_bl {i : Bool} {j : Nat} : IE X E (.Constant (.bool i) j pos) (mC (.bool i)) := ⟨_, pe_bl, impC fun _ => .bl i⟩
theorem ie_non {j : Nat} : IE X E (.Constant .none j pos) (mC .none) := ⟨_, pe_non, impC fun _ => .non⟩
theorem ie_str {x : Str} {j : Nat} : IE X E (.Constant (.str x) j pos) (mC (.str x)) := ⟨_, pe_str, impC fun _ => .str x⟩
theorem ie_globI {x : Str} {i : Int} {u : Value} (hg : Gl X x) (hm : X.mg x = some u) (r : RelV (.int i) u) (hd : (x == ("__debug__" : Str)) = false := by decide) : IE X E (.Name x pos) (mC (.int i)) := ⟨_, pe_glob hg hm r hd, impC fun _ => .int i⟩

/-! ### operators -/
def m2 (g : D → D → Sto → Res D) (ma mb : ME) : ME := fun ρ S => (ma ρ S).bind fun d S1 => (mb ρ S1).bind fun e S2 => g d e S2
def m1 (g : D → Sto → Res D) (ma : ME) : ME := fun ρ S => (ma ρ S).bind fun d S1 => g d S1
def ImpO (K : PySem.W.Frag) (E : EX) (r : R2) (g : D → D → Sto → Res D) : Prop := ∀ (U : Wd) (S : Sto) (H : Hp) (x y : V) (d e : D) (Q : VK), Sat K U S H → RelD K U d x → RelD K U e y → Wants K E U H (g d e S) (KD K Q) → r x y H Q
def ImpU (K : PySem.W.Frag) (E : EX) (r : V → Hp → VK → Prop) (g : D → Sto → Res D) : Prop := ∀ (U : Wd) (S : Sto) (H : Hp) (x : V) (d : D) (Q : VK), Sat K U S H → RelD K U d x → Wants K E U H (g d S) (KD K Q) → r x H Q
theorem imp2 {K : PySem.W.Frag} {r : R2} {g : D → D → Sto → Res D} {ta tb : TE} (hg : ImpO K E r g) (ia : ImpE K E ta ma) (ib : ImpE K E tb mb) : ImpE K E (tOp r ta tb) (m2 g ma mb) :=
  fun U S H σ ρ Q s rl w => ia U S H σ ρ _ s rl (w.bind.mono fun U1 S1 H1 d st1 s1 w1 v rv => ib U1 S1 H1 σ ρ _ s1 (rl.step st1) (w1.bind.mono fun U2 S2 H2 e st2 s2 w2 u ru => hg U2 S2 H2 v u d e Q s2 (rv.step st2) ru w2))
theorem ie_op {op : Operator} {r : R2} {g : D → D → Sto → Res D} (ho : OpR X (binaryOp op) r) (hg : ImpO X.K E r g) (ha : IE X E a ma) (hb : IE X E b mb) : IE X E (.BinOp a op b pos) (m2 g ma mb) := by
  obtain ⟨ta, pa, ia⟩ := ha
  obtain ⟨tb, pb, ib⟩ := hb
  exact ⟨_, pe_op ho pa pb, imp2 hg ia ib⟩
theorem ie_un {op : UnaryOp} {r : V → Hp → VK → Prop} {g : D → Sto → Res D} (ho : UnR X (unaryOp op) r) (hg : ImpU X.K E r g) (ha : IE X E a ma) : IE X E (.UnaryOp op a pos) (m1 g ma) := by
  obtain ⟨ta, pa, ia⟩ := ha
  exact ⟨_, pe_un ho pa, fun U S H σ ρ Q s rl w => ia U S H σ ρ _ s rl (w.bind.mono fun U1 S1 H1 d st1 s1 w1 v rv => hg U1 S1 H1 v d Q s1 rv w1)⟩
theorem ie_cmp {op : CmpOp} {r : R2} {g : D → D → Sto → Res D} (ho : OpR X (compareOp op) r) (hg : ImpO X.K E r g) (ha : IE X E a ma) (hb : IE X E b mb) (hm : behindInMarks op b = false) : IE X E (.Compare a [op] [b] pos) (m2 g ma mb) := by
  obtain ⟨ta, pa, ia⟩ := ha
  obtain ⟨tb, pb, ib⟩ := hb
  exact ⟨_, pe_cmpR ho pa pb hm, imp2 hg ia ib⟩
theorem ie_ix {r : R2} {g : D → D → Sto → Res D} (ho : IxR X r) (hg : ImpO X.K E r g) (ha : IE X E a ma) (hb : IE X E b mb) (hs : PlainIx b) : IE X E (.Subscript a b pos) (m2 g ma mb) := by
  obtain ⟨ta, pa, ia⟩ := ha
  obtain ⟨tb, pb, ib⟩ := hb
  exact ⟨_, pe_ix ho pa pb hs, imp2 hg ia ib⟩

/-! ### tests -/
def toB (d : D) (S : Sto) : Res Bool := match d with
  | .p (.bool b) => .ok b S
  | _ => .stuck
def mTest (m : ME) : MT := fun ρ S => (m ρ S).bind toB
theorem impTest {K : PySem.W.Frag} {t : TE} (h : ImpE K E t ma) : ImpT K E (fun σ H Q => t σ H fun x H' => ∃ k, x = .bl k ∧ Q k H') (mTest ma) := by
  intro U S H σ ρ Q s rl w
  refine h U S H σ ρ _ s rl (w.bind.mono fun U1 S1 H1 d st1 s1 w1 v rv => ?_)
  unfold toB at w1
  split at w1
  · next b =>
    cases rv
    exact ⟨b, rfl, w1.ok s1⟩
  · exact False.elim w1
theorem it_val (h : IE X E e ma) (he : ∀ whole, isTrue e X.env whole = (do let v ← whole; standAt e.pos; holding [v] (truthy v)) := by intro _; rfl) : IT X E e (mTest ma) := by
  obtain ⟨t, p, i⟩ := h
  exact ⟨_, pt_val p he, impTest i⟩
theorem it_cmp {op : CmpOp} {r : R2} {g : D → D → Sto → Res D} (ho : OpR X (compareOp op) r) (hg : ImpO X.K E r g) (ha : IE X E a ma) (hb : IE X E b mb) (hm : behindInMarks op b = false) : IT X E (.Compare a [op] [b] pos) (mTest (m2 g ma mb)) := by
  obtain ⟨ta, pa, ia⟩ := ha
  obtain ⟨tb, pb, ib⟩ := hb
  exact ⟨_, pt_cmpR ho pa pb hm, impTest (imp2 hg ia ib)⟩
def mChain (g g' : D → D → Sto → Res D) (ma mb mc : ME) : ME := fun ρ S => (ma ρ S).bind fun d S1 => (mb ρ S1).bind fun e S2 => (g d e S2).bind fun z S3 => (toB z S3).bind fun k S4 =>
  if k = true then (mc ρ S4).bind fun f S5 => g' e f S5 else .ok (.p (.bool false)) S4
theorem impChain {K : PySem.W.Frag} {r r' : R2} {g g' : D → D → Sto → Res D} {ta tb tc : TE} (hg : ImpO K E r g) (hg' : ImpO K E r' g') (ia : ImpE K E ta ma) (ib : ImpE K E tb mb) (ic : ImpE K E tc mc) : ImpE K E (tChain r r' ta tb tc) (mChain g g' ma mb mc) := by
  intro U S H σ ρ Q s rl w
  refine ia U S H σ ρ _ s rl (w.bind.mono fun U1 S1 H1 d st1 s1 w1 v rv => ib U1 S1 H1 σ ρ _ s1 (rl.step st1) (w1.bind.mono fun U2 S2 H2 e st2 s2 w2 u ru => ?_))
  refine hg U2 S2 H2 v u d e _ s2 (rv.step st2) ru (w2.bind.mono fun U3 S3 H3 z st3 s3 w3 y ry => ?_)
  unfold toB at w3
  split at w3
  · next k =>
    cases ry
    refine ⟨k, rfl, ?_⟩
    cases k with
    | true =>
      exact ic U3 S3 H3 σ ρ _ s3 (((rl.step st1).step st2).step st3) (Wants.mono (Wants.bind w3) fun U4 S4 H4 f st4 s4 w4 q rq => hg' U4 S4 H4 u q e f Q s4 ((ru.step st3).step st4) rq w4)
    | false => exact (Wants.ok w3 s3) _ (.bl false)
  · exact False.elim w3
theorem ie_chain {op op' : CmpOp} {r r' : R2} {g g' : D → D → Sto → Res D} (ho : OpR X (compareOp op) r) (hg : ImpO X.K E r g) (ho' : OpR X (compareOp op') r') (hg' : ImpO X.K E r' g') (ha : IE X E a ma) (hb : IE X E b mb) (hc : IE X E c mc)
    (hm : lastMarks [op, op'] [b, c] = false := by with_unfolding_all rfl) : IE X E (.Compare a [op, op'] [b, c] pos) (mChain g g' ma mb mc) := by
  obtain ⟨ta, pa, ia⟩ := ha
  obtain ⟨tb, pb, ib⟩ := hb
  obtain ⟨tc, pc, ic⟩ := hc
  exact ⟨_, pe_chain ho ho' pa pb pc hm, impChain hg hg' ia ib ic⟩
theorem it_chain {op op' : CmpOp} {r r' : R2} {g g' : D → D → Sto → Res D} (ho : OpR X (compareOp op) r) (hg : ImpO X.K E r g) (ho' : OpR X (compareOp op') r') (hg' : ImpO X.K E r' g') (ha : IE X E a ma) (hb : IE X E b mb) (hc : IE X E c mc)
    (hm : lastMarks [op, op'] [b, c] = false := by with_unfolding_all rfl) : IT X E (.Compare a [op, op'] [b, c] pos) (mTest (mChain g g' ma mb mc)) := by
  obtain ⟨ta, pa, ia⟩ := ha
  obtain ⟨tb, pb, ib⟩ := hb
  obtain ⟨tc, pc, ic⟩ := hc
  exact ⟨_, pt_chain ho ho' pa pb pc hm, impTest (impChain hg hg' ia ib ic)⟩
variable {na nb : MT} {rest : List Expr}
def mNot (m : MT) : MT := fun ρ S => (m ρ S).bind fun b S1 => .ok (!b) S1
def mAnd (m n : MT) : MT := fun ρ S => (m ρ S).bind fun b S1 => if b = true then n ρ S1 else .ok false S1
def mOr (m n : MT) : MT := fun ρ S => (m ρ S).bind fun b S1 => if b = true then .ok true S1 else n ρ S1
theorem it_not (ha : IT X E a na) : IT X E (.UnaryOp .Not a pos) (mNot na) := by
  obtain ⟨t, p, i⟩ := ha
  exact ⟨_, pt_not p, fun U S H σ ρ Q s rl w => i U S H σ ρ _ s rl (w.bind.mono fun U1 S1 H1 b st1 s1 w1 => w1.ok s1)⟩
theorem iw_and1 (ha : IT X E a na) : IW X E (.BoolOp .And [a] pos) na := by
  obtain ⟨t, p, i⟩ := ha
  exact ⟨_, pw_and1 p, i⟩
theorem iw_or1 (ha : IT X E a na) : IW X E (.BoolOp .Or [a] pos) na := by
  obtain ⟨t, p, i⟩ := ha
  exact ⟨_, pw_or1 p, i⟩
theorem iw_and (ha : IT X E a na) (hb : IW X E (.BoolOp .And (b :: rest) pos) nb) : IW X E (.BoolOp .And (a :: b :: rest) pos) (mAnd na nb) := by
  obtain ⟨t, p, i⟩ := ha
  obtain ⟨u, q, j⟩ := hb
  refine ⟨_, pw_and p q, fun U S H σ ρ Q s rl w => i U S H σ ρ _ s rl (w.bind.mono fun U1 S1 H1 b st1 s1 w1 => ?_)⟩
  cases b with
  | true => exact j U1 S1 H1 σ ρ _ s1 (rl.step st1) w1
  | false => exact Wants.ok w1 s1
theorem iw_or (ha : IT X E a na) (hb : IW X E (.BoolOp .Or (b :: rest) pos) nb) : IW X E (.BoolOp .Or (a :: b :: rest) pos) (mOr na nb) := by
  obtain ⟨t, p, i⟩ := ha
  obtain ⟨u, q, j⟩ := hb
  refine ⟨_, pw_or p q, fun U S H σ ρ Q s rl w => i U S H σ ρ _ s rl (w.bind.mono fun U1 S1 H1 b st1 s1 w1 => ?_)⟩
  cases b with
  | true => exact Wants.ok w1 s1
  | false => exact j U1 S1 H1 σ ρ _ s1 (rl.step st1) w1
theorem IW.it (h : IW X E a na) : IT X E a na := by
  obtain ⟨t, p, i⟩ := h
  exact ⟨_, p.pt, i⟩
/-- as values -/
def mNotV (m : ME) : ME := fun ρ S => (m ρ S).bind fun d S1 => (toB d S1).bind fun b S2 => .ok (.p (.bool !b)) S2
def mAndV (m n : ME) : ME := fun ρ S => (m ρ S).bind fun d S1 => (toB d S1).bind fun b S2 => if b = true then n ρ S2 else .ok (.p (.bool false)) S2
def mOrV (m n : ME) : ME := fun ρ S => (m ρ S).bind fun d S1 => (toB d S1).bind fun b S2 => if b = true then .ok (.p (.bool true)) S2 else n ρ S2
theorem ie_one {op : BoolOp} (h : IE X E a ma) : IE X E (.BoolOp op [a] pos) ma := by
  obtain ⟨t, p, i⟩ := h
  exact ⟨_, pe_one p, i⟩
theorem ie_and (ha : IE X E a ma) (hb : IE X E (.BoolOp .And (b :: rest) pos) mb) : IE X E (.BoolOp .And (a :: b :: rest) pos) (mAndV ma mb) := by
  obtain ⟨t, p, i⟩ := ha
  obtain ⟨u, q, j⟩ := hb
  refine ⟨_, pe_and p q, fun U S H σ ρ Q s rl w => i U S H σ ρ _ s rl (w.bind.mono fun U1 S1 H1 d st1 s1 w1 v rv => ?_)⟩
  unfold toB at w1
  split at w1
  · next b =>
    cases rv
    refine ⟨b, rfl, ?_⟩
    cases b with
    | true => exact j U1 S1 H1 σ ρ _ s1 (rl.step st1) w1
    | false => exact (Wants.ok w1 s1) _ (.bl false)
  · exact False.elim w1
theorem ie_or (ha : IE X E a ma) (hb : IE X E (.BoolOp .Or (b :: rest) pos) mb) : IE X E (.BoolOp .Or (a :: b :: rest) pos) (mOrV ma mb) := by
  obtain ⟨t, p, i⟩ := ha
  obtain ⟨u, q, j⟩ := hb
  refine ⟨_, pe_or p q, fun U S H σ ρ Q s rl w => i U S H σ ρ _ s rl (w.bind.mono fun U1 S1 H1 d st1 s1 w1 v rv => ?_)⟩
  unfold toB at w1
  split at w1
  · next b =>
    cases rv
    refine ⟨b, rfl, ?_⟩
    cases b with
    | true => exact (Wants.ok w1 s1) _ (.bl true)
    | false => exact j U1 S1 H1 σ ρ _ s1 (rl.step st1) w1
  · exact False.elim w1
theorem ie_not (ha : IE X E a ma) : IE X E (.UnaryOp .Not a pos) (mNotV ma) := by
  obtain ⟨t, p, i⟩ := ha
  refine ⟨_, pe_not p, fun U S H σ ρ Q s rl w => i U S H σ ρ _ s rl (w.bind.mono fun U1 S1 H1 d st1 s1 w1 v rv => ?_)⟩
  unfold toB at w1
  split at w1
  · next b =>
    cases rv
    exact ⟨b, rfl, (Wants.ok w1 s1) _ (.bl !b)⟩
  · exact False.elim w1
def mIfE (c : MT) (m n : ME) : ME := fun ρ S => (c ρ S).bind fun b S1 => if b = true then m ρ S1 else n ρ S1
theorem ie_if (hc : IT X E c na) (ha : IE X E a ma) (hb : IE X E b mb) : IE X E (.IfExp c a b pos) (mIfE na ma mb) := by
  obtain ⟨t, p, i⟩ := ha
  obtain ⟨u, q, j⟩ := hb
  obtain ⟨z, r, k⟩ := hc
  refine ⟨_, pe_ifExp r p q, fun U S H σ ρ Q s rl w => k U S H σ ρ _ s rl (w.bind.mono fun U1 S1 H1 b st1 s1 w1 => ?_)⟩
  cases b with
  | true => exact i U1 S1 H1 σ ρ _ s1 (rl.step st1) w1
  | false => exact j U1 S1 H1 σ ρ _ s1 (rl.step st1) w1

/-! ### argument lists, displays -/
def mNil : MA := fun _ S => .ok [] S
def mCons (m : ME) (n : MA) : MA := fun ρ S => (m ρ S).bind fun d S1 => (n ρ S1).bind fun ds S2 => .ok (d :: ds) S2
theorem ia_nil : IA X E [] mNil := ⟨⟨_, pa_nil, fun U S H σ ρ Q s rl w => (w.ok s) _ .nil⟩, fun ρ S ds S' h => by cases h; rfl⟩
theorem bind_ok {α β : Type} {r : Res α} {f : α → Sto → Res β} {b : β} {S' : Sto} (h : r.bind f = .ok b S') : ∃ a S, r = .ok a S ∧ f a S = .ok b S' := by
  cases r with
  | ok a S => exact ⟨a, S, rfl, h⟩
  | exc c S => cases h
  | stuck => cases h
theorem ia_cons {n : MA} (ha : IE X E e ma) (hr : IA X E es n) (hs : starEach (e :: es) X.env = (false, eval e X.env) :: starEach es X.env := by rfl) : IA X E (e :: es) (mCons ma n) := by
  obtain ⟨t, p, i⟩ := ha
  obtain ⟨⟨u, q, j⟩, hl⟩ := hr
  refine ⟨⟨_, pa_cons p q hs, fun U S H σ ρ Q s rl w => i U S H σ ρ _ s rl (w.bind.mono fun U1 S1 H1 d st1 s1 w1 v rv => j U1 S1 H1 σ ρ _ s1 (rl.step st1) (w1.bind.mono fun U2 S2 H2 ds st2 s2 w2 vs rvs => (w2.ok s2) _ (.cons (rv.step st2) rvs)))⟩, fun ρ S ds S' h => ?_⟩
  obtain ⟨d, S1, _, h⟩ := bind_ok h
  obtain ⟨ds', S2, h1, h⟩ := bind_ok h
  cases h
  rw [List.length_cons, List.length_cons, hl _ _ _ _ h1]
def pures : List D → Option (List PyData)
  | [] => some []
  | .p x :: ds => (pures ds).map (x :: ·)
  | .r _ :: _ => none
theorem pures_rel {K : PySem.W.Frag} {U : Wd} : ∀ {ds : List D} {xs : List PyData} {vs : List V}, pures ds = some xs → RelDs K U ds vs → RpAll K U.F vs xs
  | [], _, _, h, .nil => by cases h; exact .nil
  | .p x :: ds, xs, _, h, .cons r t => by
    unfold pures at h
    obtain ⟨ys, e, rfl⟩ := Option.map_eq_some_iff.mp h
    exact .cons r (pures_rel e t)
  | .r _ :: _, _, _, h, _ => by cases h
def mTup (n : MA) : ME := fun ρ S => (n ρ S).bind fun ds S1 => match pures ds with
  | some xs => if xs.length ≤ 1000 then .ok (.p (.tuple xs)) S1 else .stuck
  | none => .stuck
/-- a list that is new -/
abbrev ML := Loc → Sto → Res (List PyData)
def KL (K : PySem.W.Frag) (H : Hp) (Q : VK) : Wd → Sto → Hp → List PyData → Prop := fun U' _ H' ys => ∀ p vs, H p = none → U'.F p = none → (∀ l, U'.io l ≠ some p) → H' p = some (.lst vs) → RpAll K U'.F vs ys → Q (.ref p) H'
def ImpL (K : PySem.W.Frag) (E : EX) (t : TE) (m : ML) : Prop := ∀ (U : Wd) (S : Sto) (H : Hp) (σ : L2.St) (ρ : Loc) (Q : VK), Sat K U S H → RelL K U ρ σ → Wants K E U H (m ρ S) (KL K H Q) → t σ H Q
structure IL (X : Cx) (E : EX) (e : Expr) (m : ML) : Prop where
  ex : ∃ t, PE X e t ∧ ImpL X.K E t m
/-- nobody changes it -/
def mP (m : ML) : ME := fun ρ S => (m ρ S).bind fun ys S1 => .ok (.p (.list ys)) S1
/-- it will be changed -/
def mR (m : ML) : ME := fun ρ S => (m ρ S).bind fun ys S1 => .ok (.r S1.length) (S1 ++ [some (.lst ys)])
def mLst (n : MA) : ML := fun ρ S => (n ρ S).bind fun ds S1 => match pures ds with
  | some xs => if xs.length ≤ 1000 then .ok xs S1 else .stuck
  | none => .stuck
theorem line1000 {n : Nat} (h : n ≤ 1000) : n ≤ sizeLine := Nat.le_of_lt (small1000 h)
/-- a new tuple -/
theorem newT {K : PySem.W.Frag} {U : Wd} {S : Sto} {H : Hp} {Q : VK} {xs : List V} {ds : List PyData} {p : Addr} {o : Obj} (s : Sat K U S H) (r : RpAll K U.F xs ds) (hp : H p = none) (ho : o.dict = none) (w : Wants K E U H (.ok (.p (.tuple ds)) S) (KD K Q)) : Q (.ref p) (upd H p (.frz o (.tup xs))) :=
  w _ _ (Step.alloc hp (s.no hp)) (s.alloc hp) _ (.tup (.good upd_same ho) (r.sub (Sub.upd (s.no hp))))
def tTupN (t : TA) : TE := fun σ H Q => t σ H fun xs H1 => xs.length ≤ sizeLine ∧ ∀ p (o : Obj), H1 p = none → o.dict = none → Q (.ref p) (upd H1 p (.frz o (.tup xs)))
theorem pe_tupN {X : Cx} {es : List Expr} {t : TA} {pos : Pos} {x1 : _} (h : PA X es t) : PE X (.Tuple es x1 pos) (tTupN t) := ⟨fun pins s σ H Q I hq => wpAny_Tuple_spliced (thn (h.run pos pins s σ H _ I hq) fun us s1 ⟨xs, H1, I1, r, z, q⟩ => by
  refine ⟨r.length ▸ z, .ref s1.heap.objs.size, upd H1 s1.heap.objs.size (.frz { cls := .type "tuple", data := .seq us.toArray } (.tup xs)), I1.laid (t' := s1.toks) (fun _ _ e => Heap.get?_push_of_some _ e) (Nat.le_refl _) ?_, rfl, q _ _ (I1.hok.fresh (Nat.le_refl _)) rfl⟩
  exact ⟨Heap.get?_push_size _ rfl, z, us, r, ⟨_, Heap.get?_push_size _ rfl, rfl, _, rfl⟩⟩)⟩
theorem newL {K : PySem.W.Frag} {U : Wd} {S : Sto} {H : Hp} {Q : VK} {xs : List V} {ds : List PyData} {p : Addr} (s : Sat K U S H) (r : RpAll K U.F xs ds) (hp : H p = none) (w : Wants K E U H (.ok (.p (.list ds)) S) (KD K Q)) : Q (.ref p) (upd H p (.lst xs)) :=
  w _ _ (Step.alloc hp (s.no hp)) (s.alloc hp) _ (.lst (.inl upd_same) (r.sub (Sub.upd (s.no hp))))
theorem newR {K : PySem.W.Frag} {U : Wd} {S : Sto} {H : Hp} {Q : VK} {o : HO} {b : Ob} {p : Addr} (s : Sat K U S H) (r : ObIs K U p o b) (hr : RfOk S.length b) (hp : H p = none) (w : Wants K E U H (.ok (.r S.length) (S ++ [some b])) (KD K Q)) : Q (.ref p) (upd H p o) :=
  w _ _ (Step.new s hp) (s.new hp r hr) _ ⟨p, Wd.more_last _ _ _, rfl⟩
theorem ie_tup {n : MA} {x1 : _} (h : IA X E es n) : IE X E (.Tuple es x1 pos) (mTup n) := by
  obtain ⟨⟨t, p, i⟩, _⟩ := h
  refine ⟨_, pe_tupN p, fun U S H σ ρ Q s rl w => i U S H σ ρ _ s rl (w.bind.mono fun U1 S1 H1 ds st1 s1 w1 vs rv => ?_)⟩
  split at w1
  · next xs hx =>
    split at w1
    · next hl =>
      have r := pures_rel hx rv
      exact ⟨by rw [r.length]; exact line1000 hl, fun q o hq ho => newT s1 r hq ho w1⟩
    · exact False.elim w1
  · exact False.elim w1
/-- a thing that is neither frozen nor of the store is changed -/
theorem Sat.aside {K : PySem.W.Frag} {U : Wd} {S : Sto} {H : Hp} {p : Addr} {o : HO} (s : Sat K U S H) (hF : U.F p = none) (hi : ∀ l, U.io l ≠ some p) : Sat K U S (upd H p o) := by
  refine ⟨fun a u h => ?_, s.dom, s.tot, s.inj, fun l a b h q => ?_, fun l a h => ?_, s.rf⟩
  · have ne : a ≠ p := fun e => by rw [e, hF] at h; cases h
    rcases s.fz a u h with z | ⟨z', z, iz⟩
    · exact .inl (by rw [upd_ne ne]; exact z)
    · exact .inr ⟨z', by rw [upd_ne ne]; exact z, iz⟩
  · obtain ⟨z1, u, z2, z3⟩ := s.ob l a b h q
    have ne : a ≠ p := fun e => hi l (by rw [← e]; exact h)
    exact ⟨z1, u, by rw [upd_ne ne]; exact z2, z3⟩
  · have ne : a ≠ p := fun e => hi l (by rw [← e]; exact h)
    obtain ⟨u, z⟩ := s.hs l a h
    exact ⟨u, by rw [upd_ne ne]; exact z⟩
theorem Step.aside {U U' : Wd} {H H' : Hp} {p : Addr} {o : HO} (t : Step U H U' H') (hp : H p = none) : Step U H U' (upd H' p o) :=
  ⟨t.ef, t.ei, fun a u h n => by rw [upd_ne (ne_of_none h hp)]; exact t.fr a u h n, t.ni, t.nf, fun a u h => by
    obtain ⟨u', q⟩ := t.dm a u h
    have ne : a ≠ p := ne_of_none h hp
    exact ⟨u', by rw [upd_ne ne]; exact q⟩, fun a u u' f h => by rw [upd_ne (ne_of_none h hp)]; exact t.ff a u u' f h⟩
theorem Step.old {U U' : Wd} {H H' : Hp} {p : Addr} (t : Step U H U' H') (hp : H' p = none) : H p = none := by
  cases e : H p with
  | none => rfl
  | some o =>
    obtain ⟨o', q⟩ := t.dm p o e
    rw [hp] at q; cases q
/-- .. and frozen in the end -/
theorem Step.asideF {U U' : Wd} {H H' : Hp} {p : Addr} {o : HO} (t : Step U H U' H') (hp : H p = none) (hF : U'.F p = none) : Step U H ⟨upd U'.F p o, U'.io⟩ H' :=
  ⟨t.ef.trans (Sub.upd hF), t.ei, t.fr, t.ni, fun a u h => by
    by_cases e : a = p
    · subst e; exact .inr (.inl hp)
    · have h' : upd U'.F p o a = some u := h
      rw [upd_ne e] at h'; exact t.nf a u h', t.dm, t.ff⟩
theorem Sat.asideF {K : PySem.W.Frag} {U : Wd} {S : Sto} {H : Hp} {p : Addr} {o : HO} (s : Sat K U S H) (hF : U.F p = none) (hi : ∀ l, U.io l ≠ some p) (ho : H p = some o) : Sat K ⟨upd U.F p o, U.io⟩ S H := by
  refine ⟨fun a u h => ?_, s.dom, s.tot, s.inj, fun l a b h q => ?_, s.hs, s.rf⟩
  · have h' : upd U.F p o a = some u := h
    by_cases e : a = p
    · subst e; rw [upd_same] at h'; cases h'; exact .inl ho
    · rw [upd_ne e] at h'; exact s.fz a u h'
  · obtain ⟨z1, u, z2, z3⟩ := s.ob l a b h q
    have ne : a ≠ p := fun e => hi l (by rw [← e]; exact h)
    exact ⟨by show upd U.F p o a = none; rw [upd_ne ne]; exact z1, u, z2, z3.sub (Sub.upd hF)⟩
/-- .. or of the store in the end -/
theorem Step.asideN {K : PySem.W.Frag} {U U' : Wd} {S : Sto} {H H' : Hp} {p : Addr} (t : Step U H U' H') (s : Sat K U' S H') (hp : H p = none) : Step U H (U'.more S.length p) H' :=
  ⟨t.ef, fun l a h => by
    show (if l = S.length then some p else U'.io l) = some a
    rw [if_neg (Nat.ne_of_lt (s.dom l a (t.ei l a h)))]; exact t.ei l a h, t.fr, fun l a h => by
    have h' : (if l = S.length then some p else U'.io l) = some a := h
    by_cases e : l = S.length
    · rw [if_pos e] at h'; cases h'; exact .inr hp
    · rw [if_neg e] at h'; exact t.ni l a h', t.nf, t.dm, t.ff⟩
theorem Sat.asideN {K : PySem.W.Frag} {U : Wd} {S : Sto} {H : Hp} {p : Addr} {o : HO} {b : Ob} (s : Sat K U S H) (hF : U.F p = none) (hi : ∀ l, U.io l ≠ some p) (ho : H p = some o) (hb : ObIs K U p o b) (hr : RfOk S.length b) : Sat K (U.more S.length p) (S ++ [some b]) H :=
  have more : ∀ l a, U.io l = some a → (U.more S.length p).io l = some a := fun l a h => by
    show (if l = S.length then some p else U.io l) = some a
    rw [if_neg (Nat.ne_of_lt (s.dom l a h))]; exact h
  {
  fz := s.fz
  dom := fun l a h => by
    have h' : (if l = S.length then some p else U.io l) = some a := h
    rw [List.length_append, List.length_singleton]
    by_cases e : l = S.length
    · omega
    · rw [if_neg e] at h'
      have := s.dom l a h'; omega
  tot := fun l h => by
    rw [List.length_append, List.length_singleton] at h
    show ∃ a, (if l = S.length then some p else U.io l) = some a
    by_cases e : l = S.length
    · exact ⟨p, if_pos e⟩
    · rw [if_neg e]; exact s.tot l (by omega)
  inj := fun l l' a h h' => by
    have h1 : (if l = S.length then some p else U.io l) = some a := h
    have h2 : (if l' = S.length then some p else U.io l') = some a := h'
    by_cases e : l = S.length
    · by_cases e' : l' = S.length
      · rw [e, e']
      · rw [if_pos e] at h1; rw [if_neg e'] at h2
        cases h1
        exact absurd h2 (hi l')
    · by_cases e' : l' = S.length
      · rw [if_neg e] at h1; rw [if_pos e'] at h2
        cases h2
        exact absurd h1 (hi l)
      · rw [if_neg e] at h1; rw [if_neg e'] at h2
        exact s.inj l l' a h1 h2
  ob := fun l a c h q => by
    have h1 : (if l = S.length then some p else U.io l) = some a := h
    by_cases e : l = S.length
    · rw [if_pos e] at h1; cases h1
      subst e
      rw [List.getElem?_append_right (Nat.le_refl _)] at q
      simp at q
      subst q
      exact ⟨hF, o, ho, ObIs.grow (U := U) (U' := U.more S.length p) (Sub.refl _) more hb⟩
    · rw [if_neg e] at h1
      have hl := s.dom l a h1
      rw [List.getElem?_append_left hl] at q
      obtain ⟨z1, u, z2, z3⟩ := s.ob l a c h1 q
      exact ⟨z1, u, z2, ObIs.grow (U := U) (U' := U.more S.length p) (Sub.refl _) more z3⟩
  hs := fun l a h => by
    have h1 : (if l = S.length then some p else U.io l) = some a := h
    by_cases e : l = S.length
    · rw [if_pos e] at h1; cases h1
      exact ⟨o, ho⟩
    · rw [if_neg e] at h1
      exact s.hs l a h1
  rf := fun l c q => by
    by_cases e : l < S.length
    · rw [List.getElem?_append_left e] at q
      exact s.rf l c q
    · have hl := (List.getElem?_eq_some_iff.mp q).1
      rw [List.length_append, List.length_singleton] at hl
      have : l = S.length := by omega
      subst this
      rw [List.getElem?_append_right (Nat.le_refl _)] at q
      simp at q
      subst q
      exact hr
  }
/-- a list is laid -/
theorem layL {K : PySem.W.Frag} {U U1 : Wd} {S : Sto} {H H1 : Hp} {Q : VK} {xs : List V} {ys : List PyData} {p : Addr} (st : Step U H U1 H1) (s : Sat K U1 S H1) (r : RpAll K U1.F xs ys) (hp : H1 p = none) (w : Wants K E U H (.ok ys S) (KL K H Q)) : Q (.ref p) (upd H1 p (.lst xs)) :=
  w U1 _ (st.aside (st.old hp)) (s.aside (s.no hp) (s.noi hp)) p xs (st.old hp) (s.no hp) (s.noi hp) upd_same r
theorem ImpL.p {K : PySem.W.Frag} {t : TE} {m : ML} (h : ImpL K E t m) : ImpE K E t (mP m) := by
  intro U S H σ ρ Q s rl w
  refine h U S H σ ρ Q s rl ?_
  unfold mP at w
  cases hh : m ρ S with
  | stuck => rw [hh] at w; exact w
  | exc c S' => rw [hh] at w; exact w
  | ok ys S' =>
    rw [hh] at w
    intro U' H' st s' p vs hp hF hi ho r
    exact w _ _ (st.asideF hp hF) (s'.asideF hF hi ho) _ (.lst (.inl upd_same) (r.sub (Sub.upd hF)))
theorem ImpL.r {K : PySem.W.Frag} {t : TE} {m : ML} (h : ImpL K E t m) : ImpE K E t (mR m) := by
  intro U S H σ ρ Q s rl w
  refine h U S H σ ρ Q s rl ?_
  unfold mR at w
  cases hh : m ρ S with
  | stuck => rw [hh] at w; exact w
  | exc c S' => rw [hh] at w; exact w
  | ok ys S' =>
    rw [hh] at w
    intro U' H' st s' p vs hp hF hi ho r
    exact w _ _ (st.asideN s' hp) (s'.asideN (b := .lst ys) hF hi ho ⟨_, rfl, r⟩ trivial) _ ⟨p, Wd.more_last _ _ _, rfl⟩
theorem IL.p {m : ML} (h : IL X E e m) : IE X E e (mP m) := by
  obtain ⟨t, p, i⟩ := h
  exact ⟨_, p, i.p⟩
theorem IL.r {m : ML} (h : IL X E e m) : IE X E e (mR m) := by
  obtain ⟨t, p, i⟩ := h
  exact ⟨_, p, i.r⟩
/-- through steps that lead to a list -/
theorem Wants.bindL {α : Type} {K : PySem.W.Frag} {U : Wd} {H : Hp} {r : Res α} {f : α → Sto → Res (List PyData)} {Q : VK} (h : Wants K E U H (r.bind f) (KL K H Q)) : Wants K E U H r fun U' S' H' a => Step U H U' H' ∧ Wants K E U H (f a S') (KL K H Q) := by
  cases r with
  | ok a S => exact fun U' H' s q => ⟨s, h⟩
  | exc c S => exact h
  | stuck => exact h
theorem il_lst {n : MA} (h : IA X E es n) : IL X E (.List es pos) (mLst n) := by
  obtain ⟨⟨t, p, i⟩, _⟩ := h
  refine ⟨_, pe_lst p, fun U S H σ ρ Q s rl w => i U S H σ ρ _ s rl (w.bindL.mono fun U1 S1 H1 ds st1 s1 w1 vs rv => ?_)⟩
  obtain ⟨_, w1⟩ := w1
  split at w1
  · next xs hx =>
    split at w1
    · next hl =>
      have r := pures_rel hx rv
      exact ⟨by rw [r.length]; exact line1000 hl, fun q hq => layL st1 s1 r hq w1⟩
    · exact False.elim w1
  · exact False.elim w1
end

/-! ### statements -/
def mNext : MS := fun ρ S => .ok (.nx, ρ) S
def mStuck : MS := fun _ _ => .stuck
def mSeq (m n : MS) : MS := fun ρ S => (m ρ S).bind fun r S1 => match r.1 with
  | .nx => n r.2 S1
  | _ => .ok r S1
def mIf (c : MT) (m n : MS) : MS := fun ρ S => (c ρ S).bind fun b S1 => if b = true then m ρ S1 else n ρ S1
def mRet (m : ME) : MS := fun ρ S => (m ρ S).bind fun d S1 => .ok (.rt d, ρ) S1
def mRetN : MS := fun ρ S => .ok (.rt (.p .none), ρ) S
def mDrop (m : ME) : MS := fun ρ S => (m ρ S).bind fun _ S1 => .ok (.nx, ρ) S1
def mBreak : MS := fun ρ S => .ok (.bk, ρ) S
def mCont : MS := fun ρ S => .ok (.ct, ρ) S
def mAsg (m : ME) (g : MG) : MS := fun ρ S => (m ρ S).bind fun d S1 => (g d ρ S1).bind fun ρ' S2 => .ok (.nx, ρ') S2
def gN (i : Nat) : MG := fun d ρ S => .ok (ρ.set i (some d)) S
abbrev MGs := List D → Loc → Sto → Res Loc
def gsNil : MGs := fun ds ρ S => match ds with
  | [] => .ok ρ S
  | _ => .stuck
def gsCons (g : MG) (h : MGs) : MGs := fun ds ρ S => match ds with
  | d :: r => (g d ρ S).bind fun ρ' S' => h r ρ' S'
  | [] => .stuck
def gT (n : Nat) (g : MGs) : MG := fun d ρ S => match d with
  | .p (.tuple xs) => if xs.length = n then g (xs.map .p) ρ S else .stuck
  | _ => .stuck
def ImpGs (K : PySem.W.Frag) (E : EX) (ws : List Nat) (t : TGs) (g : MGs) : Prop := ∀ (U : Wd) (S : Sto) (H : Hp) (σ : L2.St) (ρ : Loc) (vs : List V) (ds : List D) (Q : L2.St → Hp → Prop), Sat K U S H → RelL K U ρ σ → RelDs K U ds vs →
  Wants K E U H (g ds ρ S) (fun U' _ H' ρ' => ∀ σ', RelL K U' ρ' σ' → Only ws σ σ' → Q σ' H') → t vs σ H Q
structure IGs (X : Cx) (E : EX) (ws : List Nat) (es : List Expr) (g : MGs) : Prop where
  ex : ∃ t, PGs X es t ∧ ImpGs X.K E ws t g
section
variable {X : Cx} {E : EX} {pos : Pos} {a b c e : Expr} {es : List Expr} {ma mb mc : ME} {st : Stmt} {rest : List Stmt} {m n : MS} {nc : MT}
theorem Only.refl {ws : List Nat} {σ : L2.St} : Only ws σ σ := ⟨rfl, fun _ _ => rfl⟩
theorem Only.trans {ws : List Nat} {σ σ1 σ2 : L2.St} (h : Only ws σ σ1) (k : Only ws σ1 σ2) : Only ws σ σ2 := ⟨k.1.trans h.1, fun i hi => (k.2 i hi).trans (h.2 i hi)⟩
theorem Only.mono {ws vs : List Nat} {σ σ1 : L2.St} (h : Only ws σ σ1) (k : ∀ i ∈ ws, i ∈ vs) : Only vs σ σ1 := ⟨h.1, fun i hi => h.2 i fun q => hi (k i q)⟩
theorem iss_nil : ISs X E [] mNext := ⟨_, pss_nil, fun U S H σ ρ N s rl w => (w.ok s) σ rl⟩
theorem iss_one (h : IS X E st m) : ISs X E [st] m := by
  obtain ⟨t, p, i⟩ := h
  exact ⟨_, pss_one p, i⟩
theorem iss_cons (h : IS X E st m) (k : ISs X E rest n) : ISs X E (st :: rest) (mSeq m n) := by
  obtain ⟨t, p, i⟩ := h
  obtain ⟨u, q, j⟩ := k
  refine ⟨_, pss_cons p q, fun U S H σ ρ N s rl w => i U S H σ ρ _ s rl (w.bind.mono fun U1 S1 H1 r st1 s1 w1 σ' rl' => ?_)⟩
  obtain ⟨f, ρ'⟩ := r
  cases f with
  | nx => exact j U1 S1 H1 σ' ρ' N s1 rl' w1
  | rt d => exact (Wants.ok w1 s1) σ' rl'
  | bk => exact (Wants.ok w1 s1) σ' rl'
  | ct => exact (Wants.ok w1 s1) σ' rl'
theorem is_pass : IS X E (.Pass pos) mNext := ⟨_, ps_pass, fun U S H σ ρ N s rl w => (w.ok s) σ rl⟩
theorem is_break : IS X E (.Break pos) mBreak := ⟨_, ps_break, fun U S H σ ρ N s rl w => (w.ok s) σ rl⟩
theorem is_continue : IS X E (.Continue pos) mCont := ⟨_, ps_continue, fun U S H σ ρ N s rl w => (w.ok s) σ rl⟩
theorem is_never : IS X E st mStuck := ⟨_, ps_never, fun U S H σ ρ N s rl w => w⟩
theorem is_ret (h : IE X E e ma) : IS X E (.Return (some e) pos) (mRet ma) := by
  obtain ⟨t, p, i⟩ := h
  exact ⟨_, ps_ret p, fun U S H σ ρ N s rl w => i U S H σ ρ _ s rl (w.bind.mono fun U1 S1 H1 d st1 s1 w1 v rv => (w1.ok s1) σ (rl.step st1) v rv)⟩
theorem is_retN : IS X E (.Return none pos) mRetN := ⟨_, ps_retN, fun U S H σ ρ N s rl w => (w.ok s) σ rl _ .non⟩
theorem is_expr (h : IE X E e ma) (hs : swapsWith e none pos.line X.env = pure false := by rfl) : IS X E (.Expr e pos) (mDrop ma) := by
  obtain ⟨t, p, i⟩ := h
  exact ⟨_, ps_expr p hs, fun U S H σ ρ N s rl w => i U S H σ ρ _ s rl (w.bind.mono fun U1 S1 H1 d st1 s1 w1 v rv => (w1.ok s1) σ (rl.step st1))⟩
theorem is_if {sa sb : List Stmt} (hc : IT X E c nc) (ha : ISs X E sa m) (hb : ISs X E sb n) : IS X E (.If c sa sb pos) (mIf nc m n) := by
  obtain ⟨t, p, i⟩ := ha
  obtain ⟨u, q, j⟩ := hb
  obtain ⟨z, r, k⟩ := hc
  refine ⟨_, ps_if r p q, fun U S H σ ρ N s rl w => k U S H σ ρ _ s rl (w.bind.mono fun U1 S1 H1 b st1 s1 w1 => ?_)⟩
  cases b with
  | true => exact i U1 S1 H1 σ ρ _ s1 (rl.step st1) w1
  | false => exact j U1 S1 H1 σ ρ _ s1 (rl.step st1) w1
theorem impGN {K : PySem.W.Frag} (i : Nat) : ImpG K E [i] (gName i) (gN i) := fun U S H σ ρ v d Q s rl rv w => (w.ok s) _ (rl.set i rv) ⟨by simp, fun j hj => by
  rw [List.getElem?_set_ne]; intro e; exact hj (by simp [e])⟩
theorem ig_name {i : Nat} {x : Str} (hN : X.N.Nodup) (hi : X.N[i]? = some x) (hx : L2.Loc X.env.scope x) (hf : X.fn x = true ∨ X.env.scope.names.lookup x = some .local := by first | exact .inl rfl | exact .inr rfl | assumption) : IG X E [i] (.Name x pos) (gN i) :=
  ⟨_, pg_name hN hi hx hf, impGN i⟩
theorem igs_nil : IGs X E [] [] gsNil := by
  refine ⟨_, pgs_nil, fun U S H σ ρ vs ds Q s rl rv w => ?_⟩
  cases rv with
  | nil => exact ⟨rfl, (Wants.ok w s) σ rl Only.refl⟩
  | cons r t => exact False.elim w
theorem igs_cons {g : MG} {h : MGs} {ws vs : List Nat} (ha : IG X E ws e g) (hb : IGs X E vs es h)
    (hs : (assignEach (e :: es) X.env).map (·.2) = assign e X.env :: (assignEach es X.env).map (·.2) := by rfl) : IGs X E (ws ++ vs) (e :: es) (gsCons g h) := by
  obtain ⟨t, p, i⟩ := ha
  obtain ⟨u, q, j⟩ := hb
  refine ⟨_, pgs_cons p q hs, fun U S H σ ρ xs ds Q s rl rv w => ?_⟩
  cases rv with
  | nil => exact False.elim w
  | cons r rt =>
    refine ⟨_, _, rfl, i U S H σ ρ _ _ _ s rl r (Wants.mono (Wants.bind w) fun U1 S1 H1 ρ1 st1 s1 w1 σ1 rl1 o1 => ?_)⟩
    exact j U1 S1 H1 σ1 ρ1 _ _ Q s1 rl1 (RelDs.step st1 rt) (w1.mono fun U2 S2 H2 ρ2 st2 s2 w2 σ2 rl2 o2 => w2 σ2 rl2 ((o1.mono fun i hi => List.mem_append_left _ hi).trans (o2.mono fun i hi => List.mem_append_right _ hi)))
theorem relDs_p {K : PySem.W.Frag} {U : Wd} : ∀ {vs : List V} {ds : List PyData}, RpAll K U.F vs ds → RelDs K U (ds.map .p) vs
  | _, _, .nil => .nil
  | _, _, .cons r t => .cons r (relDs_p t)
theorem ig_tup {g : MGs} {ws : List Nat} {k n : Nat} (hc : X.calm = true) (h : IGs X E ws es g) (hn : (assignEach es X.env).length = n := by rfl) (hst : (assignEach es X.env).findIdx? (·.1) = none := by rfl) : IG X E ws (.Tuple es k pos) (gT n g) := by
  obtain ⟨t, p, i⟩ := h
  refine ⟨_, pg_tup hc p hn hst, fun U S H σ ρ v d Q s rl rv w => ?_⟩
  unfold gT at w
  split at w
  · next xs =>
    split at w
    · next hl =>
      cases rv with
      | tup hq ha => exact ⟨_, _, rfl, SqT.le s.fz hq, by rw [ha.length]; exact hl, i U S H σ ρ _ _ Q s rl (relDs_p ha) w⟩
    · exact False.elim w
  · exact False.elim w
theorem is_asg {tg : Expr} {g : MG} {ws : List Nat} (he : IE X E e ma) (hg : IG X E ws tg g) (hs : swapsWithSole [tg] e pos.line X.env = pure false := by rfl) (hw : swappedStores [tg] e X.env = pure none := by rfl)
    (h1 : (assignEach [tg] X.env).map (·.2) = [assign tg X.env] := by rfl) : IS X E (.Assign [tg] e pos) (mAsg ma g) := by
  obtain ⟨t, p, i⟩ := he
  obtain ⟨u, q, j⟩ := hg
  exact ⟨_, ps_asg p q hs hw h1, fun U S H σ ρ N s rl w => i U S H σ ρ _ s rl (w.bind.mono fun U1 S1 H1 d st1 s1 w1 v rv => j U1 S1 H1 σ ρ v d _ s1 (rl.step st1) rv (w1.bind.mono fun U2 S2 H2 ρ2 st2 s2 w2 σ2 rl2 _ => (w2.ok s2) σ2 rl2))⟩
theorem impS_asg {K : PySem.W.Frag} {i : Nat} {t : TE} (h : ImpE K E t ma) : ImpS K E (tAsg t (gName i)) (mAsg ma (gN i)) :=
  fun U S H σ ρ N s rl w => h U S H σ ρ _ s rl (w.bind.mono fun U1 S1 H1 d st1 s1 w1 v rv => (w1.bind.ok s1).ok s1 _ ((rl.step st1).set i rv))
theorem is_set {i : Nat} {x : Str} {pos' : Pos} (hN : X.N.Nodup) (hi : X.N[i]? = some x) (hx : L2.Loc X.env.scope x) (he : IE X E e ma) (hs : swapsWith e (some (.Name x pos')) pos.line X.env = pure false := by rfl) (hf : X.fn x = true ∨ X.env.scope.names.lookup x = some .local := by first | exact .inl rfl | exact .inr rfl | assumption) :
    IS X E (.Assign [.Name x pos'] e pos) (mAsg ma (gN i)) := by
  obtain ⟨t, p, j⟩ := he
  exact ⟨_, ps_set hN hi hx p hs hf, fun U S H σ ρ N s rl w => j U S H σ ρ _ s rl (w.bind.mono fun U1 S1 H1 d st1 s1 w1 v rv => (w1.bind.ok s1).ok s1 _ ((rl.step st1).set i rv))⟩
end
end G


namespace G
open PySem L2

/-! ### loops -/
def mLoop (g : MG) (b : MS) : List PyData → Loc → Sto → Res (Fl × Loc)
  | [], ρ, S => .ok (.nx, ρ) S
  | x :: xs, ρ, S => (g (.p x) ρ S).bind fun ρ1 S1 => (b ρ1 S1).bind fun r S2 => match r.1 with
    | .nx => mLoop g b xs r.2 S2
    | .ct => mLoop g b xs r.2 S2
    | .bk => .ok (.nx, r.2) S2
    | .rt d => .ok (.rt d, r.2) S2
def mFor (mi : MI) (g : MG) (b : MS) : MS := fun ρ S => (mi ρ S).bind fun xs S1 => mLoop g b xs ρ S1
def mWhile (c : MT) (b : MS) : Nat → Loc → Sto → Res (Fl × Loc)
  | 0, _, _ => .stuck
  | n + 1, ρ, S => (c ρ S).bind fun t S1 => if t = true then (b ρ S1).bind fun r S2 => match r.1 with
    | .nx => mWhile c b n r.2 S2
    | .ct => mWhile c b n r.2 S2
    | .bk => .ok (.nx, r.2) S2
    | .rt d => .ok (.rt d, r.2) S2
    else .ok (.nx, ρ) S1
section
variable {X : Cx} {E : EX} {pos : Pos}
theorem drop_cons {α : Type} {xs : List α} {i : Nat} {x : α} (h : xs[i]? = some x) : xs.drop i = x :: xs.drop (i + 1) := by
  have hl := (List.getElem?_eq_some_iff.mp h)
  obtain ⟨hl, e⟩ := hl
  rw [List.drop_eq_getElem_cons hl, e]
theorem is_for {tg iter : Expr} {body : List Stmt} {mi : MI} {g : MG} {b : MS} {ws : List Nat} (hp : PassesOwn (model X.prog X.w) X.A X.env X.xe) (hc : X.calm = true) (hi : II X E tg iter mi) (hg : IG X E ws tg g) (hb : ISs X E body b)
    (hs : ∀ x, foldedSetIterable iter X.env x = pure x := by intro _; rfl) : IS X E (.For tg iter body [] pos) (mFor mi g b) := by
  obtain ⟨t, p, i⟩ := hi
  obtain ⟨u, q, j⟩ := hg
  obtain ⟨z, r, k⟩ := hb
  refine ⟨_, ps_for hp hc p q r hs, fun U S H σ ρ N s rl w => i U S H σ ρ _ s rl (w.bind.mono fun U1 S1 H1 xs st1 s1 w1 J RJ => ?_)⟩
  refine ⟨fun n m σ' H' => m = xs.length - n ∧ n ≤ xs.length ∧ ∃ U' S' ρ', Step U1 H1 U' H' ∧ Sat X.K U' S' H' ∧ RelL X.K U' ρ' σ' ∧ Wants X.K E U' H' (mLoop g b (xs.drop n) ρ' S') (KS X.K N), ⟨xs.length, by simp, Nat.zero_le _, U1, S1, ρ, Step.refl _ _, s1, rl.step st1, by rw [List.drop_zero]; exact w1⟩, ?_⟩
  rintro n m σ' H' ⟨rfl, hn, U', S', ρ', st, s', rl', w'⟩
  obtain ⟨stop, go⟩ := RJ U' S' H' n st.p s'
  by_cases hlt : n < xs.length
  · have hx : xs[n]? = some xs[n] := by simp [hlt]
    obtain ⟨hgo, yl⟩ := go _ hx
    refine .inr ⟨hgo, fun σ3 H3 => ∃ U3 S3 ρ3, Step U1 H1 U3 H3 ∧ Sat X.K U3 S3 H3 ∧ RelL X.K U3 ρ3 σ3 ∧ Wants X.K E U3 H3 (mLoop g b (xs.drop (n + 1)) ρ3 S3) (KS X.K N), fun σ3 H3 h3 => ⟨xs.length - (n + 1), by omega, rfl, hlt, h3⟩, fun v H'' y => ?_⟩
    obtain ⟨U'', st2, s'', rv⟩ := yl v H'' y
    rw [drop_cons hx] at w'
    refine j U'' S' H'' σ' ρ' v (.p xs[n]) _ s'' (rl'.step st2) rv (Wants.mono (Wants.bind (Wants.step st2 w')) fun U3 S3 H3 ρ3 st3 s3 w3 σ3 rl3 _ => ?_)
    refine k U3 S3 H3 σ3 ρ3 _ s3 rl3 (w3.bind.mono fun U4 S4 H4 rr st4 s4 w4 σ4 rl4 => ?_)
    obtain ⟨f, ρ4⟩ := rr
    have all := ((st.trans st2).trans st3).trans st4
    cases f with
    | nx => exact ⟨U4, S4, ρ4, all, s4, rl4, w4⟩
    | ct => exact ⟨U4, S4, ρ4, all, s4, rl4, w4⟩
    | bk => exact (Wants.ok w4 s4) σ4 rl4
    | rt d => exact (Wants.ok w4 s4) σ4 rl4
  · have e : n = xs.length := by omega
    subst e
    rw [List.drop_length] at w'
    exact .inl ⟨stop rfl, (Wants.ok w' s') σ' rl'⟩
theorem is_while {c : Expr} {body : List Stmt} {mc : MT} {b : MS} (n : Nat) (hp : PassesOwn (model X.prog X.w) X.A X.env X.xe) (hc : IT X E c mc) (hb : ISs X E body b) : IS X E (.While c body [] pos) (mWhile mc b n) := by
  obtain ⟨t, p, i⟩ := hc
  obtain ⟨z, r, k⟩ := hb
  refine ⟨_, ps_while hp p r, fun U S H σ ρ N s rl w => ?_⟩
  refine ⟨fun m σ' H' => ∃ U' S' ρ', Step U H U' H' ∧ Sat X.K U' S' H' ∧ RelL X.K U' ρ' σ' ∧ Wants X.K E U' H' (mWhile mc b m ρ' S') (KS X.K N), ⟨n, U, S, ρ, Step.refl _ _, s, rl, w⟩, ?_⟩
  rintro m σ' H' ⟨U', S', ρ', st, s', rl', w'⟩
  cases m with
  | zero => exact False.elim w'
  | succ m =>
    refine i U' S' H' σ' ρ' _ s' rl' (Wants.mono (Wants.bind w') fun U1 S1 H1 c st1 s1 w1 => ?_)
    cases c with
    | true =>
      rw [if_pos rfl] at w1 ⊢
      refine ⟨fun σ3 H3 => ∃ U3 S3 ρ3, Step U H U3 H3 ∧ Sat X.K U3 S3 H3 ∧ RelL X.K U3 ρ3 σ3 ∧ Wants X.K E U3 H3 (mWhile mc b m ρ3 S3) (KS X.K N), fun σ3 H3 h3 => ⟨m, Nat.lt_succ_self m, h3⟩, ?_⟩
      refine k U1 S1 H1 σ' ρ' _ s1 (rl'.step st1) (w1.bind.mono fun U4 S4 H4 rr st4 s4 w4 σ4 rl4 => ?_)
      obtain ⟨f, ρ4⟩ := rr
      have all := (st.trans st1).trans st4
      cases f with
      | nx => exact ⟨U4, S4, ρ4, all, s4, rl4, w4⟩
      | ct => exact ⟨U4, S4, ρ4, all, s4, rl4, w4⟩
      | bk => exact (Wants.ok w4 s4) σ4 rl4
      | rt d => exact (Wants.ok w4 s4) σ4 rl4
    | false =>
      rw [if_neg Bool.false_ne_true] at w1 ⊢
      exact (Wants.ok w1 s1) σ' (rl'.step st1)

/-! ### what is walked -/
def mItems (m : ME) : MI := fun ρ S => (m ρ S).bind fun d S1 => match d with
  | .p (.list xs) => .ok xs S1
  | .p (.tuple xs) => .ok xs S1
  | _ => .stuck
theorem runsL {K : PySem.W.Frag} {U : Wd} {H : Hp} {a : Addr} {vs : List V} {xs : List PyData} (h : Rd U.F a (.lst vs)) (r : RpAll K U.F vs xs) : Runs K U H (Itl K a) xs := by
  intro U' S' H' i st s'
  have q : SqL K H' a vs := .inl (Rd.le s'.fz (Rd.sub st.ef h))
  refine ⟨fun hl => ⟨vs, q, by rw [r.length, hl]; exact Nat.le_refl _⟩, fun x hx => ?_⟩
  obtain ⟨v, hv, rv⟩ := r.get hx
  refine ⟨⟨vs, v, q, hv⟩, fun v' H'' y => ?_⟩
  obtain ⟨rfl, y⟩ := y
  have e := y vs q
  rw [hv] at e; cases e
  exact ⟨U', Step.refl _ _, s', rv.sub st.ef⟩
theorem runsT {K : PySem.W.Frag} {U : Wd} {H : Hp} {a : Addr} {vs : List V} {xs : List PyData} (h : SqN K U.F a vs xs) (r : RpAll K U.F vs xs) : Runs K U H (Itt K a) xs := by
  intro U' S' H' i st s'
  have q : SqT K H' a vs := SqT.le s'.fz (SqT.sub st.ef h)
  refine ⟨fun hl => ⟨vs, q, by rw [r.length, hl]; exact Nat.le_refl _⟩, fun x hx => ?_⟩
  obtain ⟨v, hv, rv⟩ := r.get hx
  refine ⟨⟨vs, v, q, hv⟩, fun v' H'' y => ?_⟩
  obtain ⟨rfl, y⟩ := y
  have e := y vs q
  rw [hv] at e; cases e
  exact ⟨U', Step.refl _ _, s', rv.sub st.ef⟩
def mItL (m : ME) : MI := fun ρ S => (m ρ S).bind fun d S1 => match d with
  | .p (.list xs) => .ok xs S1
  | _ => .stuck
def mItT (m : ME) : MI := fun ρ S => (m ρ S).bind fun d S1 => match d with
  | .p (.tuple xs) => .ok xs S1
  | _ => .stuck
theorem ii_list {tg e : Expr} {m : ME} (h : IE X E e m) : II X E tg e (mItL m) := by
  obtain ⟨t, p, i⟩ := h
  refine ⟨_, pi_list p, fun U S H σ ρ R s rl w => i U S H σ ρ _ s rl (w.bind.mono fun U1 S1 H1 d st1 s1 w1 v rv => ?_)⟩
  split at w1
  · next xs =>
    cases rv with
    | lst hq ha => exact ⟨_, rfl, ⟨_, .inl (Rd.le s1.fz hq)⟩, (Wants.ok w1 s1) _ (runsL hq ha)⟩
  · exact False.elim w1
theorem ii_tup {tg e : Expr} {m : ME} (h : IE X E e m) : II X E tg e (mItT m) := by
  obtain ⟨t, p, i⟩ := h
  refine ⟨_, pi_tup p, fun U S H σ ρ R s rl w => i U S H σ ρ _ s rl (w.bind.mono fun U1 S1 H1 d st1 s1 w1 v rv => ?_)⟩
  split at w1
  · next xs =>
    cases rv with
    | tup hq ha => exact ⟨_, rfl, ⟨_, SqT.le s1.fz hq⟩, (Wants.ok w1 s1) _ (runsT hq ha)⟩
  · exact False.elim w1
/-- lo, lo + 1, .. -/
def rangeP (lo : Int) : Nat → List PyData
  | 0 => []
  | n + 1 => .int lo :: rangeP (lo + 1) n
theorem rangeP_length (n : Nat) : ∀ lo : Int, (rangeP lo n).length = n := by
  induction n with
  | zero => intro lo; rfl
  | succ n ih => intro lo; unfold rangeP; rw [List.length_cons, ih]
theorem rangeP_get (n : Nat) : ∀ (lo : Int) (i : Nat), (rangeP lo n)[i]? = if i < n then some (.int (lo + i)) else none := by
  induction n with
  | zero => intro lo i; simp [rangeP]
  | succ n ih =>
    intro lo i
    unfold rangeP
    cases i with
    | zero => simp
    | succ i =>
      rw [List.getElem?_cons_succ, ih]
      by_cases h : i < n
      · rw [if_pos h, if_pos (by omega)]; congr 2; omega
      · rw [if_neg h, if_neg (by omega)]
theorem runsR {K : PySem.W.Frag} {U : Wd} {H : Hp} {lo : Int} {n : Nat} : Runs K U H (Itr lo n) (rangeP lo n) := by
  intro U' S' H' i st s'
  refine ⟨fun hl => by rw [rangeP_length] at hl; exact Nat.le_of_eq hl.symm, fun x hx => ?_⟩
  rw [rangeP_get] at hx
  by_cases h : i < n
  · rw [if_pos h] at hx; cases hx
    refine ⟨h, fun v H'' y => ?_⟩
    obtain ⟨rfl, rfl⟩ := y
    exact ⟨U', Step.refl _ _, s', .int _⟩
  · rw [if_neg h] at hx; cases hx
def inB (i : Int) : Bool := decide (-1000000 ≤ i) && decide (i ≤ 1000000)
theorem inB_of {i : Int} (h : inB i = true) : -(2 ^ 62) ≤ i ∧ i < 2 ^ 62 := by
  unfold inB at h
  simp only [Bool.and_eq_true, decide_eq_true_eq] at h
  omega
def mRng1 (n : MA) : MI := fun ρ S => (n ρ S).bind fun ds S1 => match ds with
  | [.p (.int j)] => if inB j = true then .ok (rangeP 0 j.toNat) S1 else .stuck
  | _ => .stuck
def mRng2 (n : MA) : MI := fun ρ S => (n ρ S).bind fun ds S1 => match ds with
  | [.p (.int i), .p (.int j)] => if (inB i && inB j) = true then .ok (rangeP i (j - i).toNat) S1 else .stuck
  | _ => .stuck
theorem rel1 {K : PySem.W.Frag} {U : Wd} {x : D} {vs : List V} (h : RelDs K U [x] vs) : ∃ v, vs = [v] ∧ RelD K U x v := by
  cases h with
  | cons r t => cases t; exact ⟨_, rfl, r⟩
theorem rel2 {K : PySem.W.Frag} {U : Wd} {x y : D} {vs : List V} (h : RelDs K U [x, y] vs) : ∃ v u, vs = [v, u] ∧ RelD K U x v ∧ RelD K U y u := by
  cases h with
  | cons r t =>
    obtain ⟨u, rfl, q⟩ := rel1 t
    exact ⟨_, u, rfl, r, q⟩
theorem rel3 {K : PySem.W.Frag} {U : Wd} {x y z : D} {vs : List V} (h : RelDs K U [x, y, z] vs) : ∃ v u w, vs = [v, u, w] ∧ RelD K U x v ∧ RelD K U y u ∧ RelD K U z w := by
  cases h with
  | cons r t =>
    obtain ⟨u, w, rfl, q, q'⟩ := rel2 t
    exact ⟨_, u, w, rfl, r, q, q'⟩
theorem ii_rng1 {tg a : Expr} {p pos : Pos} {n : MA} (hg : Gl X "range") (hm : X.mg "range" = none) (ha : IA X E [a] n) (hs : starEach [a] X.env = [(false, eval a X.env)] := by rfl) : II X E tg (.Call (.Name "range" p) [a] [] pos) (mRng1 n) := by
  obtain ⟨⟨t, p, i⟩, _⟩ := ha
  refine ⟨_, pi_range1 hg hm p hs, fun U S H σ ρ R s rl w => i U S H σ ρ _ s rl (w.bind.mono fun U1 S1 H1 ds st1 s1 w1 vs rv => ?_)⟩
  split at w1
  · next j =>
    split at w1
    · next hj =>
      obtain ⟨v, rfl, r⟩ := rel1 rv
      cases r
      exact ⟨j, rfl, (inB_of hj).1, (inB_of hj).2, (Wants.ok w1 s1) _ runsR⟩
    · exact False.elim w1
  · exact False.elim w1
theorem ii_rng2 {tg a b : Expr} {p pos : Pos} {n : MA} (hg : Gl X "range") (hm : X.mg "range" = none) (ha : IA X E [a, b] n) (hs : starEach [a, b] X.env = [(false, eval a X.env), (false, eval b X.env)] := by rfl) (hs2 : starEach [b] X.env = [(false, eval b X.env)] := by rfl) : II X E tg (.Call (.Name "range" p) [a, b] [] pos) (mRng2 n) := by
  obtain ⟨⟨t, p, i⟩, _⟩ := ha
  refine ⟨_, pi_range2 hg hm p hs hs2, fun U S H σ ρ R s rl w => i U S H σ ρ _ s rl (w.bind.mono fun U1 S1 H1 ds st1 s1 w1 vs rv => ?_)⟩
  split at w1
  · next j k =>
    split at w1
    · next hj =>
      obtain ⟨v, u, rfl, r, r'⟩ := rel2 rv
      cases r; cases r'
      rw [Bool.and_eq_true] at hj
      exact ⟨j, k, rfl, ⟨(inB_of hj.1).1, (inB_of hj.1).2, (inB_of hj.2).1, (inB_of hj.2).2⟩, (Wants.ok w1 s1) _ runsR⟩
    · exact False.elim w1
  · exact False.elim w1
end

/-! ### list comprehensions -/
def wipeL (ρ : Loc) : List Nat → Loc
  | [] => ρ
  | v :: vs => (wipeL ρ vs).set v none
def mLcL (g : MG) (tt : MT) (te : ME) (ρ : Loc) : List PyData → Sto → Res (List PyData)
  | [], S => .ok [] S
  | x :: xs, S => (g (.p x) ρ S).nox.bind fun ρ1 S1 => (tt ρ1 S1).nox.bind fun b S2 => if b = true then (te ρ1 S2).nox.bind fun d S3 => match d with
      | .p y => (mLcL g tt te ρ xs S3).bind fun ys S4 => .ok (y :: ys) S4
      | .r _ => .stuck
    else mLcL g tt te ρ xs S2
def mLc (mi : MI) (g : MG) (tt : MT) (te : ME) (vs : List Nat) : ML := fun ρ S => (mi ρ S).bind fun xs S1 => if xs.length ≤ 1000000 then mLcL g tt te (wipeL ρ vs) xs S1 else .stuck
def mYes : MT := fun _ S => .ok true S
structure ITs (X : Cx) (E : EX) (es : List Expr) (m : MT) : Prop where
  ex : ∃ t, PTs X es t ∧ ImpT X.K E t m
section
variable {X : Cx} {E : EX} {pos : Pos}
theorem its_nil : ITs X E [] mYes := ⟨_, pts_nil, fun U S H σ ρ Q s rl w => w.ok s⟩
theorem its_one {c : Expr} {m : MT} (h : IT X E c m) : ITs X E [c] m := by
  obtain ⟨t, p, i⟩ := h
  exact ⟨_, pts_one p, i⟩
theorem RelL.wipe {K : PySem.W.Frag} {U : Wd} {ρ : Loc} {σ : L2.St} (h : RelL K U ρ σ) : ∀ vs : List Nat, RelL K U (wipeL ρ vs) (L2.wipe σ vs)
  | [] => h
  | v :: vs => (RelL.wipe h vs).setNone v
theorem wipe_get (σ : L2.St) : ∀ (vs : List Nat) (i : Nat), (L2.wipe σ vs)[i]? = if i ∈ vs then (if i < σ.length then some none else none) else σ[i]?
  | [], i => by simp [L2.wipe]
  | v :: vs, i => by
    unfold L2.wipe
    by_cases h : v = i
    · subst h
      by_cases hl : v < σ.length
      · rw [List.getElem?_set_self (by rw [wipe_length]; exact hl)]; simp [hl]
      · rw [List.getElem?_eq_none (by rw [List.length_set, wipe_length]; omega)]; simp [hl]
    · rw [List.getElem?_set_ne h, wipe_get σ vs i]
      have : (i ∈ v :: vs) ↔ i ∈ vs := by
        rw [List.mem_cons]; exact ⟨fun q => q.elim (fun e => absurd e.symm h) id, .inr⟩
      simp only [this]
theorem wipe_only {σ σ' : L2.St} {ws vs : List Nat} (h : Only ws (L2.wipe σ vs) σ') (k : ∀ i ∈ ws, i ∈ vs) : L2.wipe σ' vs = L2.wipe σ vs := by
  apply List.ext_getElem?
  intro i
  rw [wipe_get, wipe_get]
  have hl : σ'.length = σ.length := by rw [h.1, wipe_length]
  by_cases hi : i ∈ vs
  · rw [if_pos hi, if_pos hi, hl]
  · rw [if_neg hi, if_neg hi, h.2 i fun q => hi (k i q), wipe_get, if_neg hi]
theorem Wants.at {α β : Type} {K : PySem.W.Frag} {E E' : EX} {U U' : Wd} {H H' : Hp} {r : Res α} {f : α → Sto → Res β} {k : Wd → Sto → Hp → β → Prop} (h : Wants K E U H (r.nox.bind f) k) : Wants K E' U' H' r fun _ S' _ a => Wants K E U H (f a S') k := by
  cases r with
  | ok a S => exact fun _ _ _ _ => h
  | exc c S => exact False.elim h
  | stuck => exact h
theorem Step.aloof {Ua Ub : Wd} {Ha Hb : Hp} {p : Addr} {o : HO} (t : Step Ua Ha Ub Hb) (h1 : Ha p = some o) (h2 : Ua.F p = none) (h3 : ∀ l, Ua.io l ≠ some p) : Hb p = some o ∧ Ub.F p = none ∧ ∀ l, Ub.io l ≠ some p := by
  refine ⟨t.fr _ _ h1 h3, ?_, fun l e => ?_⟩
  · cases e : Ub.F p with
    | none => rfl
    | some o =>
      rcases t.nf _ _ e with q | q | ⟨l, q⟩
      · rw [h2] at q; cases q
      · rw [h1] at q; cases q
      · exact absurd q (h3 l)
  · rcases t.ni _ _ e with q | q
    · exact h3 l q
    · rw [h1] at q; cases q
/-! the reading that says just what the function says -/
def canE (K : PySem.W.Frag) (E : EX) (m : ME) : TE := fun σ H Q => ∃ U S ρ, Sat K U S H ∧ RelL K U ρ σ ∧ Wants K E U H (m ρ S) (KD K Q)
def canT (K : PySem.W.Frag) (E : EX) (m : MT) : TT := fun σ H Q => ∃ U S ρ, Sat K U S H ∧ RelL K U ρ σ ∧ Wants K E U H (m ρ S) (fun _ _ H' b => Q b H')
def canG (K : PySem.W.Frag) (E : EX) (ws : List Nat) (g : MG) : TG := fun v σ H Q => ∃ U S ρ d, Sat K U S H ∧ RelL K U ρ σ ∧ RelD K U d v ∧ Wants K E U H (g d ρ S) (fun U' _ H' ρ' => ∀ σ', RelL K U' ρ' σ' → Only ws σ σ' → Q σ' H')
def canI (K : PySem.W.Frag) (E : EX) (m : MI) : TI := fun σ H R => ∃ U S ρ, Sat K U S H ∧ RelL K U ρ σ ∧ Wants K E U H (m ρ S) (fun U' _ H' xs => ∀ J, Runs K U' H' J xs → R J H')
theorem IE.can {e : Expr} {m : ME} (h : IE X E e m) : PE X e (canE X.K E m) := by
  obtain ⟨t, p, i⟩ := h
  exact ⟨fun pins s σ H Q I ⟨U, S, ρ, a, b, c⟩ => p.run pins s σ H Q I (i U S H σ ρ Q a b c)⟩
theorem ITs.can {e : List Expr} {m : MT} (h : ITs X E e m) : PTs X e (canT X.K E m) := by
  obtain ⟨t, p, i⟩ := h
  exact ⟨fun pins s σ H Q I ⟨U, S, ρ, a, b, c⟩ => p.run pins s σ H Q I (i U S H σ ρ Q a b c)⟩
theorem IG.can {e : Expr} {ws : List Nat} {g : MG} (h : IG X E ws e g) : PG X e (canG X.K E ws g) := by
  obtain ⟨t, p, i⟩ := h
  exact ⟨fun pins s σ H v u Q I r ⟨U, S, ρ, d, a, b, rd, c⟩ => p.run pins s σ H v u Q I r (i U S H σ ρ v d Q a b rd c)⟩
theorem II.can {tg e : Expr} {m : MI} (h : II X E tg e m) : PI X tg e (canI X.K E m) := by
  obtain ⟨t, p, i⟩ := h
  exact ⟨fun pins s σ H R I ⟨U, S, ρ, a, b, c⟩ => p.run pins s σ H R I (i U S H σ ρ R a b c)⟩
theorem impCanE {K : PySem.W.Frag} {m : ME} : ImpE K E (canE K E m) m := fun U S H σ ρ Q a b c => ⟨U, S, ρ, a, b, c⟩
theorem impCanT {K : PySem.W.Frag} {m : MT} : ImpT K E (canT K E m) m := fun U S H σ ρ Q a b c => ⟨U, S, ρ, a, b, c⟩
theorem impCanG {K : PySem.W.Frag} {ws : List Nat} {g : MG} : ImpG K E ws (canG K E ws g) g := fun U S H σ ρ v d Q a b r c => ⟨U, S, ρ, d, a, b, r, c⟩
theorem impCanI {K : PySem.W.Frag} {m : MI} : ImpI K E (canI K E m) m := fun U S H σ ρ R a b c => ⟨U, S, ρ, a, b, c⟩
/-- the heart: the turns of a comprehension -/
theorem lc_turns {K : PySem.W.Frag} {J : It} {g : TG} {tt : TT} {te : TE} {mg : MG} {mt : MT} {me : ME} {ws vs : List Nat} (hws : ∀ i ∈ ws, i ∈ vs) (ig : ImpG K E1 ws g mg) (it : ImpT K E1 tt mt) (ie : ImpE K E1 te me)
    {U1 : Wd} {S1 : Sto} {H1 : Hp} {σ : L2.St} {ρ : Loc} {xs : List PyData} {Q : VK} (s1 : Sat K U1 S1 H1) (rl : RelL K U1 ρ σ) (RJ : Runs K U1 H1 J xs) (hz : xs.length ≤ 1000000)
    {U0 : Wd} {H0 : Hp} (st01 : Step U0 H0 U1 H1) (w : Wants K E U0 H0 (mLcL mg mt me (wipeL ρ vs) xs S1) (KL K H0 Q)) (Dd : Addr) (hD : H1 Dd = none) :
    ∃ W : Nat → Nat → Hp → Prop, (∃ m, W 0 m (upd H1 Dd (.lst []))) ∧ ∀ i m H, W i m H →
      (J.stop i H ∧ Q (.ref Dd) H) ∨ (J.go i H ∧ ∃ Nx : Hp → Prop, (∀ H', Nx H' → ∃ m', m' < m ∧ W (i + 1) m' H') ∧ ∀ x H', J.yld i H x H' → g x (L2.wipe σ vs) H' fun σ2 H2 => L2.wipe σ2 vs = L2.wipe σ vs ∧ tt σ2 H2 fun b H3 =>
        if b = true then te σ2 H3 fun y H4 => ∃ acc, H4 Dd = some (.lst acc) ∧ acc.length < sizeLine ∧ Nx (upd H4 Dd (.lst (acc ++ [y]))) else Nx H3) := by
  let St' : Nat → Hp → Prop := fun n H' => ∃ (U' : Wd) (S' : Sto) (acc : List V) (accP : List PyData), Step U1 H1 U' H' ∧ Sat K U' S' H' ∧ U'.F Dd = none ∧ (∀ l, U'.io l ≠ some Dd) ∧ H' Dd = some (.lst acc) ∧ RpAll K U'.F acc accP ∧ acc.length ≤ n ∧
    Wants K E U0 H0 ((mLcL mg mt me (wipeL ρ vs) (xs.drop n) S').bind fun ys S2 => .ok (accP ++ ys) S2) (KL K H0 Q)
  refine ⟨fun n m H' => m = xs.length - n ∧ n ≤ xs.length ∧ St' n H', ⟨xs.length, by simp, Nat.zero_le _, U1, S1, [], [], Step.aside (Step.refl _ _) hD, s1.aside (s1.no hD) (s1.noi hD), s1.no hD, s1.noi hD, upd_same, .nil, Nat.le_refl _, by
    rw [List.drop_zero]
    cases hh : mLcL mg mt me (wipeL ρ vs) xs S1 with
    | ok a S => rw [hh] at w; exact w
    | exc c S => rw [hh] at w; exact w
    | stuck => rw [hh] at w; exact w⟩, ?_⟩
  rintro n m H' ⟨rfl, hn, U', S', acc, accP, st, s', hF, hio, hacc, racc, hlen, w'⟩
  obtain ⟨stop, go⟩ := RJ U' S' H' n st.p s'
  by_cases hlt : n < xs.length
  · have hx : xs[n]? = some xs[n] := by simp [hlt]
    obtain ⟨hgo, yl⟩ := go _ hx
    refine .inr ⟨hgo, St' (n + 1), fun H3 h3 => ⟨xs.length - (n + 1), by omega, rfl, hlt, h3⟩, fun v H'' y => ?_⟩
    obtain ⟨U2, st2, s2, rv⟩ := yl v H'' y
    obtain ⟨d2, f2, i2⟩ := st2.aloof hacc hF hio
    rw [drop_cons hx] at w'
    have w2 : Wants K E U0 H0 ((mg (.p xs[n]) (wipeL ρ vs) S').nox.bind fun ρ1 S1 => ((mt ρ1 S1).nox.bind fun b S2 => if b = true then (me ρ1 S2).nox.bind fun d S3 => match d with
      | .p y => (mLcL mg mt me (wipeL ρ vs) (xs.drop (n + 1)) S3).bind fun ys S4 => .ok (y :: ys) S4
      | .r _ => .stuck
      else mLcL mg mt me (wipeL ρ vs) (xs.drop (n + 1)) S2).bind fun ys S2 => .ok (accP ++ ys) S2) (KL K H0 Q) := by
      have e : ∀ {α β γ : Type} (r : Res α) (f : α → Sto → Res β) (h : β → Sto → Res γ), (r.bind f).bind h = r.bind fun a S => (f a S).bind h := fun r f h => by cases r <;> rfl
      unfold mLcL at w'
      rw [e] at w'
      exact w'
    refine ig U2 S' H'' (L2.wipe σ vs) (wipeL ρ vs) v (.p xs[n]) _ s2 ((((rl.step st).step st2)).wipe vs) rv (Wants.mono (Wants.at w2) fun U3 S3 H3 ρ3 st3 s3 w3 σ3 rl3 o3 => ⟨wipe_only o3 hws, ?_⟩)
    obtain ⟨d3, f3, i3⟩ := st3.aloof d2 f2 i2
    have w3' : Wants K E U0 H0 ((mt ρ3 S3).nox.bind fun b S2 => (if b = true then (me ρ3 S2).nox.bind fun d S3 => match d with
      | .p y => (mLcL mg mt me (wipeL ρ vs) (xs.drop (n + 1)) S3).bind fun ys S4 => .ok (y :: ys) S4
      | .r _ => .stuck
      else mLcL mg mt me (wipeL ρ vs) (xs.drop (n + 1)) S2).bind fun ys S2 => .ok (accP ++ ys) S2) (KL K H0 Q) := by
      cases hh : (mt ρ3 S3).nox with
      | ok b S => rw [hh] at w3; exact w3
      | exc c S => rw [hh] at w3; exact w3
      | stuck => rw [hh] at w3; exact w3
    refine it U3 S3 H3 σ3 ρ3 _ s3 rl3 (Wants.mono (Wants.at w3') fun U4 S4 H4 b st4 s4 w4 => ?_)
    obtain ⟨d4, f4, i4⟩ := st4.aloof d3 f3 i3
    have all4 := (((st.trans st2).trans st3).trans st4)
    have ef4 : Sub U'.F U4.F := ((st2.trans st3).trans st4).ef
    cases b with
    | true =>
      rw [if_pos rfl] at w4 ⊢
      have w4' : Wants K E U0 H0 ((me ρ3 S4).nox.bind fun d S3 => (match d with
        | .p y => (mLcL mg mt me (wipeL ρ vs) (xs.drop (n + 1)) S3).bind fun ys S4 => .ok (y :: ys) S4
        | .r _ => .stuck).bind fun ys S2 => .ok (accP ++ ys) S2) (KL K H0 Q) := by
        cases hh : (me ρ3 S4).nox with
        | ok b S => rw [hh] at w4; exact w4
        | exc c S => rw [hh] at w4; exact w4
        | stuck => rw [hh] at w4; exact w4
      refine ie U4 S4 H4 σ3 ρ3 _ s4 (rl3.step st4) (Wants.mono (Wants.at w4') fun U5 S5 H5 d st5 s5 w5 u ru => ?_)
      obtain ⟨d5, f5, i5⟩ := st5.aloof d4 f4 i4
      refine ⟨acc, d5, Nat.lt_of_le_of_lt (by omega : acc.length ≤ 1000000) (by decide), ?_⟩
      cases d with
      | r l => exact False.elim w5
      | p y =>
        refine ⟨U5, S5, acc ++ [u], accP ++ [y], (all4.trans st5).aside hD, s5.aside f5 i5, f5, i5, upd_same, RpAll.append (racc.sub (ef4.trans st5.ef)) (.cons ru .nil), by rw [List.length_append, List.length_singleton]; omega, ?_⟩
        cases hh : mLcL mg mt me (wipeL ρ vs) (xs.drop (n + 1)) S5 with
        | ok b S =>
          have w6 : Wants K E U0 H0 (((mLcL mg mt me (wipeL ρ vs) (xs.drop (n + 1)) S5).bind fun ys S4 => Res.ok (y :: ys) S4).bind fun ys S2 => .ok (accP ++ ys) S2) (KL K H0 Q) := w5
          rw [hh] at w6
          have w7 : Wants K E U0 H0 (.ok (accP ++ y :: b) S) (KL K H0 Q) := w6
          show Wants K E U0 H0 (.ok (accP ++ [y] ++ b) S) (KL K H0 Q)
          rw [List.append_assoc]; exact w7
        | exc c S =>
          have w6 : Wants K E U0 H0 (((mLcL mg mt me (wipeL ρ vs) (xs.drop (n + 1)) S5).bind fun ys S4 => Res.ok (y :: ys) S4).bind fun ys S2 => .ok (accP ++ ys) S2) (KL K H0 Q) := w5
          rw [hh] at w6; exact w6
        | stuck =>
          have w6 : Wants K E U0 H0 (((mLcL mg mt me (wipeL ρ vs) (xs.drop (n + 1)) S5).bind fun ys S4 => Res.ok (y :: ys) S4).bind fun ys S2 => .ok (accP ++ ys) S2) (KL K H0 Q) := w5
          rw [hh] at w6; exact w6
    | false =>
      rw [if_neg Bool.false_ne_true] at w4 ⊢
      exact ⟨U4, S4, acc, accP, all4, s4, f4, i4, d4, racc.sub ef4, by omega, w4⟩
  · have e : n = xs.length := by omega
    subst e
    rw [List.drop_length] at w'
    have w7 : Wants K E U0 H0 (.ok (accP ++ []) S') (KL K H0 Q) := w'
    rw [List.append_nil] at w7
    exact .inl ⟨stop rfl, w7 _ _ (st01.trans st) s' Dd acc (st01.old hD) hF hio hacc racc⟩
theorem il_lc {elt tg iter : Expr} {ifs : List Expr} {scope : Scope} {own : List (Str × Nat)} {mi : MI} {g : MG} {tt : MT} {te : ME} {ws : List Nat} (hc : X.calm = true) (hN : X.N.Nodup) (hi : II X E tg iter mi) (ok : BlkOk X.N X.env.scope scope own)
    (hws : ∀ i ∈ ws, i ∈ own.map (·.2))
    (hg : ∀ (s : Shared) (H : Hp) (C : Addr) (cl : List (Str × Addr)) (fp : List Addr), IG (X.blk s H scope (compEnvC scope cl C X.env) fp) E1 ws tg g)
    (ht : ∀ (s : Shared) (H : Hp) (C : Addr) (cl : List (Str × Addr)) (fp : List Addr), ITs (X.blk s H scope (compEnvC scope cl C X.env) fp) E1 ifs tt)
    (he : ∀ (s : Shared) (H : Hp) (C : Addr) (cl : List (Str × Addr)) (fp : List Addr), IE (X.blk s H scope (compEnvC scope cl C X.env) fp) E1 elt te)
    (hs : ∀ x, foldedSetIterable iter X.env x = pure x := by intro _; rfl) :
    IL X E (.ListComp elt [⟨tg, iter, ifs, 0⟩] scope pos) (mLc mi g tt te (own.map (·.2))) := by
  obtain ⟨t, p, i⟩ := hi
  refine ⟨_, pe_lc hc hN p ok (fun s H C cl fp => (hg s H C cl fp).can) (fun s H C cl fp => (ht s H C cl fp).can) (g := canG X.K E1 ws g) (tt := canT X.K E1 tt) (te := canE X.K E1 te) (fun s H C cl fp => (he s H C cl fp).can) hs, fun U S H σ ρ Q s rl w => i U S H σ ρ _ s rl (w.bindL.mono fun U1 S1 H1 xs st1 s1 w1 J RJ Dd hD => ?_)⟩
  obtain ⟨_, w1⟩ := w1
  split at w1
  · next hz => exact lc_turns hws impCanG impCanT impCanE s1 (rl.step st1) RJ hz st1 w1 Dd hD
  · exact False.elim w1
/-- name = [..] on one line: f is mP or mR -/
theorem is_setLc {i : Nat} {y : Str} {py spos : Pos} {elt tg iter : Expr} {ifs : List Expr} {scope : Scope} {own : List (Str × Nat)} {mi : MI} {g : MG} {tt : MT} {te : ME} {ws : List Nat} {f : ML → ME} (hf : ∀ (t : TE) (m : ML), ImpL X.K E t m → ImpE X.K E t (f m)) (hc : X.calm = true) (hN : X.N.Nodup) (hy : X.N[i]? = some y) (hyl : X.env.scope.names.lookup y = some .local)
    (hsw : swapsWith (.ListComp elt [⟨tg, iter, ifs, 0⟩] scope pos) (some (.Name y py)) spos.line X.env = pure true) (hi : II X E tg iter mi) (ok : BlkOk X.N X.env.scope scope own)
    (hws : ∀ i ∈ ws, i ∈ own.map (·.2))
    (hg : ∀ (s : Shared) (H : Hp) (C : Addr) (cl : List (Str × Addr)) (fp : List Addr), IG (X.blk s H scope (compEnvC scope cl C X.env) fp) E1 ws tg g)
    (ht : ∀ (s : Shared) (H : Hp) (C : Addr) (cl : List (Str × Addr)) (fp : List Addr), ITs (X.blk s H scope (compEnvC scope cl C X.env) fp) E1 ifs tt)
    (he : ∀ (s : Shared) (H : Hp) (C : Addr) (cl : List (Str × Addr)) (fp : List Addr), IE (X.blk s H scope (compEnvC scope cl C X.env) fp) E1 elt te)
    (hs : ∀ x, foldedSetIterable iter X.env x = pure x := by intro _; rfl) :
    IS X E (.Assign [.Name y py] (.ListComp elt [⟨tg, iter, ifs, 0⟩] scope pos) spos) (mAsg (f (mLc mi g tt te (own.map (·.2)))) (gN i)) := by
  obtain ⟨t, p, j⟩ := hi
  refine ⟨_, ps_setLc hc hN hy hyl hsw p ok (fun s H C cl fp => (hg s H C cl fp).can) (fun s H C cl fp => (ht s H C cl fp).can) (g := canG X.K E1 ws g) (tt := canT X.K E1 tt) (te := canE X.K E1 te) (fun s H C cl fp => (he s H C cl fp).can) hs, impS_asg (hf _ _ fun U S H σ ρ Q s rl w => j U S H σ ρ _ s rl (w.bindL.mono fun U1 S1 H1 xs st1 s1 w1 J RJ Dd hD => ?_))⟩
  obtain ⟨_, w1⟩ := w1
  split at w1
  · next hz => exact lc_turns hws impCanG impCanT impCanE s1 (rl.step st1) RJ hz st1 w1 Dd hD
  · exact False.elim w1

/-! ### defs -/
/-- what may be handed back -/
@[simp] def mov : Option Ob → Bool
  | some (.ins _ _) => false
  | some (.tab _ _) => false
  | _ => true
def finish (n : Nat) (r : Res (Fl × Loc)) : Res D := match r with
  | .ok (.rt (.p x), _) S' => .ok (.p x) (S'.take n)
  | .ok (.rt (.r l), _) S' => if l < n then .ok (.r l) (S'.take n) else (match S'[l]? with
    | some o => if (decide (n ≤ S'.length) && mov o) = true then .ok (.r n) (S'.take n ++ [o]) else .stuck
    | none => .stuck)
  | .ok (.nx, _) S' => .ok (.p .none) (S'.take n)
  | .ok (.bk, _) _ => .stuck
  | .ok (.ct, _) _ => .stuck
  | .exc c S' => .exc c (S'.take n)
  | .stuck => .stuck
def startL (n : Nat) (ds : List D) : Loc := ds.map some ++ List.replicate (n - ds.length) none
/-- a def: so many names, its body -/
def fnOf (n : Nat) (m : MS) : Fn := fun ds S => finish S.length (m (startL n ds) S)
/-- the promise of a def that does as fn -/
def spF (K : PySem.W.Frag) (cl : Nat → Value) (n : Nat) (fn : Fn) : Sp := fun vs H Q Ex => vs.length = n ∧ ∃ U S ds, Sat K U S H ∧ RelDs K U ds vs ∧ Wants K (fun c H' => Ex (cl c) none H') U H (fn ds S) (KD K Q)
theorem relStart {K : PySem.W.Frag} {U : Wd} {ds : List D} {vs : List V} {N : List Str} (r : RelDs K U ds vs) : RelL K U (startL N.length ds) (L2.start N vs) := by
  have hl : ds.length = vs.length := Paired.length r
  refine ⟨by unfold startL L2.start; simp [hl], fun i d h => ?_⟩
  unfold startL at h
  unfold L2.start
  by_cases hi : i < ds.length
  · rw [List.getElem?_append_left (by simpa using hi)] at h
    rw [List.getElem?_append_left (by simpa [← hl] using hi)]
    have aux : ∀ {ds : List D} {vs : List V} {i : Nat}, RelDs K U ds vs → (ds.map some)[i]? = some (some d) → ∃ v, (vs.map some)[i]? = some (some v) ∧ RelD K U d v := by
      intro ds vs i r
      induction r generalizing i with
      | nil => intro h; simp at h
      | cons r0 t ih =>
        intro h
        cases i with
        | zero => simp at h; subst h; exact ⟨_, rfl, r0⟩
        | succ i => simpa using ih (i := i) (by simpa using h)
    exact aux r h
  · rw [List.getElem?_append_right (by simpa using hi)] at h
    rw [List.getElem?_replicate] at h
    split at h <;> cases h
/-- one of them is handed back -/
def Wd.cutK (U : Wd) (n l : Nat) : Wd := ⟨U.F, fun k => if k < n then U.io k else if k = n then U.io l else none⟩
theorem Sat.cutK {K : PySem.W.Frag} {U : Wd} {S : Sto} {H : Hp} (s : Sat K U S H) {n l : Nat} {o : Option Ob} (hl : n ≤ l) (hn : n ≤ S.length) (ho : S[l]? = some o) (hm : mov o = true) : Sat K (U.cutK n l) (S.take n ++ [o]) H := by
  have hlen : (S.take n).length = n := by rw [List.length_take]; omega
  have at_ : ∀ k a, (U.cutK n l).io k = some a → (k < n ∧ U.io k = some a) ∨ (k = n ∧ U.io l = some a) := fun k a h => by
    have h' : (if k < n then U.io k else if k = n then U.io l else none) = some a := h
    by_cases e : k < n
    · rw [if_pos e] at h'; exact .inl ⟨e, h'⟩
    · rw [if_neg e] at h'
      by_cases e2 : k = n
      · rw [if_pos e2] at h'; exact .inr ⟨e2, h'⟩
      · rw [if_neg e2] at h'; cases h'
  have up : ∀ k a, k < n → U.io k = some a → (U.cutK n l).io k = some a := fun k a hk h => by
    show (if k < n then U.io k else if k = n then U.io l else none) = some a
    rw [if_pos hk]; exact h
  refine ⟨s.fz, fun k a h => ?_, fun k h => ?_, fun k k' a h h' => ?_, fun k a b h q => ?_, fun k a h => ?_, fun k b q => ?_⟩
  · rw [List.length_append, hlen, List.length_singleton]
    rcases at_ k a h with ⟨e, _⟩ | ⟨e, _⟩ <;> omega
  · rw [List.length_append, hlen, List.length_singleton] at h
    show ∃ a, (if k < n then U.io k else if k = n then U.io l else none) = some a
    by_cases e : k < n
    · rw [if_pos e]; exact s.tot k (by omega)
    · rw [if_neg e, if_pos (by omega)]
      exact s.tot l (List.getElem?_eq_some_iff.mp ho).1
  · rcases at_ k a h with ⟨e, q⟩ | ⟨e, q⟩
    · rcases at_ k' a h' with ⟨e', q'⟩ | ⟨e', q'⟩
      · exact s.inj k k' a q q'
      · have := s.inj k l a q q'; omega
    · rcases at_ k' a h' with ⟨e', q'⟩ | ⟨e', q'⟩
      · have := s.inj l k' a q q'; omega
      · rw [e, e']
  · rcases at_ k a h with ⟨e, z⟩ | ⟨e, z⟩
    · rw [List.getElem?_append_left (by rw [hlen]; exact e), List.getElem?_take_of_lt e] at q
      obtain ⟨z1, u, z2, z3⟩ := s.ob k a b z q
      exact ⟨z1, u, z2, ObIs.few (U := U) (U' := U.cutK n l) (n := k) rfl (fun j x hj hx => up j x (by omega) hx) (s.rf k b q) z3⟩
    · subst e
      rw [List.getElem?_append_right (by rw [hlen]; exact Nat.le_refl _), hlen, Nat.sub_self] at q
      have q' : o = some b := by simpa using q
      subst q'
      obtain ⟨z1, u, z2, z3⟩ := s.ob l a b z ho
      have hr0 : RfOk 0 b := by
        cases b with
        | ins _ _ => cases hm
        | _ => trivial
      exact ⟨z1, u, z2, ObIs.few (U := U) (U' := U.cutK k l) (n := 0) rfl (fun j x hj hx => absurd hj (Nat.not_lt_zero _)) hr0 z3⟩
  · rcases at_ k a h with ⟨e, z⟩ | ⟨e, z⟩
    · exact s.hs k a z
    · exact s.hs l a z
  · by_cases e : k < n
    · rw [List.getElem?_append_left (by rw [hlen]; exact e), List.getElem?_take_of_lt e] at q
      exact s.rf k b q
    · have hl' := (List.getElem?_eq_some_iff.mp q).1
      rw [List.length_append, hlen, List.length_singleton] at hl'
      have : k = n := by omega
      subst this
      rw [List.getElem?_append_right (by rw [hlen]; exact Nat.le_refl _), hlen, Nat.sub_self] at q
      have q' : o = some b := by simpa using q
      subst q'
      cases b with
      | ins _ _ => cases hm
      | _ => trivial
theorem Step.cutK {U0 U : Wd} {H0 H : Hp} {n l : Nat} (t : Step U0 H0 U H) (d : ∀ k a, U0.io k = some a → k < n) (hl : n ≤ l) : Step U0 H0 (U.cutK n l) H where
  ef := t.ef
  ei := fun k a h => by
    show (if k < n then U.io k else if k = n then U.io l else none) = some a
    rw [if_pos (d k a h)]; exact t.ei k a h
  fr := t.fr
  ni := fun k a h => by
    have h' : (if k < n then U.io k else if k = n then U.io l else none) = some a := h
    by_cases e : k < n
    · rw [if_pos e] at h'; exact t.ni k a h'
    · rw [if_neg e] at h'
      by_cases e2 : k = n
      · rw [if_pos e2] at h'
        rcases t.ni l a h' with q | q
        · have := d l a q; omega
        · exact .inr q
      · rw [if_neg e2] at h'; cases h'
  nf := t.nf
  dm := t.dm
  ff := t.ff
theorem wants_finish {K : PySem.W.Frag} {E : EX} {U : Wd} {S : Sto} {H : Hp} {r : Res (Fl × Loc)} {Q : VK} (s : Sat K U S H) (w : Wants K E U H (finish S.length r) (KD K Q)) : Wants K E U H r (KS K { nx := fun _ H' => Q .non H', rt := Q }) := by
  cases r with
  | stuck => exact w
  | exc c S' => exact fun U' H' st s' => w _ _ (st.cut s.dom) (s'.cut _)
  | ok a S' =>
    obtain ⟨f, ρ⟩ := a
    intro U' H' st s' σ' rl'
    cases f with
    | nx => exact w _ _ (st.cut s.dom) (s'.cut _) _ .non
    | bk => exact False.elim w
    | ct => exact False.elim w
    | rt d =>
      intro v rv
      cases d with
      | p x => exact w _ _ (st.cut s.dom) (s'.cut _) v rv
      | r l =>
        obtain ⟨a, e, q⟩ := rv
        have w' : Wants K E U H (if l < S.length then .ok (.r l) (S'.take S.length) else (match S'[l]? with
          | some o => if (decide (S.length ≤ S'.length) && mov o) = true then .ok (.r S.length) (S'.take S.length ++ [o]) else .stuck
          | none => .stuck)) (KD K Q) := w
        split at w'
        · next hl => exact w' _ _ (st.cut s.dom) (s'.cut _) v ⟨a, by show (if l < S.length then U'.io l else none) = some a; rw [if_pos hl]; exact e, q⟩
        · next hl =>
          split at w'
          · next o ho =>
            split at w'
            · next hn =>
              rw [Bool.and_eq_true, decide_eq_true_eq] at hn
              refine w' _ _ (st.cutK s.dom (Nat.le_of_not_lt hl)) (s'.cutK (Nat.le_of_not_lt hl) hn.1 ho hn.2) v ⟨a, ?_, q⟩
              show (if S.length < S.length then U'.io S.length else if S.length = S.length then U'.io l else none) = some a
              rw [if_neg (Nat.lt_irrefl _), if_pos rfl]; exact e
            · exact False.elim w'
          · exact False.elim w'
section
variable {P : Program} {w : World} {K : PySem.W.Frag} {mg : Str → Option Value} {base : Heap} {cl : Nat → Value}
/-- THE RULE for a def that lets no exception out -/
theorem fn_ok {x qual : Str} {st : Stmt} {f : Addr} {fd : FuncData} {N ps : List Str} {k : Nat} {m : MS} (F : Fun K x qual st f fd) (S : FnScope N ps (defScope st))
    (hbody : ∀ (cdv : Value) (A : Around) (outer : List Env) (s : Shared) (H : Hp) (E : XK), Room k (A.deeper (PyProof.Rows.envOfC qual (defScope st) s.heap.objs.size f cdv)) →
      ISs (cxOf CX0 P w K mg base N qual (defScope st) f cdv A outer s H E).nox E1 (defBody st) m) :
    FnOk P w K mg base CX0 (k + 1) f fd ps (spF K cl ps.length fun ds S => (fnOf N.length m ds S).nox) := by
  refine F.ok S (fun vs H Q E h => h.1) fun cdv A outer s H vs Q E hr h => ?_
  obtain ⟨t, p, i⟩ := hbody cdv A outer s H E hr
  obtain ⟨_, U, So, ds, sat, r, w⟩ := h
  exact ⟨t, p, i U So H _ _ _ sat (relStart r) (wants_finish sat (Wants.nox w))⟩
end
def mCall (fn : Fn) (n : MA) : ME := fun ρ S => (n ρ S).bind fun ds S1 => (fn ds S1).nox
/-- calls of a def that lets no exception out -/
theorem ie_call {cl : Nat → Value} {k n : Nat} {f : Addr} {fd : FuncData} {ps : List Str} {fn : Fn} {x : Str} {p : Pos} {e : Expr} {es : List Expr} {na : MA} (F : FnOk X.prog X.w X.K X.mg X.base CX0 k f fd ps (spF X.K cl n fn)) (hr : Room k X.A) (hg : Gl X x) (hm : X.mg x = some (.ref f)) (hk : PySem.W.keepIn X.K (.ref f) = true) (hb : Binds X.K fd ps [])
    (ha : IA X E (e :: es) na) (hl : (e :: es).length = n := by rfl) (hdb : (x == ("__debug__" : Str)) = false := by decide) (he : starEach (e :: es) X.env = (false, eval e X.env) :: starEach es X.env := by rfl) (hpl : (backTo pos (starEach es X.env)).any (·.1) = false := by rfl) :
    IE X E (.Call (.Name x p) (e :: es) [] pos) (mCall fn na) := by
  obtain ⟨⟨t, pt, i⟩, hln⟩ := ha
  refine ⟨_, pe_call F hr hg hm hk hb .nil pass0 pt hdb he hpl, fun U S H σ ρ Q s rl w => i U S H σ ρ _ s rl ?_⟩
  unfold mCall at w
  cases hh : na ρ S with
  | stuck => rw [hh] at w; exact w
  | exc c S' => rw [hh] at w; exact w
  | ok ds S' =>
    rw [hh] at w
    have hd : ds.length = n := (hln ρ S ds S' hh).trans hl
    intro U1 H1 st1 s1 vs rv
    rw [List.append_nil]
    have hv : ds.length = vs.length := Paired.length rv
    exact ⟨by rw [← hv]; exact hd, U1, S', ds, s1, rv, Wants.nox (Wants.step st1 w)⟩
/-- a def that can be called -/
structure Cal (P : Program) (w : World) (K : PySem.W.Frag) (mg : Str → Option Value) (base : Heap) (x : Str) (ps : List Str) (k : Nat) (fn : Fn) : Prop where
  ex : ∃ f fd, FnOk P w K mg base CX0 k f fd ps (spF K (fun _ => .none) ps.length fn) ∧ mg x = some (.ref f) ∧ PySem.W.keepIn K (.ref f) = true ∧ Binds K fd ps []
theorem ie_own {k : Nat} {ps : List Str} {fn : Fn} {x : Str} {p : Pos} {e : Expr} {es : List Expr} {na : MA} (C : Cal X.prog X.w X.K X.mg X.base x ps k fn) (hr : Room k X.A) (hg : Gl X x)
    (ha : IA X E (e :: es) na) (hl : (e :: es).length = ps.length := by rfl) (hdb : (x == ("__debug__" : Str)) = false := by decide) (he : starEach (e :: es) X.env = (false, eval e X.env) :: starEach es X.env := by rfl) (hpl : (backTo pos (starEach es X.env)).any (·.1) = false := by rfl) :
    IE X E (.Call (.Name x p) (e :: es) [] pos) (mCall fn na) := by
  obtain ⟨f, fd, F, hm, hk, hb⟩ := C
  exact ie_call F hr hg hm hk hb ha hl hdb he hpl
/-- a def stands where the top left it -/
structure DefAt (K : PySem.W.Frag) (mg : Str → Option Value) (x nm : Str) (ps : List Str) (st : Stmt) : Prop where
  ex : ∃ f fd, Fun K nm nm st f fd ∧ mg x = some (.ref f) ∧ Binds K fd ps []
theorem cal_mk {P : Program} {w : World} {K : PySem.W.Frag} {mg : Str → Option Value} {base : Heap} {x nm : Str} {st : Stmt} {N ps : List Str} {k : Nat} {m : MS} (F : DefAt K mg x nm ps st) (S : FnScope N ps (defScope st))
    (hbody : ∀ (cdv : Value) (A : Around) (outer : List Env) (s : Shared) (H : Hp) (E : XK) (f : Addr), Room k (A.deeper (PyProof.Rows.envOfC nm (defScope st) s.heap.objs.size f cdv)) →
      ISs (cxOf CX0 P w K mg base N nm (defScope st) f cdv A outer s H E).nox E1 (defBody st) m) : Cal P w K mg base x ps (k + 1) (fun ds S => (fnOf N.length m ds S).nox) := by
  obtain ⟨f, fd, F1, hm, hb⟩ := F
  exact ⟨f, fd, fn_ok F1 S fun cdv A outer s H E hr => hbody cdv A outer s H E f hr, hm, F1.kp, hb⟩
theorem Cal.mono {P : Program} {w : World} {K : PySem.W.Frag} {mg : Str → Option Value} {base : Heap} {x : Str} {ps : List Str} {j k : Nat} {fn : Fn} (C : Cal P w K mg base x ps j fn) (h : j ≤ k) : Cal P w K mg base x ps k fn := by
  obtain ⟨f, fd, F, q⟩ := C
  exact ⟨f, fd, F.mono h, q⟩
theorem u65 {k : Nat} {A : Around} (r : Room k A) : A.units + 65 < cLine := by have := r.un; omega
theorem u100 {k : Nat} {A : Around} (r : Room k A) : A.units + 100 < cLine := by have := r.un; omega
end
end G


namespace G
open PySem L2

/-! ### sequences and data -/
def seqOf (d : D) (S : Sto) : Option (Bool × List PyData) := match d with
  | .p (.list xs) => some (true, xs)
  | .p (.tuple xs) => some (false, xs)
  | .p _ => none
  | .r l => match S[l]? with
    | some (some (.lst xs)) => some (true, xs)
    | _ => none
def SqB (K : PySem.W.Frag) (H : Hp) (a : Addr) (vs : List V) : Bool → Prop
  | true => Rd H a (.lst vs)
  | false => SqT K H a vs
section
variable {K : PySem.W.Frag} {U : Wd} {S : Sto} {H : Hp}
theorem Sat.lst (s : Sat K U S H) {l : Nat} {a : Addr} {xs : List PyData} (h : U.io l = some a) (e : S[l]? = some (some (.lst xs))) : ∃ vs, H a = some (.lst vs) ∧ RpAll K U.F vs xs := by
  obtain ⟨_, o, h1, vs, rfl, r⟩ := s.ob l a _ h e
  exact ⟨vs, h1, r⟩
theorem seq_rel (s : Sat K U S H) {d : D} {v : V} {k : Bool} {xs : List PyData} (r : RelD K U d v) (h : seqOf d S = some (k, xs)) : ∃ a vs, v = .ref a ∧ SqB K H a vs k ∧ RpAll K U.F vs xs := by
  cases d with
  | p x =>
    cases x with
    | list ys =>
      cases h
      cases r with
      | lst hq ha => exact ⟨_, _, rfl, Rd.le s.fz hq, ha⟩
    | tuple ys =>
      cases h
      cases r with
      | tup hq ha => exact ⟨_, _, rfl, SqT.le s.fz hq, ha⟩
    | _ => cases h
  | r l =>
    obtain ⟨a, e, rfl⟩ := r
    unfold seqOf at h
    simp only at h
    split at h
    · next ys hy =>
      cases h
      obtain ⟨vs, h1, r⟩ := s.lst e hy
      exact ⟨a, vs, rfl, .inl h1, r⟩
    · cases h
theorem SqB.or {a : Addr} {vs : List V} {k : Bool} (h : SqB K H a vs k) : SqL K H a vs ∨ SqT K H a vs := by
  cases k with
  | true => exact .inl (.inl h)
  | false => exact .inr h
mutual
theorem Rp.dp {F : Hp} (le : Le F H) : ∀ {v : V} {x : PyData}, Rp K F v x → x.canLay0 = true → Dp K H v x
  | _, _, .non, _ => .non
  | _, _, .bl b, _ => .bl b
  | _, _, .int i, _ => .int i
  | _, _, .str x, _ => .str x
  | _, _, .lst h t, c => .lst (.inl (Rd.le le h)) (RpAll.dp le t (by simpa [PyData.canLay0] using c))
  | _, _, .tup h t, c => .tup (SqT.le le h) (RpAll.dp le t (by simpa [PyData.canLay0] using c))
  | _, _, .dK _ _, c => by cases c
  | _, _, .dN _ _ _ _ _, c => by cases c
theorem RpAll.dp {F : Hp} (le : Le F H) : ∀ {vs : List V} {xs : List PyData}, RpAll K F vs xs → PyData.canLayAll0 xs = true → DpAll K H vs xs
  | _, _, .nil, _ => .nil
  | _, _, .cons h t, c => by
    rw [PyData.canLayAll0, Bool.and_eq_true] at c
    exact .cons (Rp.dp le h c.1) (RpAll.dp le t c.2)
end
def datOf (d : D) (S : Sto) : Option PyData := match d with
  | .p x => some x
  | .r l => match S[l]? with
    | some (some (.lst xs)) => some (.list xs)
    | _ => none
theorem dat_rel (s : Sat K U S H) {d : D} {v : V} {x : PyData} (r : RelD K U d v) (h : datOf d S = some x) (hc : x.canLay0 = true) : Dp K H v x := by
  cases d with
  | p y => cases h; exact Rp.dp s.fz r hc
  | r l =>
    obtain ⟨a, e, rfl⟩ := r
    unfold datOf at h
    simp only at h
    split at h
    · next ys hy =>
      cases h
      obtain ⟨vs, h1, r⟩ := s.lst e hy
      exact .lst (SqL.of h1) (RpAll.dp s.fz r (by simpa [PyData.canLay0] using hc))
    · cases h
theorem rp_int {F : Hp} {i : Int} {v : V} (h : Rp K F v (.int i)) : v = .int i := by cases h; rfl
end

/-! ### arithmetic -/
def okB (b : Bool) (d : PyData) (S : Sto) : Res D := if b = true then .ok (.p d) S else .stuck
def i2 (f : Int → Int → Bool) (g : Int → Int → PyData) : D → D → Sto → Res D := fun d e S => match d, e with
  | .p (.int i), .p (.int j) => okB (f i j) (g i j) S
  | _, _ => .stuck
def cTrue (_ _ : Int) : Bool := true
def cMul (i j : Int) : Bool := (decide (-18446744073709551616 < i) && decide (i < 18446744073709551616)) || (decide (-18446744073709551616 < j) && decide (j < 18446744073709551616))
def cPow (i j : Int) : Bool := decide (0 ≤ j) && (decide (j ≤ 1000000) && decide (i.natAbs < 18446744073709551616))
def cDiv (_ j : Int) : Bool := decide (0 < j) && decide (j < 1073741824)
def cPos (_ j : Int) : Bool := decide (0 < j)
section
variable {K : PySem.W.Frag} {E : EX}
theorem imp_rI {C : Int → Int → Prop} {f : Int → Int → Bool} {g : Int → Int → V} {g' : Int → Int → PyData} (hf : ∀ i j, f i j = true → C i j) (hg : ∀ i j F, Rp K F (g i j) (g' i j)) : ImpO K E (rI C g) (i2 f g') := by
  intro U S H x y d e Q s rx ry w
  unfold i2 at w
  split at w
  · next i j =>
    unfold okB at w
    split at w
    · next h =>
      cases rx; cases ry
      exact ⟨i, j, rfl, rfl, hf i j h, (w.ok s) _ (hg i j _)⟩
    · exact False.elim w
  · exact False.elim w
theorem imp_rI0 {g : Int → Int → V} {g' : Int → Int → PyData} (hg : ∀ i j F, Rp K F (g i j) (g' i j)) : ImpO K E (rI0 g) (i2 cTrue g') := by
  intro U S H x y d e Q s rx ry w
  unfold i2 at w
  split at w
  · next i j =>
    cases rx; cases ry
    exact ⟨i, j, rfl, rfl, (Wants.ok w s) _ (hg i j _)⟩
  · exact False.elim w
def gSub : D → D → Sto → Res D := i2 cTrue fun i j => .int (i - j)
def gDiv : D → D → Sto → Res D := i2 cDiv fun i j => .int (i / j)
def gMod : D → D → Sto → Res D := i2 cPos fun i j => .int (i % j)
def gPow : D → D → Sto → Res D := i2 cPow fun i j => .int (i ^ j.toNat)
theorem imp_sub : ImpO K E (rI0 fun i j => .int (i - j)) gSub := imp_rI0 fun _ _ _ => .int _
theorem imp_div : ImpO K E (rI CDiv fun i j => .int (i / j)) gDiv := imp_rI (fun i j h => by
  unfold cDiv at h
  simp only [Bool.and_eq_true, decide_eq_true_eq] at h
  exact h) fun _ _ _ => .int _
theorem imp_mod : ImpO K E (rI (fun _ j => 0 < j) fun i j => .int (i % j)) gMod := imp_rI (fun i j h => of_decide_eq_true h) fun _ _ _ => .int _
theorem imp_pow : ImpO K E (rI CPow fun i j => .int (i ^ j.toNat)) gPow := imp_rI (fun i j h => by
  unfold cPow at h
  simp only [Bool.and_eq_true, decide_eq_true_eq] at h
  exact ⟨h.1, h.2.1, h.2.2⟩) fun _ _ _ => .int _
theorem cMul_of {i j : Int} (h : cMul i j = true) : CMul i j := by
  unfold cMul at h
  simp only [Bool.or_eq_true, Bool.and_eq_true, decide_eq_true_eq] at h
  unfold CMul
  omega
/-- union of rules, by the first that is for it -/
theorem ImpO.or {r r' : R2} {g : D → D → Sto → Res D} (h : ∀ d e S, (∀ U H x y Q, Sat K U S H → RelD K U d x → RelD K U e y → Wants K E U H (g d e S) (KD K Q) → r x y H Q) ∨ (∀ U H x y Q, Sat K U S H → RelD K U d x → RelD K U e y → Wants K E U H (g d e S) (KD K Q) → r' x y H Q)) : ImpO K E (fun x y H Q => r x y H Q ∨ r' x y H Q) g :=
  fun U S H x y d e Q s rx ry w => (h d e S).elim (fun k => .inl (k U H x y Q s rx ry w)) fun k => .inr (k U H x y Q s rx ry w)
end



/-! ### + -/
section
variable {X : Cx}
def rCatL : R2 := fun x y H Q => ∃ l b xs zs, x = .ref l ∧ y = .ref b ∧ Rd H l (.lst xs) ∧ Rd H b (.lst zs) ∧ xs.length + zs.length ≤ sizeLine ∧ ∀ p, H p = none → Q (.ref p) (upd H p (.lst (xs ++ zs)))
theorem op_catL : OpR X (binaryOp .Add) rCatL := by
  intro pins s σ H x y v u Q I rx ry h
  obtain ⟨l, b, xs, zs, rfl, rfl, hH, hB, hz, q⟩ := h
  cases rx
  cases ry
  obtain ⟨z, its, n, r, e⟩ := hH.ok I.hok
  obtain ⟨z2, its2, n2, r2, e2⟩ := hB.ok I.hok
  have hl := r.length
  have hl2 := r2.length
  refine PySem.P.add_list e e2 ?_ (by rw [List.size_toArray, List.size_toArray]; omega)
  have ea : its.toArray ++ its2.toArray = (its ++ its2).toArray := by simp
  rw [ea]
  exact ⟨.ref _, _, I.lnew (t' := s.toks) (r.append r2) (by rw [List.length_append]; omega), rfl, q _ I.fresh⟩
def rCatN (K : PySem.W.Frag) : R2 := fun x y H Q => ∃ a b xs ys, x = .ref a ∧ y = .ref b ∧ SqT K H a xs ∧ SqT K H b ys ∧ xs.length + ys.length ≤ sizeLine ∧
  (xs = [] → Q (.ref b) H) ∧ (xs ≠ [] → ys = [] → Q (.ref a) H) ∧ (xs ≠ [] → ys ≠ [] → ∀ p (o : Obj), H p = none → o.dict = none → Q (.ref p) (upd H p (.frz o (.tup (xs ++ ys)))))
theorem op_catN : OpR X (binaryOp .Add) (rCatN X.K) := by
  intro pins s σ H x y v u Q I rx ry ⟨a, b, xs, ys, ex, ey, ha, hb, hz, q0, q1, q2⟩
  by_cases hx : xs = []
  · exact op_catA pins s σ H x y v u Q I rx ry ⟨a, b, xs, ys, ex, ey, ha, hb, hz, q0, q1, fun z => absurd hx z⟩
  by_cases hy : ys = []
  · exact op_catA pins s σ H x y v u Q I rx ry ⟨a, b, xs, ys, ex, ey, ha, hb, hz, q0, q1, fun _ z => absurd hy z⟩
  subst ex ey
  cases rx
  cases ry
  obtain ⟨is, r1, t1, _⟩ := I.tuple ha
  obtain ⟨js, r2, t2, _⟩ := I.tuple hb
  refine HT.cat_tup t1 t2 (fun z => hx (r1.nil_iff.mp z)) (fun z => absurd (r2.nil_iff.mp z) hy) (fun z => ?_) (by have := r1.length; have := r2.length; omega)
  refine ⟨.ref s.heap.objs.size, upd H s.heap.objs.size (.frz { cls := .type "tuple", data := .seq (is ++ js).toArray } (.tup (xs ++ ys))), I.laid (t' := s.toks) (fun _ _ q => Heap.get?_push_of_some _ q) (Nat.le_refl _) ?_, rfl, q2 hx hy _ _ (I.hok.fresh (Nat.le_refl _)) rfl⟩
  exact ⟨Heap.get?_push_size _ rfl, by rw [List.length_append]; exact hz, _, r1.append r2, PyProof.Rows.IsTup.new _ _⟩
def rAddA (K : PySem.W.Frag) : R2 := fun x y H Q => (rI0 (fun i j => .int (i + j)) x y H Q ∨ rCatL x y H Q) ∨ (rCatN K x y H Q ∨ ∃ i j, x = .str i ∧ y = .str j ∧ i.length + j.length ≤ sizeLine ∧ Q (.str (i ++ j)) H)
theorem op_addA : OpR X (binaryOp .Add) (rAddA X.K) := (op_add.or op_catL).or (op_catN.or op_add_str)
end
def gAdd : D → D → Sto → Res D := fun d e S => match d, e with
  | .p (.int i), .p (.int j) => .ok (.p (.int (i + j))) S
  | .p (.str i), .p (.str j) => if i.length + j.length ≤ 1000 then .ok (.p (.str (i ++ j))) S else .stuck
  | d, e => match seqOf d S, seqOf e S with
    | some (true, xs), some (true, ys) => if xs.length + ys.length ≤ 1000000 then .ok (.p (.list (xs ++ ys))) S else .stuck
    | some (false, xs), some (false, ys) => if xs.length + ys.length ≤ 1000000 then .ok (.p (.tuple (xs ++ ys))) S else .stuck
    | _, _ => .stuck
theorem line6 {n : Nat} (h : n ≤ 1000000) : n ≤ sizeLine := Nat.le_trans h (by decide)
section
variable {K : PySem.W.Frag} {E : EX}
theorem nil_iff {F : Hp} {vs : List V} {ds : List PyData} (h : RpAll K F vs ds) : vs = [] ↔ ds = [] := by
  cases h with
  | nil => simp
  | cons _ _ => simp
theorem rp_tup {F H : Hp} (le : Le F H) {a : Addr} {vs : List V} {xs : List PyData} {d : D} {U : Wd} {v : V} (h : SqB K H a vs false) : SqT K H a vs := h
theorem imp_add : ImpO K E (rAddA K) gAdd := by
  intro U S H x y d e Q s rx ry w
  unfold gAdd at w
  split at w
  · next i j => cases rx; cases ry; exact .inl (.inl ⟨i, j, rfl, rfl, (w.ok s) _ (.int _)⟩)
  · next i j =>
    split at w
    · next hl => cases rx; cases ry; exact .inr (.inr ⟨i, j, rfl, rfl, line1000 hl, (w.ok s) _ (.str _)⟩)
    · exact False.elim w
  · split at w
    · next xs ys h1 h2 =>
      split at w
      · next hl =>
        obtain ⟨a, vs, rfl, q, r⟩ := seq_rel s rx h1
        obtain ⟨b, us, rfl, q', r'⟩ := seq_rel s ry h2
        exact .inl (.inr ⟨a, b, vs, us, rfl, rfl, q, q', by rw [r.length, r'.length]; exact line6 hl, fun p hp => newL s (RpAll.append r r') hp w⟩)
      · exact False.elim w
    · next xs ys h1 h2 =>
      split at w
      · next hl =>
        have h1' : d = .p (.tuple xs) := by
          cases d with
          | p x => cases x <;> cases h1; rfl
          | r l =>
            unfold seqOf at h1
            simp only at h1
            split at h1 <;> cases h1
        have h2' : e = .p (.tuple ys) := by
          cases e with
          | p x => cases x <;> cases h2; rfl
          | r l =>
            unfold seqOf at h2
            simp only at h2
            split at h2 <;> cases h2
        subst h1' h2'
        cases rx with
        | tup hq ha =>
          cases ry with
          | tup hq' ha' =>
            refine .inr (.inl ⟨_, _, _, _, rfl, rfl, SqT.le s.fz hq, SqT.le s.fz hq', by rw [ha.length, ha'.length]; exact line6 hl, fun e1 => ?_, fun e1 e2 => ?_, fun e1 e2 p o hp ho => ?_⟩)
            · have e1' := (nil_iff ha).mp e1
              subst e1'
              exact (w.ok s) _ (.tup hq' ha')
            · have e2' := (nil_iff ha').mp e2
              subst e2'
              rw [List.append_nil] at w
              exact (w.ok s) _ (.tup hq ha)
            · exact newT s (RpAll.append ha ha') hp ho w
      · exact False.elim w
    · exact False.elim w
end
section
variable {X : Cx} {E : EX} {pos : Pos} {a b c e : Expr} {es : List Expr} {ma mb mc : ME}
theorem ie_add (ha : IE X E a ma) (hb : IE X E b mb) : IE X E (.BinOp a .Add b pos) (m2 gAdd ma mb) := ie_op op_addA imp_add ha hb
theorem ie_sub (ha : IE X E a ma) (hb : IE X E b mb) : IE X E (.BinOp a .Sub b pos) (m2 gSub ma mb) := ie_op op_sub imp_sub ha hb
theorem ie_div (ha : IE X E a ma) (hb : IE X E b mb) : IE X E (.BinOp a .FloorDiv b pos) (m2 gDiv ma mb) := ie_op op_fdiv imp_div ha hb
theorem ie_mod (ha : IE X E a ma) (hb : IE X E b mb) : IE X E (.BinOp a .Mod b pos) (m2 gMod ma mb) := ie_op op_mod imp_mod ha hb
theorem ie_pow (ha : IE X E a ma) (hb : IE X E b mb) : IE X E (.BinOp a .Pow b pos) (m2 gPow ma mb) := ie_op op_pow imp_pow ha hb
/-- list + list, a new one -/
def gCat (d e : D) (S : Sto) : Res (List PyData) := match seqOf d S, seqOf e S with
  | some (true, xs), some (true, ys) => if xs.length + ys.length ≤ 1000000 then .ok (xs ++ ys) S else .stuck
  | _, _ => .stuck
def ml2 (g : D → D → Sto → Res (List PyData)) (ma mb : ME) : ML := fun ρ S => (ma ρ S).bind fun d S1 => (mb ρ S1).bind fun e S2 => g d e S2
theorem il_cat (ha : IE X E a ma) (hb : IE X E b mb) : IL X E (.BinOp a .Add b pos) (ml2 gCat ma mb) := by
  obtain ⟨ta, pa, ia⟩ := ha
  obtain ⟨tb, pb, ib⟩ := hb
  refine ⟨_, pe_op op_catL pa pb, fun U S H σ ρ Q s rl w => ia U S H σ ρ _ s rl (w.bindL.mono fun U1 S1 H1 d st1 s1 w1 v rv => ib U1 S1 H1 σ ρ _ s1 (rl.step st1) ?_)⟩
  obtain ⟨_, w1⟩ := w1
  cases hh : mb ρ S1 with
  | stuck => rw [hh] at w1; exact w1
  | exc c S' => rw [hh] at w1; exact fun U' H' st s' => w1 U' H' (st1.trans st) s'
  | ok e S2 =>
    rw [hh] at w1
    intro U2 H2 st2 s2 u ru
    have w2 : Wants X.K E U H (gCat d e S2) (KL X.K H Q) := w1
    unfold gCat at w2
    split at w2
    · next xs ys h1 h2 =>
      split at w2
      · next hl =>
        obtain ⟨a, vs, rfl, q, r⟩ := seq_rel s2 (rv.step st2) h1
        obtain ⟨b, us, rfl, q', r'⟩ := seq_rel s2 ru h2
        exact ⟨a, b, vs, us, rfl, rfl, q, q', by rw [r.length, r'.length]; exact line6 hl, fun p hp => layL (st1.trans st2) s2 (RpAll.append r r') hp w2⟩
      · exact False.elim w2
    · exact False.elim w2
end
end G


namespace G
open PySem L2

/-! ### comparisons of data -/
def lay (x : PyData) : Bool := SeqAt.shaped x
def g2 (f : PyData → PyData → Bool) (g : PyData → PyData → PyData) : D → D → Sto → Res D := fun d e S => match datOf d S, datOf e S with
  | some x, some y => okB (f x y) (g x y) S
  | _, _ => .stuck
def lay2 (x y : PyData) : Bool := lay x && lay y
def gEq : D → D → Sto → Res D := g2 lay2 fun x y => .bool (PyData.eqv x y)
def gNe : D → D → Sto → Res D := g2 lay2 fun x y => .bool (!PyData.eqv x y)
def isNone : PyData → Bool
  | .none => true
  | _ => false
def lay3 (x y : PyData) : Bool := (lay x && lay y) && (PySem.W.alike x y && !isNone x)
def gLt : D → D → Sto → Res D := fun d e S => match d, e with
  | .p (.int i), .p (.int j) => .ok (.p (.bool (decide (i < j)))) S
  | d, e => g2 lay3 (fun x y => .bool (PySem.W.dataLt x y)) d e S
def gLe : D → D → Sto → Res D := fun d e S => match d, e with
  | .p (.int i), .p (.int j) => .ok (.p (.bool (decide (i ≤ j)))) S
  | d, e => g2 lay3 (fun x y => .bool (!PySem.W.dataLt y x)) d e S
def gGt : D → D → Sto → Res D := fun d e S => match d, e with
  | .p (.int i), .p (.int j) => .ok (.p (.bool (decide (j < i)))) S
  | d, e => g2 lay3 (fun x y => .bool (PySem.W.dataLt y x)) d e S
def gGe : D → D → Sto → Res D := fun d e S => match d, e with
  | .p (.int i), .p (.int j) => .ok (.p (.bool (decide (j ≤ i)))) S
  | d, e => g2 lay3 (fun x y => .bool (!PySem.W.dataLt x y)) d e S
section
variable {K : PySem.W.Frag} {E : EX}
/-- what two data ask of a heap -/
def rD2 (K : PySem.W.Frag) (f : PyData → PyData → Bool) (g : PyData → PyData → Bool) : R2 := fun x y H Q => ∃ d e, Dp K H x d ∧ Dp K H y e ∧ f d e = true ∧ Q (.bl (g d e)) H
theorem lay_can {x : PyData} (h : lay x = true) : x.canLay0 = true := SeqAt.canLay_of_shaped h
theorem imp_D2 {f g : PyData → PyData → Bool} (hf : ∀ x y, f x y = true → lay x = true ∧ lay y = true) : ImpO K E (rD2 K f g) (g2 f fun x y => .bool (g x y)) := by
  intro U S H x y d e Q s rx ry w
  unfold g2 at w
  split at w
  · next a b h1 h2 =>
    unfold okB at w
    split at w
    · next hh =>
      obtain ⟨l1, l2⟩ := hf _ _ hh
      exact ⟨a, b, dat_rel s rx h1 (lay_can l1), dat_rel s ry h2 (lay_can l2), hh, (w.ok s) _ (.bl _)⟩
    · exact False.elim w
  · exact False.elim w
theorem lay2_of (x y : PyData) (h : lay2 x y = true) : lay x = true ∧ lay y = true := by
  unfold lay2 at h
  rw [Bool.and_eq_true] at h
  exact h
theorem lay3_of (x y : PyData) (h : lay3 x y = true) : lay x = true ∧ lay y = true := by
  unfold lay3 at h
  simp only [Bool.and_eq_true] at h
  exact h.1
theorem isNone_of {x : PyData} (h : (!isNone x) = true) : x ≠ .none := by
  intro e
  subst e
  cases h
variable {X : Cx}
theorem op_eqA (hu : X.A.units + 64 < cLine) : OpR X (compareOp .Eq) (rD2 X.K lay2 PyData.eqv) := fun pins s σ H x y v u Q I rx ry ⟨d, e, hd, he, hf, q⟩ =>
  op_eqD hu pins s σ H x y v u Q I rx ry ⟨d, e, hd, he, (lay2_of _ _ hf).1, (lay2_of _ _ hf).2, q⟩
theorem op_neA (hu : X.A.units + 64 < cLine) : OpR X (compareOp .NotEq) (rD2 X.K lay2 fun x y => !PyData.eqv x y) := fun pins s σ H x y v u Q I rx ry ⟨d, e, hd, he, hf, q⟩ =>
  op_neD hu pins s σ H x y v u Q I rx ry ⟨d, e, hd, he, (lay2_of _ _ hf).1, (lay2_of _ _ hf).2, q⟩
theorem room3 {x y : PyData} (h : lay3 x y = true) {A : Around} (hu : A.units + 64 < cLine) : A.units + min x.depth y.depth < cLine := SeqAt.room_of_shaped (lay3_of _ _ h).1 hu
theorem lay3_al {x y : PyData} (h : lay3 x y = true) : PySem.W.alike x y = true ∧ x ≠ .none := by
  unfold lay3 at h
  simp only [Bool.and_eq_true] at h
  exact ⟨h.2.1, isNone_of h.2.2⟩
theorem op_ltA (hu : X.A.units + 64 < cLine) : OpR X (compareOp .Lt) (fun x y H Q => rI0 (fun i j => .bl (decide (i < j))) x y H Q ∨ rD2 X.K lay3 PySem.W.dataLt x y H Q) := op_lt.or fun pins s σ H x y v u Q I rx ry ⟨d, e, hd, he, hf, q⟩ => by
  obtain ⟨as, r1⟩ := Dp.reads I d x v hd rx
  obtain ⟨bs, r2⟩ := Dp.reads I e y u he ry
  exact PySem.W.lt_data r1 r2 (lay3_al hf).1 (lay3_al hf).2 (room3 hf hu) ⟨.bl _, H, I, rfl, q⟩
theorem op_gtA (hu : X.A.units + 64 < cLine) : OpR X (compareOp .Gt) (fun x y H Q => rI0 (fun i j => .bl (decide (j < i))) x y H Q ∨ rD2 X.K lay3 (fun x y => PySem.W.dataLt y x) x y H Q) := op_gt.or fun pins s σ H x y v u Q I rx ry ⟨d, e, hd, he, hf, q⟩ => by
  obtain ⟨as, r1⟩ := Dp.reads I d x v hd rx
  obtain ⟨bs, r2⟩ := Dp.reads I e y u he ry
  exact PySem.W.gt_data r1 r2 (lay3_al hf).1 (lay3_al hf).2 (room3 hf hu) ⟨.bl _, H, I, rfl, q⟩
theorem op_leA (hu : X.A.units + 64 < cLine) : OpR X (compareOp .LtE) (fun x y H Q => rI0 (fun i j => .bl (decide (i ≤ j))) x y H Q ∨ rD2 X.K lay3 (fun x y => !PySem.W.dataLt y x) x y H Q) := op_le.or fun pins s σ H x y v u Q I rx ry ⟨d, e, hd, he, hf, q⟩ => by
  obtain ⟨as, r1⟩ := Dp.reads I d x v hd rx
  obtain ⟨bs, r2⟩ := Dp.reads I e y u he ry
  exact PySem.W.le_data r1 r2 (lay3_al hf).1 (lay3_al hf).2 (room3 hf hu) ⟨.bl _, H, I, rfl, q⟩
theorem op_geA (hu : X.A.units + 64 < cLine) : OpR X (compareOp .GtE) (fun x y H Q => rI0 (fun i j => .bl (decide (j ≤ i))) x y H Q ∨ rD2 X.K lay3 (fun x y => !PySem.W.dataLt x y) x y H Q) := op_ge.or fun pins s σ H x y v u Q I rx ry ⟨d, e, hd, he, hf, q⟩ => by
  obtain ⟨as, r1⟩ := Dp.reads I d x v hd rx
  obtain ⟨bs, r2⟩ := Dp.reads I e y u he ry
  exact PySem.W.ge_data r1 r2 (lay3_al hf).1 (lay3_al hf).2 (room3 hf hu) ⟨.bl _, H, I, rfl, q⟩
theorem imp_cmp {h : Int → Int → Bool} {f g : PyData → PyData → Bool} {G : D → D → Sto → Res D} (hf : ∀ x y, f x y = true → lay x = true ∧ lay y = true)
    (hG : ∀ d e S, (∃ i j, d = .p (.int i) ∧ e = .p (.int j) ∧ G d e S = .ok (.p (.bool (h i j))) S) ∨ G d e S = g2 f (fun x y => .bool (g x y)) d e S) :
    ImpO K E (fun x y H Q => rI0 (fun i j => .bl (h i j)) x y H Q ∨ rD2 K f g x y H Q) G := by
  intro U S H x y d e Q s rx ry w
  rcases hG d e S with ⟨i, j, rfl, rfl, q⟩ | q
  · rw [q] at w
    cases rx; cases ry
    exact .inl ⟨i, j, rfl, rfl, (w.ok s) _ (.bl _)⟩
  · rw [q] at w
    exact .inr (imp_D2 hf U S H x y d e Q s rx ry w)
theorem imp_lt : ImpO K E (fun x y H Q => rI0 (fun i j => .bl (decide (i < j))) x y H Q ∨ rD2 K lay3 PySem.W.dataLt x y H Q) gLt := imp_cmp lay3_of fun d e S => by
  unfold gLt
  split
  · exact .inl ⟨_, _, rfl, rfl, rfl⟩
  · exact .inr rfl
theorem imp_le : ImpO K E (fun x y H Q => rI0 (fun i j => .bl (decide (i ≤ j))) x y H Q ∨ rD2 K lay3 (fun x y => !PySem.W.dataLt y x) x y H Q) gLe := imp_cmp lay3_of fun d e S => by
  unfold gLe
  split
  · exact .inl ⟨_, _, rfl, rfl, rfl⟩
  · exact .inr rfl
theorem imp_gt : ImpO K E (fun x y H Q => rI0 (fun i j => .bl (decide (j < i))) x y H Q ∨ rD2 K lay3 (fun x y => PySem.W.dataLt y x) x y H Q) gGt := imp_cmp lay3_of fun d e S => by
  unfold gGt
  split
  · exact .inl ⟨_, _, rfl, rfl, rfl⟩
  · exact .inr rfl
theorem imp_ge : ImpO K E (fun x y H Q => rI0 (fun i j => .bl (decide (j ≤ i))) x y H Q ∨ rD2 K lay3 (fun x y => !PySem.W.dataLt x y) x y H Q) gGe := imp_cmp lay3_of fun d e S => by
  unfold gGe
  split
  · exact .inl ⟨_, _, rfl, rfl, rfl⟩
  · exact .inr rfl
theorem imp_eq : ImpO K E (rD2 K lay2 PyData.eqv) gEq := imp_D2 lay2_of
theorem imp_ne : ImpO K E (rD2 K lay2 fun x y => !PyData.eqv x y) gNe := imp_D2 lay2_of

/-! in -/
def itemsOf : PyData → Option (List PyData)
  | .list xs => some xs
  | .tuple xs => some xs
  | _ => none
def layIn (x y : PyData) : Bool := (lay x && lay y) && (itemsOf y).isSome
def isIn (x y : PyData) : Bool := match itemsOf y with
  | some xs => xs.any fun z => PyData.eqv z x
  | none => false
def gIn : D → D → Sto → Res D := g2 layIn fun x y => .bool (isIn x y)
def gNotIn : D → D → Sto → Res D := g2 layIn fun x y => .bool (!isIn x y)
theorem layIn_of (x y : PyData) (h : layIn x y = true) : lay x = true ∧ lay y = true := by
  unfold layIn at h
  simp only [Bool.and_eq_true] at h
  exact h.1
theorem layIn_its {x y : PyData} (h : layIn x y = true) : (∃ xs, y = .list xs) ∨ ∃ xs, y = .tuple xs := by
  unfold layIn at h
  simp only [Bool.and_eq_true] at h
  cases y with
  | list xs => exact .inl ⟨xs, rfl⟩
  | tuple xs => exact .inr ⟨xs, rfl⟩
  | _ => exact absurd h.2 (by simp [itemsOf])
theorem op_inA (hu : X.A.units + 65 < cLine) : OpR X (compareOp .In) (rD2 X.K layIn isIn) := fun pins s σ H x y v u Q I rx ry ⟨d, e, hd, he, hf, q⟩ => by
  obtain ⟨as, r1⟩ := Dp.reads I d x v hd rx
  obtain ⟨bs, r2⟩ := Dp.reads I e y u he ry
  obtain ⟨l1, l2⟩ := layIn_of _ _ hf
  rcases layIn_its hf with ⟨xs, rfl⟩ | ⟨xs, rfl⟩
  · exact SeqAt.in_list_reads r2 r1 (lay_can l2) (lay_can l1) (PyProof.Rows.room_in_shaped l1 hu) ⟨.bl _, H, I, rfl, q⟩
  · exact SeqAt.in_tuple_reads r2 r1 (lay_can l2) (lay_can l1) (PyProof.Rows.room_in_shaped l1 hu) ⟨.bl _, H, I, rfl, q⟩
theorem op_notInA (hu : X.A.units + 65 < cLine) : OpR X (compareOp .NotIn) (rD2 X.K layIn fun x y => !isIn x y) := fun pins s σ H x y v u Q I rx ry ⟨d, e, hd, he, hf, q⟩ => by
  obtain ⟨as, r1⟩ := Dp.reads I d x v hd rx
  obtain ⟨bs, r2⟩ := Dp.reads I e y u he ry
  obtain ⟨l1, l2⟩ := layIn_of _ _ hf
  rcases layIn_its hf with ⟨xs, rfl⟩ | ⟨xs, rfl⟩
  · exact SeqAt.notIn_list_reads r2 r1 (lay_can l2) (lay_can l1) (PyProof.Rows.room_in_shaped l1 hu) ⟨.bl _, H, I, rfl, q⟩
  · exact SeqAt.notIn_tuple_reads r2 r1 (lay_can l2) (lay_can l1) (PyProof.Rows.room_in_shaped l1 hu) ⟨.bl _, H, I, rfl, q⟩

/-! is -/
def gIs (neg : Bool) : D → D → Sto → Res D := fun d e S => match e with
  | .p .none => (match d with
    | .p x => .ok (.p (.bool (if neg then !isNone x else isNone x))) S
    | .r _ => .ok (.p (.bool neg)) S)
  | .p (.bool b) => (match d with
    | .p (.bool a) => .ok (.p (.bool (if neg then !decide (a = b) else decide (a = b)))) S
    | _ => .stuck)
  | _ => .stuck
def rIsA (neg : Bool) : R2 := fun x y H Q => (y = .non ∧ Q (.bl (if neg then !decide (x = .non) else decide (x = .non))) H) ∨ ∃ a b : Bool, x = .bl a ∧ y = .bl b ∧ Q (.bl (if neg then !decide (a = b) else decide (a = b))) H
theorem op_isA : OpR X (compareOp .Is) (rIsA false) := op_isN.or op_isBl
theorem op_notA : OpR X (compareOp .IsNot) (rIsA true) := op_notN.or op_notBl
theorem isN_rel {F : Hp} {v : V} {x : PyData} (h : Rp K F v x) : decide (v = .non) = isNone x := by
  cases h <;> first | rfl | exact decide_eq_false (fun e => nomatch e)
theorem imp_is {neg : Bool} : ImpO K E (rIsA neg) (gIs neg) := by
  intro U S H x y d e Q s rx ry w
  unfold gIs at w
  split at w
  · cases ry
    split at w
    · next z => exact .inl ⟨rfl, (w.ok s) _ (by rw [isN_rel rx]; exact .bl _)⟩
    · obtain ⟨a, _, rfl⟩ := rx
      refine .inl ⟨rfl, (w.ok s) _ ?_⟩
      have : decide ((V.ref a) = V.non) = false := decide_eq_false fun e => nomatch e
      rw [this]
      cases neg <;> exact .bl _
  · cases ry
    split at w
    · next a => cases rx; exact .inr ⟨a, _, rfl, rfl, (w.ok s) _ (.bl _)⟩
    · exact False.elim w
  · exact False.elim w
end
section
variable {X : Cx} {E : EX} {pos : Pos} {a b c e : Expr} {ma mb mc : ME}
theorem ie_eq (hu : X.A.units + 64 < cLine) (ha : IE X E a ma) (hb : IE X E b mb) : IE X E (.Compare a [.Eq] [b] pos) (m2 gEq ma mb) := ie_cmp (op_eqA hu) imp_eq ha hb (nomark _)
theorem ie_ne (hu : X.A.units + 64 < cLine) (ha : IE X E a ma) (hb : IE X E b mb) : IE X E (.Compare a [.NotEq] [b] pos) (m2 gNe ma mb) := ie_cmp (op_neA hu) imp_ne ha hb (nomark _)
theorem ie_lt (hu : X.A.units + 64 < cLine) (ha : IE X E a ma) (hb : IE X E b mb) : IE X E (.Compare a [.Lt] [b] pos) (m2 gLt ma mb) := ie_cmp (op_ltA hu) imp_lt ha hb (nomark _)
theorem ie_le (hu : X.A.units + 64 < cLine) (ha : IE X E a ma) (hb : IE X E b mb) : IE X E (.Compare a [.LtE] [b] pos) (m2 gLe ma mb) := ie_cmp (op_leA hu) imp_le ha hb (nomark _)
theorem ie_gt (hu : X.A.units + 64 < cLine) (ha : IE X E a ma) (hb : IE X E b mb) : IE X E (.Compare a [.Gt] [b] pos) (m2 gGt ma mb) := ie_cmp (op_gtA hu) imp_gt ha hb (nomark _)
theorem ie_ge (hu : X.A.units + 64 < cLine) (ha : IE X E a ma) (hb : IE X E b mb) : IE X E (.Compare a [.GtE] [b] pos) (m2 gGe ma mb) := ie_cmp (op_geA hu) imp_ge ha hb (nomark _)
theorem ie_in (hu : X.A.units + 65 < cLine) (ha : IE X E a ma) (hb : IE X E b mb) (hm : behindInMarks .In b = false := by rfl) : IE X E (.Compare a [.In] [b] pos) (m2 gIn ma mb) := ie_cmp (op_inA hu) (imp_D2 layIn_of) ha hb hm
theorem ie_notIn (hu : X.A.units + 65 < cLine) (ha : IE X E a ma) (hb : IE X E b mb) (hm : behindInMarks .NotIn b = false := by rfl) : IE X E (.Compare a [.NotIn] [b] pos) (m2 gNotIn ma mb) := ie_cmp (op_notInA hu) (imp_D2 layIn_of) ha hb hm
theorem ie_is (ha : IE X E a ma) (hb : IE X E b mb) : IE X E (.Compare a [.Is] [b] pos) (m2 (gIs false) ma mb) := ie_cmp op_isA imp_is ha hb (nomark _)
theorem ie_isNot (ha : IE X E a ma) (hb : IE X E b mb) : IE X E (.Compare a [.IsNot] [b] pos) (m2 (gIs true) ma mb) := ie_cmp op_notA imp_is ha hb (nomark _)
theorem it_eq (hu : X.A.units + 64 < cLine) (ha : IE X E a ma) (hb : IE X E b mb) : IT X E (.Compare a [.Eq] [b] pos) (mTest (m2 gEq ma mb)) := it_cmp (op_eqA hu) imp_eq ha hb (nomark _)
theorem it_ne (hu : X.A.units + 64 < cLine) (ha : IE X E a ma) (hb : IE X E b mb) : IT X E (.Compare a [.NotEq] [b] pos) (mTest (m2 gNe ma mb)) := it_cmp (op_neA hu) imp_ne ha hb (nomark _)
theorem it_lt (hu : X.A.units + 64 < cLine) (ha : IE X E a ma) (hb : IE X E b mb) : IT X E (.Compare a [.Lt] [b] pos) (mTest (m2 gLt ma mb)) := it_cmp (op_ltA hu) imp_lt ha hb (nomark _)
theorem it_le (hu : X.A.units + 64 < cLine) (ha : IE X E a ma) (hb : IE X E b mb) : IT X E (.Compare a [.LtE] [b] pos) (mTest (m2 gLe ma mb)) := it_cmp (op_leA hu) imp_le ha hb (nomark _)
theorem it_gt (hu : X.A.units + 64 < cLine) (ha : IE X E a ma) (hb : IE X E b mb) : IT X E (.Compare a [.Gt] [b] pos) (mTest (m2 gGt ma mb)) := it_cmp (op_gtA hu) imp_gt ha hb (nomark _)
theorem it_ge (hu : X.A.units + 64 < cLine) (ha : IE X E a ma) (hb : IE X E b mb) : IT X E (.Compare a [.GtE] [b] pos) (mTest (m2 gGe ma mb)) := it_cmp (op_geA hu) imp_ge ha hb (nomark _)
theorem it_in (hu : X.A.units + 65 < cLine) (ha : IE X E a ma) (hb : IE X E b mb) (hm : behindInMarks .In b = false := by rfl) : IT X E (.Compare a [.In] [b] pos) (mTest (m2 gIn ma mb)) := it_cmp (op_inA hu) (imp_D2 layIn_of) ha hb hm
theorem it_notIn (hu : X.A.units + 65 < cLine) (ha : IE X E a ma) (hb : IE X E b mb) (hm : behindInMarks .NotIn b = false := by rfl) : IT X E (.Compare a [.NotIn] [b] pos) (mTest (m2 gNotIn ma mb)) := it_cmp (op_notInA hu) (imp_D2 layIn_of) ha hb hm
theorem it_is (ha : IE X E a ma) (hb : IE X E b mb) : IT X E (.Compare a [.Is] [b] pos) (mTest (m2 (gIs false) ma mb)) := it_cmp op_isA imp_is ha hb (nomark _)
theorem it_isNot (ha : IE X E a ma) (hb : IE X E b mb) : IT X E (.Compare a [.IsNot] [b] pos) (mTest (m2 (gIs true) ma mb)) := it_cmp op_notA imp_is ha hb (nomark _)

/-! ### items and slices -/
def gIx : D → D → Sto → Res D := fun d e S => match e with
  | .p (.int i) => (match seqOf d S with
    | some (_, xs) => (match atI xs i with
      | some x => .ok (.p x) S
      | none => .stuck)
    | none => .stuck)
  | _ => .stuck
theorem atI_rel {K : PySem.W.Frag} {F : Hp} {vs : List V} {xs : List PyData} {i : Int} {x : PyData} (r : RpAll K F vs xs) (h : atI xs i = some x) : ∃ v, atI vs i = some v ∧ Rp K F v x := by
  unfold atI at h ⊢
  rw [r.length]
  cases e : ixN xs.length i with
  | none => rw [e] at h; cases h
  | some j =>
    rw [e] at h
    obtain ⟨v, h1, h2⟩ := r.get h
    exact ⟨v, h1, h2⟩
theorem imp_ix {K : PySem.W.Frag} : ImpO K E (fun x y H Q => rIxL K x y H Q ∨ rIxT K x y H Q) gIx := by
  intro U S H x y d e Q s rx ry w
  unfold gIx at w
  split at w
  · next i =>
    split at w
    · next k xs hs =>
      split at w
      · next z hz =>
        cases ry
        obtain ⟨a, vs, rfl, q, r⟩ := seq_rel s rx hs
        obtain ⟨v, h1, h2⟩ := atI_rel r hz
        cases k with
        | true => exact .inl ⟨a, vs, i, v, rfl, rfl, .inl q, h1, (w.ok s) _ h2⟩
        | false => exact .inr ⟨a, vs, i, v, rfl, rfl, q, h1, (w.ok s) _ h2⟩
      · exact False.elim w
    · exact False.elim w
  · exact False.elim w
theorem ie_item (ha : IE X E a ma) (hb : IE X E b mb) (hs : PlainIx b := by exact fun _ _ => rfl) : IE X E (.Subscript a b pos) (m2 gIx ma mb) := ie_ix (ix_list.or ix_tup) imp_ix ha hb hs
abbrev MO := Loc → Sto → Res (Option Int)
def mPart : Option ME → MO
  | none => fun _ S => .ok none S
  | some m => fun ρ S => (m ρ S).bind fun d S1 => match d with
    | .p (.int i) => .ok (some i) S1
    | _ => .stuck
def ImpP (K : PySem.W.Frag) (E : EX) (t : TO) (m : MO) : Prop := ∀ (U : Wd) (S : Sto) (H : Hp) (σ : L2.St) (ρ : Loc) (Q : Option Int → Hp → Prop), Sat K U S H → RelL K U ρ σ → Wants K E U H (m ρ S) (fun _ _ H' o => Q o H') → t σ H Q
structure IPo (X : Cx) (E : EX) (e : Option Expr) (m : MO) : Prop where
  ex : ∃ t, PO X e t ∧ ImpP X.K E t m
theorem ip_none : IPo X E none (mPart none) := ⟨_, po_none, fun U S H σ ρ Q s rl w => w.ok s⟩
theorem ip_some (h : IE X E e ma) : IPo X E (some e) (mPart (some ma)) := by
  obtain ⟨t, p, i⟩ := h
  refine ⟨_, po_some p, fun U S H σ ρ Q s rl w => i U S H σ ρ _ s rl (Wants.mono (Wants.bind w) fun U1 S1 H1 d st1 s1 w1 v rv => ?_)⟩
  split at w1
  · next j => cases rv; exact ⟨j, rfl, w1.ok s1⟩
  · exact False.elim w1
/-- the part of a list -/
def cutP (xs : List PyData) (lo hi : Option Int) : List PyData := (xs.drop (HT.sIx xs.length 0 lo)).take (HT.sIx xs.length xs.length hi - HT.sIx xs.length 0 lo)
theorem cut_rel {K : PySem.W.Frag} {F : Hp} {vs : List V} {xs : List PyData} {lo hi : Option Int} (r : RpAll K F vs xs) : RpAll K F (cutV vs lo hi) (cutP xs lo hi) := by
  unfold cutV cutP
  rw [r.length]
  exact (r.drop _).take _
theorem cutP_whole {xs : List PyData} {lo hi : Option Int} (h : HT.sIx xs.length 0 lo = 0 ∧ HT.sIx xs.length xs.length hi = xs.length) : cutP xs lo hi = xs := by
  unfold cutP
  rw [h.1, h.2, List.drop_zero, Nat.sub_zero, List.take_length]
def gSl (d : D) (lo hi : Option Int) (S : Sto) : Res D := match seqOf d S with
  | some (true, xs) => .ok (.p (.list (cutP xs lo hi))) S
  | some (false, xs) => .ok (.p (.tuple (cutP xs lo hi))) S
  | none => .stuck
def mSl (m : ME) (lo hi : MO) : ME := fun ρ S => (m ρ S).bind fun d S1 => (lo ρ S1).bind fun l S2 => (hi ρ S2).bind fun h S3 => gSl d l h S3
theorem seq_tup {d : D} {S : Sto} {xs : List PyData} (h : seqOf d S = some (false, xs)) : d = .p (.tuple xs) := by
  cases d with
  | p x => cases x <;> cases h; rfl
  | r l =>
    unfold seqOf at h
    simp only at h
    split at h <;> cases h
def rSlN (K : PySem.W.Frag) : V → Option Int → Option Int → Hp → VK → Prop := fun x lo hi H Q => ∃ a xs, x = .ref a ∧ SqT K H a xs ∧
  (HT.sIx xs.length 0 lo = 0 ∧ HT.sIx xs.length xs.length hi = xs.length → Q (.ref a) H) ∧ (¬ (HT.sIx xs.length 0 lo = 0 ∧ HT.sIx xs.length xs.length hi = xs.length) → ∀ p (o : Obj), H p = none → o.dict = none → Q (.ref p) (upd H p (.frz o (.tup (cutV xs lo hi)))))
theorem sl_tupN : SlR X (rSlN X.K) := by
  intro pins s σ H x v vl vu lo hi sl Q I rx hs pl pu ⟨a, xs, ex, hx, q1, q2⟩
  by_cases hw : HT.sIx xs.length 0 lo = 0 ∧ HT.sIx xs.length xs.length hi = xs.length
  · exact sl_tupA pins s σ H x v vl vu lo hi sl Q I rx hs pl pu ⟨a, xs, ex, hx, q1, fun z => absurd hw z⟩
  subst ex
  cases rx
  obtain ⟨is, r, t, hz⟩ := I.tuple hx
  have hn : is.toArray.size = xs.length := (List.size_toArray ..).trans r.length.symm
  refine ⟨"tuple", _, PyProof.Rows.slot_tuple_getitem.lookup, t.typeIs, HT.getItem_tuple_cut t hs pl pu (by rw [hn]; exact hw) ?_ (by rw [hn]; exact hz)⟩
  rw [hn]
  refine ⟨.ref s.heap.objs.size, upd H s.heap.objs.size (.frz { cls := .type "tuple", data := .seq ((is.drop (HT.sIx xs.length 0 lo)).take (HT.sIx xs.length xs.length hi - HT.sIx xs.length 0 lo)).toArray } (.tup (cutV xs lo hi))), I.laid (t' := s.toks) (fun _ _ q => Heap.get?_push_of_some _ q) (Nat.le_refl _) ?_, rfl, q2 hw _ _ (I.hok.fresh (Nat.le_refl _)) rfl⟩
  exact ⟨Heap.get?_push_size _ rfl, Nat.le_trans (cutV_length xs lo hi) hz, _, (r.drop (HT.sIx xs.length 0 lo)).take (HT.sIx xs.length xs.length hi - HT.sIx xs.length 0 lo), PyProof.Rows.IsTup.new _ _⟩
theorem ie_slice {lo hi : Option Expr} {p2 : Pos} {ml mh : MO} (ha : IE X E a ma) (hl : IPo X E lo ml) (hh : IPo X E hi mh) : IE X E (.Subscript a (.Slice lo hi none p2) pos) (mSl ma ml mh) := by
  obtain ⟨t, p, i⟩ := ha
  obtain ⟨tl, pl, il⟩ := hl
  obtain ⟨th, ph, ih⟩ := hh
  refine ⟨_, pe_slice (sl_list.or sl_tupN) p pl ph, fun U S H σ ρ Q s rl w => i U S H σ ρ _ s rl (w.bind.mono fun U1 S1 H1 d st1 s1 w1 v rv => il U1 S1 H1 σ ρ _ s1 (rl.step st1) (w1.bind.mono fun U2 S2 H2 l st2 s2 w2 => ih U2 S2 H2 σ ρ _ s2 ((rl.step st1).step st2) (w2.bind.mono fun U3 S3 H3 h st3 s3 w3 => ?_)))⟩
  have rv3 := (rv.step st2).step st3
  unfold gSl at w3
  split at w3
  · next xs hs =>
    obtain ⟨a, vs, rfl, q, r⟩ := seq_rel s3 rv3 hs
    exact .inl ⟨a, vs, rfl, .inl q, fun p hp => newL s3 (cut_rel r) hp w3⟩
  · next xs hs =>
    have e := seq_tup hs
    subst e
    cases rv3 with
    | tup hq ha =>
      refine .inr ⟨_, _, rfl, SqT.le s3.fz hq, fun hw => ?_, fun hw p o hp ho => newT s3 (cut_rel ha) hp ho w3⟩
      rw [ha.length] at hw
      rw [cutP_whole hw] at w3
      exact (w3.ok s3) _ (.tup hq ha)
  · exact False.elim w3
end
end G


namespace G
open PySem L2

/-! ### calls of built-ins -/
abbrev GC := List D → Sto → Res D
abbrev GL := List D → Sto → Res (List PyData)
def mCB (g : GC) (n : MA) : ME := fun ρ S => (n ρ S).bind g
def mCL (g : GL) (n : MA) : ML := fun ρ S => (n ρ S).bind g
def ImpC (K : PySem.W.Frag) (E : EX) (r : List V → Hp → VK → Prop) (g : GC) : Prop := ∀ (U : Wd) (S : Sto) (H : Hp) (vs : List V) (ds : List D) (Q : VK), Sat K U S H → RelDs K U ds vs → Wants K E U H (g ds S) (KD K Q) → r vs H Q
def ImpCL (K : PySem.W.Frag) (E : EX) (r : List V → Hp → VK → Prop) (g : GL) : Prop := ∀ (U U0 : Wd) (S : Sto) (H H0 : Hp) (vs : List V) (ds : List D) (Q : VK), Step U0 H0 U H → Sat K U S H → RelDs K U ds vs → Wants K E U0 H0 (g ds S) (KL K H0 Q) → r vs H Q
section
variable {X : Cx} {E : EX} {x : Str} {p pos : Pos} {e : Expr} {es : List Expr} {na : MA} {id T : String} {r : List V → Hp → VK → Prop}
theorem ie_cb {g : GC} (hc : CallR X (.builtin id) r) (hi : ImpC X.K E r g) (hg : Gl X x) (hm : X.mg x = none) (hv : bootBuiltins x = some (.builtin id)) (ha : IA X E (e :: es) na) (hn : x ≠ "__name__" := by decide) (hdb : (x == ("__debug__" : Str)) = false := by decide)
    (he : starEach (e :: es) X.env = (false, eval e X.env) :: starEach es X.env := by rfl) (hpl : (backTo pos (starEach es X.env)).any (·.1) = false := by rfl) : IE X E (.Call (.Name x p) (e :: es) [] pos) (mCB g na) := by
  obtain ⟨⟨t, pt, i⟩, _⟩ := ha
  exact ⟨_, pe_callB hc hg hm hv pt hn hdb he hpl, fun U S H σ ρ Q s rl w => i U S H σ ρ _ s rl (w.bind.mono fun U1 S1 H1 ds st1 s1 w1 vs rv => hi U1 S1 H1 vs ds Q s1 rv w1)⟩
theorem ie_ct {g : GC} (hc : CallR X (.type T) r) (hi : ImpC X.K E r g) (hg : Gl X x) (hm : X.mg x = none) (hv : bootBuiltins x = some (.type T)) (ha : IA X E (e :: es) na) (hn : x ≠ "__name__" := by decide) (hdb : (x == ("__debug__" : Str)) = false := by decide)
    (he : starEach (e :: es) X.env = (false, eval e X.env) :: starEach es X.env := by rfl) (hpl : (backTo pos (starEach es X.env)).any (·.1) = false := by rfl) : IE X E (.Call (.Name x p) (e :: es) [] pos) (mCB g na) := by
  obtain ⟨⟨t, pt, i⟩, _⟩ := ha
  exact ⟨_, pe_callTy hc hg hm hv pt hn hdb he hpl, fun U S H σ ρ Q s rl w => i U S H σ ρ _ s rl (w.bind.mono fun U1 S1 H1 ds st1 s1 w1 vs rv => hi U1 S1 H1 vs ds Q s1 rv w1)⟩
theorem il_cb {g : GL} (hc : CallR X (.builtin id) r) (hi : ImpCL X.K E r g) (hg : Gl X x) (hm : X.mg x = none) (hv : bootBuiltins x = some (.builtin id)) (ha : IA X E (e :: es) na) (hn : x ≠ "__name__" := by decide) (hdb : (x == ("__debug__" : Str)) = false := by decide)
    (he : starEach (e :: es) X.env = (false, eval e X.env) :: starEach es X.env := by rfl) (hpl : (backTo pos (starEach es X.env)).any (·.1) = false := by rfl) : IL X E (.Call (.Name x p) (e :: es) [] pos) (mCL g na) := by
  obtain ⟨⟨t, pt, i⟩, _⟩ := ha
  exact ⟨_, pe_callB hc hg hm hv pt hn hdb he hpl, fun U S H σ ρ Q s rl w => i U S H σ ρ _ s rl (w.bindL.mono fun U1 S1 H1 ds st1 s1 w1 vs rv => hi U1 U S1 H1 H vs ds Q w1.1 s1 rv w1.2)⟩
theorem il_ct {g : GL} (hc : CallR X (.type T) r) (hi : ImpCL X.K E r g) (hg : Gl X x) (hm : X.mg x = none) (hv : bootBuiltins x = some (.type T)) (ha : IA X E (e :: es) na) (hn : x ≠ "__name__" := by decide) (hdb : (x == ("__debug__" : Str)) = false := by decide)
    (he : starEach (e :: es) X.env = (false, eval e X.env) :: starEach es X.env := by rfl) (hpl : (backTo pos (starEach es X.env)).any (·.1) = false := by rfl) : IL X E (.Call (.Name x p) (e :: es) [] pos) (mCL g na) := by
  obtain ⟨⟨t, pt, i⟩, _⟩ := ha
  exact ⟨_, pe_callTy hc hg hm hv pt hn hdb he hpl, fun U S H σ ρ Q s rl w => i U S H σ ρ _ s rl (w.bindL.mono fun U1 S1 H1 ds st1 s1 w1 vs rv => hi U1 U S1 H1 H vs ds Q w1.1 s1 rv w1.2)⟩
end
/-- one sequence as the argument -/
def gSeq (g : Bool → List PyData → Sto → Res D) : GC := fun ds S => match ds with
  | [d] => (match seqOf d S with
    | some (k, xs) => g k xs S
    | none => .stuck)
  | _ => .stuck
def gSeqL (g : Bool → List PyData → Sto → Res (List PyData)) : GL := fun ds S => match ds with
  | [d] => (match seqOf d S with
    | some (k, xs) => g k xs S
    | none => .stuck)
  | _ => .stuck
section
variable {K : PySem.W.Frag} {E : EX}
theorem imp_seq {r : List V → Hp → VK → Prop} {g : Bool → List PyData → Sto → Res D}
    (h : ∀ (U : Wd) (S : Sto) (H : Hp) (a : Addr) (k : Bool) (vs : List V) (xs : List PyData) (Q : VK), Sat K U S H → SqB K H a vs k → RpAll K U.F vs xs → Wants K E U H (g k xs S) (KD K Q) → r [.ref a] H Q) : ImpC K E r (gSeq g) := by
  intro U S H vs ds Q s rv w
  unfold gSeq at w
  split at w
  · next d =>
    split at w
    · next k xs hs =>
      obtain ⟨v, rfl, r1⟩ := rel1 rv
      obtain ⟨a, us, rfl, q, ra⟩ := seq_rel s r1 hs
      exact h U S H a k us xs Q s q ra w
    · exact False.elim w
  · exact False.elim w
theorem imp_seqL {r : List V → Hp → VK → Prop} {g : Bool → List PyData → Sto → Res (List PyData)}
    (h : ∀ (U U0 : Wd) (S : Sto) (H H0 : Hp) (a : Addr) (k : Bool) (vs : List V) (xs : List PyData) (Q : VK), Step U0 H0 U H → Sat K U S H → SqB K H a vs k → RpAll K U.F vs xs → Wants K E U0 H0 (g k xs S) (KL K H0 Q) → r [.ref a] H Q) : ImpCL K E r (gSeqL g) := by
  intro U U0 S H H0 vs ds Q st s rv w
  unfold gSeqL at w
  split at w
  · next d =>
    split at w
    · next k xs hs =>
      obtain ⟨v, rfl, r1⟩ := rel1 rv
      obtain ⟨a, us, rfl, q, ra⟩ := seq_rel s r1 hs
      exact h U U0 S H H0 a k us xs Q st s q ra w
    · exact False.elim w
  · exact False.elim w

/-! len, list(), tuple() -/
def gLen : GC := gSeq fun _ xs S => .ok (.p (.int xs.length)) S
theorem imp_len : ImpC K E (fun xs H Q => ∃ p ys, xs = [.ref p] ∧ (SqL K H p ys ∨ SqT K H p ys) ∧ Q (.int ys.length) H) gLen :=
  imp_seq fun U S H a k vs xs Q s q r w => ⟨a, vs, rfl, q.or, by rw [r.length]; exact (w.ok s) _ (.int _)⟩
def gList : GL := gSeqL fun _ xs S => .ok xs S
theorem imp_list : ImpCL K E (fun xs H Q => ∃ p ys, xs = [.ref p] ∧ (SqL K H p ys ∨ SqT K H p ys) ∧ ∀ l, H l = none → Q (.ref l) (upd H l (.lst ys))) gList :=
  imp_seqL fun U U0 S H H0 a k vs xs Q st s q r w => ⟨a, vs, rfl, q.or, fun l hl => layL st s r hl w⟩
def gTuple : GC := gSeq fun _ xs S => .ok (.p (.tuple xs)) S
theorem call_tupN {X : Cx} : CallR X (.type "tuple") (fun xs H Q => ∃ p ys, xs = [.ref p] ∧ ((SqL X.K H p ys ∧ ∀ l (o : Obj), H l = none → o.dict = none → Q (.ref l) (upd H l (.frz o (.tup ys)))) ∨ (SqT X.K H p ys ∧ Q (.ref p) H))) := by
  intro pins s σ H xs us Q I r ⟨p, ys, ex, h⟩
  rcases h with ⟨hq, q⟩ | h
  · subst ex
    obtain ⟨u, rfl, rx⟩ := vals1 r
    cases rx
    obtain ⟨is, r', pl, hz⟩ := I.list hq
    have hn := r'.length
    refine call_tuple_list pl.isList (fun h' kp => ?_) (by simp only [List.size_toArray]; omega)
    have J : Inv X pins σ H { s with heap := h' } := I.kept (t' := s.toks) kp
    refine ⟨.ref h'.objs.size, upd H h'.objs.size (.frz { cls := .type "tuple", data := .seq is.toArray } (.tup ys)), J.laid (t' := s.toks) (fun _ _ e => Heap.get?_push_of_some _ e) (Nat.le_refl _) ?_, rfl, q _ _ (J.hok.fresh (Nat.le_refl _)) rfl⟩
    exact ⟨Heap.get?_push_size _ rfl, hz, is, r', PyProof.Rows.IsTup.new _ _⟩
  · exact call_tuple_of pins s σ H xs us Q I r ⟨p, ys, ex, .inr h⟩
theorem imp_tuple : ImpC K E (fun xs H Q => ∃ p ys, xs = [.ref p] ∧ ((SqL K H p ys ∧ ∀ l (o : Obj), H l = none → o.dict = none → Q (.ref l) (upd H l (.frz o (.tup ys)))) ∨ (SqT K H p ys ∧ Q (.ref p) H))) gTuple := by
  intro U S H vs ds Q s rv w
  unfold gTuple gSeq at w
  split at w
  · next d =>
    split at w
    · next k xs hs =>
      obtain ⟨v, rfl, r1⟩ := rel1 rv
      cases k with
      | true =>
        obtain ⟨a, us, rfl, q, ra⟩ := seq_rel s r1 hs
        exact ⟨a, us, rfl, .inl ⟨.inl q, fun l o hl ho => newT s ra hl ho w⟩⟩
      | false =>
        have e := seq_tup hs
        subst e
        cases r1 with
        | tup hq ha => exact ⟨_, _, rfl, .inr ⟨SqT.le s.fz hq, (w.ok s) _ (.tup hq ha)⟩⟩
    · exact False.elim w
  · exact False.elim w

/-! all, any, sum -/
def bools : List PyData → Option (List Bool)
  | [] => some []
  | .bool b :: xs => (bools xs).map (b :: ·)
  | _ :: _ => none
def intsOf : List PyData → Option (List Int)
  | [] => some []
  | .int b :: xs => (intsOf xs).map (b :: ·)
  | _ :: _ => none
theorem bools_rel {F : Hp} : ∀ {xs : List PyData} {bs : List Bool} {vs : List V}, bools xs = some bs → RpAll K F vs xs → vs = bs.map V.bl
  | [], _, _, h, .nil => by cases h; rfl
  | x :: xs, bs, _, h, .cons r t => by
    cases x with
    | bool b =>
      obtain ⟨bs', e, rfl⟩ := Option.map_eq_some_iff.mp (show (bools xs).map (b :: ·) = some bs from h)
      cases r
      rw [List.map_cons, bools_rel e t]
    | _ => cases h
theorem intsOf_rel {F : Hp} : ∀ {xs : List PyData} {bs : List Int} {vs : List V}, intsOf xs = some bs → RpAll K F vs xs → vs = bs.map V.int
  | [], _, _, h, .nil => by cases h; rfl
  | x :: xs, bs, _, h, .cons r t => by
    cases x with
    | int b =>
      obtain ⟨bs', e, rfl⟩ := Option.map_eq_some_iff.mp (show (intsOf xs).map (b :: ·) = some bs from h)
      cases r
      rw [List.map_cons, intsOf_rel e t]
    | _ => cases h
def gAll : GC := gSeq fun k xs S => match k, bools xs with
  | true, some bs => .ok (.p (.bool (bs.all id))) S
  | _, _ => .stuck
def gAny : GC := gSeq fun k xs S => match k, bools xs with
  | true, some bs => .ok (.p (.bool (bs.any id))) S
  | _, _ => .stuck
def gSum : GC := gSeq fun k xs S => match k, intsOf xs with
  | true, some bs => .ok (.p (.int bs.sum)) S
  | _, _ => .stuck
theorem imp_all : ImpC K E (rAll K) gAll := imp_seq fun U S H a k vs xs Q s q r w => by
  split at w
  · next bs hb =>
    have e := bools_rel hb r
    subst e
    exact ⟨a, bs, rfl, .inl q, (w.ok s) _ (.bl _)⟩
  · exact False.elim w
theorem imp_any : ImpC K E (rAny K) gAny := imp_seq fun U S H a k vs xs Q s q r w => by
  split at w
  · next bs hb =>
    have e := bools_rel hb r
    subst e
    exact ⟨a, bs, rfl, .inl q, (w.ok s) _ (.bl _)⟩
  · exact False.elim w
theorem imp_sum : ImpC K E (rSum K) gSum := imp_seq fun U S H a k vs xs Q s q r w => by
  split at w
  · next bs hb =>
    have e := intsOf_rel hb r
    subst e
    exact ⟨a, bs, rfl, .inl q, (w.ok s) _ (.int _)⟩
  · exact False.elim w

/-! min, max of two intsOf; str of an int -/
def gI2 (f : Int → Int → Int) : GC := fun ds S => match ds with
  | [.p (.int i), .p (.int j)] => .ok (.p (.int (f i j))) S
  | _ => .stuck
def gMin : GC := gI2 fun i j => if j < i then j else i
def gMax : GC := gI2 fun i j => if j > i then j else i
theorem imp_I2 {f : Int → Int → Int} : ImpC K E (fun xs H Q => ∃ i j, xs = [.int i, .int j] ∧ Q (.int (f i j)) H) (gI2 f) := by
  intro U S H vs ds Q s rv w
  unfold gI2 at w
  split at w
  · next i j =>
    obtain ⟨v, u, rfl, r1, r2⟩ := rel2 rv
    cases r1; cases r2
    exact ⟨i, j, rfl, (w.ok s) _ (.int _)⟩
  · exact False.elim w
def gStr : GC := fun ds S => match ds with
  | [.p (.int i)] => if i.natAbs.log2 < 1920 then .ok (.p (.str (toString i))) S else .stuck
  | _ => .stuck
theorem imp_str : ImpC K E (fun xs H Q => ∃ i, xs = [.int i] ∧ i.natAbs.log2 < 1920 ∧ Q (.str (toString i)) H) gStr := by
  intro U S H vs ds Q s rv w
  unfold gStr at w
  split at w
  · next i =>
    split at w
    · next hl =>
      obtain ⟨v, rfl, r1⟩ := rel1 rv
      cases r1
      exact ⟨i, rfl, hl, (w.ok s) _ (.str _)⟩
    · exact False.elim w
  · exact False.elim w

/-! isinstance -/
inductive Ty where
  | int | bool | str | list | tuple
def Ty.name : Ty → String
  | .int => "int"
  | .bool => "bool"
  | .str => "str"
  | .list => "list"
  | .tuple => "tuple"
def isT : Ty → PyData → Option Bool
  | .int, .int _ => some true
  | .int, .bool _ => some true
  | .bool, .bool _ => some true
  | .str, .str _ => some true
  | .list, .list _ => some true
  | .tuple, .tuple _ => some true
  | _, .dict _ => none
  | _, _ => some false
def isTs : List Ty → PyData → Option Bool
  | [], .dict _ => none
  | [], _ => some false
  | t :: ts, x => match isT t x with
    | some true => some true
    | some false => isTs ts x
    | none => none
def tyNm : PyData → String
  | .none => "NoneType"
  | .bool _ => "bool"
  | .int _ => "int"
  | .str _ => "str"
  | .list _ => "list"
  | .tuple _ => "tuple"
  | .dict _ => "dict"
theorem tupTy {H : Hp} {a : Addr} {xs : List V} (h : SqT K H a xs) : TyX K H (.ref a) (.type "tuple") := by
  rcases h with (h | ⟨o, h⟩) | ⟨o, _, _, h, hc, _⟩
  · exact .base (.tup h)
  · exact .fTuple h
  · exact .kTuple h hc
theorem lstTy {H : Hp} {a : Addr} {xs : List V} (h : Rd H a (.lst xs)) : TyX K H (.ref a) (.type "list") := by
  rcases h with h | ⟨o, h⟩
  · exact .base (.lst h)
  · exact .base (.frz h)
theorem tyOf {F H : Hp} (le : Le F H) {v : V} {x : PyData} (r : Rp K F v x) (hx : ∀ kvs, x ≠ .dict kvs) : TyX K H v (.type (tyNm x)) := by
  cases r with
  | non => exact .base .non
  | bl b => exact .base (.bl b)
  | int i => exact .base (.int i)
  | str i => exact .base (.str i)
  | lst h _ => exact lstTy (Rd.le le h)
  | tup h _ => exact tupTy (SqT.le le h)
  | dK h _ => exact absurd rfl (hx _)
  | dN h _ _ _ _ => exact absurd rfl (hx _)
def gTy (d : D) (S : Sto) : Option PyData := datOf d S
theorem kit1 (t : Ty) (x : PyData) {b : Bool} (h : isT t x = some b) : PySem.W.kitOne K (.type (tyNm x)) (.type t.name) = some b ∧ ∀ kvs, x ≠ .dict kvs := by
  cases t <;> cases x <;> cases h <;> (refine ⟨?_, fun _ e => nomatch e⟩; dsimp only [tyNm, Ty.name]; exact kit_ty (by decide +kernel))
theorem kitN : ∀ (ts : List Ty) (x : PyData) {b : Bool}, isTs ts x = some b → PySem.W.kitAny K (.type (tyNm x)) (ts.map fun t => Value.type t.name) = some b ∧ ∀ kvs, x ≠ .dict kvs
  | [], x, b, h => by
    cases x <;> cases h <;> exact ⟨kitAny_nil, fun _ e => nomatch e⟩
  | t :: ts, x, b, h => by
    unfold isTs at h
    split at h
    · next h1 =>
      cases h
      obtain ⟨k1, k2⟩ := kit1 (K := K) t x h1
      exact ⟨kitAny_cons k1 (fun e => nomatch e) fun _ => rfl, k2⟩
    · next h1 =>
      obtain ⟨k1, k2⟩ := kit1 (K := K) t x h1
      obtain ⟨k3, _⟩ := kitN ts x h
      exact ⟨kitAny_cons k1 (fun _ => k3) (fun e => nomatch e), k2⟩
    · cases h
def mIsi (ts : List Ty) (m : ME) : ME := fun ρ S => (m ρ S).bind fun d S1 => match datOf d S1 with
  | some x => (match isTs ts x with
    | some b => .ok (.p (.bool b)) S1
    | none => .stuck)
  | none => .stuck
theorem tyD {U : Wd} {S : Sto} {H : Hp} (s : Sat K U S H) {d : D} {v : V} {x : PyData} (r : RelD K U d v) (h : datOf d S = some x) (hx : ∀ kvs, x ≠ .dict kvs) : TyX K H v (.type (tyNm x)) := by
  cases d with
  | p y => cases h; exact tyOf s.fz r hx
  | r l =>
    obtain ⟨a, e, rfl⟩ := r
    unfold datOf at h
    simp only at h
    split at h
    · next ys hy =>
      cases h
      obtain ⟨vs, h1, r⟩ := s.lst e hy
      exact .base (.lst h1)
    · cases h
end
theorem boot_isinst : bootBuiltins (Str.ofString "isinstance") = some (.builtin "isinstance") := by decide +kernel
section
variable {X : Cx} {E : EX} {pos p : Pos} {a b c e : Expr} {ma mb mc : ME}
theorem ie_isi {t : Ty} {tn : Str} {p1 p2 : Pos} (hg : Gl X "isinstance") (hm : X.mg "isinstance" = none) (hg1 : Gl X tn) (hm1 : X.mg tn = none) (hv1 : bootBuiltins tn = some (.type t.name)) (ha : IE X E a ma)
    (hn : tn ≠ "__name__" := by decide) (hdb : (tn == ("__debug__" : Str)) = false := by decide)
    (hs1 : starEach [a, .Name tn p2] X.env = (false, eval a X.env) :: starEach [.Name tn p2] X.env := by rfl) (hs2 : starEach [.Name tn p2] X.env = (false, eval (.Name tn p2) X.env) :: starEach [] X.env := by rfl) (hpl : (backTo pos (starEach [.Name tn p2] X.env)).any (·.1) = false := by rfl) :
    IE X E (.Call (.Name "isinstance" p1) [a, .Name tn p2] [] pos) (mIsi [t] ma) := by
  obtain ⟨ta, pa, ia⟩ := ha
  refine ⟨_, pe_callB call_isi hg hm boot_isinst (pa_cons pa (pa_cons (pe_bltn (v := .ty t.name) hg1 hm1 hv1 rfl hn hdb) pa_nil hs2) hs1) (by decide) (by decide) hs1 hpl, fun U S H σ ρ Q s rl w => ia U S H σ ρ _ s rl (w.bind.mono fun U1 S1 H1 d st1 s1 w1 v rv => ?_)⟩
  split at w1
  · next x hx =>
    split at w1
    · next bb hb =>
      have hb' : isT t x = some bb := by
        unfold isTs at hb
        split at hb
        · next h => rw [h]; exact hb
        · next h =>
          rw [h]
          cases x <;> first | exact hb | cases hb
        · cases hb
      obtain ⟨k1, k2⟩ := kit1 (K := X.K) t x hb'
      exact ⟨v, .ty t.name, _, _, bb, rfl, .ty _, tyD s1 rv hx k2, k1, (w1.ok s1) _ (.bl _)⟩
    · exact False.elim w1
  · exact False.elim w1
theorem ie_isi2 {t u : Ty} {tn un : Str} {p1 p2 p3 p4 : Pos} {kk : _} (hg : Gl X "isinstance") (hm : X.mg "isinstance" = none) (hg1 : Gl X tn) (hm1 : X.mg tn = none) (hv1 : bootBuiltins tn = some (.type t.name)) (hg2 : Gl X un) (hm2 : X.mg un = none) (hv2 : bootBuiltins un = some (.type u.name)) (ha : IE X E a ma)
    (hn : tn ≠ "__name__" := by decide) (hdb : (tn == ("__debug__" : Str)) = false := by decide) (hn2 : un ≠ "__name__" := by decide) (hdb2 : (un == ("__debug__" : Str)) = false := by decide)
    (hs1 : starEach [a, .Tuple [.Name tn p2, .Name un p3] kk p4] X.env = (false, eval a X.env) :: starEach [.Tuple [.Name tn p2, .Name un p3] kk p4] X.env := by rfl)
    (hs2 : starEach [.Tuple [.Name tn p2, .Name un p3] kk p4] X.env = (false, eval (.Tuple [.Name tn p2, .Name un p3] kk p4) X.env) :: starEach [] X.env := by rfl)
    (hs3 : starEach [.Name tn p2, .Name un p3] X.env = (false, eval (.Name tn p2) X.env) :: starEach [.Name un p3] X.env := by rfl) (hs4 : starEach [.Name un p3] X.env = (false, eval (.Name un p3) X.env) :: starEach [] X.env := by rfl)
    (hpl : (backTo pos (starEach [.Tuple [.Name tn p2, .Name un p3] kk p4] X.env)).any (·.1) = false := by rfl) :
    IE X E (.Call (.Name "isinstance" p1) [a, .Tuple [.Name tn p2, .Name un p3] kk p4] [] pos) (mIsi [t, u] ma) := by
  obtain ⟨ta, pa, ia⟩ := ha
  refine ⟨_, pe_callB call_isiT hg hm boot_isinst (pa_cons pa (pa_cons (pe_tup (pa_cons (pe_bltn (v := .ty t.name) hg1 hm1 hv1 rfl hn hdb) (pa_cons (pe_bltn (v := .ty u.name) hg2 hm2 hv2 rfl hn2 hdb2) pa_nil hs4) hs3)) pa_nil hs2) hs1) (by decide) (by decide) hs1 hpl, fun U S H σ ρ Q s rl w => ia U S H σ ρ _ s rl (w.bind.mono fun U1 S1 H1 d st1 s1 w1 v rv => ⟨by show 2 ≤ sizeLine; decide, fun q hq => ?_⟩)⟩
  split at w1
  · next x hx =>
    split at w1
    · next bb hb =>
      obtain ⟨k1, k2⟩ := kitN (K := X.K) [t, u] x hb
      have s2 : Sat X.K U1 S1 (upd H1 q (.tup [.ty t.name, .ty u.name])) := s1.aside (s1.no hq) (s1.noi hq)
      have w2 := Wants.step ((Step.refl U1 H1).aside (o := .tup [.ty t.name, .ty u.name]) hq) w1
      exact ⟨v, q, _, _, _, bb, rfl, upd_same, .cons (.ty _) (.cons (.ty _) .nil), tyD s2 rv hx k2, k1, (Wants.ok w2 s2) _ (.bl _)⟩
    · exact False.elim w1
  · exact False.elim w1
end
end G


namespace G
open PySem L2

/-! ### sorted of a list or a tuple -/
section
variable {prog : Program} {w : World} {A : Around} {E : Value → Shared → Prop} {s : Shared}
open PyProof.Rows in
theorem collectT {l : Addr} {vs : List Value} {o : Obj} {n : Nat} {Q : List Value → Shared → Prop} (ho : s.heap.get? l = some o) (hc : o.cls = .type "tuple") (hd : o.data = .seq vs.toArray n) (hz : vs.length ≤ sizeLine)
    (q : Q vs { s with heap := (s.heap.push (seqObj "list" #[] 0)).update s.heap.objs.size (Obj.mapSeq (· ++ vs.toArray)) }) : wpAny (model prog w) A (collect (.ref l)) Q E s := by
  have k1 : (s.heap.push (seqObj "list" #[] 0)).get? l = some o := Heap.get?_push_of_some _ ho
  have k2 : (s.heap.push (seqObj "list" #[] 0)).get? s.heap.objs.size = some (seqObj "list" #[] 0) := Heap.get?_push_size _ rfl
  unfold collect
  refine wpAny_bind (wpAny_runValue (codeAny_builtin entry_proto_collect' (wpAny_bind (wpAny_newList (wpAny_pure ⟨Code.quiet_builtin _ (by decide +kernel), codeAny_builtin entry_list_iadd' ?_⟩)))))
  show wpAny _ _ (Builtin.List.listExtendWith (.ref s.heap.objs.size) (.ref l) (.ref s.heap.objs.size)) _ _ _
  unfold Builtin.List.listExtendWith
  refine wpAny_bind (wpAny_typeOf (T := "tuple") ⟨o, k1, hc⟩ ?_)
  have ht : (Value.type "tuple" == Value.type "tuple") = true := rfl
  rw [if_pos (by rw [ht, Bool.or_true])]
  refine wpAny_bind (listItems_at k1 hd (wpAny_bind (listItems_at k2 rfl ?_)))
  rw [if_neg (by simp)]
  refine wpAny_bind (listUpdate_at k2 rfl (wpAny_pure ?_) (Nat.zero_le _) (by simp only [Array.size_append, List.size_toArray, List.length_nil]; omega))
  refine wpAny_bind (m := load _) (wpAny_load (get?_update_seq k2 _) ?_)
  have e : ((#[] : Array Value) ++ vs.toArray).toList = vs := by simp
  show wpAny _ _ (pure ((#[] : Array Value) ++ vs.toArray).toList) Q E _
  rw [e]
  exact wpAny_pure q
open PyProof.Rows PySem.W in
theorem sortedT {l : Addr} {o : Obj} {vs : List Value} {n : Nat} {κ : PyProof.Rows.KeyKind} {Q : Value → Shared → Prop} (ho : s.heap.get? l = some o) (hc : o.cls = .type "tuple") (hd : o.data = .seq vs.toArray n)
    (S : SortsAt prog w A.in1.in1 { s with heap := sortingHeap (copyHeap s.heap vs) (s.heap.objs.size + 1) vs } κ vs) (hL : vs.length ≤ sizeLine)
    (h : Q (.ref (s.heap.objs.size + 1)) { s with heap := sortedAll s.heap vs (sortVals κ false vs vs).toArray }) : wpAny (model prog w) A (call (.builtin "sorted") [.ref l]) Q E s := by
  refine call_function_entry_kw kind_sorted plain_sorted entry_sorted (args_sorted1 _) ?_
  unfold Builtin.«sorted»
  refine wpAny_bind (m := checkCount "sorted" 1 1 _) (wpAny_pure (wpAny_bind (collectT ho hc hd hL (wpAny_bind (wpAny_newList ?_ hL)))))
  have z : ((s.heap.push (seqObj "list" #[] 0)).update s.heap.objs.size (Obj.mapSeq (· ++ vs.toArray))).objs.size = s.heap.objs.size + 1 := by rw [Heap.size_update, size_push']
  show wpAny _ _ _ _ _ { s with heap := copyHeap s.heap vs }
  rw [z]
  refine wpAny_bind (wpAny_holding (wpAny_call_entry_kw slot_list_sort ⟨_, copyHeap_at s.heap vs, rfl⟩ entry_list_sort ?_ (args_list_sort _)))
  refine wpAny_mono (list_sort_vals (A := A.in1.in1) (s := { s with heap := copyHeap s.heap vs }) (P := fun f s' => f = .done (.ret .none) ∧ Q (.ref (s.heap.objs.size + 1)) s') (copyHeap_at s.heap vs) S hL ⟨rfl, h⟩) (fun f s' hf => ?_) fun _ _ e => e
  obtain ⟨rfl, hq⟩ := hf
  exact ⟨_, rfl, wpAny_pure ⟨_, rfl, hq⟩⟩
end
/-! the data sorted -/
def srtAlike : List PyData → Bool
  | [] => true
  | x :: xs => xs.all (fun y => PySem.W.alike x y) && srtAlike xs
def srtKind (xs : List PyData) : Bool := xs.all (fun x => match x with | .tuple (_ :: _) => true | _ => false) || xs.all (fun x => match x with | .tuple _ => false | .none => false | _ => true)
/-- at most one: nothing is compared -/
def srtOne (xs : List PyData) : Bool := decide (xs.length ≤ 1) && xs.all (fun x => match x with | .none => false | _ => true)
def srtOk (xs : List PyData) : Bool := (lay (.list xs) && decide (xs.length ≤ 1000000)) && ((xs.all (fun x => PySem.W.alike x x) && srtAlike xs) && (srtKind xs || srtOne xs))
/-- insertion, structural: for evaluation -/
def ins1 (x : PyData) : List PyData → List PyData
  | [] => [x]
  | y :: ys => if PySem.W.dataLt y x = true then y :: ins1 x ys else x :: y :: ys
def isort : List PyData → List PyData
  | [] => []
  | x :: xs => ins1 x (isort xs)
def sortP (xs : List PyData) : List PyData := isort xs
theorem ins1_app {x : PyData} : ∀ {l1 l2 : List PyData}, (∀ b ∈ l1, PySem.W.dataLt b x = true) → (∀ c ∈ l2, PySem.W.dataLt c x = false) → ins1 x (l1 ++ l2) = l1 ++ x :: l2
  | [], [], _, _ => rfl
  | [], c :: l2, _, h => by
    show (if PySem.W.dataLt c x = true then c :: ins1 x l2 else x :: c :: l2) = x :: c :: l2
    rw [h c (List.mem_cons_self ..)]
    rfl
  | b :: l1, l2, h1, h2 => by
    show (if PySem.W.dataLt b x = true then b :: ins1 x (l1 ++ l2) else x :: b :: (l1 ++ l2)) = b :: (l1 ++ x :: l2)
    rw [h1 b (List.mem_cons_self ..), if_pos rfl, ins1_app (fun c hc => h1 c (List.mem_cons_of_mem _ hc)) h2]
theorem sortP_eq (xs : List PyData) : sortP xs = xs.mergeSort (PySem.W.dataLe false id) := by
  have ht : PySem.W.TotalLe (PySem.W.dataLe (β := PyData) false id) := PySem.W.sortLe_total _ _ _
  have tr : ∀ a b c : PyData, PySem.W.dataLe false id a b = true → PySem.W.dataLe false id b c = true → PySem.W.dataLe false id a c = true := fun a b c h1 h2 => ht.trans _ _ _ h1 h2
  have to : ∀ a b : PyData, (PySem.W.dataLe false id a b || PySem.W.dataLe false id b a) = true := fun a b => by rw [Bool.or_eq_true]; exact ht.total _ _
  have le_lt : ∀ a b : PyData, PySem.W.dataLe false id a b = !PySem.W.dataLt b a := fun a b => rfl
  induction xs with
  | nil => simp [sortP, isort]
  | cons x xs ih =>
    obtain ⟨l1, l2, e1, e2, h⟩ := List.mergeSort_cons (le := PySem.W.dataLe false id) tr to x xs
    have hp := List.pairwise_mergeSort (le := PySem.W.dataLe false id) tr to (x :: xs)
    rw [e1, List.pairwise_append] at hp
    show ins1 x (isort xs) = _
    rw [show isort xs = _ from ih, e1, e2]
    refine ins1_app (fun b hb => ?_) fun c hc => ?_
    · have := h b hb
      rw [le_lt] at this
      simpa using this
    · have := (List.pairwise_cons.mp hp.2.1).1 c hc
      rw [le_lt] at this
      simpa using this
theorem alike_all {xs : List PyData} (h1 : xs.all (fun x => PySem.W.alike x x) = true) (h2 : srtAlike xs = true) : PySem.W.AllAlike xs := by
  induction xs with
  | nil => intro d hd; cases hd
  | cons x xs ih =>
    simp only [srtAlike, List.all_cons, Bool.and_eq_true] at h1 h2
    have h3 := List.all_eq_true.mp h2.1
    have k := ih h1.2 h2.2
    intro d hd d' hd'
    rcases List.mem_cons.mp hd with e | q
    · rcases List.mem_cons.mp hd' with e' | q'
      · rw [e, e']; exact h1.1
      · rw [e]; exact h3 d' q'
    · rcases List.mem_cons.mp hd' with e' | q'
      · rw [PySem.W.alike_comm, e']; exact h3 d q
      · exact k d q d' q'
theorem kind_all {xs : List PyData} (h : srtKind xs = true) : PySem.W.Sortable xs := by
  unfold srtKind at h
  rw [Bool.or_eq_true] at h
  rcases h with h | h
  · refine .inl fun d hd => ?_
    have q := List.all_eq_true.mp h d hd
    cases d with
    | tuple ys =>
      cases ys with
      | nil => cases q
      | cons y ys => exact ⟨y, ys, rfl⟩
    | _ => cases q
  · refine .inr fun d hd => ?_
    have q := List.all_eq_true.mp h d hd
    cases d with
    | tuple ys => cases q
    | none => cases q
    | _ => exact ⟨fun e => (nomatch e), fun _ e => (nomatch e)⟩
def SrtAny (xs : List PyData) : Prop := PySem.W.Sortable xs ∨ (xs.length ≤ 1 ∧ ∀ d ∈ xs, d ≠ .none)
theorem kind_any {xs : List PyData} (h : (srtKind xs || srtOne xs) = true) : SrtAny xs := by
  rw [Bool.or_eq_true] at h
  rcases h with h | h
  · exact .inl (kind_all h)
  · unfold srtOne at h
    rw [Bool.and_eq_true, decide_eq_true_eq] at h
    refine .inr ⟨h.1, fun d hd e => ?_⟩
    subst e
    have q := List.all_eq_true.mp h.2 _ hd
    cases q
theorem sortsAny {prog : Program} {w : World} {A : Around} {s : Shared} {vs : List Value} {ds : List PyData} (e : PySem.W.EachIs (fun v d => ∃ as, Reads s.heap v d as) vs ds) (hal : PySem.W.AllAlike ds) (hk : SrtAny ds) (hu : ∀ d, d ∈ ds → A.units + d.depth < cLine) : PySem.W.SortsAt prog w A s (PySem.W.dataKind s.heap ds) vs := by
  rcases hk with hk | ⟨hl, hn⟩
  · exact PySem.W.SortsAt.data e hal hk hu
  · refine ⟨fun v hv => ?_, PyProof.Rows.general', fun E x y a b Q ha hb hq => ?_, fun h2 => absurd h2 (by rw [e.length]; omega)⟩
    · obtain ⟨d, hd, as, r⟩ := e.left v hv
      exact ⟨_, PySem.W.dataKind_some hal hd r⟩
    · obtain ⟨d, as, hd, ra, rfl⟩ := PySem.W.dataKind_inv ha
      obtain ⟨d', as', hd', rb, rfl⟩ := PySem.W.dataKind_inv hb
      exact PySem.W.oneLt_alike (f := false) (fun z => by cases z) ra rb (hal d hd d' hd') (hn d hd) (Nat.lt_of_le_of_lt (Nat.add_le_add_left (Nat.min_le_left _ _) _) (hu d hd)) hq
def gSorted : GL := gSeqL fun _ xs S => if srtOk xs = true then .ok (sortP xs) S else .stuck
section
variable {X : Cx} {E : EX}
theorem each_reads {h : Heap} : ∀ {vs : List Value} {ds : List PyData} {as : List Addr}, ReadsAll h vs ds as → PySem.W.EachIs (fun v b => ∃ as, Reads h v b as) vs ds
  | _, _, _, .nil => .nil
  | _, _, _, .cons h1 h2 => .cons ⟨_, h1⟩ (each_reads h2)
theorem each_vals {K : PySem.W.Frag} {F : Hp} : ∀ {vs : List V} {us : List Value} {ds : List PyData}, Vals vs us → RpAll K F vs ds → PySem.W.EachIs (fun (u : Value) (d : PyData) => ∃ v, RelV v u ∧ Rp K F v d) us ds
  | _, _, _, .nil, .nil => .nil
  | _, _, _, .cons r t, .cons q z => .cons ⟨_, r, q⟩ (each_vals t z)
theorem vals_each {K : PySem.W.Frag} {F : Hp} : ∀ {us : List Value} {ds : List PyData}, PySem.W.EachIs (fun (u : Value) (d : PyData) => ∃ v, RelV v u ∧ Rp K F v d) us ds → ∃ vs, Vals vs us ∧ RpAll K F vs ds
  | _, _, .nil => ⟨[], .nil, .nil⟩
  | _, _, .cons ⟨v, r, q⟩ t => by
    obtain ⟨vs, h1, h2⟩ := vals_each t
    exact ⟨v :: vs, .cons r h1, .cons q h2⟩
/-- what sorted wants: the items are data; a new list of SOME values that stand for the sorted data -/
def rSrt (K : PySem.W.Frag) : List V → Hp → VK → Prop := fun vs H Q => ∃ (a : Addr) (k : Bool) (xs : List V) (ds : List PyData) (F : Hp), vs = [V.ref a] ∧ SqB K H a xs k ∧ Le F H ∧ RpAll K F xs ds ∧ srtOk ds = true ∧
  ∀ ys p, H p = none → RpAll K F ys (sortP ds) → Q (.ref p) (upd H p (.lst ys))
theorem depth_mem {xs : List PyData} {x : PyData} (h : x ∈ xs) : x.depth ≤ PyData.depthAll xs := by
  induction xs with
  | nil => cases h
  | cons y ys ih =>
    rw [PyData.depthAll]
    rcases List.mem_cons.mp h with rfl | h
    · exact Nat.le_max_left _ _
    · exact Nat.le_trans (ih h) (Nat.le_max_right _ _)
theorem cr_srt (hu : X.A.units + 100 < cLine) : CallR X (.builtin "sorted") (rSrt X.K) := by
  intro pins s σ H vs us Q I r h
  obtain ⟨a, k, xs, ds, F, rfl, hq, hF, ra, ok, q⟩ := h
  rw [Vals.ref1 r]
  unfold srtOk at ok
  simp only [Bool.and_eq_true, decide_eq_true_eq] at ok
  obtain ⟨⟨l1, l2⟩, ⟨l3, l4⟩, l5⟩ := ok
  have hal := alike_all l3 l4
  have hk := kind_any l5
  have dp : DpAll X.K H xs ds := RpAll.dp hF ra (lay_can l1)
  have hdep : ∀ d, d ∈ ds → X.A.units + 2 + d.depth < cLine := fun d hd => by
    have h1 := SeqAt.depth_of_shaped l1
    rw [PyData.depth] at h1
    have h2 := depth_mem hd
    omega
  -- what is left: the values of the items
  have fin : ∀ (its : List Value), Vals xs its → (∀ Q' : Value → Shared → Prop, (∀ out : List Value, out.length = ds.length → PySem.W.EachIs (fun (u : Value) (d : PyData) => ∃ v, RelV v u ∧ Rp X.K F v d) out (ds.mergeSort (PySem.W.dataLe false id)) → Q' (.ref (s.heap.objs.size + 1)) { s with heap := PyProof.Rows.sortedAll s.heap its out.toArray }) → wpAny (model X.prog X.w) X.A (call (.builtin "sorted") [.ref a]) Q' X.xe s) → wpAny (model X.prog X.w) X.A (call (.builtin "sorted") [.ref a]) (EP X pins σ Q) X.xe s := fun its rv run => by
    refine run _ fun out hl ho => ?_
    obtain ⟨ys, v1, v2⟩ := vals_each ho
    obtain ⟨ep, he⟩ := PyProof.Rows.sortedAll_at s.heap its out.toArray
    have hy : ys.length ≤ sizeLine := by
      rw [v2.length, List.length_mergeSort]; exact line6 l2
    exact ⟨.ref _, upd H (s.heap.objs.size + 1) (.lst ys), I.laid (t' := s.toks) (fun _ _ => PyProof.Rows.sortedAll_old) (Nat.le_succ _) ⟨hy, out, ep, v1, by simpa using he⟩, rfl, q ys _ (I.hok.fresh (Nat.le_succ _)) (by rw [sortP_eq]; exact v2)⟩
  cases k with
  | true =>
    obtain ⟨z, its, n, rv, e⟩ := hq.ok I.hok
    obtain ⟨as, hr⟩ := Dp.readsAll I ds xs its dp rv
    have hlen : its.length = ds.length := by rw [← rv.length]; exact ra.length
    refine fin its rv fun Q' hQ => ?_
    have er := each_reads hr
    have er' : PySem.W.EachIs (fun v b => ∃ as, Reads (PySem.W.sortingHeap (PySem.W.copyHeap s.heap its) (s.heap.objs.size + 1) its) v b as) its ds := er.mono fun _ _ ⟨as, r⟩ => ⟨as, PyProof.Rows.Reads.keeps (fun _ _ => PySem.W.sorting_copy_old) r⟩
    refine PySem.W.sorted_vals (vs := its) ⟨_, e, rfl, n, rfl⟩ (sortsAny (s := { s with heap := PySem.W.sortingHeap (PySem.W.copyHeap s.heap its) (s.heap.objs.size + 1) its }) er' hal hk fun d hd => ?_) (by rw [hlen]; exact line6 l2) ?_
    · have := hdep d hd
      show X.A.units + 1 + 1 + d.depth < cLine
      omega
    · refine hQ _ (by rw [PySem.W.sortVals_length false rfl]; exact hlen) ?_
      have h1 := PySem.W.sortVals_data (enc := id) false (each_vals rv ra) (show PySem.W.EachIs (fun v b => ∃ as, Reads (PySem.W.sortingHeap (PySem.W.copyHeap s.heap its) (s.heap.objs.size + 1) its) v (id b) as) its ds from er') (by rw [List.map_id]; exact hal)
      rw [List.map_id] at h1
      exact h1
  | false =>
    obtain ⟨its, rv, ⟨o, ho, hc, n, hd⟩, hz⟩ := I.tuple hq
    obtain ⟨as, hr⟩ := Dp.readsAll I ds xs its dp rv
    have hlen : its.length = ds.length := by rw [← rv.length]; exact ra.length
    refine fin its rv fun Q' hQ => ?_
    have er := each_reads hr
    have er' : PySem.W.EachIs (fun v b => ∃ as, Reads (PySem.W.sortingHeap (PySem.W.copyHeap s.heap its) (s.heap.objs.size + 1) its) v b as) its ds := er.mono fun _ _ ⟨as, r⟩ => ⟨as, PyProof.Rows.Reads.keeps (fun _ _ => PySem.W.sorting_copy_old) r⟩
    refine sortedT ho hc hd (sortsAny (s := { s with heap := PySem.W.sortingHeap (PySem.W.copyHeap s.heap its) (s.heap.objs.size + 1) its }) er' hal hk fun d hd => ?_) (by rw [hlen]; exact line6 l2) ?_
    · have := hdep d hd
      show X.A.units + 1 + 1 + d.depth < cLine
      omega
    · refine hQ _ (by rw [PySem.W.sortVals_length false rfl]; exact hlen) ?_
      have h1 := PySem.W.sortVals_data (enc := id) false (each_vals rv ra) (show PySem.W.EachIs (fun v b => ∃ as, Reads (PySem.W.sortingHeap (PySem.W.copyHeap s.heap its) (s.heap.objs.size + 1) its) v (id b) as) its ds from er') (by rw [List.map_id]; exact hal)
      rw [List.map_id] at h1
      exact h1
theorem imp_srt {K : PySem.W.Frag} : ImpCL K E (rSrt K) gSorted := imp_seqL fun U U0 S H H0 a k vs xs Q st s q r w => by
  split at w
  · next hok => exact ⟨a, k, vs, xs, U.F, rfl, q, s.fz, r, hok, fun ys p hp ry => layL st s ry hp w⟩
  · exact False.elim w
end
end G


namespace G
open PySem L2

/-! ### comparisons in a chain of any length -/
structure CH (X : Cx) (ops : List CmpOp) (rs : List Expr) (t : V → L2.St → Hp → VK → Prop) : Prop where
  run : ∀ (pos : Pos) (pins : List (Addr × Obj)) (s : Shared) (σ : L2.St) (H : Hp) (x : V) (v : Value) (Q : VK), L2.Inv X pins σ H s → RelV x v → t x σ H Q → wpAny (model X.prog X.w) X.A (compareChain pos v ops (evalEach rs X.env)) (EP X pins σ Q) X.xe s
  runT : ∀ (pos : Pos) (pins : List (Addr × Obj)) (s : Shared) (σ : L2.St) (H : Hp) (x : V) (v : Value) (Q : Bool → Hp → Prop), L2.Inv X pins σ H s → RelV x v → t x σ H (fun z H' => ∃ k, z = .bl k ∧ Q k H') → wpAny (model X.prog X.w) X.A (testChain pos v ops (evalEach rs X.env)) (TP X pins σ Q) X.xe s
abbrev MCh := D → ME
structure ICH (X : Cx) (E : EX) (ops : List CmpOp) (rs : List Expr) (m : MCh) : Prop where
  ex : ∃ t, CH X ops rs t ∧ ∀ (U : Wd) (S : Sto) (H : Hp) (σ : L2.St) (ρ : Loc) (x : V) (d : D) (Q : VK), Sat X.K U S H → RelL X.K U ρ σ → RelD X.K U d x → Wants X.K E U H (m d ρ S) (KD X.K Q) → t x σ H Q
def cLast (g : D → D → Sto → Res D) (mb : ME) : MCh := fun d ρ S => (mb ρ S).bind fun e S1 => g d e S1
def cLink (g : D → D → Sto → Res D) (mb : ME) (mc : MCh) : MCh := fun d ρ S => (mb ρ S).bind fun e S1 => (g d e S1).bind fun z S2 => (toB z S2).bind fun k S3 => if k = true then mc e ρ S3 else .ok (.p (.bool false)) S3
def mCh (ma : ME) (mc : MCh) : ME := fun ρ S => (ma ρ S).bind fun d S1 => mc d ρ S1
section
variable {X : Cx} {E : EX} {pos : Pos} {a b c e : Expr} {es : List Expr} {ma mb : ME} {op op' : CmpOp} {ops : List CmpOp} {r' : Expr} {rs : List Expr} {r : R2} {g : D → D → Sto → Res D} {mc : MCh}
open PyProof.Rows in
theorem ch_last (ho : OpR X (compareOp op) r) (hg : ImpO X.K E r g) (hb : IE X E b mb) : ICH X E [op] [b] (cLast g mb) := by
  obtain ⟨t, p, i⟩ := hb
  refine ⟨fun x σ H Q => t σ H fun y H1 => r x y H1 Q, ⟨fun pos pins s σ H x v Q I rx h => ?_, fun pos pins s σ H x v Q I rx h => ?_⟩, fun U S H σ ρ x d Q s rl rd w => i U S H σ ρ _ s rl (w.bind.mono fun U1 S1 H1 e st1 s1 w1 v rv => hg U1 S1 H1 x v d e Q s1 (rd.step st1) rv w1)⟩
  · exact chain_last (thn (p.run pins s σ H _ I h) fun u s1 ⟨y, H1, I1, r1, q1⟩ => ho pins s1 σ H1 x y v u Q I1 rx r1 q1)
  · refine test_last (thn (p.run pins s σ H _ I h) fun u s1 ⟨y, H1, I1, r1, q1⟩ => thn (ho pins s1 σ H1 x y v u _ I1 rx r1 q1) fun z s2 ⟨zv, H2, I2, r2, k, e, q2⟩ => ?_)
    subst e
    cases r2
    exact wpAny_truthy_bool ⟨H2, I2, q2⟩
open PyProof.Rows in
theorem ch_link (ho : OpR X (compareOp op) r) (hg : ImpO X.K E r g) (hb : IE X E b mb) (hc : ICH X E (op' :: ops) (r' :: rs) mc) : ICH X E (op :: op' :: ops) (b :: r' :: rs) (cLink g mb mc) := by
  obtain ⟨t, p, i⟩ := hb
  obtain ⟨u, c1, j⟩ := hc
  refine ⟨fun x σ H Q => t σ H fun y H1 => r x y H1 fun z H2 => ∃ k, z = .bl k ∧ if k = true then u y σ H2 Q else Q (.bl false) H2, ⟨fun pos pins s σ H x v Q I rx h => ?_, fun pos pins s σ H x v Q I rx h => ?_⟩, fun U S H σ ρ x d Q s rl rd w => ?_⟩
  · refine chain_link (thn (p.run pins s σ H _ I h) fun uu s1 ⟨y, H1, I1, r1, q1⟩ => thn (ho pins s1 σ H1 x y v uu _ I1 rx r1 q1) fun z s2 ⟨zv, H2, I2, r2, k, e, q2⟩ => ?_)
    subst e
    cases r2
    refine wpAny_truthy_bool ?_
    cases k with
    | false => exact ite_ff ⟨.bl false, H2, I2, rfl, q2⟩
    | true => exact ite_tt (c1.run pos pins s2 σ H2 y uu Q I2 r1 q2)
  · refine test_link (thn (p.run pins s σ H _ I h) fun uu s1 ⟨y, H1, I1, r1, q1⟩ => thn (ho pins s1 σ H1 x y v uu _ I1 rx r1 q1) fun z s2 ⟨zv, H2, I2, r2, k, e, q2⟩ => ?_)
    subst e
    cases r2
    refine wpAny_truthy_bool ?_
    cases k with
    | false =>
      obtain ⟨k', e', q'⟩ := q2
      cases e'
      exact ite_ff ⟨H2, I2, q'⟩
    | true => exact ite_tt (c1.runT pos pins s2 σ H2 y uu Q I2 r1 q2)
  · refine i U S H σ ρ _ s rl (w.bind.mono fun U1 S1 H1 e st1 s1 w1 v rv => hg U1 S1 H1 x v d e _ s1 (rd.step st1) rv (w1.bind.mono fun U2 S2 H2 z st2 s2 w2 y ry => ?_))
    unfold toB at w2
    split at w2
    · next k =>
      cases ry
      refine ⟨k, rfl, ?_⟩
      cases k with
      | true => exact j U2 S2 H2 σ ρ v e Q s2 ((rl.step st1).step st2) (rv.step st2) w2
      | false => exact (Wants.ok w2 s2) _ (.bl false)
    · exact False.elim w2
theorem imp_mCh {t : TE} {u : V → L2.St → Hp → VK → Prop} (i : ImpE X.K E t ma) (j : ∀ (U : Wd) (S : Sto) (H : Hp) (σ : L2.St) (ρ : Loc) (x : V) (d : D) (Q : VK), Sat X.K U S H → RelL X.K U ρ σ → RelD X.K U d x → Wants X.K E U H (mc d ρ S) (KD X.K Q) → u x σ H Q) :
    ImpE X.K E (fun σ H Q => t σ H fun x H1 => u x σ H1 Q) (mCh ma mc) := fun U S H σ ρ Q s rl w => i U S H σ ρ _ s rl (w.bind.mono fun U1 S1 H1 d st1 s1 w1 v rv => j U1 S1 H1 σ ρ v d Q s1 (rl.step st1) rv w1)
open PyProof.Rows in
theorem ie_ch (ha : IE X E a ma) (hc : ICH X E (op :: op' :: ops) (b :: r' :: rs) mc) (hm : lastMarks (op :: op' :: ops) (b :: r' :: rs) = false := by with_unfolding_all rfl) : IE X E (.Compare a (op :: op' :: ops) (b :: r' :: rs) pos) (mCh ma mc) := by
  obtain ⟨t, p, i⟩ := ha
  obtain ⟨u, c1, j⟩ := hc
  exact ⟨_, ⟨fun pins s σ H Q I h => Compare_chain (thn (p.run pins s σ H _ I h) fun v s1 ⟨x, H1, I1, r1, q1⟩ => c1.run pos pins s1 σ H1 x v Q I1 r1 q1) hm⟩, imp_mCh i j⟩
open PyProof.Rows in
theorem it_ch (ha : IE X E a ma) (hc : ICH X E (op :: op' :: ops) (b :: r' :: rs) mc) (hm : lastMarks (op :: op' :: ops) (b :: r' :: rs) = false := by with_unfolding_all rfl) : IT X E (.Compare a (op :: op' :: ops) (b :: r' :: rs) pos) (mTest (mCh ma mc)) := by
  obtain ⟨t, p, i⟩ := ha
  obtain ⟨u, c1, j⟩ := hc
  exact ⟨_, ⟨fun pins s σ H Q I h => isTrue_chain (thn (p.run pins s σ H _ I h) fun v s1 ⟨x, H1, I1, r1, q1⟩ => c1.runT pos pins s1 σ H1 x v Q I1 r1 q1) hm⟩, impTest (imp_mCh i j)⟩
theorem cl_lt (hu : X.A.units + 64 < cLine) (hb : IE X E b mb) : ICH X E [.Lt] [b] (cLast gLt mb) := ch_last (op_ltA hu) imp_lt hb
theorem cl_le (hu : X.A.units + 64 < cLine) (hb : IE X E b mb) : ICH X E [.LtE] [b] (cLast gLe mb) := ch_last (op_leA hu) imp_le hb
theorem ck_lt (hu : X.A.units + 64 < cLine) (hb : IE X E b mb) (hc : ICH X E (op' :: ops) (r' :: rs) mc) : ICH X E (.Lt :: op' :: ops) (b :: r' :: rs) (cLink gLt mb mc) := ch_link (op_ltA hu) imp_lt hb hc
theorem ck_le (hu : X.A.units + 64 < cLine) (hb : IE X E b mb) (hc : ICH X E (op' :: ops) (r' :: rs) mc) : ICH X E (.LtE :: op' :: ops) (b :: r' :: rs) (cLink gLe mb mc) := ch_link (op_leA hu) imp_le hb hc
end

/-! ### * -/
section
variable {K : PySem.W.Frag} {E : EX}
def gMul : D → D → Sto → Res D := i2 cMul fun i j => .int (i * j)
theorem imp_mul : ImpO K E (rI CMul fun i j => .int (i * j)) gMul := imp_rI (fun _ _ h => cMul_of h) fun _ _ _ => .int _
/-- a display times an int -/
def mRep (m : ML) (n : ME) : ML := fun ρ S => (m ρ S).bind fun xs S1 => (n ρ S1).bind fun d S2 => match d with
  | .p (.int k) => if (inB k && decide (xs.length * k.toNat ≤ 1000000)) = true then .ok (List.replicate k.toNat xs).flatten S2 else .stuck
  | _ => .stuck
theorem RpAll.rep {F : Hp} {vs : List V} {xs : List PyData} (h : RpAll K F vs xs) : ∀ k : Nat, RpAll K F (List.replicate k vs).flatten (List.replicate k xs).flatten
  | 0 => .nil
  | k + 1 => by
    rw [List.replicate_succ, List.replicate_succ, List.flatten_cons, List.flatten_cons]
    exact RpAll.append h (RpAll.rep h k)
end
section
variable {X : Cx} {E : EX} {pos : Pos} {a b c e : Expr} {es : List Expr} {ma mb mc : ME}
theorem ie_mul (ha : IE X E a ma) (hb : IE X E b mb) : IE X E (.BinOp a .Mult b pos) (m2 gMul ma mb) := ie_op op_mul imp_mul ha hb
theorem il_rep {m : ML} (ha : IL X E a m) (hb : IE X E b mb) : IL X E (.BinOp a .Mult b pos) (mRep m mb) := by
  obtain ⟨ta, pa, ia⟩ := ha
  obtain ⟨tb, pb, ib⟩ := hb
  refine ⟨_, pe_op op_rep pa pb, fun U S H σ ρ Q s rl w => ia U S H σ ρ _ s rl ?_⟩
  unfold mRep at w
  cases hh : m ρ S with
  | stuck => rw [hh] at w; exact w
  | exc c S' => rw [hh] at w; exact w
  | ok xs S1 =>
    rw [hh] at w
    intro U1 H1 st1 s1 p vs hp hF hi ho r
    have w1 : Wants X.K E U H ((mb ρ S1).bind fun d S2 => match d with
      | .p (.int k) => if (inB k && decide (xs.length * k.toNat ≤ 1000000)) = true then .ok (List.replicate k.toNat xs).flatten S2 else .stuck
      | _ => .stuck) (KL X.K H Q) := w
    refine ib U1 S1 H1 σ ρ _ s1 (rl.step st1) ?_
    cases hh2 : mb ρ S1 with
    | stuck => rw [hh2] at w1; exact w1
    | exc c S' => rw [hh2] at w1; exact fun U' H' st s' => w1 U' H' (st1.trans st) s'
    | ok d S2 =>
      rw [hh2] at w1
      intro U2 H2 st2 s2 v rv
      obtain ⟨h2, f2, i2⟩ := st2.aloof ho hF hi
      cases d with
      | r l => exact False.elim w1
      | p y =>
        cases y with
        | int k =>
          cases rv
          have w2 : Wants X.K E U H (if (inB k && decide (xs.length * k.toNat ≤ 1000000)) = true then .ok (List.replicate k.toNat xs).flatten S2 else .stuck) (KL X.K H Q) := w1
          split at w2
          · next hk =>
            rw [Bool.and_eq_true, decide_eq_true_eq] at hk
            have hb := inB_of hk.1
            exact ⟨p, k, vs, rfl, rfl, h2, by omega, by omega, by rw [r.length]; exact line6 hk.2, fun q hq => layL (st1.trans st2) s2 ((r.sub st2.ef).rep k.toNat) hq w2⟩
          · exact False.elim w2
        | _ => exact False.elim w1

/-! ### freezing, from a statement on -/
def thaw (o : Ob) : PyData := match o with
  | .lst xs => .list xs
  | .dct kvs => .dict kvs
  | .ins _ _ => .none
  | .tab _ _ => .none
def mFz (i : Nat) (m : MS) : MS := fun ρ S => match ρ[i]? with
  | some (some (.r l)) => (match S[l]? with
    | some (some (.ins _ _)) => .stuck
    | some (some (.tab _ _)) => .stuck
    | some (some o) => m (ρ.set i (some (.p (thaw o)))) (S.set l none)
    | _ => .stuck)
  | _ => .stuck
theorem ob_rp {K : PySem.W.Frag} {U : Wd} {a : Addr} {o : HO} {b : Ob} (ho : ObIs K U a o b) (hF : U.F a = none) (hb : ∀ C fs, b ≠ .ins C fs) (hb2 : ∀ P q, b ≠ .tab P q) : Rp K (upd U.F a o) (.ref a) (thaw b) := by
  have sb : Sub U.F (upd U.F a o) := Sub.upd hF
  cases b with
  | lst xs =>
    obtain ⟨vs, rfl, r⟩ := ho
    exact .lst (.inl upd_same) (r.sub sb)
  | dct kvs =>
    cases o with
    | dK ks => obtain ⟨ds, r, rfl⟩ := ho; exact .dK upd_same (r.sub sb)
    | ext φ => obtain ⟨xs, vs, ds, rfl, v, r, k, rfl, n⟩ := ho; exact .dN upd_same v (r.sub sb) (k.sub sb) n
    | _ => exact ho.elim
  | ins C fs => exact absurd rfl (hb C fs)
  | tab P q => exact absurd rfl (hb2 P q)
theorem imp_fz {K : PySem.W.Frag} {i : Nat} {t : TS} {m : MS} (h : ImpS K E t m) : ImpS K E t (mFz i m) := by
  intro U S H σ ρ N s rl w
  unfold mFz at w
  split at w
  · next l hl =>
    split at w
    · exact False.elim w
    · exact False.elim w
    · next o hno hno2 ho =>
      obtain ⟨v, hv, a, ha, rfl⟩ := rl.get i _ hl
      obtain ⟨hF, oo, h1, h2⟩ := s.ob l a o ha ho
      have st : Step U H ⟨upd U.F a oo, U.io⟩ H := Step.freeze ha hF
      have s' : Sat K ⟨upd U.F a oo, U.io⟩ (S.set l none) H := s.freeze ha ho h1
      refine h _ _ H σ _ N s' ((rl.step st).setL i (d := .p (thaw o)) (fun u hu => ?_) ⟨_, hl⟩) (Wants.step st w)
      rw [hv] at hu
      cases hu
      exact ob_rp h2 hF (fun C fs e => hno C fs (by rw [e])) (fun P q e => hno2 P q (by rw [e]))
    · exact False.elim w
  · exact False.elim w
theorem is_fz {st : Stmt} {m : MS} (i : Nat) (h : IS X E st m) : IS X E st (mFz i m) := by
  obtain ⟨t, p, j⟩ := h
  exact ⟨_, p, imp_fz j⟩

/-! ### methods of lists -/
abbrev GM := D → List D → Sto → Res D
def isLst (d : D) (S : Sto) : Bool := match seqOf d S with
  | some (true, _) => true
  | _ => false
def mMth (g : GM) (mo : ME) (na : MA) : ME := fun ρ S => (mo ρ S).bind fun d S1 => if isLst d S1 = true then (na ρ S1).bind fun ds S2 => g d ds S2 else .stuck
def ImpM (K : PySem.W.Frag) (E : EX) (r : V → List V → Hp → VK → Prop) (g : GM) : Prop := ∀ (U : Wd) (S : Sto) (H : Hp) (x : V) (d : D) (vs : List V) (ds : List D) (Q : VK), Sat K U S H → RelD K U d x → RelDs K U ds vs → Wants K E U H (g d ds S) (KD K Q) → r x vs H Q
theorem lst_ty {K : PySem.W.Frag} {U : Wd} {S : Sto} {H : Hp} {d : D} {x : V} (s : Sat K U S H) (r : RelD K U d x) (h : isLst d S = true) : tyV K "list" x H := by
  unfold isLst at h
  split at h
  · next xs hs =>
    obtain ⟨a, vs, rfl, q, _⟩ := seq_rel s r hs
    exact .inl ⟨rfl, vs, .inl q⟩
  · cases h
theorem ie_mth {o : Expr} {id : String} {name : Str} {apos cpos : Pos} {mo : ME} {na : MA} {r : V → List V → Hp → VK → Prop} {g : GM} (hm : MtR X id r) (hi : ImpM X.K E r g) (slot : Slot "list" name id) (hty : typeOf (.builtin id) = pure (.type "method_descriptor")) (ho : IE X E o mo) (ha : IA X E (e :: es) na)
    (hbase : attributeBase o name X.env (eval o X.env) = eval o X.env := by rfl)
    (hfew : ((backTo cpos (starEach (e :: es) X.env)).all (fun x => !x.1) && (backToKw cpos (keywordEach [] X.env)).all (fun x => x.1.isSome) && decide ((e :: es).length + ([] : List Keyword).length + (if ([] : List Keyword).isEmpty then 0 else 1) < 30)) = true := by rfl)
    (hline : (apos.endLine == cpos.line) = true := by rfl) (hs : starEach (e :: es) X.env = (false, eval e X.env) :: starEach es X.env := by rfl) (hplain : (backTo cpos (starEach es X.env)).any (·.1) = false := by rfl) :
    IE X E (.Call (.Attribute o name apos) (e :: es) [] cpos) (mMth g mo na) := by
  obtain ⟨t, p, i⟩ := ho
  obtain ⟨⟨u, q, j⟩, _⟩ := ha
  refine ⟨_, pe_bm PySem.F.plainAttrs_list slot hty hm p q hbase hfew hline hs hplain, fun U S H σ ρ Q s rl w => i U S H σ ρ _ s rl (w.bind.mono fun U1 S1 H1 d st1 s1 w1 v rv => ?_)⟩
  split at w1
  · next hl => exact ⟨lst_ty s1 rv hl, j U1 S1 H1 σ ρ _ s1 (rl.step st1) (w1.bind.mono fun U2 S2 H2 ds st2 s2 w2 vs rvs => hi U2 S2 H2 v d vs ds Q s2 (rv.step st2) rvs w2)⟩
  · exact False.elim w1
theorem ie_mth0 {o : Expr} {id : String} {name : Str} {apos cpos : Pos} {mo : ME} {r : V → List V → Hp → VK → Prop} {g : GM} (hm : MtR X id r) (hi : ImpM X.K E r g) (slot : Slot "list" name id) (hty : typeOf (.builtin id) = pure (.type "method_descriptor")) (ho : IE X E o mo)
    (hbase : attributeBase o name X.env (eval o X.env) = eval o X.env := by rfl) (hline : (apos.endLine == cpos.line) = true := by rfl) :
    IE X E (.Call (.Attribute o name apos) [] [] cpos) (mMth g mo mNil) := by
  obtain ⟨t, p, i⟩ := ho
  refine ⟨_, pe_bm0 PySem.F.plainAttrs_list slot hty hm p hbase hline, fun U S H σ ρ Q s rl w => i U S H σ ρ _ s rl (w.bind.mono fun U1 S1 H1 d st1 s1 w1 v rv => ?_)⟩
  split at w1
  · next hl => exact ⟨lst_ty s1 rv hl, hi U1 S1 H1 v d [] [] Q s1 rv .nil w1⟩
  · exact False.elim w1
end
section
variable {K : PySem.W.Frag} {E : EX}
/-- a list of the store is changed -/
def gPut (f : List PyData → List PyData → Option (D × List PyData)) : GM := fun d ds S => match d, pures ds with
  | .r l, some ys => (match S[l]? with
    | some (some (.lst xs)) => (match f xs ys with
      | some (d', zs) => .ok d' (S.set l (some (.lst zs)))
      | none => .stuck)
    | _ => .stuck)
  | _, _ => .stuck
theorem imp_put {f : List PyData → List PyData → Option (D × List PyData)} {r : V → List V → Hp → VK → Prop}
    (h : ∀ (U : Wd) (H : Hp) (a : Addr) (vs us : List V) (xs ys zs : List PyData) (d : D) (Q : VK), Le U.F H → H a = some (.lst vs) → RpAll K U.F vs xs → RpAll K U.F us ys → f xs ys = some (d, zs) → (∀ ws v, RpAll K U.F ws zs → RelD K U d v → Q v (upd H a (.lst ws))) → r (.ref a) us H Q) : ImpM K E r (gPut f) := by
  intro U S H x d vs ds Q s rx rv w
  unfold gPut at w
  split at w
  · next l ys hy =>
    split at w
    · next xs hx =>
      split at w
      · next d' zs hf =>
        obtain ⟨a, ha, rfl⟩ := rx
        obtain ⟨us, h1, h2⟩ := s.lst ha hx
        exact h U H a us vs xs ys zs d' Q s.fz h1 h2 (pures_rel hy rv) hf fun ws v rw rd => w _ _ (Step.put ha (s.ob _ _ _ ha hx).1) (s.put (c := .lst _) ha hx ⟨ws, rfl, rw⟩ trivial) v rd
      · exact False.elim w
    · exact False.elim w
  · exact False.elim w
def gApp : GM := gPut fun xs ys => match ys with
  | [y] => if xs.length ≤ 1000000 then some (.p .none, xs ++ [y]) else none
  | _ => none
theorem imp_app : ImpM K E rAppend gApp := imp_put fun U H a vs us xs ys zs d Q le ha r1 r2 hf k => by
  split at hf
  · next y =>
    split at hf
    · next hl =>
      cases hf
      cases r2 with
      | cons q t =>
        cases t
        exact ⟨a, vs, _, rfl, rfl, ha, Nat.lt_of_le_of_lt (by rw [r1.length]; exact hl) (by decide), k _ _ (RpAll.append r1 (.cons q .nil)) .non⟩
    · cases hf
  · cases hf
def gPop : GM := gPut fun xs ys => match ys with
  | [] => (xs[xs.length - 1]?).map fun y => (.p y, xs.dropLast)
  | _ => none
theorem RpAll.dropLast {F : Hp} {vs : List V} {ds : List PyData} (h : RpAll K F vs ds) : RpAll K F vs.dropLast ds.dropLast := by
  rw [List.dropLast_eq_take, List.dropLast_eq_take, h.length]
  exact h.take _
theorem imp_pop : ImpM K E rPop gPop := imp_put fun U H a vs us xs ys zs d Q le ha r1 r2 hf k => by
  split at hf
  · cases r2
    obtain ⟨y, hy, e⟩ := Option.map_eq_some_iff.mp hf
    cases e
    obtain ⟨v, hv, rv⟩ := r1.get hy
    exact ⟨a, vs, v, rfl, rfl, ha, by rw [r1.length]; exact hv, k _ _ r1.dropLast rv⟩
  · cases hf
variable {X : Cx}
def plain1 (x : PyData) : Bool := x.plain
/-- l.remove(x), data -/
def rRemD (K : PySem.W.Frag) : V → List V → Hp → VK → Prop := fun x xs H Q => ∃ (a : Addr) (vs : List V) (ds : List PyData) (y : V) (d : PyData) (j : Nat), x = .ref a ∧ xs = [y] ∧ H a = some (.lst vs) ∧ DpAll K H vs ds ∧ Dp K H y d ∧ lay (.list ds) = true ∧ lay d = true ∧ PyData.plainAll ds = true ∧ d.plain = true ∧
  SeqAt.dataPlace ds d = some j ∧ Q .non (upd H a (.lst (vs.eraseIdx j)))
theorem mt_remD (hu : X.A.units + 65 < cLine) : MtM X "list.remove" (rRemD X.K) := by
  intro pins s σ H x xs v us Q I rx rxs h
  obtain ⟨a, vs, ds, y, d, j, rfl, rfl, hH, hds, hy, l1, l2, p1, p2, hj, q⟩ := h
  cases rx
  obtain ⟨u, rfl, ru⟩ := rxs.one
  obtain ⟨z, its, n, r, hl, e⟩ := I.lstM hH
  obtain ⟨bs, r1⟩ := Dp.reads I d y u hy ru
  obtain ⟨as, r2⟩ := Dp.readsAll I ds vs its hds r
  refine SeqAt.remove_list_data (vs := its.toArray) ⟨_, e, rfl, n, rfl⟩ (by simpa using r2) r1 p1 p2 (PyProof.Rows.room_in_shaped l2 hu) hj (by rw [List.size_toArray]; omega) ?_
  refine ⟨.non, _, I.lset (its' := its.eraseIdx j) (t' := s.toks) hH e ?_ (r.eraseIdx j) ?_, rfl, q⟩
  · exact List.eraseIdxIfInBounds_toArray ..
  · have := len_erase vs j
    omega
def gRem : GM := gPut fun xs ys => match ys with
  | [y] => if ((lay (.list xs) && lay y) && (PyData.plainAll xs && y.plain)) = true then (SeqAt.dataPlace xs y).map fun j => (.p .none, xs.eraseIdx j) else none
  | _ => none
theorem RpAll.erase {F : Hp} : ∀ {vs : List V} {ds : List PyData} (i : Nat), RpAll K F vs ds → RpAll K F (vs.eraseIdx i) (ds.eraseIdx i)
  | _, _, _, .nil => .nil
  | _, _, 0, .cons _ t => t
  | _, _, i + 1, .cons r t => .cons r (RpAll.erase i t)
theorem imp_rem : ImpM K E (rRemD K) gRem := imp_put fun U H a vs us xs ys zs d Q le ha r1 r2 hf k => by
  split at hf
  · next y =>
    split at hf
    · next hl =>
      obtain ⟨j, hj, e⟩ := Option.map_eq_some_iff.mp hf
      cases e
      simp only [Bool.and_eq_true] at hl
      cases r2 with
      | cons q t =>
        cases t
        exact ⟨a, vs, xs, _, y, j, rfl, rfl, ha, RpAll.dp le r1 (lay_can hl.1.1), Rp.dp le q (lay_can hl.1.2), hl.1.1, hl.1.2, hl.2.1, hl.2.2, hj, k _ _ (r1.erase j) .non⟩
    · cases hf
  · cases hf
/-- l.index(x), l.count(x), data -/
def gIndex : GM := fun d ds S => match seqOf d S, ds with
  | some (true, xs), [e] => (match datOf e S with
    | some y => if (lay (.list xs) && lay y) = true then (match SeqAt.dataPlace xs y with
      | some j => .ok (.p (.int j)) S
      | none => .stuck) else .stuck
    | none => .stuck)
  | _, _ => .stuck
theorem place_get {xs : List PyData} {y : PyData} {j : Nat} (h : SeqAt.dataPlace xs y = some j) : ∃ z, xs[j]? = some z ∧ PyData.eqv z y = true ∧ ∀ (m : Nat) (z' : PyData), m < j → xs[m]? = some z' → PyData.eqv z' y = false := by
  unfold SeqAt.dataPlace at h
  rw [List.findIdx?_eq_some_iff_getElem] at h
  obtain ⟨h1, h2, h3⟩ := h
  refine ⟨xs[j], by simp [h1], h2, fun m z' hm hz => ?_⟩
  have q := h3 m hm
  obtain ⟨hm', e⟩ := List.getElem?_eq_some_iff.mp hz
  rw [← e]
  simpa using q
theorem lstD {U : Wd} {S : Sto} {H : Hp} (s : Sat K U S H) {d : D} {x : V} {xs : List PyData} (r : RelD K U d x) (h : seqOf d S = some (true, xs)) (hl : lay (.list xs) = true) : ∃ a, x = .ref a ∧ Dp K H x (.list xs) := by
  obtain ⟨a, vs, rfl, q, ra⟩ := seq_rel s r h
  exact ⟨a, rfl, .lst (.inl q) (RpAll.dp s.fz ra (lay_can hl))⟩
theorem imp_index : ImpM K E (rIndexD K) gIndex := by
  intro U S H x d vs ds Q s rx rv w
  unfold gIndex at w
  split at w
  · next xs e hs =>
    split at w
    · next y hy =>
      split at w
      · next hl =>
        split at w
        · next j hj =>
          rw [Bool.and_eq_true] at hl
          obtain ⟨a, rfl, da⟩ := lstD s rx hs hl.1
          obtain ⟨v, rfl, r1⟩ := rel1 rv
          obtain ⟨z, z1, z2, z3⟩ := place_get hj
          exact ⟨a, v, y, xs, j, z, rfl, rfl, da, dat_rel s r1 hy (lay_can hl.2), hl.1, hl.2, z1, z2, z3, (w.ok s) _ (.int _)⟩
        · exact False.elim w
      · exact False.elim w
    · exact False.elim w
  · exact False.elim w
def rCntD (K : PySem.W.Frag) : V → List V → Hp → VK → Prop := fun x xs H Q => ∃ (a : Addr) (vs : List V) (ds : List PyData) (y : V) (d : PyData), x = .ref a ∧ xs = [y] ∧ Rd H a (.lst vs) ∧ DpAll K H vs ds ∧ Dp K H y d ∧ lay d = true ∧ PyData.plainAll ds = true ∧ d.plain = true ∧ Q (.int ((ds.countP fun z => PyData.eqv z d : Nat) : Int)) H
theorem mt_cntD (hu : X.A.units + 65 < cLine) : MtR X "list.count" (rCntD X.K) := by
  intro pins s σ H x xs v us Q I rx rxs h
  obtain ⟨a, vs, ds, y, d, rfl, rfl, hH, hds, hy, l2, p1, p2, q⟩ := h
  cases rx
  obtain ⟨u, rfl, ru⟩ := rxs.one
  obtain ⟨z, its, n, r, e⟩ := hH.ok I.hok
  obtain ⟨bs, r1⟩ := Dp.reads I d y u hy ru
  obtain ⟨as, r2⟩ := Dp.readsAll I ds vs its hds r
  exact SeqAt.count_list_data (vs := its.toArray) ⟨_, e, rfl, n, rfl⟩ (by simpa using r2) r1 p1 p2 (PyProof.Rows.room_in_shaped l2 hu) ⟨.int _, H, I.tok _, ⟨_, rfl⟩, q⟩
def gCount : GM := fun d ds S => match seqOf d S, ds with
  | some (true, xs), [e] => (match datOf e S with
    | some y => if ((lay (.list xs) && lay y) && (PyData.plainAll xs && y.plain)) = true then .ok (.p (.int ((xs.countP fun z => PyData.eqv z y : Nat) : Int))) S else .stuck
    | none => .stuck)
  | _, _ => .stuck
theorem imp_count : ImpM K E (rCntD K) gCount := by
  intro U S H x d vs ds Q s rx rv w
  unfold gCount at w
  split at w
  · next xs e hs =>
    split at w
    · next y hy =>
      split at w
      · next hl =>
        simp only [Bool.and_eq_true] at hl
        obtain ⟨a, us, rfl, q, ra⟩ := seq_rel s rx hs
        obtain ⟨v, rfl, r1⟩ := rel1 rv
        exact ⟨a, us, xs, v, y, rfl, rfl, q, RpAll.dp s.fz ra (lay_can hl.1.1), dat_rel s r1 hy (lay_can hl.1.2), hl.1.2, hl.2.1, hl.2.2, (w.ok s) _ (.int _)⟩
      · exact False.elim w
    · exact False.elim w
  · exact False.elim w
end

/-! ### a[i] = e, x op= e, a[i] op= e -/
section
variable {X : Cx} {E : EX} {pos : Pos} {a b c e o i : Expr} {es : List Expr} {ma mb mc mo mi : ME}
def gSet (d e v : D) (S : Sto) : Res Unit := match d, e, v with
  | .r l, .p (.int i), .p x => (match S[l]? with
    | some (some (.lst xs)) => (match ixN xs.length i with
      | some j => .ok () (S.set l (some (.lst (xs.set j x))))
      | none => .stuck)
    | _ => .stuck)
  | _, _, _ => .stuck
def ImpSet (K : PySem.W.Frag) (E : EX) (t : TSet) (g : D → D → D → Sto → Res Unit) : Prop := ∀ (U : Wd) (S : Sto) (H : Hp) (x y z : V) (d e f : D) (Q : Hp → Prop), Sat K U S H → RelD K U d x → RelD K U e y → RelD K U f z → Wants K E U H (g d e f S) (fun _ _ H' _ => Q H') → t x y z H Q
theorem imp_set {K : PySem.W.Frag} : ImpSet K E rSetL gSet := by
  intro U S H x y z d e f Q s rx ry rz w
  unfold gSet at w
  split at w
  · next l k v =>
    split at w
    · next xs hx =>
      split at w
      · next j hj =>
        obtain ⟨a, ha, rfl⟩ := rx
        cases ry
        obtain ⟨vs, h1, h2⟩ := s.lst ha hx
        exact ⟨a, vs, k, j, rfl, rfl, h1, by rw [h2.length]; exact hj, w _ _ (Step.put ha (s.ob _ _ _ ha hx).1) (s.put (c := .lst _) ha hx ⟨_, rfl, RpAll.set rz j h2⟩ trivial)⟩
      · exact False.elim w
    · exact False.elim w
  · exact False.elim w
def gSubT (mo mi : ME) (g : D → D → D → Sto → Res Unit) : MG := fun v ρ S => (mo ρ S).bind fun d S1 => (mi ρ S1).bind fun e S2 => (g d e v S2).bind fun _ S3 => .ok ρ S3
theorem ig_sub {t : TSet} {g : D → D → D → Sto → Res Unit} (ho : IE X E o mo) (hi : IE X E i mi) (hs : PSet X t) (hg : ImpSet X.K E t g)
    (ha : ∀ v, assign (.Subscript o i pos) X.env v = (do
      let ov ← holding [v] (eval o X.env)
      let iv ← holding [v, ov] (eval i X.env)
      standAt pos
      holding [v, ov, iv] (setItem ov iv v)
      release [v, ov, iv] []) := by intro _; rfl) : IG X E [] (.Subscript o i pos) (gSubT mo mi g) := by
  obtain ⟨t1, p1, i1⟩ := ho
  obtain ⟨t2, p2, i2⟩ := hi
  exact ⟨_, pg_sub p1 p2 hs ha, fun U S H σ ρ v d Q s rl rv w => i1 U S H σ ρ _ s rl (w.bind.mono fun U1 S1 H1 d1 st1 s1 w1 v1 r1 => i2 U1 S1 H1 σ ρ _ s1 (rl.step st1) (w1.bind.mono fun U2 S2 H2 d2 st2 s2 w2 v2 r2 =>
    hg U2 S2 H2 v1 v2 v d1 d2 d _ s2 (r1.step st2) r2 ((rv.step st1).step st2) (w2.bind.mono fun U3 S3 H3 _ st3 s3 w3 => (w3.ok s3) σ (((rl.step st1).step st2).step st3) Only.refl)))⟩
theorem ig_item (ho : IE X E o mo) (hi : IE X E i mi)
    (ha : ∀ v, assign (.Subscript o i pos) X.env v = (do
      let ov ← holding [v] (eval o X.env)
      let iv ← holding [v, ov] (eval i X.env)
      standAt pos
      holding [v, ov, iv] (setItem ov iv v)
      release [v, ov, iv] []) := by intro _; rfl) : IG X E [] (.Subscript o i pos) (gSubT mo mi gSet) := ig_sub ho hi set_list imp_set ha
def mAug (k : Nat) (m : ME) (g : D → D → Sto → Res D) : MS := fun ρ S => match ρ[k]? with
  | some (some d) => (m ρ S).bind fun e S1 => (g d e S1).bind fun z S2 => .ok (.nx, ρ.set k (some z)) S2
  | _ => .stuck
theorem is_aug {k : Nat} {x : Str} {op : Operator} {r : R2} {g : D → D → Sto → Res D} {pos' : Pos} (hop : OpR X (inplaceOp op) r) (hg : ImpO X.K E r g) (hN : X.N.Nodup) (hk : X.N[k]? = some x) (hx : L2.Loc X.env.scope x) (he : IE X E e ma) (hf : X.fn x = true ∨ X.env.scope.names.lookup x = some .local := by first | exact .inl rfl | exact .inr rfl | assumption) :
    IS X E (.AugAssign (.Name x pos') op e pos) (mAug k ma g) := by
  obtain ⟨t, p, j⟩ := he
  refine ⟨_, ps_aug (ti := r) hN hk hx p hop hf, fun U S H σ ρ N s rl w => ?_⟩
  unfold mAug at w
  split at w
  · next d hd =>
    obtain ⟨v, hv, rv⟩ := rl.get k d hd
    exact ⟨v, hv, j U S H σ ρ _ s rl (w.bind.mono fun U1 S1 H1 d1 st1 s1 w1 u ru => hg U1 S1 H1 v u d d1 _ s1 (rv.step st1) ru (w1.bind.mono fun U2 S2 H2 z st2 s2 w2 y ry => (w2.ok s2) _ (((rl.step st1).step st2).set k ry)))⟩
  · exact False.elim w
/-- += of ints; of lists of the store by lists -/
def gIAdd : D → D → Sto → Res D := fun d e S => match d, e with
  | .p (.int i), .p (.int j) => .ok (.p (.int (i + j))) S
  | .r l, .p (.list ys) => (match S[l]? with
    | some (some (.lst xs)) => if xs.length + ys.length ≤ 1000000 then .ok (.r l) (S.set l (some (.lst (xs ++ ys)))) else .stuck
    | _ => .stuck)
  | _, _ => .stuck
def rExtR : R2 := fun x y H Q => ∃ l b xs zs, x = .ref l ∧ y = .ref b ∧ H l = some (.lst xs) ∧ Rd H b (.lst zs) ∧ xs.length + zs.length ≤ sizeLine ∧ Q (.ref l) (upd H l (.lst (xs ++ zs)))
theorem iop_extR : OpR X (inplaceOp .Add) rExtR := fun pins s σ H x y v u Q I rx ry ⟨l, b, xs, zs, ex, ey, hl, hb, hz, q⟩ => by
  subst ex ey
  cases rx
  cases ry
  obtain ⟨_, us, n, ru, e⟩ := I.hok l _ hl
  obtain ⟨_, ws, n2, rw', e2⟩ := hb.ok I.hok
  have k1 := ru.length
  have k2 := rw'.length
  have big : us.toArray.size + ws.toArray.size ≤ sizeLine := by simp only [List.size_toArray]; omega
  have door : ¬ (!us.toArray.isEmpty && Builtin.List.listTooLong (us.toArray.size + ws.toArray.size)) = true := by
    rw [notLongL big, Bool.and_false]
    decide
  exact iadd_road ⟨_, e, rfl⟩ ⟨_, e2, rfl⟩ (call_meets PySem.F.slot_list_iadd ⟨_, e, rfl⟩ PySem.F.entry_list_iadd (PySem.F.args_list_iadd_2 _ _) (AutoSeq1.list___iadd___list_list_0 l us.toArray n b ws.toArray n2 door (by simp only [List.size_toArray]; omega) (by omega))
    ⟨e, e2, .ref l, _, I.lset (its' := us ++ ws) (t' := s.toks) hl e (by simp) (ru.append rw') (by rw [List.length_append]; exact hz), rfl, q⟩)
theorem imp_iadd {K : PySem.W.Frag} : ImpO K E (fun x y H Q => rI0 (fun i j => .int (i + j)) x y H Q ∨ rExtR x y H Q) gIAdd := by
  intro U S H x y d e Q s rx ry w
  unfold gIAdd at w
  split at w
  · next i j => cases rx; cases ry; exact .inl ⟨i, j, rfl, rfl, (w.ok s) _ (.int _)⟩
  · next l ys =>
    split at w
    · next xs hx =>
      split at w
      · next hl =>
        obtain ⟨a, ha, rfl⟩ := rx
        obtain ⟨vs, h1, h2⟩ := s.lst ha hx
        cases ry with
        | lst hq hr =>
          exact .inr ⟨a, _, vs, _, rfl, rfl, h1, Rd.le s.fz hq, by rw [h2.length, hr.length]; exact line6 hl, w _ _ (Step.put ha (s.ob _ _ _ ha hx).1) (s.put (c := .lst _) ha hx ⟨_, rfl, RpAll.append h2 hr⟩ trivial) _ ⟨a, ha, rfl⟩⟩
      · exact False.elim w
    · exact False.elim w
  · exact False.elim w
theorem is_iadd {k : Nat} {x : Str} {pos' : Pos} (hN : X.N.Nodup) (hk : X.N[k]? = some x) (hx : L2.Loc X.env.scope x) (he : IE X E e ma) (hf : X.fn x = true ∨ X.env.scope.names.lookup x = some .local := by first | exact .inl rfl | exact .inr rfl | assumption) :
    IS X E (.AugAssign (.Name x pos') .Add e pos) (mAug k ma gIAdd) := is_aug (iop_add.or iop_extR) imp_iadd hN hk hx he hf
theorem is_imul {k : Nat} {x : Str} {pos' : Pos} (hN : X.N.Nodup) (hk : X.N[k]? = some x) (hx : L2.Loc X.env.scope x) (he : IE X E e ma) (hf : X.fn x = true ∨ X.env.scope.names.lookup x = some .local := by first | exact .inl rfl | exact .inr rfl | assumption) :
    IS X E (.AugAssign (.Name x pos') .Mult e pos) (mAug k ma gMul) := is_aug iop_mul imp_mul hN hk hx he hf
theorem is_idiv {k : Nat} {x : Str} {pos' : Pos} (hN : X.N.Nodup) (hk : X.N[k]? = some x) (hx : L2.Loc X.env.scope x) (he : IE X E e ma) (hf : X.fn x = true ∨ X.env.scope.names.lookup x = some .local := by first | exact .inl rfl | exact .inr rfl | assumption) :
    IS X E (.AugAssign (.Name x pos') .FloorDiv e pos) (mAug k ma gDiv) := is_aug iop_fdiv imp_div hN hk hx he hf
end
end G


namespace G
open PySem L2

/-! ### a tuple backwards -/
section
variable {prog : Program} {w : World} {A : Around} {E : Value → Shared → Prop} {s : Shared}
theorem fm_map {α β : Type} {f : α → Option β} {g : α → β} : ∀ {l : List α}, (∀ k ∈ l, f k = some (g k)) → l.filterMap f = l.map g
  | [], _ => rfl
  | a :: l, h => by
    rw [List.filterMap_cons, h a (List.mem_cons_self ..), List.map_cons, fm_map fun k hk => h k (List.mem_cons_of_mem _ hk)]
theorem pick_rev (xs : List Value) : ((List.range xs.length).filterMap fun (k : Nat) => xs.toArray[(((xs.length : Int) - 1) + (k : Int) * (-1)).toNat]?) = xs.reverse := by
  apply List.ext_getElem?
  intro i
  have e : ((List.range xs.length).filterMap fun (k : Nat) => xs.toArray[(((xs.length : Int) - 1) + (k : Int) * (-1)).toNat]?) = (List.range xs.length).map fun k => xs.getD (xs.length - 1 - k) .none := by
    apply fm_map
    intro k hk
    have hk := List.mem_range.mp hk
    have e1 : (((xs.length : Int) - 1) + (k : Int) * (-1)).toNat = xs.length - 1 - k := by omega
    rw [e1]
    have h2 : xs.length - 1 - k < xs.length := by omega
    simp [List.getD, h2]
  rw [e]
  by_cases h : i < xs.length
  · have h2 : xs.length - 1 - i < xs.length := by omega
    rw [List.getElem?_map, List.getElem?_range h, List.getElem?_reverse h]
    simp [List.getD, h2]
  · rw [List.getElem?_eq_none (by simpa using h), List.getElem?_eq_none (by simpa using h)]
open PyProof.Rows in
theorem getItem_rev {t sl : Addr} {xs : List Value} {vl vu vs : Value} {Q : Value → Shared → Prop} (ht : IsTup s.heap t xs.toArray) (hs : s.heap.IsSliceOf sl vl vu vs) (pl : IsPart vl none) (pu : IsPart vu none) (ps : IsPart vs (some (-1)))
    (hz : xs.length ≤ sizeLine) (h : Q (.ref s.heap.objs.size) { s with heap := s.heap.push { cls := .type "tuple", data := .seq xs.reverse.toArray } }) : wpAny (model prog w) A (getItem (.ref t) (.ref sl)) Q E s := by
  obtain ⟨os, h1, h2, h3⟩ := id hs
  have room : sizeOk (.seq xs.reverse.toArray) := by
    show xs.reverse.toArray.size ≤ sizeLine
    simpa using hz
  have ap : ∀ {A' : Around} {E' : Value → Shared → Prop} {Q' : Int × Int × Nat → Shared → Prop}, Q' ((xs.length : Int) - 1, -1, xs.length) s → wpAny (model prog w) A' (Builtin.Slice.sliceApplied (.ref sl) (pure (xs.length : Int))) Q' E' s := fun {A' E' Q'} q => by
    unfold Builtin.Slice.sliceApplied Builtin.Slice.sliceFields
    refine wpAny_bind (wpAny_bind (wpAny_field h1 h3 (x := vl) rfl (wpAny_bind (wpAny_field h1 h3 (x := vu) rfl (wpAny_bind (wpAny_field h1 h3 (x := vs) rfl (wpAny_pure ?_)))))))
    refine wpAny_bind (HT.slicePart_ ps ?_)
    show wpAny _ _ (if ((-1 : Int) == 0) = true then _ else _) _ _ s
    rw [if_neg (by decide)]
    refine wpAny_bind (HT.slicePart_ pl (wpAny_bind (HT.slicePart_ pu (wpAny_bind (wpAny_pure ?_)))))
    have e : Builtin.Slice.slicePlaces ((xs.length : Int) - 1) (-1) (-1) = xs.length := by
      unfold Builtin.Slice.slicePlaces
      have a1 : ¬ ((-1 : Int) > 0) := by omega
      rw [if_neg a1]
      by_cases hl : xs.length = 0
      · rw [hl]; rfl
      · rw [if_pos (by omega)]
        have : ((xs.length : Int) - 1 - (-1) - 1) / (- -1) + 1 = xs.length := by
          have e1 : (- -1 : Int) = 1 := rfl
          rw [e1, Int.ediv_one]; omega
        rw [this]; rfl
    show wpAny _ _ (pure (((xs.length : Int) - 1), (-1 : Int), Builtin.Slice.slicePlaces ((xs.length : Int) - 1) (-1) (-1))) _ _ s
    rw [e]
    exact wpAny_pure q
  unfold getItem
  try with_reducible refine wpAny_holding ?_
  first | refine wpAny_bind (wpAny_pure ?_) | skip
  refine wpAny_bind (wpAny_sequenceKey ht.typeIs (by decide) (wpAny_bind (wpAny_callSpecial?_slot (name := Str.ofString "__getitem__") ht.typeIs slot_tuple_getitem (wpAny_call_entry slot_tuple_getitem ht.typeIs entry_tuple_getitem ?_ (args_tuple_getitem _ _)))))
  show wpAny _ _ (Builtin.Tuple.tupleItemsOf (.ref t) >>= _) _ _ s
  refine wpAny_bind (tupleItemsOf_ ht (wpAny_bind (wpAny_typeOf ⟨os, h1, h2⟩ ?_)))
  rw [if_pos (by decide)]
  have ez : (xs.toArray.size : Int) = (xs.length : Int) := by simp
  rw [ez]
  refine wpAny_bind (ap ?_)
  have no : ¬ (((((xs.length : Int) - 1) == 0) && ((-1 : Int) == 1) && (xs.length == xs.toArray.size)) = true) := by simp
  show wpAny _ _ (if ((((xs.length : Int) - 1) == 0) && ((-1 : Int) == 1) && (xs.length == xs.toArray.size)) = true then _ else _) _ _ s
  rw [if_neg no, pick_rev]
  first
    | exact wpAny_bind (m := Builtin.Tuple.tupleExact _) (wpAny_newObj_type (wpAny_pure ⟨_, rfl, wpAny_pure h⟩) room)
    | exact wpAny_bind (m := Builtin.Tuple.tupleExact _) (wpAny_newObj_type (wpAny_bind (wpAny_pure (wpAny_pure ⟨_, rfl, wpAny_pure h⟩))) room)
    | exact wpAny_bind (wpAny_bind (m := Builtin.Tuple.tupleExact _) (wpAny_newObj_type (wpAny_pure ⟨_, rfl, wpAny_pure h⟩) room))
end

section
variable {X : Cx}
/-- e[::-1] of a list or a tuple -/
def tRev (K : PySem.W.Frag) (te : TE) : TE := fun σ H Q => te σ H fun x H1 => ∃ a xs, x = .ref a ∧ ((SqL K H1 a xs ∧ ∀ p, H1 p = none → Q (.ref p) (upd H1 p (.lst xs.reverse))) ∨ (SqT K H1 a xs ∧ ∀ p (o : Obj), H1 p = none → o.dict = none → Q (.ref p) (upd H1 p (.frz o (.tup xs.reverse)))))
open PyProof.Rows in
theorem pe_revT {e : Expr} {te : TE} {k : Nat} {p1 p2 p3 pos : Pos} (he : PE X e te) : PE X (.Subscript e (.Slice none none (some (.UnaryOp .USub (.Constant (.int 1) k p1) p2)) p3) pos) (fun σ H Q => te σ H fun x H1 => ∃ a xs, x = .ref a ∧ SqT X.K H1 a xs ∧ ∀ p (o : Obj), H1 p = none → o.dict = none → Q (.ref p) (upd H1 p (.frz o (.tup xs.reverse)))) := by
  refine ⟨fun pins s σ H Q I h => Subscript_ (thn (he.run pins s σ H _ I h) fun v s1 ⟨x, H1, I1, r1, a, xs, ex, hx, q⟩ => ?_)⟩
  subst ex
  cases r1
  have step : PO X (some (.UnaryOp .USub (.Constant (.int 1) k p1) p2)) (tPart (tUn (rU fun i => .int (-i)) (tC (.int 1)))) := po_some (pe_un un_neg pe_int)
  refine wpAny_Slice (thn (po_none.run pins s1 σ H1 (fun o H2 => o = none ∧ H2 = H1) I1 ⟨rfl, rfl⟩) fun vl s2 ⟨l, H2, I2, pl, el, e2⟩ => ?_)
  subst el e2
  refine thn (po_none.run pins s2 σ H2 (fun o H3 => o = none ∧ H3 = H2) I2 ⟨rfl, rfl⟩) fun vu s3 ⟨u, H3, I3, pu, eu, e3⟩ => ?_
  subst eu e3
  refine thn (step.run pins s3 σ H3 (fun o H4 => o = some (-1) ∧ H4 = H3) I3 ⟨1, rfl, -1, rfl, rfl, rfl⟩) fun vs s4 ⟨o, H4, I4, ps, eo, e4⟩ => ?_
  subst eo e4
  have I5 : L2.Inv X pins σ H4 { s4 with heap := s4.heap.push { cls := .type "slice", data := .fields #[vl, vu, vs] } } := I4.kept (t' := s4.toks) fun b ob q => Heap.get?_push_of_some _ q
  obtain ⟨its, r, ht, hz⟩ := I5.tuple hx
  refine tail_any (ops := [.ref a, .ref s4.heap.objs.size]) ht.typeIs slot_tuple_getitem.lookup ?_ (by with_unfolding_all rfl)
  refine getItem_rev ht (Heap.IsSliceOf.new _ vl vu vs) pl pu ps (by rw [← r.length]; exact hz) ?_
  exact ⟨.ref _, _, I5.laid (t' := s4.toks) (o := .frz { cls := .type "tuple", data := .seq its.reverse.toArray } (.tup xs.reverse)) (fun b ob q => Heap.get?_push_of_some _ q) (Nat.le_refl _) ⟨Heap.get?_push_size _ rfl, by rw [List.length_reverse]; exact hz, _, r.reverse, IsTup.new _ _⟩, rfl, q _ _ (I5.hok.fresh (Nat.le_refl _)) rfl⟩
theorem pe_or2 {e : Expr} {t u : TE} (h : PE X e t) (k : PE X e u) : PE X e (fun σ H Q => t σ H Q ∨ u σ H Q) := ⟨fun pins s σ H Q I q => q.elim (h.run pins s σ H Q I) (k.run pins s σ H Q I)⟩
variable {E : EX} {pos : Pos} {a b c e : Expr} {ma mb mc : ME}
def gRev (d : D) (S : Sto) : Res D := match seqOf d S with
  | some (true, xs) => .ok (.p (.list xs.reverse)) S
  | some (false, xs) => .ok (.p (.tuple xs.reverse)) S
  | none => .stuck
/-- by the value: a reading that is split only behind the expression -/
theorem ie_rev {k : Nat} {p1 p2 p3 : Pos} (he : IE X E e ma) : IE X E (.Subscript e (.Slice none none (some (.UnaryOp .USub (.Constant (.int 1) k p1) p2)) p3) pos) (m1 gRev ma) := by
  have p := he.can
  refine ⟨_, pe_or2 (pe_revL p) (pe_revT p), fun U S H σ ρ Q s rl w => ?_⟩
  -- which of the two it is, the function tells
  unfold m1 at w
  cases hh : ma ρ S with
  | stuck => rw [hh] at w; exact False.elim w
  | exc c S' =>
    rw [hh] at w
    exact .inl ⟨U, S, ρ, s, rl, by rw [hh]; exact w⟩
  | ok d S1 =>
    rw [hh] at w
    have w1 : Wants X.K E U H (gRev d S1) (KD X.K Q) := w
    unfold gRev at w1
    split at w1
    · next xs hs =>
      refine .inl ⟨U, S, ρ, s, rl, ?_⟩
      rw [hh]
      intro U1 H1 st1 s1 v rv
      obtain ⟨a, vs, rfl, q, r⟩ := seq_rel s1 rv hs
      exact ⟨a, vs, rfl, .inl q, fun p hp => newL s1 r.reverse hp (Wants.step st1 w1)⟩
    · next xs hs =>
      refine .inr ⟨U, S, ρ, s, rl, ?_⟩
      rw [hh]
      intro U1 H1 st1 s1 v rv
      obtain ⟨a, vs, rfl, q, r⟩ := seq_rel s1 rv hs
      exact ⟨a, vs, rfl, q, fun p o hp ho => newT s1 r.reverse hp ho (Wants.step st1 w1)⟩
    · exact False.elim w1
end

/-! ### enumerate -/
open PyProof.Rows in
theorem meets_enumT (l : Addr) (items : Array Value) :
    Meets (Builtin.«enumerate.__new__» ⟨[.type "enumerate", .ref l], []⟩) (fun _ R s => s.heap.IsTuple l items ∧
      R (.ok (.ret (.ref (s.heap.push { cls := .type "tuple_iterator", data := .fields #[.ref l, .int 0 0] }).objs.size)))
        { s with heap := (s.heap.push { cls := .type "tuple_iterator", data := .fields #[.ref l, .int 0 0] }).push { cls := .type "enumerate", data := .fields #[.none, .bool false, .ref s.heap.objs.size, rawInt 0, .none, .none] } }) :=
  .of_wp fun prog w A R s h => by
    obtain ⟨hp, g, d, tk, os⟩ := s
    obtain ⟨h1, h⟩ := h
    have sb := sub_enumerate
    have go : ∀ {A' : Around} {E : Value → Shared → Prop} {Q : Value → Shared → Prop}, Q (.ref hp.objs.size) ⟨hp.push { cls := .type "tuple_iterator", data := .fields #[.ref l, .int 0 0] }, g, d, tk, os⟩ → wpAny (model prog w) A' (pyIter (.ref l)) Q E ⟨hp, g, d, tk, os⟩ :=
      fun q => (begins_tuple l items).iter prog w _ _ ⟨hp, g, d, tk, os⟩ _ h1 q
    wp_walk using go
    refine wpAny_stack_any fun st => wpAny_pure ?_
    split
    · rename_i c _ _ _ _ _
      cases (c == Value.type "enumerate") <;> (wp_walk using go; exact ⟨_, rfl, h⟩)
    · wp_walk using go
      exact ⟨_, rfl, h⟩
end G


namespace G
open PySem L2

/-- the tuple at a, each item in a new pair -/
def IteT (K : PySem.W.Frag) (a : Addr) : It :=
  ⟨fun i H => ∃ xs x, SqT K H a xs ∧ xs[i]? = some x, fun i H v H' => ∃ T x, v = .ref T ∧ H T = none ∧ (∃ o : Obj, o.dict = none ∧ H' = upd H T (.frz o (.tup [.int (i : Nat), x]))) ∧ ∀ xs, SqT K H a xs → xs[i]? = some x, fun i H => ∃ xs, SqT K H a xs ∧ xs.length = i⟩
theorem two_mem {b e it : Addr} (h : b ∈ [e, it]) : b = e ∨ b = it := by simpa using h
theorem sqT_inj {X : Cx} {pins : List (Addr × Obj)} {σ : L2.St} {H : Hp} {s : Shared} {a : Addr} {xs ys : List V} (I : L2.Inv X pins σ H s) (h : SqT X.K H a xs) (k : SqT X.K H a ys) : xs = ys := by
  obtain ⟨u, r1, ⟨o, h1, _, n, d1⟩, _⟩ := I.tuple h
  obtain ⟨w, r2, ⟨o', h2, _, n', d2⟩, _⟩ := I.tuple k
  rw [h1] at h2; cases h2
  rw [d1] at d2
  injection d2 with e _
  have e' : u = w := by simpa using e
  subst e'
  exact r1.inj r2
open PyProof.Rows in
theorem turn_enumT {P : Program} {w : World} {K : PySem.W.Frag} {elts : List Expr} {kk : Nat} {tpos : Pos} (a e it : Addr) (hai : a ≠ it) (hae : a ≠ e) :
    Turn P w K (.Tuple elts kk tpos) (IteT K a) [e, it] e (fun i h => (∃ old, IsEnum h e it ((i : Nat) : Int) old) ∧ h.IsTupleIter it a i ∧ e ≠ it) where
  mem := List.mem_cons_self ..
  obj := fun i h ⟨⟨old, he⟩, ⟨o, ho, hc, hd⟩, _⟩ b hb => by
    rcases two_mem hb with rfl | rfl
    · exact ⟨_, he, fun v q => nomatch q⟩
    · exact ⟨o, ho, fun v q => by rw [hd] at q; cases q⟩
  keep := fun i h h' ⟨⟨old, he⟩, hi, hne⟩ k => ⟨⟨old, k e (List.mem_cons_self ..) _ he⟩, hi.at fun o q => k it (by simp) o q, hne⟩
  item := by
    intro X hP hw hK hc i pins s σ H E I hf st hg
    subst hP hw hK
    obtain ⟨⟨old, he⟩, hit, hne⟩ := st
    obtain ⟨xs, x, hq, hx⟩ := hg
    obtain ⟨its, rv, p, hz⟩ := I.tuple hq
    obtain ⟨u, hu, ru⟩ := rv.get hx
    have l1 : e < s.heap.objs.size := Heap.lt_size he
    have l2 : it < s.heap.objs.size := by obtain ⟨_, q, _⟩ := hit; exact Heap.lt_size q
    have hil : i < its.toArray.size := by
      have := (List.getElem?_eq_some_iff.mp hu).1
      simpa using this
    have tup : s.heap.IsTuple a its.toArray := p
    refine wpAny_pyNext_enum_itemD (Draws.tuple (A := X.A.in1) (I.ok.hd hc) it a hai its.toArray) he ⟨hit, tup⟩ hil hne (fun q => (two_mem q).elim (fun z => hne z) fun z => hae z.symm) fun y h' tk hy ho hit' hT hsz hk => ?_
    have ey : y = u := by
      have : its.toArray[i]? = some u := by simpa using hu
      rw [this] at hy; exact (Option.some.inj hy).symm
    subst ey
    refine ⟨_, rfl, wpAny_letOwnedTupleGo_enum (s := { s with heap := h', toks := tk + 1 }) ho fun h'' he' sb => ?_⟩
    have t2 : h''.get? s.heap.objs.size = some { cls := .type "tuple", data := .seq #[.int i tk, y] } := (sb.2 _ (Nat.ne_of_gt l1)).trans hT
    have new : ObjOk X.prog X.w (upd H s.heap.objs.size (.frz { cls := .type "tuple", data := .seq #[.int i tk, y] } (.tup [.int (i : Nat), x]))) h'' s.heap.objs.size (.frz { cls := .type "tuple", data := .seq #[.int i tk, y] } (.tup [.int (i : Nat), x])) := ⟨t2, (by decide : 2 ≤ sizeLine), [.int i tk, y], .cons ⟨_, rfl⟩ (.cons ru .nil), ⟨_, t2, rfl, _, rfl⟩⟩
    have I1 := I.turnedNew (ch := [e, it]) (t' := tk + 1) (fun b ob hb q => (sb.2 b (fun z => hb (by simp [z]))).trans (hk b ob (fun z => hb (by simp [z])) (fun z => hb (by simp [z])) q)) hf (Nat.le_refl _) new
    refine ⟨.ref s.heap.objs.size, _, I1, rfl, ⟨_, x, rfl, I.hok.fresh (Nat.le_refl _), ⟨_, rfl, rfl⟩, fun ys hy => by rw [sqT_inj I hy hq]; exact hx⟩, ⟨⟨y, by simpa using he'⟩, hit'.1.at fun o q => (sb.2 it (Ne.symm hne)).trans q, hne⟩, fun b hb => ?_⟩
    have lb : b < s.heap.objs.size := by
      rcases two_mem hb with rfl | rfl
      · exact l1
      · exact l2
    rw [upd_ne (Nat.ne_of_lt lb)]
    exact (hf b hb).1
  done := by
    intro X hP hw hK hc i pins s σ H E I hf st hg
    subst hP hw hK
    obtain ⟨⟨old, he⟩, hit, hne⟩ := st
    obtain ⟨xs, hq, hx⟩ := hg
    obtain ⟨its, rv, p, hz⟩ := I.tuple hq
    obtain ⟨f0, f1, f2, f3, f4, f5⟩ := hf it (by simp)
    have hl := rv.length
    have tup : s.heap.IsTuple a its.toArray := p
    have ei : i = its.toArray.size := by rw [List.size_toArray]; omega
    subst ei
    exact wpAny_pyNext_enum_endD (Draws.tuple (A := X.A.in1) (I.ok.hd hc) it a hai its.toArray) he ⟨hit, tup⟩ fun h' eb => ⟨rfl, I.turned (t' := s.toks) (fun b o hb q => eb b o hb q) f0 f1 f3 f4 f5⟩
  self := fun A i s Q E ⟨⟨_, he⟩, _⟩ h => wpAny_pyIter_enum he h

/-- the list at a, each item in a new pair -/
def IteL (K : PySem.W.Frag) (a : Addr) : It :=
  ⟨fun i H => ∃ xs x, SqL K H a xs ∧ xs[i]? = some x, fun i H v H' => ∃ T x, v = .ref T ∧ H T = none ∧ (∃ o : Obj, o.dict = none ∧ H' = upd H T (.frz o (.tup [.int (i : Nat), x]))) ∧ ∀ xs, SqL K H a xs → xs[i]? = some x, fun i H => ∃ xs, SqL K H a xs ∧ xs.length = i⟩
open PyProof.Rows in
theorem turn_enumL {P : Program} {w : World} {K : PySem.W.Frag} {elts : List Expr} {kk : Nat} {tpos : Pos} (a e it : Addr) (hai : a ≠ it) (hae : a ≠ e) :
    Turn P w K (.Tuple elts kk tpos) (IteL K a) [e, it] e (fun i h => (∃ old, IsEnum h e it ((i : Nat) : Int) old) ∧ h.IsListIter it a i ∧ e ≠ it) where
  mem := List.mem_cons_self ..
  obj := fun i h ⟨⟨old, he⟩, ⟨o, ho, hc, hd⟩, _⟩ b hb => by
    rcases two_mem hb with rfl | rfl
    · exact ⟨_, he, fun v q => nomatch q⟩
    · exact ⟨o, ho, fun v q => by rw [hd] at q; cases q⟩
  keep := fun i h h' ⟨⟨old, he⟩, hi, hne⟩ k => ⟨⟨old, k e (List.mem_cons_self ..) _ he⟩, hi.at fun o q => k it (by simp) o q, hne⟩
  item := by
    intro X hP hw hK hc i pins s σ H E I hf st hg
    subst hP hw hK
    obtain ⟨⟨old, he⟩, hit, hne⟩ := st
    obtain ⟨xs, x, hq, hx⟩ := hg
    obtain ⟨its, rv, p, hz⟩ := I.list hq
    obtain ⟨u, hu, ru⟩ := rv.get hx
    have l1 : e < s.heap.objs.size := Heap.lt_size he
    have l2 : it < s.heap.objs.size := by obtain ⟨_, q, _⟩ := hit; exact Heap.lt_size q
    have hil : i < its.toArray.size := by
      have := (List.getElem?_eq_some_iff.mp hu).1
      simpa using this
    have tup : s.heap.IsList a its.toArray := p.isList
    refine wpAny_pyNext_enum_itemD (Draws.list (A := X.A.in1) (I.ok.hd hc) it a hai its.toArray) he ⟨hit, tup⟩ hil hne (fun q => (two_mem q).elim (fun z => hne z) fun z => hae z.symm) fun y h' tk hy ho hit' hT hsz hk => ?_
    have ey : y = u := by
      have : its.toArray[i]? = some u := by simpa using hu
      rw [this] at hy; exact (Option.some.inj hy).symm
    subst ey
    refine ⟨_, rfl, wpAny_letOwnedTupleGo_enum (s := { s with heap := h', toks := tk + 1 }) ho fun h'' he' sb => ?_⟩
    have t2 : h''.get? s.heap.objs.size = some { cls := .type "tuple", data := .seq #[.int i tk, y] } := (sb.2 _ (Nat.ne_of_gt l1)).trans hT
    have new : ObjOk X.prog X.w (upd H s.heap.objs.size (.frz { cls := .type "tuple", data := .seq #[.int i tk, y] } (.tup [.int (i : Nat), x]))) h'' s.heap.objs.size (.frz { cls := .type "tuple", data := .seq #[.int i tk, y] } (.tup [.int (i : Nat), x])) := ⟨t2, (by decide : 2 ≤ sizeLine), [.int i tk, y], .cons ⟨_, rfl⟩ (.cons ru .nil), ⟨_, t2, rfl, _, rfl⟩⟩
    have I1 := I.turnedNew (ch := [e, it]) (t' := tk + 1) (fun b ob hb q => (sb.2 b (fun z => hb (by simp [z]))).trans (hk b ob (fun z => hb (by simp [z])) (fun z => hb (by simp [z])) q)) hf (Nat.le_refl _) new
    refine ⟨.ref s.heap.objs.size, _, I1, rfl, ⟨_, x, rfl, I.hok.fresh (Nat.le_refl _), ⟨_, rfl, rfl⟩, fun ys hy => by rw [I.list_inj hy hq]; exact hx⟩, ⟨⟨y, by simpa using he'⟩, hit'.1.at fun o q => (sb.2 it (Ne.symm hne)).trans q, hne⟩, fun b hb => ?_⟩
    have lb : b < s.heap.objs.size := by
      rcases two_mem hb with rfl | rfl
      · exact l1
      · exact l2
    rw [upd_ne (Nat.ne_of_lt lb)]
    exact (hf b hb).1
  done := by
    intro X hP hw hK hc i pins s σ H E I hf st hg
    subst hP hw hK
    obtain ⟨⟨old, he⟩, hit, hne⟩ := st
    obtain ⟨xs, hq, hx⟩ := hg
    obtain ⟨its, rv, p, hz⟩ := I.list hq
    obtain ⟨f0, f1, f2, f3, f4, f5⟩ := hf it (by simp)
    have hl := rv.length
    have tup : s.heap.IsList a its.toArray := p.isList
    have ei : i = its.toArray.size := by rw [List.size_toArray]; omega
    subst ei
    exact wpAny_pyNext_enum_endD (Draws.list (A := X.A.in1) (I.ok.hd hc) it a hai its.toArray) he ⟨hit, tup⟩ fun h' eb => ⟨rfl, I.turned (t' := s.toks) (fun b o hb q => eb b o hb q) f0 f1 f3 f4 f5⟩
  self := fun A i s Q E ⟨⟨_, he⟩, _⟩ h => wpAny_pyIter_enum he h

section
variable {X : Cx} {E : EX}
open PyProof.Rows in
theorem call_enumT {prog : Program} {w : World} {A : Around} {E : Value → Shared → Prop} {s : Shared} {l : Addr} {items : Array Value} {Q : Value → Shared → Prop} (ht : s.heap.IsTuple l items)
    (h : ∀ h', IsEnum h' (s.heap.objs.size + 1) s.heap.objs.size 0 .none → h'.IsTupleIter s.heap.objs.size l 0 → (∀ b o, s.heap.get? b = some o → h'.get? b = some o) → Q (.ref (s.heap.objs.size + 1)) { s with heap := h' }) :
    wpAny (model prog w) A (call (.type "enumerate") [.ref l]) Q E s := by
  refine callType_new F.called_enumerate (by decide) (F.typeCall_enumerate_1 _) (F.newCall_enumerate_1 _) (fun obj => F.args_object_init_2 obj _) F.entry_enumerate_new (meets_enumT l items) ⟨ht, ?_⟩
  have z : (s.heap.push { cls := .type "tuple_iterator", data := .fields #[.ref l, .int 0 0] }).objs.size = s.heap.objs.size + 1 := Heap.size_push ..
  show _ ∧ _
  rw [z]
  have he : IsEnum ((s.heap.push { cls := .type "tuple_iterator", data := .fields #[.ref l, .int 0 0] }).push { cls := .type "enumerate", data := .fields #[.none, .bool false, .ref s.heap.objs.size, rawInt 0, .none, .none] }) (s.heap.objs.size + 1) s.heap.objs.size 0 .none := by
    have q := Heap.get?_push_size (s.heap.push { cls := .type "tuple_iterator", data := .fields #[.ref l, .int 0 0] }) (o := { cls := .type "enumerate", data := .fields #[.none, .bool false, .ref s.heap.objs.size, rawInt 0, .none, .none] }) rfl
    rw [z] at q
    exact q
  exact ⟨⟨_, he, rfl⟩, h _ he ⟨_, Heap.get?_push_of_some _ (Heap.get?_push_size _ rfl), rfl, rfl⟩ fun b o x => Heap.get?_push_of_some _ (Heap.get?_push_of_some _ x)⟩
def iEnumA (K : PySem.W.Frag) (ta : TA) : TI := fun σ H R => ta σ H fun vs H1 => ∃ a xs, vs = [.ref a] ∧ ((SqL K H1 a xs ∧ R (IteL K a) H1) ∨ (SqT K H1 a xs ∧ R (IteT K a) H1))
open PyProof.Rows in
theorem pi_enumA {e : Expr} {ta : TA} {p pos tpos : Pos} {elts : List Expr} {kk : Nat} (hg : Gl X "enumerate") (hm : X.mg "enumerate" = none) (ha : PA X [e] ta) (hs : starEach [e] X.env = [(false, eval e X.env)] := by rfl) :
    PI X (.Tuple elts kk tpos) (.Call (.Name "enumerate" p) [e] [] pos) (iEnumA X.K ta) := by
  refine ⟨fun pins s σ H R I h => Call_ (ld_blt I hg hm boot_enumerate (callWith_type1 (thn (ha.run pos pins s σ H _ I h) fun us s1 ⟨vs, H1, I1, r1, q1⟩ => ?_) hs rfl))⟩
  obtain ⟨a, xs, rfl, q1⟩ := q1
  rw [Vals.ref1 r1]
  have two : ∀ b, b ∈ [s1.heap.objs.size + 1, s1.heap.objs.size] → s1.heap.objs.size ≤ b := fun b hb => by
    rcases two_mem hb with rfl | rfl
    · exact Nat.le_add_right _ _
    · exact Nat.le_refl _
  rcases q1 with ⟨hq, q⟩ | ⟨hq, q⟩
  · obtain ⟨its, rv, p', hz⟩ := I1.list hq
    obtain ⟨ob, hob, _⟩ := id p'.isList
    have la : a < s1.heap.objs.size := Heap.lt_size hob
    exact call_enumerate_list p'.isList fun h' he hit hsz hk => wpAny_pyIter_enum he ⟨s1.heap.objs.size + 1, [s1.heap.objs.size + 1, s1.heap.objs.size], _, _, H1, rfl, I1.kept (t' := s1.toks) hk, turn_enumL a (s1.heap.objs.size + 1) s1.heap.objs.size (Nat.ne_of_lt la) (Nat.ne_of_lt (Nat.lt_succ_of_lt la)), ⟨⟨.none, he⟩, hit, Nat.succ_ne_self _⟩, fun b hb => I1.fpOk (two b hb) (I1.hok.fresh (two b hb)), q⟩
  · obtain ⟨its, rv, p', hz⟩ := I1.tuple hq
    obtain ⟨ob, hob, _⟩ := id p'
    have la : a < s1.heap.objs.size := Heap.lt_size hob
    exact call_enumT (items := its.toArray) p' fun h' he hit hk => wpAny_pyIter_enum he ⟨s1.heap.objs.size + 1, [s1.heap.objs.size + 1, s1.heap.objs.size], _, _, H1, rfl, I1.kept (t' := s1.toks) hk, turn_enumT a (s1.heap.objs.size + 1) s1.heap.objs.size (Nat.ne_of_lt la) (Nat.ne_of_lt (Nat.lt_succ_of_lt la)), ⟨⟨.none, he⟩, hit, Nat.succ_ne_self _⟩, fun b hb => I1.fpOk (two b hb) (I1.hok.fresh (two b hb)), q⟩
def enumP : Nat → List PyData → List PyData
  | _, [] => []
  | n, x :: xs => .tuple [.int (n : Nat), x] :: enumP (n + 1) xs
theorem enumP_get : ∀ (xs : List PyData) (n i : Nat), (enumP n xs)[i]? = (xs[i]?).map fun x => .tuple [.int ((n + i : Nat) : Int), x]
  | [], n, i => by simp [enumP]
  | x :: xs, n, 0 => by simp [enumP]
  | x :: xs, n, i + 1 => by
    rw [enumP, List.getElem?_cons_succ, List.getElem?_cons_succ, enumP_get xs (n + 1) i]
    have : n + 1 + i = n + (i + 1) := by omega
    rw [this]
theorem enumP_length : ∀ (xs : List PyData) (n : Nat), (enumP n xs).length = xs.length
  | [], n => rfl
  | x :: xs, n => by rw [enumP, List.length_cons, List.length_cons, enumP_length]
def mEnum (n : MA) : MI := fun ρ S => (n ρ S).bind fun ds S1 => match ds with
  | [.p (.list xs)] => .ok (enumP 0 xs) S1
  | [.p (.tuple xs)] => .ok (enumP 0 xs) S1
  | _ => .stuck
/-- a new pair at each turn -/
theorem runsPair {K : PySem.W.Frag} {U : Wd} {H : Hp} {J : It} {xs : List PyData} (hst : ∀ H' U' S', Stp U H U' H' → Sat K U' S' H' → J.stop xs.length H')
    (hgo : ∀ (i : Nat) (x : PyData) (H' : Hp) (U' : Wd) (S' : Sto), xs[i]? = some x → Stp U H U' H' → Sat K U' S' H' → J.go i H' ∧ ∀ v H'', J.yld i H' v H'' → ∃ T o vs ds, v = .ref T ∧ H' T = none ∧ H'' = upd H' T o ∧ (SqN K (upd U'.F T o) T vs ds) ∧ RpAll K U'.F vs ds ∧ x = .tuple ds) : Runs K U H J xs := by
  intro U' S' H' i st s'
  refine ⟨fun e => by rw [e]; exact hst H' U' S' st s', fun x hx => ?_⟩
  obtain ⟨h1, h2⟩ := hgo i x H' U' S' hx st s'
  refine ⟨h1, fun v H'' y => ?_⟩
  obtain ⟨T, o, vs, ds, rfl, hT, rfl, g, r, rfl⟩ := h2 v H'' y
  exact ⟨_, Step.alloc hT (s'.no hT), s'.alloc hT, .tup g (r.sub (Sub.upd (s'.no hT)))⟩
theorem ii_enum {e : Expr} {n : MA} {p pos tpos : Pos} {elts : List Expr} {kk : Nat} (hg : Gl X "enumerate") (hm : X.mg "enumerate" = none) (ha : IA X E [e] n) (hs : starEach [e] X.env = [(false, eval e X.env)] := by rfl) :
    II X E (.Tuple elts kk tpos) (.Call (.Name "enumerate" p) [e] [] pos) (mEnum n) := by
  obtain ⟨⟨t, pt, i⟩, _⟩ := ha
  refine ⟨_, pi_enumA hg hm pt hs, fun U S H σ ρ R s rl w => i U S H σ ρ _ s rl (w.bind.mono fun U1 S1 H1 ds st1 s1 w1 vs rv => ?_)⟩
  split at w1
  · next xs =>
    obtain ⟨v, rfl, r1⟩ := rel1 rv
    cases r1 with
    | @lst a us _ hq hr =>
      refine ⟨a, us, rfl, .inl ⟨.inl (Rd.le s1.fz hq), (w1.ok s1) _ (runsPair (fun H' U' S' st s' => ?_) fun j x H' U' S' hx st s' => ?_)⟩⟩
      · exact ⟨us, .inl (Rd.le s'.fz (Rd.sub st.ef hq)), by rw [hr.length, enumP_length]⟩
      · have q' : SqL X.K H' a us := .inl (Rd.le s'.fz (Rd.sub st.ef hq))
        rw [enumP_get] at hx
        obtain ⟨y, hy, rfl⟩ := Option.map_eq_some_iff.mp hx
        obtain ⟨u, hu, ru⟩ := hr.get hy
        refine ⟨⟨us, u, q', hu⟩, fun v H'' ⟨T, z, e1, e2, ⟨o, d3, e3⟩, e4⟩ => ⟨T, _, _, _, e1, e2, e3, .good upd_same d3, .cons (.int _) (.cons ?_ .nil), by rw [Nat.zero_add]⟩⟩
        have := e4 us q'
        rw [hu] at this; cases this
        exact ru.sub st.ef
  · next xs =>
    obtain ⟨v, rfl, r1⟩ := rel1 rv
    cases r1 with
    | @tup a us _ hq hr =>
      refine ⟨a, us, rfl, .inr ⟨SqT.le s1.fz hq, (w1.ok s1) _ (runsPair (fun H' U' S' st s' => ?_) fun j x H' U' S' hx st s' => ?_)⟩⟩
      · exact ⟨us, SqT.le s'.fz (SqT.sub st.ef hq), by rw [hr.length, enumP_length]⟩
      · have q' : SqT X.K H' a us := SqT.le s'.fz (SqT.sub st.ef hq)
        rw [enumP_get] at hx
        obtain ⟨y, hy, rfl⟩ := Option.map_eq_some_iff.mp hx
        obtain ⟨u, hu, ru⟩ := hr.get hy
        refine ⟨⟨us, u, q', hu⟩, fun v H'' ⟨T, z, e1, e2, ⟨o, d3, e3⟩, e4⟩ => ⟨T, _, _, _, e1, e2, e3, .good upd_same d3, .cons (.int _) (.cons ?_ .nil), by rw [Nat.zero_add]⟩⟩
        have := e4 us q'
        rw [hu] at this; cases this
        exact ru.sub st.ef
  · exact False.elim w1

/-! ### zip of two lists or two tuples -/
def zipP : List PyData → List PyData → List PyData
  | x :: xs, y :: ys => .tuple [x, y] :: zipP xs ys
  | _, _ => []
theorem zipP_get : ∀ (xs ys : List PyData) (i : Nat), (zipP xs ys)[i]? = (match xs[i]?, ys[i]? with | some x, some y => some (.tuple [x, y]) | _, _ => none)
  | [], ys, i => by simp [zipP]
  | x :: xs, [], i => by
    simp only [zipP, List.getElem?_nil]
    cases (x :: xs)[i]? <;> rfl
  | x :: xs, y :: ys, 0 => by simp [zipP]
  | x :: xs, y :: ys, i + 1 => by
    rw [zipP, List.getElem?_cons_succ, List.getElem?_cons_succ, List.getElem?_cons_succ, zipP_get xs ys i]
theorem zipP_length : ∀ (xs ys : List PyData), (zipP xs ys).length = min xs.length ys.length
  | [], ys => by simp [zipP]
  | x :: xs, [] => by simp [zipP]
  | x :: xs, y :: ys => by rw [zipP, List.length_cons, List.length_cons, List.length_cons, zipP_length]; omega
def notI : PyData → Bool
  | .int _ => false
  | _ => true
def mZip (n : MA) : MI := fun ρ S => (n ρ S).bind fun ds S1 => match ds with
  | [.p (.list xs), .p (.list ys)] => if xs.all notI = true then .ok (zipP xs ys) S1 else .stuck
  | [.p (.tuple xs), .p (.tuple ys)] => if xs.all notI = true then .ok (zipP xs ys) S1 else .stuck
  | _ => .stuck
theorem wk_zip {xs ys : List PyData} {j : Nat} {x : PyData} {ds : List PyData} (h : xs.all notI = true) (e : (zipP xs ys)[j]? = some (.tuple ds)) : wkT ds = true := by
  rw [zipP_get] at e
  split at e
  · next a b ha hb =>
    have hm := List.all_eq_true.mp h a (List.mem_of_getElem? ha)
    cases e
    cases a with
    | int i => cases hm
    | _ => rfl
  · cases e
theorem ii_zip {e e2 : Expr} {n : MA} {p pos tpos : Pos} {elts : List Expr} {kk : Nat} (hg : Gl X "zip") (hm : X.mg "zip" = none) (ha : IA X E [e, e2] n)
    (hs : starEach [e, e2] X.env = (false, eval e X.env) :: starEach [e2] X.env := by rfl) (hpl : (backTo pos (starEach [e2] X.env)).any (·.1) = false := by rfl) :
    II X E (.Tuple elts kk tpos) (.Call (.Name "zip" p) [e, e2] [] pos) (mZip n) := by
  obtain ⟨⟨t, pt, i⟩, _⟩ := ha
  refine ⟨_, RZ.pi_zipA hg hm pt hs hpl, fun U S H σ ρ R s rl w => i U S H σ ρ _ s rl (w.bind.mono fun U1 S1 H1 ds st1 s1 w1 vs rv => ?_)⟩
  have fin : ∀ {us ws : List V} {xs ys : List PyData} {U' : Wd} {F : Hp} {j : Nat} {x : PyData}, RpAll X.K F us xs → RpAll X.K F ws ys → Sub F U'.F → (zipP xs ys)[j]? = some x → ∃ u w, us[j]? = some u ∧ ws[j]? = some w ∧ ∃ ds, RpAll X.K U'.F [u, w] ds ∧ x = .tuple ds := fun {us ws xs ys U' F j x} r1 r2 sb hx => by
    rw [zipP_get] at hx
    split at hx
    · next a b ha hb =>
      cases hx
      obtain ⟨u, hu, ru⟩ := r1.get ha
      obtain ⟨w, hw, rw'⟩ := r2.get hb
      exact ⟨u, w, hu, hw, _, .cons (ru.sub sb) (.cons (rw'.sub sb) .nil), rfl⟩
    · cases hx
  split at w1
  · next xs ys =>
    split at w1
    rotate_left
    · exact False.elim w1
    next hal =>
    obtain ⟨v, u, rfl, r1, r2⟩ := rel2 rv
    cases r1 with
    | @lst a us _ hq hr =>
      cases r2 with
      | @lst b ws _ hq2 hr2 =>
        refine ⟨a, b, us, ws, rfl, .inl ⟨.inl (Rd.le s1.fz hq), .inl (Rd.le s1.fz hq2), (w1.ok s1) _ (runsPair (fun H' U' S' st s' => ?_) fun j x H' U' S' hx st s' => ?_)⟩⟩
        · exact ⟨us, ws, .inl (Rd.le s'.fz (Rd.sub st.ef hq)), .inl (Rd.le s'.fz (Rd.sub st.ef hq2)), by rw [hr.length, hr2.length, zipP_length]; omega⟩
        · have q1 : SqL X.K H' a us := .inl (Rd.le s'.fz (Rd.sub st.ef hq))
          have q2 : SqL X.K H' b ws := .inl (Rd.le s'.fz (Rd.sub st.ef hq2))
          obtain ⟨u, w, hu, hw, ds, rd, rfl⟩ := fin (U' := U') hr hr2 st.ef hx
          have wk := wk_zip (x := .none) hal hx
          refine ⟨⟨us, ws, u, w, q1, q2, hu, hw⟩, fun v H'' ⟨T, z, z', e1, e2, e3, e4, e5⟩ => ?_⟩
          have k1 := e4 us q1
          have k2 := e5 ws q2
          rw [hu] at k1; cases k1
          rw [hw] at k2; cases k2
          exact ⟨T, _, _, ds, e1, e2, e3, ⟨SqT.of upd_same, .inl wk⟩, rd, rfl⟩
  · next xs ys =>
    split at w1
    rotate_left
    · exact False.elim w1
    next hal =>
    obtain ⟨v, u, rfl, r1, r2⟩ := rel2 rv
    cases r1 with
    | @tup a us _ hq hr =>
      cases r2 with
      | @tup b ws _ hq2 hr2 =>
        refine ⟨a, b, us, ws, rfl, .inr ⟨SqT.le s1.fz hq, SqT.le s1.fz hq2, (w1.ok s1) _ (runsPair (fun H' U' S' st s' => ?_) fun j x H' U' S' hx st s' => ?_)⟩⟩
        · exact ⟨us, ws, SqT.le s'.fz (SqT.sub st.ef hq), SqT.le s'.fz (SqT.sub st.ef hq2), by rw [hr.length, hr2.length, zipP_length]; omega⟩
        · have q1 : SqT X.K H' a us := SqT.le s'.fz (SqT.sub st.ef hq)
          have q2 : SqT X.K H' b ws := SqT.le s'.fz (SqT.sub st.ef hq2)
          obtain ⟨u, w, hu, hw, ds, rd, rfl⟩ := fin (U' := U') hr hr2 st.ef hx
          have wk := wk_zip (x := .none) hal hx
          refine ⟨⟨us, ws, u, w, q1, q2, hu, hw⟩, fun v H'' ⟨T, z, z', e1, e2, e3, e4, e5⟩ => ?_⟩
          have k1 := e4 us q1
          have k2 := e5 ws q2
          rw [hu] at k1; cases k1
          rw [hw] at k2; cases k2
          exact ⟨T, _, _, ds, e1, e2, e3, ⟨SqT.of upd_same, .inl wk⟩, rd, rfl⟩
  · exact False.elim w1

/-! ### for over a list or a tuple -/
theorem pi_or {tg e : Expr} {t u : TI} (h : PI X tg e t) (k : PI X tg e u) : PI X tg e (fun σ H R => t σ H R ∨ u σ H R) := ⟨fun pins s σ H R I q => q.elim (h.run pins s σ H R I) (k.run pins s σ H R I)⟩
theorem ii_any {tg e : Expr} {m : ME} (h : IE X E e m) : II X E tg e (mItems m) := by
  have p := h.can
  refine ⟨_, pi_or (pi_list p) (pi_tup p), fun U S H σ ρ R s rl w => ?_⟩
  unfold mItems at w
  cases hh : m ρ S with
  | stuck => rw [hh] at w; exact False.elim w
  | exc c S' =>
    rw [hh] at w
    exact .inl ⟨U, S, ρ, s, rl, by rw [hh]; exact w⟩
  | ok d S1 =>
    rw [hh] at w
    cases d with
    | r l => exact False.elim w
    | p x =>
      cases x with
      | list xs =>
        refine .inl ⟨U, S, ρ, s, rl, ?_⟩
        rw [hh]
        intro U1 H1 st1 s1 v rv
        cases rv with
        | lst hq ha => exact ⟨_, rfl, ⟨_, .inl (Rd.le s1.fz hq)⟩, w U1 H1 st1 s1 _ (runsL hq ha)⟩
      | tuple xs =>
        refine .inr ⟨U, S, ρ, s, rl, ?_⟩
        rw [hh]
        intro U1 H1 st1 s1 v rv
        cases rv with
        | tup hq ha => exact ⟨_, rfl, ⟨_, SqT.le s1.fz hq⟩, w U1 H1 st1 s1 _ (runsT hq ha)⟩
      | _ => exact False.elim w

/-! ### a, b = x, y -/
def mPar (i j : Nat) (n : MA) : MS := fun ρ S => (n ρ S).bind fun ds S1 => match ds with
  | [d, e] => .ok (.nx, (ρ.set i (some d)).set j (some e)) S1
  | _ => .stuck
theorem is_par {i j : Nat} {x y : Str} {a b : Expr} {n : MA} {px py pt pos : Pos} {kt k2 : Nat} {pt2 : Pos} (hc : X.calm = true) (hN : X.N.Nodup) (hi : X.N[i]? = some x) (hj : X.N[j]? = some y) (hij : i ≠ j)
    (hx : X.env.scope.names.lookup x = some .local) (hy : X.env.scope.names.lookup y = some .local) (ha : IA X E [a, b] n)
    (hw : swappedStores [.Tuple [.Name x px, .Name y py] kt pt] (.Tuple [a, b] k2 pt2) X.env = pure (some [x, y]))
    (hs : swapsWithSole [.Tuple [.Name x px, .Name y py] kt pt] (.Tuple [a, b] k2 pt2) pos.line X.env = pure false := by rfl) :
    IS X E (.Assign [.Tuple [.Name x px, .Name y py] kt pt] (.Tuple [a, b] k2 pt2) pos) (mPar i j n) := by
  obtain ⟨⟨t, p, k⟩, _⟩ := ha
  refine ⟨_, ps_par hc hN hi hj hij hx hy p hw hs, fun U S H σ ρ N s rl w => k U S H σ ρ _ s rl (w.bind.mono fun U1 S1 H1 ds st1 s1 w1 vs rv => ?_)⟩
  split at w1
  · next d e =>
    obtain ⟨v, u, rfl, r1, r2⟩ := rel2 rv
    exact ⟨v, u, rfl, (w1.ok s1) _ (((rl.step st1).set i r1).set j r2)⟩
  · exact False.elim w1

/-! ### range as a value -/
def RgImp (K : PySem.W.Frag) (E : EX) (t : L2.St → Hp → (Int → Int → Hp → Prop) → Prop) (m : Loc → Sto → Res (Int × Int)) : Prop := ∀ (U : Wd) (S : Sto) (H : Hp) (σ : L2.St) (ρ : Loc) (Q : Int → Int → Hp → Prop), Sat K U S H → RelL K U ρ σ → Wants K E U H (m ρ S) (fun _ _ H' p => Q p.1 p.2 H') → t σ H Q
structure IRg (X : Cx) (E : EX) (e : Expr) (m : Loc → Sto → Res (Int × Int)) : Prop where
  ex : ∃ t, PRg X e t ∧ RgImp X.K E t m
def mRg1 (m : ME) : Loc → Sto → Res (Int × Int) := fun ρ S => (m ρ S).bind fun d S1 => match d with
  | .p (.int n) => .ok (0, n) S1
  | _ => .stuck
def mRg2 (m n : ME) : Loc → Sto → Res (Int × Int) := fun ρ S => (m ρ S).bind fun d S1 => (n ρ S1).bind fun e S2 => match d, e with
  | .p (.int a), .p (.int b) => .ok (a, b) S2
  | _, _ => .stuck
theorem irg_1 {a : Expr} {ma : ME} {p pos : Pos} (hg : Gl X "range") (hm : X.mg "range" = none) (ha : IE X E a ma) (na : starEach [a] X.env = (false, eval a X.env) :: starEach [] X.env := by rfl) : IRg X E (.Call (.Name "range" p) [a] [] pos) (mRg1 ma) := by
  obtain ⟨t, q, i⟩ := ha
  refine ⟨_, prg_1 hg hm q na, fun U S H σ ρ Q s rl w => i U S H σ ρ _ s rl (w.bind.mono fun U1 S1 H1 d st1 s1 w1 v rv => ?_)⟩
  split at w1
  · next n => cases rv; exact ⟨n, rfl, w1.ok s1⟩
  · exact False.elim w1
theorem irg_2 {a b : Expr} {ma mb : ME} {p pos : Pos} (hg : Gl X "range") (hm : X.mg "range" = none) (ha : IE X E a ma) (hb : IE X E b mb) (na : starEach [a, b] X.env = (false, eval a X.env) :: starEach [b] X.env := by rfl) (nb : starEach [b] X.env = (false, eval b X.env) :: starEach [] X.env := by rfl) (hpl : (backTo pos (starEach [b] X.env)).any (·.1) = false := by rfl) : IRg X E (.Call (.Name "range" p) [a, b] [] pos) (mRg2 ma mb) := by
  obtain ⟨t, q, i⟩ := ha
  obtain ⟨u, q2, j⟩ := hb
  refine ⟨_, prg_2 hg hm q q2 na nb hpl, fun U S H σ ρ Q s rl w => i U S H σ ρ _ s rl (w.bind.mono fun U1 S1 H1 d st1 s1 w1 v rv => j U1 S1 H1 σ ρ _ s1 (rl.step st1) (w1.bind.mono fun U2 S2 H2 e st2 s2 w2 v2 rv2 => ?_))⟩
  split at w2
  · next n m => cases rv; cases rv2; exact ⟨n, m, rfl, rfl, w2.ok s2⟩
  · exact False.elim w2
def rgOkB (a b : Int) : Bool := inB a && inB b
theorem rgOk_of {a b : Int} (h : rgOkB a b = true) : RgOk a b := by
  unfold rgOkB inB at h
  simp only [Bool.and_eq_true, decide_eq_true_eq] at h
  exact ⟨by omega, by omega, by omega, by omega, by omega⟩
theorem rg_rel {K : PySem.W.Frag} {F : Hp} (n : Nat) : ∀ (a : Int), RpAll K F ((List.range n).map fun i => V.int (a + (i : Nat))) (rangeP a n) := by
  induction n with
  | zero => intro a; exact .nil
  | succ n ih =>
    intro a
    rw [List.range_succ_eq_map, List.map_cons, List.map_map, rangeP]
    have h := ih (a + 1)
    have e : (List.range n).map ((fun i => V.int (a + (i : Nat))) ∘ Nat.succ) = (List.range n).map fun i => V.int (a + 1 + (i : Nat)) := List.map_congr_left fun i _ => by
      show V.int (a + ((i + 1 : Nat) : Int)) = V.int (a + 1 + (i : Int))
      congr 1; omega
    rw [e]
    exact .cons (by simpa using Rp.int (K := K) (F := F) a) h
def mTupRg (m : Loc → Sto → Res (Int × Int)) : ME := fun ρ S => (m ρ S).bind fun p S1 => if rgOkB p.1 p.2 = true then .ok (.p (.tuple (rangeP p.1 (p.2 - p.1).toNat))) S1 else .stuck
def mLstRg (m : Loc → Sto → Res (Int × Int)) : ML := fun ρ S => (m ρ S).bind fun p S1 => if rgOkB p.1 p.2 = true then .ok (rangeP p.1 (p.2 - p.1).toNat) S1 else .stuck
theorem il_lstRg {e : Expr} {m : Loc → Sto → Res (Int × Int)} {p pos : Pos} (hc : X.calm = true) (hg : Gl X "list") (hm : X.mg "list" = none) (he : IRg X E e m) (na : starEach [e] X.env = (false, eval e X.env) :: starEach [] X.env := by rfl) : IL X E (.Call (.Name "list" p) [e] [] pos) (mLstRg m) := by
  obtain ⟨t, q, i⟩ := he
  refine ⟨_, pe_listRg hc hg hm q na, fun U S H σ ρ Q s rl w => i U S H σ ρ _ s rl (w.bindL.mono fun U1 S1 H1 d st1 s1 w1 => ?_)⟩
  obtain ⟨_, w1⟩ := w1
  split at w1
  · next h => exact ⟨rgOk_of h, fun q hq => layL st1 s1 (rg_rel _ _) hq w1⟩
  · exact False.elim w1
end
end G


namespace G
open PySem L2
section
variable {X : Cx} {E : EX} {pos : Pos} {a : Expr} {ma : ME}
theorem ie_globE {x : Str} {i : Int} (hg : Gl X x) (hm : ∃ t, X.mg x = some (.int i t)) (hd : (x == ("__debug__" : Str)) = false := by decide) : IE X E (.Name x pos) (mC (.int i)) := by
  obtain ⟨t, hm⟩ := hm
  exact ie_globI hg hm ⟨t, rfl⟩ hd
def gNeg (d : D) (S : Sto) : Res D := match d with
  | .p (.int i) => .ok (.p (.int (-i))) S
  | _ => .stuck
theorem ie_neg (ha : IE X E a ma) : IE X E (.UnaryOp .USub a pos) (m1 gNeg ma) := ie_un un_neg (fun U S H x d Q s r w => by
  unfold gNeg at w
  split at w
  · next i => cases r; exact ⟨i, rfl, (w.ok s) _ (.int _)⟩
  · exact False.elim w) ha
end
theorem boot_tlist : bootBuiltins (Str.ofString "list") = some (.type "list") := by decide +kernel
theorem boot_ttuple : bootBuiltins (Str.ofString "tuple") = some (.type "tuple") := by decide +kernel
theorem boot_tstr : bootBuiltins (Str.ofString "str") = some (.type "str") := by decide +kernel
theorem boot_sorted1 : bootBuiltins (Str.ofString "sorted") = some (.builtin "sorted") := by decide +kernel
theorem boot_all1 : bootBuiltins (Str.ofString "all") = some (.builtin "all") := by decide +kernel
theorem boot_any1 : bootBuiltins (Str.ofString "any") = some (.builtin "any") := by decide +kernel
theorem boot_sum1 : bootBuiltins (Str.ofString "sum") = some (.builtin "sum") := by decide +kernel
theorem boot_min1 : bootBuiltins (Str.ofString "min") = some (.builtin "min") := by decide +kernel
theorem boot_max1 : bootBuiltins (Str.ofString "max") = some (.builtin "max") := by decide +kernel
/-- nothing is claimed -/
theorem cal_none {P : Program} {w : World} {K : PySem.W.Frag} {mg : Str → Option Value} {base : Heap} {x nm : Str} {st : Stmt} {N ps : List Str} {k : Nat} (F : DefAt K mg x nm ps st) (S : FnScope N ps (defScope st)) : Cal P w K mg base x ps k (fun _ _ => .stuck) := by
  obtain ⟨f, fd, F1, hm, hb⟩ := F
  exact ⟨f, fd, ⟨fun vs H Q E h => h.1, fun A outer s H args us vs Q E _ _ _ _ ⟨_, U, So, ds, _, _, w⟩ => w.elim⟩, hm, F1.kp, hb⟩
end G


namespace G
open PySem L2
/-! ### data as keys of a dict -/
mutual
def nk : PyData → Option NestedKey
  | .none => some .none
  | .int i => some (.num i)
  | .tuple xs => (nkAll xs).map .tup
  | _ => none
def nkAll : List PyData → Option (List NestedKey)
  | [] => some []
  | x :: xs => match nk x, nkAll xs with
    | some k, some ks => some (k :: ks)
    | _, _ => none
end
theorem nkAll_cons {x : PyData} {xs : List PyData} {ks : List NestedKey} (h : nkAll (x :: xs) = some ks) : ∃ k ks', nk x = some k ∧ nkAll xs = some ks' ∧ ks = k :: ks' := by
  rw [nkAll] at h
  split at h
  · next k ks' e1 e2 => cases h; exact ⟨k, ks', e1, e2, rfl⟩
  · cases h
mutual
theorem nk_data : ∀ (d : PyData) {k : NestedKey}, nk d = some k → k.data = d ∧ ntK k = true
  | .none, k, h => by cases h; exact ⟨rfl, rfl⟩
  | .int i, k, h => by cases h; exact ⟨rfl, rfl⟩
  | .tuple xs, k, h => by
    rw [nk] at h
    obtain ⟨ks, e, rfl⟩ := Option.map_eq_some_iff.mp h
    obtain ⟨e1, e2⟩ := nkAll_data xs e
    exact ⟨by rw [NestedKey.data, e1], by rw [ntK]; exact e2⟩
  | .bool _, k, h => by cases h
  | .str _, k, h => by cases h
  | .list _, k, h => by cases h
  | .dict _, k, h => by cases h
theorem nkAll_data : ∀ (xs : List PyData) {ks : List NestedKey}, nkAll xs = some ks → NestedKey.datas ks = xs ∧ ntAll ks = true
  | [], ks, h => by cases h; exact ⟨rfl, rfl⟩
  | x :: xs, ks, h => by
    obtain ⟨k, ks', e1, e2, rfl⟩ := nkAll_cons h
    obtain ⟨f1, f2⟩ := nk_data x e1
    obtain ⟨g1, g2⟩ := nkAll_data xs e2
    exact ⟨by rw [NestedKey.datas, f1, g1], by rw [ntAll, f2, g2]; rfl⟩
end
mutual
theorem nk_of : ∀ k : NestedKey, ntK k = true → nk k.data = some k
  | .none, _ => rfl
  | .num _, _ => rfl
  | .text _, h => by cases h
  | .tup ks, h => by rw [NestedKey.data, nk, nkAll_of ks h]; rfl
theorem nkAll_of : ∀ ks : List NestedKey, ntAll ks = true → nkAll (NestedKey.datas ks) = some ks
  | [], _ => rfl
  | k :: ks, h => by
    rw [ntAll, Bool.and_eq_true] at h
    rw [NestedKey.datas, nkAll, nk_of k h.1, nkAll_of ks h.2]
end
mutual
theorem reads_nk {h : Heap} : ∀ (d : PyData) {u : Value} {as : List Addr} {k : NestedKey}, Reads h u d as → nk d = some k → NestedIs h k u
  | .none, u, as, k, r, e => by cases e; cases r; exact .none
  | .int i, u, as, k, r, e => by cases e; cases r; exact .int _ _
  | .tuple xs, u, as, k, r, e => by
    rw [nk] at e
    obtain ⟨ks, e1, rfl⟩ := Option.map_eq_some_iff.mp e
    cases r with
    | tuple h1 h2 h3 h4 => exact .tup h1 h2 h3 (readsAll_nk xs h4 e1)
  | .bool _, u, as, k, r, e => by cases e
  | .str _, u, as, k, r, e => by cases e
  | .list _, u, as, k, r, e => by cases e
  | .dict _, u, as, k, r, e => by cases e
theorem readsAll_nk {h : Heap} : ∀ (xs : List PyData) {us : List Value} {as : List Addr} {ks : List NestedKey}, ReadsAll h us xs as → nkAll xs = some ks → NestedAll h ks us
  | [], us, as, ks, r, e => by cases e; cases r; exact .nil
  | x :: xs, us, as, ks, r, e => by
    obtain ⟨k, ks', e1, e2, rfl⟩ := nkAll_cons e
    cases r with
    | cons r1 r2 => exact .cons (reads_nk x r1 e1) (readsAll_nk xs r2 e2)
end
/-- a tuple that may be a key -/
def tk (d : PyData) : Option NestedKey := match d with
  | .tuple xs => (match nkAll xs with
    | some ks => if (NestedKey.tup ks).depth ≤ 8 then some (.tup ks) else none
    | none => none)
  | _ => none
theorem tk_nk {d : PyData} {k : NestedKey} (h : tk d = some k) : nk d = some k ∧ k.depth ≤ 8 ∧ ∃ xs, d = .tuple xs := by
  unfold tk at h
  split at h
  · next xs =>
    split at h
    · next ks e =>
      split at h
      · next hd => cases h; exact ⟨by rw [nk, e]; rfl, hd, xs, rfl⟩
      · cases h
    · cases h
  · cases h
/-! ### the two kinds of dict, at a heap -/
def isK (H : Hp) (a : Addr) (kvs : List (Key × V)) : Prop := Rd H a (.dK kvs) ∨ (kvs = [] ∧ H a = some (dnO a []))
def isN (K : PySem.W.Frag) (H : Hp) (a : Addr) (xs : List NE) : Prop := (H a = some (dnO a xs) ∧ ∀ x ∈ xs, Dp K H (.ref x.2.1) x.1.data) ∨ (xs = [] ∧ Rd H a (.dK []))
section
variable {X : Cx} {pins : List (Addr × Obj)} {σ : L2.St} {H : Hp} {s : Shared} {a : Addr} {A : Around} {E : Value → Shared → Prop}
theorem dn_of (I : Inv X pins σ H s) {xs : List NE} (h : H a = some (dnO a xs)) : dnF a xs s.heap := (show ObjOk X.prog X.w H s.heap a (dnO a xs) from I.hok a _ h).1
theorem isK.of (I : Inv X pins σ H s) {kvs : List (Key × V)} (h : isK H a kvs) : kvs.length ≤ sizeLine ∧ (a == sysModules) = false ∧ ∃ vs, KV kvs vs ∧ s.heap.DictOf (mixKind X.prog X.w) a vs := by
  rcases h with h | ⟨rfl, h⟩
  · exact dk_rd I.hok h
  · obtain ⟨⟨h1, _, _⟩, o, es, ep, h2, h3, h4, h5, _⟩ := dn_of I h
    have he : es = #[] := by
      have := h5 X.prog X.w
      simpa using this
    subst he
    exact ⟨Nat.zero_le _, h1, [], .nil, o, #[], ep, h2, h3, h4, fun e he => absurd he (by simp), .nil, List.nodup_nil⟩
theorem isN.of (I : Inv X pins σ H s) {xs : List NE} (h : isN X.K H a xs) : xs.length ≤ sizeLine ∧ (a == sysModules) = false ∧ (∀ x ∈ xs, ntK x.1 = true ∧ x.1.depth ≤ 8) ∧ s.heap.DictOfH (nestedKind X.prog X.w) a xs := by
  rcases h with ⟨h, hk⟩ | ⟨rfl, h⟩
  · obtain ⟨⟨h1, h2, h3⟩, o, es, ep, h4, h5, h6, h7, h8⟩ := dn_of I h
    refine ⟨h2, h1, h3, o, es, ep, h4, h5, h6, h7 _ _, fun x hx => ?_, h8⟩
    obtain ⟨as, r⟩ := Dp.reads I _ _ (.ref x.2.1) (hk x hx) rfl
    exact ⟨reads_nk _ r (nk_of _ (h3 x hx).1), (h3 x hx).2⟩
  · obtain ⟨z, hd, vs, rel, o, es, ep, h1, h2, h3, h4, h5, h6⟩ := dk_rd I.hok h
    cases rel
    have he : es = #[] := by
      have := h5.length
      simpa using this
    subst he
    exact ⟨Nat.zero_le _, hd, fun _ h => (nomatch h), o, #[], ep, h1, h2, h3, rfl, fun _ h => (nomatch h), List.nodup_nil⟩
theorem key_at (I : Inv X pins σ H s) {y : V} {u : Value} {d : PyData} {k : NestedKey} (hd : Dp X.K H y d) (hk : tk d = some k) (ry : RelV y u) : ∃ b, u = .ref b ∧ y = .ref b ∧ (nestedKind X.prog X.w).is s.heap k b := by
  obtain ⟨h1, h2, xs, rfl⟩ := tk_nk hk
  obtain ⟨as, r⟩ := Dp.reads I _ _ u hd ry
  have hn := reads_nk _ r h1
  cases hd with
  | tup _ _ =>
    cases ry
    exact ⟨_, rfl, rfl, hn, h2⟩
theorem val_zip {k : NestedKey} : ∀ {xs : List NE} {vs : List V}, Vals vs (xs.map (·.2.2)) → RelO (valV ((xs.map (·.1)).zip vs) k) ((atKey xs k).map (·.2))
  | [], vs, h => by
    cases h
    exact True.intro
  | x :: xs, vs, h => by
    cases h with
    | cons h t =>
      have ih := val_zip (k := k) t
      unfold valV atKey at ih ⊢
      simp only [List.map_cons, List.zip_cons_cons, List.find?_cons]
      by_cases e : x.1 = k
      · simp only [e, decide_true, Option.map_some]
        exact h
      · simp only [e, decide_false]
        exact ih
/-- what the dict at a holds at the key y -/
def DGt (K : PySem.W.Frag) (H : Hp) (a : Addr) (y : V) (o : Option V) : Prop :=
  (∃ kvs k, isK H a kvs ∧ y = kV k ∧ o = valV kvs k) ∨ ∃ xs vs d k, isN K H a xs ∧ Vals vs (xs.map (·.2.2)) ∧ Dp K H y d ∧ tk d = some k ∧ o = valV ((xs.map (·.1)).zip vs) k
theorem DGt.ty (I : Inv X pins σ H s) {y : V} {o : Option V} (g : DGt X.K H a y o) : s.TypeIs (.ref a) "dict" := by
  rcases g with ⟨kvs, k, e, _⟩ | ⟨xs, vs, d, k, e, _⟩
  · obtain ⟨_, _, vs, _, dd⟩ := e.of I; exact dd.typeIs
  · obtain ⟨_, _, _, dd⟩ := e.of I; exact dd.typeIs
theorem room9 (hu : A.units + 65 < cLine) : (nestedKind X.prog X.w).room A.in1 := by
  show A.in1.units + 8 < cLine
  have : A.in1.units ≤ A.units + 1 := Nat.le_refl _
  omega
theorem g_getItem {y v : V} {u : Value} {Q : Value → Shared → Prop} (hu : A.units + 65 < cLine) (I : Inv X pins σ H s) (g : DGt X.K H a y (some v)) (ry : RelV y u) (h : ∀ w' s', Inv X pins σ H s' → RelV v w' → Q w' s') : wpAny (model X.prog X.w) A (getItem (.ref a) u) Q E s := by
  rcases g with ⟨kvs, k, e, ey, l⟩ | ⟨xs, vs, d, k, e, hv, hd, hk, l⟩
  · subst ey
    obtain ⟨z, hd, vs, rel, dd⟩ := e.of I
    obtain ⟨w', hw, rw'⟩ := RelO.some_of (v := v) (o := valueAt vs k) (by rw [l]; exact rel.val k)
    exact wpAny_getItem_of (kV_is ry) dd.mapOf hw (h w' _ (I.tok _) rw')
  · obtain ⟨z, hs, hn, dd⟩ := e.of I
    obtain ⟨b, rfl, _, hb⟩ := key_at I hd hk ry
    obtain ⟨w', hw, rw'⟩ := RelO.some_of (v := v) (o := (atKey xs k).map (·.2)) (by rw [l]; exact val_zip hv)
    obtain ⟨p, hp, hp2⟩ := Option.map_eq_some_iff.mp hw
    refine wpAny_getItem_heap (room9 hu) hb dd hp ?_
    rw [hp2]
    exact h w' _ (I.tok _) rw'
theorem g_in {y : V} {u : Value} {o : Option V} {Q : Value → Shared → Prop} (hu : A.units + 65 < cLine) (I : Inv X pins σ H s) (g : DGt X.K H a y o) (ry : RelV y u) (h : ∀ s', Inv X pins σ H s' → Q (.bool o.isSome) s') : wpAny (model X.prog X.w) A (compareOp .In u (.ref a)) Q E s := by
  rcases g with ⟨kvs, k, e, ey, l⟩ | ⟨xs, vs, d, k, e, hv, hd, hk, l⟩
  · subst ey
    obtain ⟨z, hd, vs, rel, dd⟩ := e.of I
    refine wpAny_in_of (kV_is ry) hd dd.mapOf ?_
    rw [← (rel.val k).isSome_eq, ← l]
    exact h _ (I.tok _)
  · obtain ⟨z, hs, hn, dd⟩ := e.of I
    obtain ⟨b, rfl, _, hb⟩ := key_at I hd hk ry
    refine wpAny_in_heap (room9 hu) hb hs dd ?_
    have q := (val_zip (k := k) hv).isSome_eq
    rw [Option.isSome_map] at q
    rw [← q, ← l]
    exact h _ (I.tok _)
theorem g_notIn {y : V} {u : Value} {o : Option V} {Q : Value → Shared → Prop} (hu : A.units + 65 < cLine) (I : Inv X pins σ H s) (g : DGt X.K H a y o) (ry : RelV y u) (h : ∀ s', Inv X pins σ H s' → Q (.bool (!o.isSome)) s') : wpAny (model X.prog X.w) A (compareOp .NotIn u (.ref a)) Q E s := by
  rcases g with ⟨kvs, k, e, ey, l⟩ | ⟨xs, vs, d, k, e, hv, hd, hk, l⟩
  · subst ey
    obtain ⟨z, hd, vs, rel, dd⟩ := e.of I
    refine wpAny_notIn_of (kV_is ry) hd dd.mapOf ?_
    rw [← (rel.val k).isSome_eq, ← l]
    exact h _ (I.tok _)
  · obtain ⟨z, hs, hn, dd⟩ := e.of I
    obtain ⟨b, rfl, _, hb⟩ := key_at I hd hk ry
    refine PyProof.Rows.wpAny_notIn_heap (room9 hu) hb hs dd ?_
    have q := (val_zip (k := k) hv).isSome_eq
    rw [Option.isSome_map] at q
    rw [← q, ← l]
    exact h _ (I.tok _)
end
end G


namespace G
open PySem L2
/-! ### dicts as data -/
def dctOf (d : D) (S : Sto) : Option (List (PyData × PyData)) := match d with
  | .p (.dict kvs) => some kvs
  | .p _ => none
  | .r l => match S[l]? with
    | some (some (.dct kvs)) => some kvs
    | _ => none
def lookP (kvs : List (PyData × PyData)) (k : PyData) : Option PyData := (kvs.find? fun p => PyData.eqv p.1 k).map (·.2)
def putP (kvs : List (PyData × PyData)) (k v : PyData) : List (PyData × PyData) :=
  if (kvs.any fun p => PyData.eqv p.1 k) = true then kvs.map (fun p => if PyData.eqv p.1 k = true then (p.1, v) else p) else kvs ++ [(k, v)]
def pk : PyData → Option Key
  | .int i => some (.inl i)
  | .str x => some (.inr x)
  | _ => none
theorem pk_keyP {d : PyData} {k : Key} (h : pk d = some k) : keyP k = d := by
  cases d <;> cases h <;> rfl
def kOk (kvs : List (PyData × PyData)) (k : PyData) : Bool := ((pk k).isSome && kvs.all fun p => (pk p.1).isSome) || ((tk k).isSome && kvs.all fun p => (tk p.1).isSome)
theorem eqv_keyP (a b : Key) : PyData.eqv (keyP a) (keyP b) = decide (a = b) := by
  cases a with
  | inl i => cases b with
    | inl j =>
      simp only [keyP, PyData.eqv]
      by_cases h : i = j <;> simp [h]
    | inr y => rfl
  | inr x => cases b with
    | inl j => rfl
    | inr y =>
      simp only [keyP, PyData.eqv]
      by_cases h : x = y <;> simp [h]
mutual
theorem eqv_nested : ∀ a b : NestedKey, PyData.eqv a.data b.data = NestedKey.beq a b
  | .none, b => by cases b <;> rfl
  | .num i, b => by
    cases b with
    | num j =>
      simp only [NestedKey.data, PyData.eqv, NestedKey.beq]
      by_cases h : i = j <;> simp [h]
    | _ => rfl
  | .text x, b => by
    cases b with
    | text y =>
      simp only [NestedKey.data, PyData.eqv, NestedKey.beq]
      by_cases h : x = y <;> simp [h]
    | _ => rfl
  | .tup ks, b => by
    cases b with
    | tup js =>
      simp only [NestedKey.data, PyData.eqv, NestedKey.beq]
      exact eqv_nesteds ks js
    | _ => rfl
theorem eqv_nesteds : ∀ as bs : List NestedKey, PyData.eqvAll (NestedKey.datas as) (NestedKey.datas bs) = NestedKey.beqAll as bs
  | [], [] => rfl
  | [], _ :: _ => rfl
  | _ :: _, [] => rfl
  | a :: as, b :: bs => by
    simp only [NestedKey.datas, PyData.eqvAll, NestedKey.beqAll]
    rw [eqv_nested a b, eqv_nesteds as bs]
end
theorem eqv_nk (a b : NestedKey) : PyData.eqv a.data b.data = decide (a = b) := by
  rw [eqv_nested, ← NestedKey.decide_eq]
section
variable {K : PySem.W.Frag} {F : Hp} {κ : Type} [DecidableEq κ]
theorem look_rel {f : κ → PyData} (hf : ∀ a b, PyData.eqv (f a) (f b) = decide (a = b)) (k : κ) : ∀ {qs : List (κ × V)} {ds : List PyData}, RpAll K F (qs.map (·.2)) ds →
    (∀ x, lookP ((qs.map fun q => f q.1).zip ds) (f k) = some x → ∃ v, valV qs k = some v ∧ Rp K F v x) ∧ (lookP ((qs.map fun q => f q.1).zip ds) (f k) = none → valV qs k = none)
  | [], ds, h => by
    cases h
    exact ⟨fun x e => (by cases e), fun _ => rfl⟩
  | q :: qs, ds, h => by
    cases h with
    | cons r t =>
      obtain ⟨i1, i2⟩ := look_rel hf k t
      unfold lookP valV at i1 i2 ⊢
      simp only [List.map_cons, List.zip_cons_cons, List.find?_cons, hf]
      by_cases e : q.1 = k
      · simp only [e, decide_true, Option.map_some]
        exact ⟨fun x h => (by cases h; exact ⟨_, rfl, r⟩), fun h => (by cases h)⟩
      · simp only [e, decide_false]
        exact ⟨i1, i2⟩
theorem any_rel {f : κ → PyData} (hf : ∀ a b, PyData.eqv (f a) (f b) = decide (a = b)) (k : κ) : ∀ {qs : List (κ × V)} {ds : List PyData}, RpAll K F (qs.map (·.2)) ds →
    (((qs.map fun q => f q.1).zip ds).any fun p => PyData.eqv p.1 (f k)) = qs.any fun q => decide (q.1 = k)
  | [], ds, h => rfl
  | q :: qs, ds, h => by
    cases h with
    | cons r t =>
      simp only [List.map_cons, List.zip_cons_cons, List.any_cons, hf, any_rel hf k t]
theorem repl_rel {f : κ → PyData} (hf : ∀ a b, PyData.eqv (f a) (f b) = decide (a = b)) (k : κ) {w : V} {x : PyData} (rw : Rp K F w x) : ∀ {qs : List (κ × V)} {ds : List PyData}, RpAll K F (qs.map (·.2)) ds →
    ∃ ds', RpAll K F ((qs.map fun q => if q.1 = k then (q.1, w) else q).map (·.2)) ds' ∧ ((qs.map fun q => f q.1).zip ds).map (fun p => if PyData.eqv p.1 (f k) = true then (p.1, x) else p) = ((qs.map fun q => if q.1 = k then (q.1, w) else q).map fun q => f q.1).zip ds'
  | [], ds, h => ⟨[], .nil, rfl⟩
  | q :: qs, ds, h => by
    cases h with
    | @cons v vs d ds r t =>
      obtain ⟨ds', i1, i2⟩ := repl_rel hf k rw t
      simp only [List.map_cons, List.zip_cons_cons, hf]
      by_cases e : q.1 = k
      · simp only [e, decide_true, if_true]
        exact ⟨x :: ds', .cons rw i1, by rw [i2]; rfl⟩
      · simp only [e, decide_false, if_false, Bool.false_eq_true]
        exact ⟨d :: ds', .cons r i1, by rw [i2]; rfl⟩
theorem RpAll.app {vs us : List V} {ds es : List PyData} (h : RpAll K F vs ds) (h' : RpAll K F us es) : RpAll K F (vs ++ us) (ds ++ es) := by
  induction vs generalizing ds with
  | nil => cases h; exact h'
  | cons v vs ih =>
    cases h with
    | cons r t => exact .cons r (ih t)
theorem zip_app {α β : Type} {as : List α} {bs : List β} {a : α} {b : β} (h : as.length = bs.length) : (as ++ [a]).zip (bs ++ [b]) = as.zip bs ++ [(a, b)] := by
  rw [List.zip_append h]; rfl
theorem put_rel {f : κ → PyData} (hf : ∀ a b, PyData.eqv (f a) (f b) = decide (a = b)) (k : κ) {w : V} {x : PyData} (rw : Rp K F w x) {qs : List (κ × V)} {ds : List PyData} (h : RpAll K F (qs.map (·.2)) ds) :
    ∃ ds', RpAll K F ((putK qs k w).map (·.2)) ds' ∧ putP ((qs.map fun q => f q.1).zip ds) (f k) x = ((putK qs k w).map fun q => f q.1).zip ds' := by
  unfold putP putK
  rw [any_rel hf k h]
  split
  · exact repl_rel hf k rw h
  · refine ⟨ds ++ [x], ?_, ?_⟩
    · rw [List.map_append]; exact h.app (.cons rw .nil)
    · rw [List.map_append, List.map_cons, List.map_nil, zip_app]
      rw [List.length_map]
      have := h.length
      rw [List.length_map] at this
      exact this
end
mutual
theorem nk_can : ∀ (d : PyData) {k : NestedKey}, nk d = some k → d.canLay0 = true
  | .none, k, h => rfl
  | .int i, k, h => rfl
  | .tuple xs, k, h => by
    rw [nk] at h
    obtain ⟨ks, e, rfl⟩ := Option.map_eq_some_iff.mp h
    rw [PyData.canLay0]
    exact nkAll_can xs e
  | .bool _, k, h => by cases h
  | .str _, k, h => by cases h
  | .list _, k, h => by cases h
  | .dict _, k, h => by cases h
theorem nkAll_can : ∀ (xs : List PyData) {ks : List NestedKey}, nkAll xs = some ks → PyData.canLayAll0 xs = true
  | [], ks, h => rfl
  | x :: xs, ks, h => by
    obtain ⟨k, ks', e1, e2, rfl⟩ := nkAll_cons h
    rw [PyData.canLayAll0, nk_can x e1, nkAll_can xs e2]
    rfl
end
section
variable {K : PySem.W.Frag} {U : Wd} {S : Sto} {H : Hp}
theorem rp_mem {α : Type} {F : Hp} {f : α → V} {g : α → PyData} : ∀ {xs : List α}, RpAll K F (xs.map f) (xs.map g) → ∀ x ∈ xs, Rp K F (f x) (g x)
  | [], _, x, h => by cases h
  | y :: xs, r, x, h => by
    cases r with
    | cons r t =>
      rcases List.mem_cons.mp h with rfl | h
      · exact r
      · exact rp_mem t x h
theorem dct_rel {d : D} {v : V} {kvs : List (PyData × PyData)} (s : Sat K U S H) (r : RelD K U d v) (h : dctOf d S = some kvs) : ∃ a, v = .ref a ∧
    ((∃ ks ds, Rd H a (.dK ks) ∧ RpAll K U.F (ks.map (·.2)) ds ∧ kvs = (ks.map fun q => keyP q.1).zip ds) ∨
      ∃ xs vs ds, H a = some (dnO a xs) ∧ Vals vs (xs.map (·.2.2)) ∧ RpAll K U.F vs ds ∧ RpAll K U.F (xs.map fun x => V.ref x.2.1) (xs.map fun x => x.1.data) ∧ kvs = (xs.map fun x => x.1.data).zip ds) := by
  cases d with
  | p x =>
    have r : Rp K U.F v x := r
    cases x with
    | dict kvs' =>
      cases h
      cases r with
      | @dK a ks ds h t =>
        refine ⟨a, rfl, .inl ⟨ks, ds, ?_, t, rfl⟩⟩
        rcases s.fz _ _ h with z | ⟨o, z, _⟩
        · exact .inl z
        · exact .inr ⟨o, z⟩
      | @dN a xs vs ds h hv t hk _ =>
        refine ⟨a, rfl, .inr ⟨xs, vs, ds, ?_, hv, t, hk, rfl⟩⟩
        rcases s.fz _ _ h with z | ⟨o, z, e⟩
        · exact z
        · cases e
    | _ => cases h
  | r l =>
    obtain ⟨a, ha, rfl⟩ := r
    unfold dctOf at h
    simp only at h
    split at h
    · next kvs' e =>
      cases h
      obtain ⟨_, o, ho, hd⟩ := s.ob l a _ ha e
      refine ⟨a, rfl, ?_⟩
      cases o with
      | dK ks => obtain ⟨ds, r, e⟩ := hd; exact .inl ⟨ks, ds, .inl ho, r, e⟩
      | ext φ => obtain ⟨xs, vs, ds, rfl, hv, r, k, e, _⟩ := hd; exact .inr ⟨xs, vs, ds, ho, hv, r, k, e⟩
      | _ => exact hd.elim
    · cases h
theorem tk_keyP (k : Key) : tk (keyP k) = none := by cases k <;> rfl
theorem pk_data {k : NestedKey} (h : (tk k.data).isSome = true) : pk k.data = none := by
  cases k <;> first | rfl | cases h
theorem zip_nil_of {α : Type} {f : α → PyData} {xs : List α} {ds : List PyData} (hl : xs.length = ds.length) {p : PyData × PyData → Bool} (ha : ((xs.map f).zip ds).all p = true) (hn : ∀ x ∈ xs, ∀ d, p (f x, d) = false) : xs = [] := by
  cases xs with
  | nil => rfl
  | cons x xs =>
    cases ds with
    | nil => cases hl
    | cons d ds =>
      rw [List.map_cons, List.zip_cons_cons, List.all_cons, Bool.and_eq_true] at ha
      rw [hn x (List.mem_cons_self ..)] at ha
      cases ha.1
theorem keyV {F : Hp} {y : V} {k : PyData} {key : Key} (r : Rp K F y k) (h : pk k = some key) : y = kV key := by
  cases r <;> cases h <;> rfl
theorem vals_len {vs : List V} {us : List Value} (h : Vals vs us) : vs.length = us.length := h.length
/-- what a dict holds at a key, by the data -/
theorem dgt_of {d : D} {v y : V} {k : PyData} {kvs : List (PyData × PyData)} (s : Sat K U S H) (r : RelD K U d v) (h : dctOf d S = some kvs) (ry : Rp K U.F y k) (ok : kOk kvs k = true) :
    ∃ a o, v = .ref a ∧ DGt K H a y o ∧ (∀ x, lookP kvs k = some x → ∃ v, o = some v ∧ Rp K U.F v x) ∧ (lookP kvs k = none → o = none) := by
  obtain ⟨a, rfl, h⟩ := dct_rel s r h
  refine ⟨a, ?_⟩
  unfold kOk at ok
  rw [Bool.or_eq_true, Bool.and_eq_true, Bool.and_eq_true] at ok
  rcases ok with ⟨o1, o2⟩ | ⟨o1, o2⟩
  · obtain ⟨key, hk⟩ := Option.isSome_iff_exists.mp o1
    have ek := pk_keyP hk
    have ey := keyV ry hk
    rcases h with ⟨ks, ds, rd, t, rfl⟩ | ⟨xs, vs, ds, ho, hv, t, hks, rfl⟩
    · obtain ⟨l1, l2⟩ := look_rel (f := keyP) eqv_keyP key t
      rw [← ek]
      exact ⟨valV ks key, rfl, .inl ⟨ks, key, .inl rd, ey, rfl⟩, l1, l2⟩
    · have hl : xs.length = ds.length := by
        have h1 := vals_len hv
        have h2 := t.length
        rw [List.length_map] at h1
        omega
      have hx : xs = [] := zip_nil_of hl (p := fun p => (pk p.1).isSome) o2 (fun x hx d => by
        show (pk x.1.data).isSome = false
        have r := rp_mem hks x hx
        generalize x.1.data = z at r
        cases r <;> rfl)
      subst hx
      exact ⟨none, rfl, .inl ⟨[], key, .inr ⟨rfl, ho⟩, ey, rfl⟩, fun x e => (by cases e), fun _ => rfl⟩
  · obtain ⟨key, hk⟩ := Option.isSome_iff_exists.mp o1
    obtain ⟨n1, n2, zs, rfl⟩ := tk_nk hk
    have hdp : Dp K H y (.tuple zs) := Rp.dp s.fz ry (nk_can _ n1)
    have ek := (nk_data _ n1).1
    rcases h with ⟨ks, ds, rd, t, rfl⟩ | ⟨xs, vs, ds, ho, hv, t, hks, rfl⟩
    · have hl : ks.length = ds.length := by
        have h2 := t.length
        rw [List.length_map] at h2
        exact h2
      have hx : ks = [] := zip_nil_of hl (p := fun p => (tk p.1).isSome) o2 (fun x _ d => by show (tk (keyP x.1)).isSome = false; rw [tk_keyP]; rfl)
      subst hx
      exact ⟨none, rfl, .inr ⟨[], [], _, key, .inr ⟨rfl, rd⟩, .nil, hdp, hk, rfl⟩, fun x e => (by cases e), fun _ => rfl⟩
    · have hl1 := vals_len hv
      rw [List.length_map] at hl1
      have hl2 := t.length
      have hq1 : ((xs.map (·.1)).zip vs).map (·.1) = xs.map (·.1) := List.map_fst_zip (by rw [List.length_map]; omega)
      have hq2 : ((xs.map (·.1)).zip vs).map (·.2) = vs := List.map_snd_zip (by rw [List.length_map]; omega)
      have hq3 : (((xs.map (·.1)).zip vs).map fun q => q.1.data) = xs.map fun x => x.1.data := by
        rw [show (((xs.map (·.1)).zip vs).map fun q => q.1.data) = (((xs.map (·.1)).zip vs).map (·.1)).map NestedKey.data by rw [List.map_map]; rfl, hq1, List.map_map]
        rfl
      obtain ⟨l1, l2⟩ := look_rel (K := K) (F := U.F) (f := NestedKey.data) eqv_nk key (qs := (xs.map (·.1)).zip vs) (ds := ds) (by rw [hq2]; exact t)
      rw [hq3, ek] at l1 l2
      refine ⟨_, rfl, .inr ⟨xs, vs, _, key, .inl ⟨ho, fun x hx => ?_⟩, hv, hdp, hk, rfl⟩, l1, l2⟩
      refine Rp.dp s.fz (rp_mem hks x hx) ?_
      have hz : (x.1.data) ∈ ((xs.map fun x => x.1.data).zip ds).map (·.1) := by
        rw [List.map_fst_zip (by rw [List.length_map]; omega)]
        exact List.mem_map.mpr ⟨x, hx, rfl⟩
      obtain ⟨p, hp, e⟩ := List.mem_map.mp hz
      have := List.all_eq_true.mp o2 p hp
      rw [e] at this
      obtain ⟨k', hk'⟩ := Option.isSome_iff_exists.mp this
      exact nk_can _ (tk_nk hk').1
end
end G


namespace G
open PySem L2
/-! ### rules of dicts -/
def isDA (H : Hp) (a : Addr) : Prop := (∃ kvs, Rd H a (.dK kvs)) ∨ ∃ xs, H a = some (dnO a xs)
def rDG (K : PySem.W.Frag) : R2 := fun x y H Q => ∃ a v, x = .ref a ∧ DGt K H a y (some v) ∧ Q v H
def rDI (K : PySem.W.Frag) : R2 := fun y x H Q => ∃ a o, x = .ref a ∧ DGt K H a y o ∧ Q (.bl o.isSome) H
def rDNI (K : PySem.W.Frag) : R2 := fun y x H Q => ∃ a o, x = .ref a ∧ DGt K H a y o ∧ Q (.bl (!o.isSome)) H
theorem dnF.mono {a : Addr} {xs : List NE} {h1 h2 : Heap} (h : dnF a xs h1) (k : ∀ o, h1.get? a = some o → h2.get? a = some o) : dnF a xs h2 := by
  obtain ⟨h0, o, es, ep, h3, r⟩ := h
  exact ⟨h0, o, es, ep, k o h3, r⟩
theorem dn_ok {P : Program} {w : World} {H : Hp} {h : Heap} {a : Addr} {xs : List NE} (x : dnF a xs h) : ObjOk P w H h a (dnO a xs) :=
  ⟨x, (by obtain ⟨_, o, _, _, h3, _⟩ := x; exact ⟨o, h3⟩), fun h1 h2 y k => y.mono k⟩
theorem dn_mk {P : Program} {w : World} {h : Heap} {a : Addr} {xs : List NE} (h1 : (a == sysModules) = false) (h2 : xs.length ≤ sizeLine) (h3 : ∀ x ∈ xs, ntK x.1 = true ∧ x.1.depth ≤ 8) (dd : h.DictOfH (nestedKind P w) a xs) : dnF a xs h := by
  obtain ⟨o, es, ep, e1, e2, e3, e4, _, e5⟩ := dd
  refine ⟨⟨h1, h2, h3⟩, o, es, ep, e1, e2, e3, fun P' w' => ?_, e5⟩
  rw [e4]
  refine List.map_congr_left fun x hx => ?_
  unfold entryOfKey
  show (⟨x.1.hash w, _, _⟩ : DictEntry) = ⟨x.1.hash w', _, _⟩
  rw [hash_nt w w' _ (h3 x hx).1]
section
variable {X : Cx}
theorem isDA_at {pins : List (Addr × Obj)} {σ : L2.St} {H : Hp} {s : Shared} {a : Addr} (I : Inv X pins σ H s) (d : isDA H a) : s.TypeIs (.ref a) "dict" ∧ (∀ b, Value.ref a = .ref b → ∃ ob, s.heap.get? b = some ob ∧ ob.dict = none) ∧ (a == sysModules) = false := by
  rcases d with ⟨kvs, e⟩ | ⟨xs, e⟩
  · obtain ⟨_, hd, vs, _, dd⟩ := dk_rd I.hok e
    refine ⟨dd.typeIs, fun b q => ?_, hd⟩
    cases q
    obtain ⟨ob, _, _, h1, h2, _⟩ := dd
    exact ⟨ob, h1, h2.2.1⟩
  · obtain ⟨⟨h1, _⟩, o, es, ep, e1, e2, _⟩ := dn_of I e
    refine ⟨⟨o, e1, e2.1⟩, fun b q => ?_, h1⟩
    cases q
    exact ⟨o, e1, e2.2.1⟩
theorem ix_dg (hu : X.A.units + 65 < cLine) : IxR X (rDG X.K) := by
  intro value slice pins s σ H x y v u Q I rx ry h hs
  obtain ⟨a, z, rfl, g, q⟩ := h
  cases rx
  have hT := g.ty I
  unfold PyProof.Rows.subscriptTail
  refine wpAny_bind ?_
  rw [getitemInPython_of_ne hT.not_modules]
  refine wpAny_bind (wpAny_specialOf hT PySem.F.slot_dict_getitem.lookup ?_)
  have fin : wpAny (model X.prog X.w) X.A (subscripted slice false (.ref a) u) (fun r s₃ => wpAny (model X.prog X.w) X.A (letTemporaryGo value (.ref a) r >>= fun _ => pure r) (EP X pins σ Q) X.xe s₃) X.xe s := by
    rw [hs]
    exact wpAny_operating (g_getItem hu I g ry fun w' s' I' rw' => wpAny_bind (wpAny_letTemporaryGo (wpAny_pure ⟨z, H, I', rw', q⟩)))
  first
    | exact wpAny_pure (wpAny_bind fin)
    | exact wpAny_bind (wpAny_pure (wpAny_bind fin))
    | exact wpAny_bind fin
theorem op_di (hu : X.A.units + 65 < cLine) : OpR X (compareOp .In) (rDI X.K) := fun pins s σ H y x u v Q I ry rx ⟨a, o, ex, g, q⟩ => by
  subst ex
  cases rx
  exact g_in hu I g ry fun s' I' => ⟨.bl o.isSome, H, I', rfl, q⟩
theorem op_dni (hu : X.A.units + 65 < cLine) : OpR X (compareOp .NotIn) (rDNI X.K) := fun pins s σ H y x u v Q I ry rx ⟨a, o, ex, g, q⟩ => by
  subst ex
  cases rx
  exact g_notIn hu I g ry fun s' I' => ⟨.bl (!o.isSome), H, I', rfl, q⟩
end
def gDGet : D → D → Sto → Res D := fun d e S => match dctOf d S, e with
  | some kvs, .p k => if kOk kvs k = true then (match lookP kvs k with
    | some x => .ok (.p x) S
    | none => .stuck) else .stuck
  | _, _ => .stuck
def gDIn (neg : Bool) : D → D → Sto → Res D := fun e d S => match dctOf d S, e with
  | some kvs, .p k => if kOk kvs k = true then .ok (.p (.bool (if neg = true then !(lookP kvs k).isSome else (lookP kvs k).isSome))) S else .stuck
  | _, _ => .stuck
section
variable {K : PySem.W.Frag} {E : EX}
theorem imp_dget : ImpO K E (rDG K) gDGet := by
  intro U S H x y d e Q s rx ry w
  unfold gDGet at w
  split at w
  · next kvs k hd =>
    split at w
    · next ok =>
      split at w
      · next z hz =>
        obtain ⟨a, o, rfl, g, l1, _⟩ := dgt_of s rx hd ry ok
        obtain ⟨v, rfl, rv⟩ := l1 z hz
        exact ⟨a, v, rfl, g, (w.ok s) _ rv⟩
      · exact False.elim w
    · exact False.elim w
  · exact False.elim w
theorem look_some {o : Option V} {l : Option PyData} {F : Hp} (l1 : ∀ x, l = some x → ∃ v, o = some v ∧ Rp K F v x) (l2 : l = none → o = none) : o.isSome = l.isSome := by
  cases l with
  | none => rw [l2 rfl]; rfl
  | some x => obtain ⟨v, e, _⟩ := l1 x rfl; rw [e]; rfl
theorem imp_din : ImpO K E (rDI K) (gDIn false) := by
  intro U S H x y d e Q s rx ry w
  unfold gDIn at w
  split at w
  · next kvs k hd =>
    split at w
    · next ok =>
      obtain ⟨a, o, rfl, g, l1, l2⟩ := dgt_of s ry hd rx ok
      refine ⟨a, o, rfl, g, (w.ok s) _ ?_⟩
      rw [look_some l1 l2]
      exact .bl _
    · exact False.elim w
  · exact False.elim w
theorem imp_dnin : ImpO K E (rDNI K) (gDIn true) := by
  intro U S H x y d e Q s rx ry w
  unfold gDIn at w
  split at w
  · next kvs k hd =>
    split at w
    · next ok =>
      obtain ⟨a, o, rfl, g, l1, l2⟩ := dgt_of s ry hd rx ok
      refine ⟨a, o, rfl, g, (w.ok s) _ ?_⟩
      rw [look_some l1 l2]
      exact .bl _
    · exact False.elim w
  · exact False.elim w
end
section
variable {X : Cx} {E : EX} {pos : Pos} {a b : Expr} {ma mb : ME}
theorem ie_dget (hu : X.A.units + 65 < cLine) (ha : IE X E a ma) (hb : IE X E b mb) (hs : PlainIx b := by exact fun _ _ => rfl) : IE X E (.Subscript a b pos) (m2 gDGet ma mb) := ie_ix (ix_dg hu) imp_dget ha hb hs
theorem ie_din (hu : X.A.units + 65 < cLine) (ha : IE X E a ma) (hb : IE X E b mb) (hm : behindInMarks .In b = false := by rfl) : IE X E (.Compare a [.In] [b] pos) (m2 (gDIn false) ma mb) := ie_cmp (op_di hu) imp_din ha hb hm
theorem ie_dnin (hu : X.A.units + 65 < cLine) (ha : IE X E a ma) (hb : IE X E b mb) (hm : behindInMarks .NotIn b = false := by rfl) : IE X E (.Compare a [.NotIn] [b] pos) (m2 (gDIn true) ma mb) := ie_cmp (op_dni hu) imp_dnin ha hb hm
theorem it_din (hu : X.A.units + 65 < cLine) (ha : IE X E a ma) (hb : IE X E b mb) (hm : behindInMarks .In b = false := by rfl) : IT X E (.Compare a [.In] [b] pos) (mTest (m2 (gDIn false) ma mb)) := it_cmp (op_di hu) imp_din ha hb hm
theorem it_dnin (hu : X.A.units + 65 < cLine) (ha : IE X E a ma) (hb : IE X E b mb) (hm : behindInMarks .NotIn b = false := by rfl) : IT X E (.Compare a [.NotIn] [b] pos) (mTest (m2 (gDIn true) ma mb)) := it_cmp (op_dni hu) imp_dnin ha hb hm
/-- {} -/
def mDNew : ME := fun _ S => .ok (.r S.length) (S ++ [some (.dct [])])
theorem ie_dnew : IE X E (.Dict [] [] pos) mDNew := ⟨_, pe_dnewK, fun U S H σ ρ Q s rl w p hp => newR s (show ObIs X.K U p (.dK []) (.dct []) from ⟨[], .nil, rfl⟩) trivial hp w⟩
end
end G


namespace G
open PySem L2
/-! ### d[k] = v -/
def isKw (H : Hp) (a : Addr) (kvs : List (Key × V)) : Prop := H a = some (.dK kvs) ∨ (kvs = [] ∧ H a = some (dnO a []))
def isNw (K : PySem.W.Frag) (H : Hp) (a : Addr) (xs : List NE) : Prop := (H a = some (dnO a xs) ∧ ∀ x ∈ xs, Dp K H (.ref x.2.1) x.1.data) ∨ (xs = [] ∧ H a = some (.dK []))
theorem isKw.k {H : Hp} {a : Addr} {kvs : List (Key × V)} (h : isKw H a kvs) : isK H a kvs ∧ Mut (H a) := by
  rcases h with h | ⟨e, h⟩
  · exact ⟨.inl (.inl h), by rw [h]; exact True.intro⟩
  · exact ⟨.inr ⟨e, h⟩, by rw [h]; exact True.intro⟩
theorem isNw.n {K : PySem.W.Frag} {H : Hp} {a : Addr} {xs : List NE} (h : isNw K H a xs) : isN K H a xs ∧ Mut (H a) := by
  rcases h with ⟨h, k⟩ | ⟨e, h⟩
  · exact ⟨.inl ⟨h, k⟩, by rw [h]; exact True.intro⟩
  · exact ⟨.inr ⟨e, .inl h⟩, by rw [h]; exact True.intro⟩
def rPut (K : PySem.W.Frag) : TSet := fun o i v H Q => ∃ a, o = .ref a ∧
  ((∃ kvs k, isKw H a kvs ∧ i = kV k ∧ kvs.length < sizeLine ∧ Q (upd H a (.dK (putK kvs k v)))) ∨
    ∃ xs b d k, isNw K H a xs ∧ i = .ref b ∧ Dp K H i d ∧ tk d = some k ∧ xs.length < sizeLine ∧ ∀ u, RelV v u → Q (upd H a (dnO a (storedH xs k b u))))
theorem stored_len (xs : List NE) (k : NestedKey) (b : Addr) (u : Value) : (storedH xs k b u).length ≤ xs.length + 1 := by
  unfold storedH
  split
  · rw [List.length_map]; omega
  · rw [List.length_append]; exact Nat.le_refl _
theorem stored_keys {xs : List NE} {k : NestedKey} {b : Addr} {u : Value} {p : NestedKey → Prop} (h : ∀ x ∈ xs, p x.1) (hk : p k) : ∀ x ∈ storedH xs k b u, p x.1 := by
  intro x hx
  unfold storedH at hx
  split at hx
  · obtain ⟨y, hy, rfl⟩ := List.mem_map.mp hx
    unfold putAt
    split
    · exact h y hy
    · exact h y hy
  · rcases List.mem_append.mp hx with hx | hx
    · exact h x hx
    · rw [List.mem_singleton] at hx; subst hx; exact hk
section
variable {X : Cx}
theorem set_dg (hu : X.A.units + 65 < cLine) : PSet X (rPut X.K) := by
  intro pins s σ H o i v ov iv u Q I ro ri rv h
  obtain ⟨a, eo, h⟩ := h
  subst eo
  cases (show ov = Value.ref a from ro)
  rcases h with ⟨kvs, k, e, ey, l, q⟩ | ⟨xs, b, d, k, e, ey, hd, hk, l, q⟩
  · subst ey
    obtain ⟨e1, e2⟩ := e.k
    obtain ⟨z, hd, vs, rel, dd⟩ := e1.of I
    have hz : vs.length ≤ sizeLine := by rw [← rel.length]; exact z
    have hl : (putK kvs k v).length ≤ sizeLine := by have := length_putK kvs k v; omega
    refine wpAny_setItem_pairs (hsz := hz) (kV_is ri) dd fun h' dd' hs => ⟨_, ?_, q⟩
    have he : ∃ q, h'.get? a = some q := let ⟨q, _, _, hq, _⟩ := dd'; ⟨q, hq⟩
    exact d_write I e2 hs he (dk_new hl hd (rel.put k rv) dd')
  · obtain ⟨e1, e2⟩ := e.n
    obtain ⟨z, hs, hn, dd⟩ := e1.of I
    obtain ⟨b', eu, ey', hb⟩ := key_at I hd hk ri
    subst eu
    rw [ey] at ey'
    cases ey'
    refine wpAny_setItem_heap (hsz := z) (room9 hu) hb dd fun h' dd' hs' => ⟨_, ?_, q u rv⟩
    have he : ∃ q, h'.get? a = some q := let ⟨q, _, _, hq, _⟩ := dd'; ⟨q, hq⟩
    obtain ⟨n1, n2, _⟩ := tk_nk hk
    exact d_write I e2 hs' he (dn_ok (dn_mk hs (by have := stored_len xs k b u; omega) (stored_keys (p := fun k => ntK k = true ∧ k.depth ≤ 8) hn ⟨(nk_data _ n1).2, n2⟩) dd'))
end
def gDPut (d e v : D) (S : Sto) : Res Unit := match d, e, v with
  | .r l, .p k, .p x => (match S[l]? with
    | some (some (.dct kvs)) => if (kOk kvs k && decide (kvs.length < 1000000)) = true then .ok () (S.set l (some (.dct (putP kvs k x)))) else .stuck
    | _ => .stuck)
  | _, _, _ => .stuck
section
variable {K : PySem.W.Frag} {E : EX}
theorem stored_vals {k : NestedKey} {b : Addr} {v : V} {u : Value} (ru : RelV v u) {xs : List NE} {vs : List V} (h : Vals vs (xs.map (·.2.2))) :
    Vals ((putK ((xs.map (·.1)).zip vs) k v).map (·.2)) ((storedH xs k b u).map (·.2.2)) ∧ (storedH xs k b u).map (·.1) = (putK ((xs.map (·.1)).zip vs) k v).map (·.1) := by
  have hany : (((xs.map (·.1)).zip vs).any fun kv => decide (kv.1 = k)) = (atKey xs k).isSome := by
    induction xs generalizing vs with
    | nil => rfl
    | cons x xs ih =>
      cases h with
      | cons r t =>
        unfold atKey at ih ⊢
        simp only [List.map_cons, List.zip_cons_cons, List.any_cons, List.find?_cons]
        by_cases e : x.1 = k
        · simp [e]
        · simp only [e, decide_false, Bool.false_or]
          exact ih t
  unfold putK storedH
  rw [hany]
  split
  · rename_i hsome
    clear hsome hany
    induction xs generalizing vs with
    | nil => cases h; exact ⟨.nil, rfl⟩
    | cons x xs ih =>
      cases h with
      | @cons w _ ws _ r t =>
        obtain ⟨i1, i2⟩ := ih t
        simp only [List.map_cons, List.zip_cons_cons]
        by_cases e : x.1 = k
        · refine ⟨.cons ?_ i1, ?_⟩
          · simp only [putAt, e, if_true]; exact ru
          · simp only [putAt, e, if_true]; rw [i2]
        · refine ⟨.cons ?_ i1, ?_⟩
          · simp only [putAt, e, if_false]; exact r
          · simp only [putAt, e, if_false]; rw [i2]
  · have hl := vals_len h
    rw [List.length_map] at hl
    rw [List.map_append, List.map_append, List.map_append, List.map_append, List.map_fst_zip (by rw [List.length_map]; omega), List.map_snd_zip (by rw [List.length_map]; omega)]
    exact ⟨h.append (.cons ru .nil), rfl⟩
theorem stored_refs {F : Hp} {k : NestedKey} {b : Addr} {u : Value} (rb : Rp K F (.ref b) k.data) {xs : List NE} (h : RpAll K F (xs.map fun x => V.ref x.2.1) (xs.map fun x => x.1.data)) :
    RpAll K F ((storedH xs k b u).map fun x => V.ref x.2.1) ((storedH xs k b u).map fun x => x.1.data) := by
  unfold storedH
  split
  · have e1 : ((xs.map (putAt k u)).map fun x => V.ref x.2.1) = xs.map fun x => V.ref x.2.1 := by
      rw [List.map_map]
      refine List.map_congr_left fun x _ => ?_
      show V.ref (putAt k u x).2.1 = _
      unfold putAt
      split <;> rfl
    have e2 : ((xs.map (putAt k u)).map fun x => x.1.data) = xs.map fun x => x.1.data := by
      rw [List.map_map]
      refine List.map_congr_left fun x _ => ?_
      show (putAt k u x).1.data = _
      unfold putAt
      split <;> rfl
    rw [e1, e2]
    exact h
  · rw [List.map_append, List.map_append]
    exact h.app (.cons rb .nil)
theorem putP_ne {kvs : List (PyData × PyData)} {k v : PyData} (h : putP kvs k v = []) : False := by
  unfold putP at h
  split at h
  · next ha =>
    rw [List.map_eq_nil_iff] at h
    subst h
    cases ha
  · simp at h
theorem imp_dput : ImpSet K E (rPut K) gDPut := by
  intro U S H x y z d e f Q s rx ry rz w
  unfold gDPut at w
  split at w
  · next l k v =>
    split at w
    · next kvs hx =>
      split at w
      · next ok =>
        rw [Bool.and_eq_true] at ok
        obtain ⟨ok, hlen⟩ := ok
        have hlen := of_decide_eq_true hlen
        obtain ⟨a, ha, rfl⟩ := rx
        have ry : Rp K U.F y k := ry
        have rz : Rp K U.F z v := rz
        obtain ⟨_, o, ho, hd⟩ := s.ob l a _ ha hx
        have line : ∀ {n : Nat}, n < 1000000 → n < sizeLine := fun h => Nat.lt_of_lt_of_le h (by decide)
        refine ⟨a, rfl, ?_⟩
        unfold kOk at ok
        rw [Bool.or_eq_true, Bool.and_eq_true, Bool.and_eq_true] at ok
        rcases ok with ⟨o1, o2⟩ | ⟨o1, o2⟩
        · obtain ⟨key, hk⟩ := Option.isSome_iff_exists.mp o1
          have ek := pk_keyP hk
          have ey := keyV ry hk
          have done : ∀ ks ds, isKw H a ks → RpAll K U.F (ks.map (·.2)) ds → kvs = (ks.map fun q => keyP q.1).zip ds → rPut K (.ref a) y z H Q := by
            intro ks ds hkw t ekv
            obtain ⟨ds', t', e'⟩ := put_rel (f := keyP) eqv_keyP key rz t
            rw [ek, ← ekv] at e'
            have hkl : ks.length < sizeLine := by
              have h2 := t.length
              rw [List.length_map] at h2
              rw [ekv, List.length_zip, List.length_map] at hlen
              exact line (by omega)
            exact ⟨a, rfl, .inl ⟨ks, key, hkw, ey, hkl, w _ _ (Step.put ha (s.ob _ _ _ ha hx).1) (s.put ha hx (show ObIs K U a (.dK (putK ks key z)) (.dct (putP kvs k v)) from ⟨ds', t', e'⟩) trivial)⟩⟩
          cases o with
          | dK ks =>
            obtain ⟨ds, t, ekv⟩ := hd
            obtain ⟨a', ea, h⟩ := done ks ds (.inl ho) t ekv
            cases ea
            exact h
          | ext φ =>
            obtain ⟨xs, vs, ds, rfl, hv, t, hks, ekv, hne⟩ := hd
            have hl : xs.length = ds.length := by
              have h1 := vals_len hv
              have h2 := t.length
              rw [List.length_map] at h1
              omega
            have hxs : xs = [] := zip_nil_of hl (p := fun p => (pk p.1).isSome) (by rw [← ekv]; exact o2) (fun x hx d => by
              show (pk x.1.data).isSome = false
              have r := rp_mem hks x hx
              generalize x.1.data = z at r
              cases r <;> rfl)
            subst hxs
            obtain ⟨a', ea, h⟩ := done [] [] (.inr ⟨rfl, ho⟩) .nil ekv
            cases ea
            exact h
          | _ => exact hd.elim
        · obtain ⟨key, hk⟩ := Option.isSome_iff_exists.mp o1
          obtain ⟨n1, n2, zs, rfl⟩ := tk_nk hk
          have hdp : Dp K H y (.tuple zs) := Rp.dp s.fz ry (nk_can _ n1)
          have ek := (nk_data _ n1).1
          obtain ⟨b, rfl⟩ : ∃ b, y = .ref b := by cases ry; exact ⟨_, rfl⟩
          have done : ∀ xs vs ds, isNw K H a xs → Vals vs (xs.map (·.2.2)) → RpAll K U.F vs ds → RpAll K U.F (xs.map fun x => V.ref x.2.1) (xs.map fun x => x.1.data) → kvs = (xs.map fun x => x.1.data).zip ds → rPut K (.ref a) (.ref b) z H Q := by
            intro xs vs ds hnw hv t hks ekv
            have hl1 := vals_len hv
            rw [List.length_map] at hl1
            have hl2 := t.length
            have hq2 : ((xs.map (·.1)).zip vs).map (·.2) = vs := List.map_snd_zip (by rw [List.length_map]; omega)
            have hq1 : ((xs.map (·.1)).zip vs).map (·.1) = xs.map (·.1) := List.map_fst_zip (by rw [List.length_map]; omega)
            have hq3 : (((xs.map (·.1)).zip vs).map fun q => q.1.data) = xs.map fun x => x.1.data := by
              rw [show (((xs.map (·.1)).zip vs).map fun q => q.1.data) = (((xs.map (·.1)).zip vs).map (·.1)).map NestedKey.data by rw [List.map_map]; rfl, hq1, List.map_map]
              rfl
            obtain ⟨ds', t', e'⟩ := put_rel (K := K) (F := U.F) (f := NestedKey.data) eqv_nk key rz (qs := (xs.map (·.1)).zip vs) (ds := ds) (by rw [hq2]; exact t)
            rw [hq3, ek, ← ekv] at e'
            have hxl : xs.length < sizeLine := by
              rw [ekv, List.length_zip, List.length_map] at hlen
              exact line (by omega)
            refine ⟨a, rfl, .inr ⟨xs, b, _, key, hnw, rfl, hdp, hk, hxl, fun u ru => ?_⟩⟩
            obtain ⟨v1, v2⟩ := stored_vals (k := key) (b := b) ru hv
            refine w _ _ (Step.put ha (s.ob _ _ _ ha hx).1) (s.put ha hx (show ObIs K U a (dnO a (storedH xs key b u)) (.dct (putP kvs (.tuple zs) v)) from ⟨storedH xs key b u, _, ds', rfl, v1, t', stored_refs (by rw [ek]; exact ry) hks, ?_, ?_⟩) trivial)
            rotate_left
            · intro hn
              have hn2 : ((storedH xs key b u).map (·.1)) = [] := by rw [hn]; rfl
              rw [v2] at hn2
              rw [List.map_eq_nil_iff] at hn2
              rw [hn2] at e'
              exact putP_ne e'
            rw [e']
            congr 1
            rw [show ((storedH xs key b u).map fun x => x.1.data) = ((storedH xs key b u).map (·.1)).map NestedKey.data by rw [List.map_map]; rfl, v2, List.map_map]
            rfl
          cases o with
          | dK ks =>
            obtain ⟨ds, t, ekv⟩ := hd
            have hl : ks.length = ds.length := by
              have h2 := t.length
              rw [List.length_map] at h2
              exact h2
            have hxs : ks = [] := zip_nil_of hl (p := fun p => (tk p.1).isSome) (by rw [← ekv]; exact o2) (fun x _ d => by show (tk (keyP x.1)).isSome = false; rw [tk_keyP]; rfl)
            subst hxs
            obtain ⟨a', ea, h⟩ := done [] [] [] (.inr ⟨rfl, ho⟩) .nil .nil .nil ekv
            cases ea
            exact h
          | ext φ =>
            obtain ⟨xs, vs, ds, rfl, hv, t, hks, ekv, hne⟩ := hd
            have hdk : ∀ x ∈ xs, Dp K H (.ref x.2.1) x.1.data := fun x hx => by
              refine Rp.dp s.fz (rp_mem hks x hx) ?_
              have hl1 := vals_len hv
              rw [List.length_map] at hl1
              have hl2 := t.length
              have hz : (x.1.data) ∈ ((xs.map fun x => x.1.data).zip ds).map (·.1) := by
                rw [List.map_fst_zip (by rw [List.length_map]; omega)]
                exact List.mem_map.mpr ⟨x, hx, rfl⟩
              rw [← ekv] at hz
              obtain ⟨p, hp, e⟩ := List.mem_map.mp hz
              have := List.all_eq_true.mp o2 p hp
              rw [e] at this
              obtain ⟨k', hk'⟩ := Option.isSome_iff_exists.mp this
              exact nk_can _ (tk_nk hk').1
            obtain ⟨a', ea, h⟩ := done xs vs ds (.inl ⟨ho, hdk⟩) hv t hks ekv
            cases ea
            exact h
          | _ => exact hd.elim
      · exact False.elim w
    · exact False.elim w
  · exact False.elim w
end
section
variable {X : Cx} {E : EX} {pos : Pos} {o i : Expr} {mo mi : ME}
theorem ig_dput (hu : X.A.units + 65 < cLine) (ho : IE X E o mo) (hi : IE X E i mi)
    (ha : ∀ v, assign (.Subscript o i pos) X.env v = (do
      let ov ← holding [v] (eval o X.env)
      let iv ← holding [v, ov] (eval i X.env)
      standAt pos
      holding [v, ov, iv] (setItem ov iv v)
      release [v, ov, iv] []) := by intro _; rfl) : IG X E [] (.Subscript o i pos) (gSubT mo mi gDPut) := ig_sub ho hi (set_dg hu) imp_dput ha
end
end G


namespace G
open PySem L2
/-! ### sorted(d), len(d), d.get(k, x) -/
def rSrtD (K : PySem.W.Frag) : List V → Hp → VK → Prop := fun vs H Q => ∃ (a : Addr) (xs : List NE) (F : Hp), vs = [V.ref a] ∧ H a = some (dnO a xs) ∧ Le F H ∧ RpAll K F (xs.map fun x => V.ref x.2.1) (xs.map fun x => x.1.data) ∧ srtOk (xs.map fun x => x.1.data) = true ∧
  ∀ ys p, H p = none → RpAll K F ys (sortP (xs.map fun x => x.1.data)) → Q (.ref p) (upd H p (.lst ys))
section
variable {X : Cx} {E : EX}
theorem refs_vals : ∀ (xs : List NE), Vals (xs.map fun x => V.ref x.2.1) (xs.map fun x => Value.ref x.2.1)
  | [] => .nil
  | x :: xs => .cons rfl (refs_vals xs)
theorem cr_srtD (hcalm : X.calm = true) (hu : X.A.units + 100 < cLine) : CallR X (.builtin "sorted") (rSrtD X.K) := by
  intro pins s σ H vs us Q I r h
  obtain ⟨a, xs, F, rfl, hH, hF, ra, ok, q⟩ := h
  rw [Vals.ref1 r]
  unfold srtOk at ok
  simp only [Bool.and_eq_true, decide_eq_true_eq] at ok
  obtain ⟨⟨l1, l2⟩, ⟨l3, l4⟩, l5⟩ := ok
  have hal := alike_all l3 l4
  have hk := kind_any l5
  have hdep : ∀ d, d ∈ (xs.map fun x => x.1.data) → X.A.units + 2 + d.depth < cLine := fun d hd => by
    have h1 := SeqAt.depth_of_shaped l1
    rw [PyData.depth] at h1
    have h2 := depth_mem hd
    omega
  obtain ⟨⟨h1, h2, h3⟩, o, es, ep, e1, e2, e3, e4, e5⟩ := dn_of I hH
  have e4' := e4 X.prog X.w
  have hsz : es.size = xs.length := by rw [← Array.length_toList, e4', List.length_map]
  refine Calls.call_function_entry PyProof.Rows.kind_sorted PyProof.Rows.plain_sorted PyProof.Rows.entry_sorted (PyProof.Rows.args_sorted1 _) ?_
  unfold Builtin.«sorted»
  refine wpAny_bind (m := checkCount "sorted" 1 1 _) (wpAny_pure ?_)
  refine wpAny_bind (PySem.W.kdu_collect (A := X.A.in1) (kdl_raw h1 e2 e3) (I.ok.hd hcalm) e1 (by rw [hsz]; exact h2) fun h' tk acc hk' hacc => ?_)
  have hacc' : acc.toList = xs.map fun x => Value.ref x.2.1 := by
    apply List.ext_getElem?
    intro j
    rw [List.getElem?_map]
    cases hj : xs[j]? with
    | none =>
      have : xs.length ≤ j := List.getElem?_eq_none_iff.mp hj
      rw [Option.map_none]
      exact List.getElem?_eq_none_iff.mpr (by rw [Array.length_toList, hacc.1, hsz]; exact this)
    | some x =>
      have hlt : j < xs.length := (List.getElem?_eq_some_iff.mp hj).1
      have hlt' : j < acc.size := by rw [hacc.1, hsz]; exact hlt
      obtain ⟨en, g1, g2⟩ := hacc.2 j acc[j] (Array.getElem?_eq_getElem hlt')
      have g3 : es.toList[j]? = some en := by rw [Array.getElem?_toList]; exact g1
      rw [e4', List.getElem?_map, hj] at g3
      cases g3
      rw [Option.map_some, Array.getElem?_toList, Array.getElem?_eq_getElem hlt', g2]
      rfl
  rw [hacc']
  have I1 : Inv X pins σ H { s with heap := h', toks := tk } := I.kept hk'
  have rv := refs_vals xs
  have dp : DpAll X.K H (xs.map fun x => V.ref x.2.1) (xs.map fun x => x.1.data) := RpAll.dp hF ra (lay_can l1)
  obtain ⟨as, hr⟩ := Dp.readsAll I1 _ _ _ dp rv
  generalize hits : (xs.map fun x => Value.ref x.2.1) = its at rv hr
  generalize (xs.map fun x => x.1.data) = ds at *
  have hlen : its.length = ds.length := by rw [← rv.length]; exact ra.length
  refine wpAny_bind (wpAny_newList ?_ (by rw [hlen]; exact line6 l2))
  have hoL : (h'.push (PyProof.Rows.seqObj "list" its.toArray 0)).get? h'.objs.size = some (PyProof.Rows.seqObj "list" its.toArray 0) := Heap.get?_push_size _ rfl
  show wpAny _ _ _ _ _ { s with heap := h'.push (PyProof.Rows.seqObj "list" its.toArray 0), toks := tk }
  have er := each_reads hr
  have er' : PySem.W.EachIs (fun v b => ∃ as, Reads (PySem.W.sortingHeap (h'.push (PyProof.Rows.seqObj "list" its.toArray 0)) h'.objs.size its) v b as) its ds := er.mono fun _ _ ⟨as, r⟩ => ⟨as, PyProof.Rows.Reads.keeps (fun b o e => PySem.W.sortingHeap_old (Nat.ne_of_lt (Heap.lt_size e)) (Heap.get?_push_of_some _ e)) r⟩
  have SA := sortsAny (prog := X.prog) (w := X.w) (A := X.A.in1.in1) (s := { s with heap := PySem.W.sortingHeap (h'.push (PyProof.Rows.seqObj "list" its.toArray 0)) h'.objs.size its, toks := tk }) er' hal hk (fun d hd => by
    have := hdep d hd
    show X.A.units + 1 + 1 + d.depth < cLine
    omega)
  refine wpAny_bind (wpAny_holding (PyProof.Rows.wpAny_call_entry_kw PyProof.Rows.slot_list_sort ⟨_, hoL, rfl⟩ PyProof.Rows.entry_list_sort ?_ (PyProof.Rows.args_list_sort _)))
  refine wpAny_mono (PySem.W.list_sort_vals (A := X.A.in1.in1) (s := { s with heap := h'.push (PyProof.Rows.seqObj "list" its.toArray 0), toks := tk }) (P := fun f s' => f = .done (.ret .none) ∧ EP X pins σ Q (.ref h'.objs.size) s') hoL SA (by rw [hlen]; exact line6 l2) ⟨rfl, ?_⟩) (fun f s' hf => ?_) fun _ _ e => e
  · have h1 := PySem.W.sortVals_data (enc := id) false (each_vals rv ra) (show PySem.W.EachIs (fun v b => ∃ as, Reads (PySem.W.sortingHeap (h'.push (PyProof.Rows.seqObj "list" its.toArray 0)) h'.objs.size its) v (id b) as) its ds from er') (by rw [List.map_id]; exact hal)
    rw [List.map_id] at h1
    obtain ⟨ys, v1, v2⟩ := vals_each h1
    obtain ⟨ep', he⟩ := PyProof.Rows.sortedHeap_at (out := (PySem.W.sortVals (PySem.W.dataKind (PySem.W.sortingHeap (h'.push (PyProof.Rows.seqObj "list" its.toArray 0)) h'.objs.size its) ds) false its its).toArray) hoL
    have hy : ys.length ≤ sizeLine := by
      rw [v2.length, List.length_mergeSort]; exact line6 l2
    refine ⟨.ref _, upd H h'.objs.size (.lst ys), I1.laid (t' := tk) (fun b u e => ?_) (Nat.le_refl _) ⟨hy, _, ep', v1, he⟩, rfl, q ys _ (I1.hok.fresh (Nat.le_refl _)) (by rw [sortP_eq]; exact v2)⟩
    have hb : b < h'.objs.size := Heap.lt_size e
    rw [PyProof.Rows.sortedHeap_old (Nat.ne_of_lt hb) (by rw [PyProof.Rows.size_push']; exact Nat.lt_succ_of_lt hb)]
    exact Heap.get?_push_of_some _ e
  · obtain ⟨rfl, hq⟩ := hf
    exact ⟨_, rfl, wpAny_pure ⟨_, rfl, hq⟩⟩
/-- the keys' data, all of them keys -/
def gSortedD : GL := fun ds S => match ds with
  | [d] => (match dctOf d S with
    | some kvs => if (!kvs.isEmpty && (kvs.all fun p => (tk p.1).isSome) && srtOk (kvs.map (·.1))) = true then .ok (sortP (kvs.map (·.1))) S else .stuck
    | none => .stuck)
  | _ => .stuck
theorem imp_srtD {K : PySem.W.Frag} : ImpCL K E (rSrtD K) gSortedD := by
  intro U U0 S H H0 vs ds Q st s rv w
  unfold gSortedD at w
  split at w
  · next d =>
    obtain ⟨v, rfl, r1⟩ := rel1 rv
    split at w
    · next kvs hd =>
      split at w
      · next ok =>
        simp only [Bool.and_eq_true] at ok
        obtain ⟨⟨o0, o1⟩, o2⟩ := ok
        obtain ⟨a, rfl, h⟩ := dct_rel s r1 hd
        rcases h with ⟨ks, ds, rd, t, e⟩ | ⟨xs, vs, ds, ho, hv, t, hks, e⟩
        · exfalso
          subst e
          cases ks with
          | nil => cases o0
          | cons q ks =>
            cases t with
            | cons _ _ =>
              rw [List.map_cons, List.zip_cons_cons, List.all_cons, tk_keyP] at o1
              cases o1
        · have hl1 := vals_len hv
          rw [List.length_map] at hl1
          have hl2 := t.length
          have hm : kvs.map (·.1) = xs.map fun x => x.1.data := by
            rw [e, List.map_fst_zip (by rw [List.length_map]; omega)]
          rw [hm] at o2 w
          exact ⟨a, xs, U.F, rfl, ho, s.fz, hks, o2, fun ys p hp ry => layL st s ry hp w⟩
      · exact False.elim w
    · exact False.elim w
  · exact False.elim w
/-- len(d) -/
def rLenD (K : PySem.W.Frag) : List V → Hp → VK → Prop := fun vs H Q => ∃ a n, vs = [V.ref a] ∧ ((∃ kvs, isK H a kvs ∧ n = kvs.length) ∨ ∃ xs, isN K H a xs ∧ n = xs.length) ∧ Q (.int (n : Nat)) H
theorem cr_lenD : CallR X (.builtin "len") (rLenD X.K) := by
  intro pins s σ H vs us Q I r h
  obtain ⟨a, n, rfl, h, q⟩ := h
  rw [Vals.ref1 r]
  rcases h with ⟨kvs, h, rfl⟩ | ⟨xs, h, rfl⟩
  · obtain ⟨z, hd, vs, rel, dd⟩ := h.of I
    refine call_len_dict hd dd (by rw [← rel.length]; rw [sizeLine_eq] at z; omega) ?_
    rw [← rel.length]
    exact ⟨.int kvs.length, H, I.tok _, ⟨_, rfl⟩, q⟩
  · obtain ⟨z, hd, _, dd⟩ := h.of I
    refine call_len_dictH hd dd (by rw [sizeLine_eq] at z; omega) ?_
    exact ⟨.int xs.length, H, I.tok _, ⟨_, rfl⟩, q⟩
def gLenD : GC := fun ds S => match ds with
  | [d] => (match dctOf d S with
    | some kvs => if (kvs.all fun p => (tk p.1).isSome || (pk p.1).isSome) = true then .ok (.p (.int kvs.length)) S else .stuck
    | none => .stuck)
  | _ => .stuck
theorem imp_lenD {K : PySem.W.Frag} : ImpC K E (rLenD K) gLenD := by
  intro U S H vs ds Q s rv w
  unfold gLenD at w
  split at w
  · next d =>
    obtain ⟨v, rfl, r1⟩ := rel1 rv
    split at w
    · next kvs hd =>
      split at w
      · next ok =>
        obtain ⟨a, rfl, h⟩ := dct_rel s r1 hd
        rcases h with ⟨ks, ds, rd, t, e⟩ | ⟨xs, vs, ds, ho, hv, t, hks, e⟩
        · have hl := t.length
          rw [List.length_map] at hl
          have he : kvs.length = ks.length := by rw [e, List.length_zip, List.length_map]; omega
          rw [he] at w
          exact ⟨a, _, rfl, .inl ⟨ks, .inl rd, rfl⟩, (w.ok s) _ (.int _)⟩
        · have hl1 := vals_len hv
          rw [List.length_map] at hl1
          have hl2 := t.length
          have he : kvs.length = xs.length := by rw [e, List.length_zip, List.length_map]; omega
          rw [he] at w
          refine ⟨a, _, rfl, .inr ⟨xs, .inl ⟨ho, fun x hx => ?_⟩, rfl⟩, (w.ok s) _ (.int _)⟩
          have r := rp_mem hks x hx
          refine Rp.dp s.fz r ?_
          have hz : (x.1.data) ∈ ((xs.map fun x => x.1.data).zip ds).map (·.1) := by
            rw [List.map_fst_zip (by rw [List.length_map]; omega)]
            exact List.mem_map.mpr ⟨x, hx, rfl⟩
          rw [← e] at hz
          obtain ⟨p, hp, e'⟩ := List.mem_map.mp hz
          have := List.all_eq_true.mp ok p hp
          rw [e', Bool.or_eq_true] at this
          rcases this with this | this
          · obtain ⟨k', hk'⟩ := Option.isSome_iff_exists.mp this
            exact nk_can _ (tk_nk hk').1
          · exfalso
            generalize x.1.data = z at r this
            cases r <;> cases this
      · exact False.elim w
    · exact False.elim w
  · exact False.elim w
end
/-! d.get(k, x) -/
section
variable {X : Cx} {pins : List (Addr × Obj)} {σ : L2.St} {H : Hp} {s : Shared} {a : Addr} {y d : V} {u r : Value} {o : Option V} {A : Around} {E' : Value → Shared → Prop}
theorem g_get2 {Q : Value → Shared → Prop} (hu : A.units + 65 < cLine) (I : Inv X pins σ H s) (g : DGt X.K H a y o) (ry : RelV y u) (rd : RelV d r) (h : ∀ w' s', Inv X pins σ H s' → RelV (o.getD d) w' → Q w' s') :
    wpAny (model X.prog X.w) A (call (.builtin "dict.get") [.ref a, u, r]) Q E' s := by
  rcases g with ⟨kvs, k, e, ey, l⟩ | ⟨xs, vs, z, k, e, hv, hd, hk, l⟩
  · subst ey
    obtain ⟨z, hd, vs, rel, dd⟩ := e.of I
    refine call_meetsIn PySem.F.slot_dict_get dd.typeIs PySem.F.entry_dict_get (PySem.F.args_dict_get_3 _ _ _) (meets_dict_get_default (mixKind X.prog X.w) a (kV_is ry) hd r) ⟨_, dd.mapOf, h _ _ (I.tok _) ?_⟩
    rw [l]
    exact (rel.val k).getD rd
  · obtain ⟨_, hs, hn, dd⟩ := e.of I
    obtain ⟨b, rfl, _, hb⟩ := key_at I hd hk ry
    refine call_meetsIn PySem.F.slot_dict_get dd.typeIs PySem.F.entry_dict_get (PySem.F.args_dict_get_3 _ _ _) (meetsH_dict_get_default (nestedKind X.prog X.w) a b hs r) ⟨room9 hu, k, xs, hb, dd, h _ _ (I.tok _) ?_⟩
    rw [l]
    exact (val_zip hv).getD rd
end
def tDG2 (K : PySem.W.Frag) (td ty tx : TE) : TE := fun σ H Q => td σ H fun x H1 => ∃ a, x = .ref a ∧ isDA H1 a ∧ ty σ H1 fun y H2 => tx σ H2 fun z H3 => ∃ o, DGt K H3 a y o ∧ Q (o.getD z) H3
def isDct (d : D) (S : Sto) : Bool := (dctOf d S).isSome
def mDGet2 (mo mk mx : ME) : ME := fun ρ S => (mo ρ S).bind fun d S1 => if isDct d S1 = true then (mk ρ S1).bind fun e S2 => (mx ρ S2).bind fun f S3 => match dctOf d S3, e, f with
  | some kvs, .p k, .p x => if kOk kvs k = true then .ok (.p ((lookP kvs k).getD x)) S3 else .stuck
  | _, _, _ => .stuck
  else .stuck
section
variable {X : Cx} {E : EX} {o e f : Expr} {apos cpos : Pos} {mo mk mx : ME} {td ty tx : TE}
theorem pe_dg2 (hu : X.A.units + 65 < cLine) (ho : PE X o td) (he : PE X e ty) (hf : PE X f tx) (m : M2 X o "get" apos e f cpos) : PE X (.Call (.Attribute o "get" apos) [e, f] [] cpos) (tDG2 X.K td ty tx) := by
  refine ⟨fun pins s σ H Q I h => ?_⟩
  refine wpAny_Call_method m.base m.few m.line PySem.F.plainAttrs_dict PySem.F.slot_dict_get PySem.F.type_dict_get (thn (ho.run pins s σ H _ I h) fun u s1 ⟨x, H1, I1, rx, a, ex, d, q1⟩ => ?_)
  subst ex
  obtain rfl : u = Value.ref a := rx
  obtain ⟨t1, t2, _⟩ := isDA_at I1 d
  refine ⟨t1, t2, ?_⟩
  rw [m.trees]
  refine Calls.callWith_builtin rfl (Calls.evalArgs_plain (Calls.spliced_cons (thn (he.run pins s1 σ H1 _ I1 q1) fun iv s2 ⟨y, H2, I2, ry, q2⟩ =>
    Calls.spliced_cons (thn (hf.run pins s2 σ H2 _ I2 q2) fun fv s3 ⟨z, H3, I3, rz, ov, g, q3⟩ => Calls.spliced_nil ?_))))
  exact g_get2 hu I3 g ry rz fun w' s4 I4 rw' => ⟨_, H3, I4, rw', q3⟩
theorem dct_is {K : PySem.W.Frag} {U : Wd} {S : Sto} {H : Hp} {d : D} {v : V} (s : Sat K U S H) (r : RelD K U d v) (h : isDct d S = true) : ∃ a, v = .ref a ∧ isDA H a := by
  obtain ⟨kvs, hk⟩ := Option.isSome_iff_exists.mp h
  obtain ⟨a, rfl, h⟩ := dct_rel s r hk
  rcases h with ⟨ks, _, rd, _⟩ | ⟨xs, _, _, ho, _⟩
  · exact ⟨a, rfl, .inl ⟨ks, rd⟩⟩
  · exact ⟨a, rfl, .inr ⟨xs, ho⟩⟩
theorem ie_dget2 (hu : X.A.units + 65 < cLine) (ho : IE X E o mo) (he : IE X E e mk) (hf : IE X E f mx)
    (hbase : attributeBase o "get" X.env (eval o X.env) = eval o X.env := by rfl)
    (hfew : ((backTo cpos (starEach [e, f] X.env)).all (fun x => !x.1) && (backToKw cpos (keywordEach [] X.env)).all (fun x => x.1.isSome)
      && decide (([e, f] : List Expr).length + ([] : List Keyword).length + (if ([] : List Keyword).isEmpty then 0 else 1) < 30)) = true := by rfl)
    (hline : (apos.endLine == cpos.line) = true := by rfl) (htr : backTo cpos (starEach [e, f] X.env) = [(false, eval e X.env), (false, eval f X.env)] := by rfl) :
    IE X E (.Call (.Attribute o "get" apos) [e, f] [] cpos) (mDGet2 mo mk mx) := by
  obtain ⟨t1, p1, i1⟩ := ho
  obtain ⟨t2, p2, i2⟩ := he
  obtain ⟨t3, p3, i3⟩ := hf
  refine ⟨_, pe_dg2 hu p1 p2 p3 ⟨hbase, hfew, hline, htr⟩, fun U S H σ ρ Q s rl w => i1 U S H σ ρ _ s rl (w.bind.mono fun U1 S1 H1 d st1 s1 w1 v rv => ?_)⟩
  split at w1
  · next hd =>
    obtain ⟨a, rfl, hda⟩ := dct_is s1 rv hd
    refine ⟨a, rfl, hda, i2 U1 S1 H1 σ ρ _ s1 (rl.step st1) (w1.bind.mono fun U2 S2 H2 d2 st2 s2 w2 v2 r2 => i3 U2 S2 H2 σ ρ _ s2 ((rl.step st1).step st2) (w2.bind.mono fun U3 S3 H3 d3 st3 s3 w3 v3 r3 => ?_))⟩
    split at w3
    · next kvs k x hk =>
      split at w3
      · next ok =>
        obtain ⟨a', o', ea, g, l1, l2⟩ := dgt_of s3 ((rv.step st2).step st3) hk (r2.step st3) ok
        cases ea
        refine ⟨o', g, (w3.ok s3) _ ?_⟩
        cases hl : lookP kvs k with
        | none => rw [l2 hl]; exact r3
        | some z =>
          obtain ⟨v', rfl, rz⟩ := l1 z hl
          exact rz
      · exact False.elim w3
    · exact False.elim w3
  · exact False.elim w1
end
end G


namespace G
open PySem L2
def noLists (K : PySem.W.Frag) : Bool := K.all fun p => !(p.2.cls == Value.type "list")
theorem no_list {K : PySem.W.Frag} (h : noLists K = true) {a : Addr} {o : Obj} (e : K.lookup a = some o) : o.cls ≠ .type "list" := by
  intro q
  have m : (a, o) ∈ K := by
    clear h
    induction K with
    | nil => cases e
    | cons p r ih =>
      obtain ⟨b, x⟩ := p
      simp only [List.lookup] at e
      split at e
      · rename_i z
        cases e
        rw [beq_iff_eq.mp z]
        exact List.mem_cons_self ..
      · exact List.mem_cons_of_mem _ (ih e)
  have z := List.all_eq_true.mp h _ m
  rw [q] at z
  simp at z
theorem rd_of {K : PySem.W.Frag} (h : noLists K = true) {H : Hp} {a : Addr} {xs : List V} (q : SqL K H a xs) : Rd H a (.lst xs) := by
  rcases q with q | ⟨o, _, _, e, c, _⟩
  · exact q
  · exact absurd c (no_list h e)
theorem defAt_mk {K : PySem.W.Frag} {h : Heap} {mg : Str → Option Value} {x nm : Str} {ps : List Str} {st : Stmt} {f : Addr} {oc kV dc pm cd ct : Value} {od an : Option Addr} {sl : Array (Option Value)} (X : K.In h) (G : h.Ns mainGlobals mg)
    (a : PySem.W.nsIn K mainGlobals x = some (some (.ref f))) (l : K.lookup f = some ⟨oc, od, .func (PySem.W.fnOf nm nm (defArgs st) (defBody st) (defScope st) .none kV dc pm an cd ct), sl⟩)
    (c : PySem.W.codeIn K cd nm = true) (k : PySem.W.keepIn K (.ref f) = true)
    (hb : ∀ (kV doc pm : Value) (an : Option Addr) (cdv ct : Value) (us : List Value), us.length = ps.length → bindArgs (PySem.W.fnOf nm nm (defArgs st) (defBody st) (defScope st) .none kV doc pm an cdv ct) ⟨us, []⟩ = pure (ps.zip us)) : DefAt K mg x nm ps st :=
  ⟨f, _, fun_mk l c k, PySem.W.mg_of X G a, (fun_mk l c k).binds hb⟩
theorem law_key {K : PySem.W.Frag} {h : Heap} {mg : Str → Option Value} {st : Stmt} {f fa : Addr} {oc kV dc pm cd ct : Value} {od an : Option Addr} {sl : Array (Option Value)} (X : K.In h) (G : h.Ns mainGlobals mg) (hm : mg "law" = some (.ref fa))
    (a : PySem.W.nsIn K mainGlobals "law" = some (some (.ref f))) (l : K.lookup f = some ⟨oc, od, .func (PySem.W.fnOf "law" "law" (defArgs st) (defBody st) (defScope st) .none kV dc pm an cd ct), sl⟩)
    (c : PySem.W.codeIn K cd "law" = true) (k : PySem.W.keepIn K (.ref f) = true) :
    ∃ (oc kV dc pm cd ct : Value) (od an : Option Addr) (sl : Array (Option Value)), K = K ∧ K.lookup fa = some ⟨oc, od, .func (PySem.W.fnOf "law" "law" (defArgs st) (defBody st) (defScope st) .none kV dc pm an cd ct), sl⟩ ∧ PySem.W.codeIn K cd "law" = true ∧ PySem.W.keepIn K (.ref fa) = true := by
  have e := hm.symm.trans (PySem.W.mg_of X G a)
  cases e
  exact ⟨oc, kV, dc, pm, cd, ct, od, an, sl, rfl, l, c, k⟩
def spLaw : Sp := fun vs H Q _ => ∃ (a : Addr) (ns : List Int), vs = [.ref a] ∧ Rd H a (.lst (ns.map V.int)) ∧ ns.length ≤ 63 ∧ ∀ H', Q (.bl true) H'
theorem rp_ints {K : PySem.W.Frag} {F : Hp} : ∀ ns : List Int, RpAll K F (ns.map V.int) (ns.map PyData.int)
  | [] => .nil
  | n :: ns => .cons (.int n) (rp_ints ns)
theorem law_end {P : Program} {w : World} {K : PySem.W.Frag} {mg : Str → Option Value} {base : Heap} {k : Nat} {f : Addr} {fd : FuncData} {ps : List Str} {cl : Nat → Value} {fn : Fn} (F : FnOk P w K mg base CX0 k f fd ps (spF K cl 1 fn))
    (hl : ∀ ns : List Int, ns.length ≤ 63 → ∃ S, fn [.p (.list (ns.map PyData.int))] [] = .ok (.p (.bool true)) S) : FnOk P w K mg base CX0 k f fd ps spLaw :=
  F.imp fun vs H Q E h => by
    obtain ⟨a, ns, rfl, hr, hn, q⟩ := h
    obtain ⟨S, e⟩ := hl ns hn
    refine ⟨rfl, ⟨fun b => if b = a then H a else none, fun _ => none⟩, [], [.p (.list (ns.map PyData.int))], ⟨fun b o h => ?_, fun l a h => (nomatch h), fun l h => absurd h (Nat.not_lt_zero _), fun l l' a h => (nomatch h), fun l a b h => (nomatch h), fun l a h => (nomatch h), fun l b h => by simp at h⟩, .cons (.lst ?_ (rp_ints ns)) .nil, ?_⟩
    · have h' : (if b = a then H a else none) = some o := h
      by_cases e : b = a
      · rw [if_pos e] at h'; rw [e]; exact .inl h'
      · rw [if_neg e] at h'; cases h'
    · rcases hr with hr | ⟨o, hr⟩
      · exact .inl (by show (if a = a then H a else none) = _; rw [if_pos rfl]; exact hr)
      · exact .inr ⟨o, by show (if a = a then H a else none) = _; rw [if_pos rfl]; exact hr⟩
    · rw [e]
      intro U' H' _ _ v rv
      cases rv
      exact q H'
theorem walk_end {l : PySem.W.OpenLaw} {k : Nat} {q : Program} {loose : List Str} {XP : (Str → Option Value) → Heap → Prop} {YP : World → Heap → Prop} {d : DefRec} {K : Params → PySem.W.Frag} {x : Str} (hn : l.most = some 63) (hdf : d.params.defaults = []) (hr : Room k callerA) (hK : ∀ w : World, noLists (K w.params) = true)
    (hY : ∀ (w : World) (h : Heap), YP w h → (K w.params).In h)
    (F : ∀ (w : World) (mg : Str → Option Value) (fa : Addr) (h : Heap), (K w.params).In h → h.Ns mainGlobals mg → mg d.name = some (.ref fa) →
      ∃ fd : FuncData, (∀ (s : Shared) (u : Value), BindsTo s fd ⟨[u], []⟩ [(x, u)]) ∧ ∀ base : Heap, (K w.params).In base → base.Ns mainGlobals mg → FnOk l.prog w (K w.params) mg base CX0 k fa fd [x] spLaw) :
    PySem.W.WalkO q loose XP YP l.row.toRowW d [] (fun f vs => PySem.call f vs) :=
  L2.walk_of (n := 63) (k := k) (x := x) (CX := fun _ => CX0) (sp := fun _ => spLaw) hn (by decide) hdf hr hY F (fun w _ a ns hl _ hS => ⟨a, ns, rfl, rd_of (hK w) hS, hl, fun _ => rfl⟩) fun _ _ _ _ _ z => z
end G


namespace G
open PySem L2

/-! ### range(a, b, -1) -/
def rangeD (lo : Int) : Nat → List PyData
  | 0 => []
  | n + 1 => .int lo :: rangeD (lo - 1) n
theorem rangeD_length (n : Nat) : ∀ lo : Int, (rangeD lo n).length = n := by
  induction n with
  | zero => intro; rfl
  | succ n ih => intro lo; rw [rangeD, List.length_cons, ih]
theorem rangeD_get (n : Nat) : ∀ (lo : Int) (i : Nat), (rangeD lo n)[i]? = if i < n then some (.int (lo - i)) else none := by
  induction n with
  | zero => intro lo i; rfl
  | succ n ih =>
    intro lo i
    cases i with
    | zero => rw [if_pos (by omega)]; show some (PyData.int lo) = _; congr 2; simp
    | succ i =>
      rw [rangeD, List.getElem?_cons_succ, ih]
      by_cases h : i < n
      · rw [if_pos h, if_pos (by omega)]; congr 2; omega
      · rw [if_neg h, if_neg (by omega)]
theorem runsD {K : PySem.W.Frag} {U : Wd} {H : Hp} {lo : Int} {n : Nat} : Runs K U H (Itc lo (-1) n) (rangeD lo n) := by
  intro U' S' H' i st s'
  refine ⟨fun hl => by rw [rangeD_length] at hl; exact Nat.le_of_eq hl.symm, fun x hx => ?_⟩
  rw [rangeD_get] at hx
  by_cases h : i < n
  · rw [if_pos h] at hx; cases hx
    refine ⟨h, fun v H'' y => ?_⟩
    obtain ⟨rfl, rfl⟩ := y
    refine ⟨U', Step.refl _ _, s', ?_⟩
    have e : lo + (i : Nat) * (-1 : Int) = lo - i := by omega
    rw [e]
    exact .int _
  · rw [if_neg h] at hx; cases hx
def mRng3 (n : MA) : MI := fun ρ S => (n ρ S).bind fun ds S1 => match ds with
  | [.p (.int i), .p (.int j), .p (.int c)] => if (inB i && inB j && decide (c = -1)) = true then .ok (rangeD i (i - j).toNat) S1 else .stuck
  | _ => .stuck
section
variable {X : Cx} {E : EX} {pos : Pos}
theorem ii_rng3 {tg a b c : Expr} {p pos : Pos} {n : MA} (hg : Gl X "range") (hm : X.mg "range" = none) (ha : IA X E [a, b, c] n) (hs : starEach [a, b, c] X.env = (false, eval a X.env) :: starEach [b, c] X.env := by rfl)
    (hs2 : (backTo pos (starEach [b, c] X.env)).any (·.1) = false := by rfl) : II X E tg (.Call (.Name "range" p) [a, b, c] [] pos) (mRng3 n) := by
  obtain ⟨⟨t, p, i⟩, _⟩ := ha
  refine ⟨_, pi_range3 hg hm p hs hs2, fun U S H σ ρ R s rl w => i U S H σ ρ _ s rl (w.bind.mono fun U1 S1 H1 ds st1 s1 w1 vs rv => ?_)⟩
  split at w1
  · next j k c =>
    split at w1
    · next hj =>
      obtain ⟨v, u, z, rfl, r, r', r''⟩ := rel3 rv
      cases r; cases r'; cases r''
      rw [Bool.and_eq_true, Bool.and_eq_true, decide_eq_true_eq] at hj
      obtain ⟨⟨h1, h2⟩, rfl⟩ := hj
      exact ⟨j, k, -1, _, rfl, RgC.neg (inB_of h1).1 (inB_of h1).2 (inB_of h2).1 (inB_of h2).2, (Wants.ok w1 s1) _ runsD⟩
    · exact False.elim w1
  · exact False.elim w1
end

/-! ### a[i] += e of a list of ints -/
section
variable {X : Cx} {E : EX} {pos : Pos} {o i e : Expr} {mo mi ma : ME}
theorem get_lst : PGet X (rIxL X.K) := by
  intro pins s σ H x y v u Q I rx ry h
  obtain ⟨l, ws, k, z, rfl, rfl, hl, hat, q⟩ := h
  cases rx
  obtain ⟨t, rfl⟩ := ry
  obtain ⟨us, rs, pl, _⟩ := I.list hl
  obtain ⟨j, g1, g2, _, g4, g5⟩ := atI_get hat
  obtain ⟨c, hc, rc⟩ := rs.get g2
  have ln := rs.length
  have l63 := line63
  have fin : EP X pins σ Q c s := ⟨z, H, I, rc, q⟩
  by_cases hk : 0 ≤ k
  · rw [seqIndex_of hk g5] at g1
    have e : k.toNat = j := Option.some.inj g1
    exact wpAny_getItem_list pl.isList hk (by omega) (by rw [e]; simpa using hc) fin
  · rw [seqIndex_neg (by omega) g4] at g1
    have e : (k + (us.toArray.size : Int)).toNat = j := by rw [List.size_toArray, ← ln]; exact Option.some.inj g1
    exact wpAny_getItem_list_neg pl.isList (by omega) (by simp; omega) (by omega) (by rw [e]; simpa using hc) fin
def mAugS (mo mi ma : ME) : MS := fun ρ S => (mo ρ S).bind fun d S1 => (mi ρ S1).bind fun ix S2 => if isLst d S2 = true then (gIx d ix S2).bind fun x S3 => (ma ρ S3).bind fun y S4 => (i2 cTrue (fun i j => .int (i + j)) x y S4).bind fun z S5 => (gSet d ix z S5).bind fun _ S6 => .ok (.nx, ρ) S6 else .stuck
theorem imp_ixl {K : PySem.W.Frag} {U : Wd} {S : Sto} {H : Hp} {x y : V} {d e : D} {Q : VK} (s : Sat K U S H) (rx : RelD K U d x) (ry : RelD K U e y) (hl : isLst d S = true) (w : Wants K E U H (gIx d e S) (KD K Q)) : rIxL K x y H Q := by
  unfold isLst at hl
  split at hl
  · next xs hs =>
    rcases imp_ix U S H x y d e Q s rx ry w with q | q
    · exact q
    · obtain ⟨a, vs, rfl, q1, q2⟩ := seq_rel s rx hs
      unfold gIx at w
      split at w
      · next i =>
        rw [hs] at w
        cases ry
        have w' : Wants K E U H (match atI xs i with
          | some x => .ok (.p x) S
          | none => .stuck) (KD K Q) := w
        split at w'
        · next x hz =>
          obtain ⟨z, hz1, hz2⟩ := atI_rel q2 hz
          exact ⟨a, vs, i, z, rfl, rfl, .inl q1, hz1, (Wants.ok w' s) z hz2⟩
        · exact False.elim w'
      · exact False.elim w
  · cases hl
theorem is_augS {tpos : Pos} (ho : IE X E o mo) (hi : IE X E i mi) (he : IE X E e ma) (ha : ∀ ov iv new, augStore i ov iv new = (do holding [new, ov, iv] (setItem ov iv new); release [new, ov, iv] []; pure .next) := by intros; rfl) : IS X E (.AugAssign (.Subscript o i tpos) .Add e pos) (mAugS mo mi ma) := by
  obtain ⟨t1, p1, i1⟩ := ho
  obtain ⟨t2, p2, i2'⟩ := hi
  obtain ⟨t3, p3, i3⟩ := he
  refine ⟨_, ps_augS p1 p2 get_lst p3 ip_add set_list ha, fun U S H σ ρ N s rl w => i1 U S H σ ρ _ s rl (w.bind.mono fun U1 S1 H1 d st1 s1 w1 v rv => i2' U1 S1 H1 σ ρ _ s1 (rl.step st1) (w1.bind.mono fun U2 S2 H2 ix st2 s2 w2 u ru => ?_))⟩
  split at w2
  · next hl =>
    refine imp_ixl s2 (rv.step st2) ru hl (w2.bind.mono fun U3 S3 H3 x st3 s3 w3 xv rx => i3 U3 S3 H3 σ ρ _ s3 (((rl.step st1).step st2).step st3) (w3.bind.mono fun U4 S4 H4 y st4 s4 w4 yv ry => ?_))
    unfold i2 at w4
    split at w4
    · next a b =>
      cases ry
      have rx' := rx.step st4
      cases rx'
      refine ⟨a, b, rfl, rfl, ?_⟩
      have w5 : Wants X.K E U4 H4 ((gSet d ix (.p (.int (a + b))) S4).bind fun _ S6 => .ok (.nx, ρ) S6) (KS X.K N) := w4
      exact imp_set U4 S4 H4 v u (.int (a + b)) d ix (.p (.int (a + b))) _ s4 (((rv.step st2).step st3).step st4) ((ru.step st3).step st4) (.int _) (w5.bind.mono fun U6 S6 H6 _ st6 s6 w6 => (w6.ok s6) σ (((((rl.step st1).step st2).step st3).step st4).step st6))
    · exact False.elim w4
  · exact False.elim w2
end

/-! ### for k in d, d a dict with keys of ints and texts -/
theorem Sat.lock {K : PySem.W.Frag} {U : Wd} {S : Sto} {H : Hp} {a : Addr} {ks : List (Key × V)} {od : Obj} (s : Sat K U S H) (hF : U.F a = some (.dK ks)) (hH : H a = some (.dK ks)) : Sat K U S (upd H a (.frz od (.dK ks))) := by
  refine ⟨fun b u h => ?_, s.dom, s.tot, s.inj, fun l b c h q => ?_, fun l b h => ?_, s.rf⟩
  · by_cases e : b = a
    · subst e
      rw [hF] at h; cases h
      exact .inr ⟨od, upd_same, rfl⟩
    · rw [upd_ne e]; exact s.fz b u h
  · obtain ⟨z1, u, z2, z3⟩ := s.ob l b c h q
    have ne : b ≠ a := fun e => by rw [e, hF] at z1; cases z1
    exact ⟨z1, u, by rw [upd_ne ne]; exact z2, z3⟩
  · by_cases e : b = a
    · subst e; exact ⟨_, upd_same⟩
    · rw [upd_ne e]; exact s.hs l b h
theorem Sat.unlock {K : PySem.W.Frag} {U : Wd} {S : Sto} {H : Hp} {a : Addr} {ks : List (Key × V)} (s : Sat K U S H) (hF : U.F a = some (.dK ks)) : Sat K U S (upd H a (.dK ks)) := by
  refine ⟨fun b u h => ?_, s.dom, s.tot, s.inj, fun l b c h q => ?_, fun l b h => ?_, s.rf⟩
  · by_cases e : b = a
    · subst e
      rw [hF] at h; cases h
      exact .inl upd_same
    · rw [upd_ne e]; exact s.fz b u h
  · obtain ⟨z1, u, z2, z3⟩ := s.ob l b c h q
    have ne : b ≠ a := fun e => by rw [e, hF] at z1; cases z1
    exact ⟨z1, u, by rw [upd_ne ne]; exact z2, z3⟩
  · by_cases e : b = a
    · subst e; exact ⟨_, upd_same⟩
    · rw [upd_ne e]; exact s.hs l b h
theorem Step.unlock {U U' : Wd} {H H' : Hp} {a : Addr} {u u' : HO} (t : Step U (upd H a u') U' H') (hH : H a = some u) : Step U H U' (upd H' a u) where
  ef := t.ef
  ei := t.ei
  fr := fun b o h n => by
    by_cases e : b = a
    · subst e; rw [hH] at h; cases h; exact upd_same
    · rw [upd_ne e]; exact t.fr b o (by rw [upd_ne e]; exact h) n
  ni := fun l b h => by
    rcases t.ni l b h with q | q
    · exact .inl q
    · refine .inr ?_
      by_cases e : b = a
      · subst e; rw [upd_same] at q; cases q
      · rw [upd_ne e] at q; exact q
  nf := fun b o h => by
    rcases t.nf b o h with q | q | q
    · exact .inl q
    · refine .inr (.inl ?_)
      by_cases e : b = a
      · subst e; rw [upd_same] at q; cases q
      · rw [upd_ne e] at q; exact q
    · exact .inr (.inr q)
  dm := fun b o h => by
    by_cases e : b = a
    · subst e; exact ⟨u, upd_same⟩
    · obtain ⟨o', q⟩ := t.dm b o (by rw [upd_ne e]; exact h)
      exact ⟨o', by rw [upd_ne e]; exact q⟩
  ff := fun b o o' f h => by
    by_cases e : b = a
    · subst e; rw [hH] at h; cases h; exact upd_same
    · rw [upd_ne e]; exact t.ff b o o' f (by rw [upd_ne e]; exact h)
section
variable {X : Cx} {E : EX} {pos : Pos}
theorem ps_or2 {st : Stmt} {t u : TS} (h : PS X st t) (k : PS X st u) : PS X st (fun D σ H => t D σ H ∨ u D σ H) := ⟨fun pins s σ H D I q => q.elim (h.run pins s σ H D I) (k.run pins s σ H D I)⟩
def keysI (kvs : List (PyData × PyData)) : Option (List PyData) := if kvs.all (fun p => (pk p.1).isSome) = true then some (kvs.map (·.1)) else none
theorem runsK {K : PySem.W.Frag} {U : Wd} {H : Hp} {a : Addr} {ks : List (Key × V)} {od : Obj} (hF : U.F a = some (.dK ks)) (hH : H a = some (.frz od (.dK ks))) : Runs K U H (Itk a od ks) (ks.map fun q => keyP q.1) := by
  intro U' S' H' i st s'
  have hk : H' a = some (.frz od (.dK ks)) := st.ff a _ _ hF hH
  refine ⟨fun hl => ⟨hk, by rw [List.length_map] at hl; exact Nat.le_of_eq hl.symm⟩, fun x hx => ?_⟩
  rw [List.getElem?_map] at hx
  obtain ⟨q, hq, rfl⟩ := Option.map_eq_some_iff.mp hx
  have hi := (List.getElem?_eq_some_iff.mp hq).1
  refine ⟨⟨hk, hi⟩, fun v H'' y => ?_⟩
  obtain ⟨rfl, k, z, e, rfl⟩ := y
  rw [hq] at e
  cases e
  refine ⟨U', Step.refl _ _, s', ?_⟩
  cases k with
  | inl i => exact .int i
  | inr x => exact .str x
end
end G


namespace G
open PySem L2
section
variable {X : Cx} {E : EX} {pos : Pos}
theorem rp_dK {K : PySem.W.Frag} {F : Hp} {v : V} {kvs : List (PyData × PyData)} {xs : List PyData} (r : Rp K F v (.dict kvs)) (h : keysI kvs = some xs) : ∃ a ks, v = .ref a ∧ F a = some (.dK ks) ∧ xs = ks.map fun q => keyP q.1 := by
  unfold keysI at h
  split at h
  · next ha =>
    cases h
    cases r with
    | @dK a ks ds hF hr =>
      refine ⟨a, ks, rfl, hF, ?_⟩
      have hl := hr.length
      rw [List.length_map] at hl
      rw [List.map_fst_zip (by rw [List.length_map]; omega)]
    | @dN a xs vs ds hF hv hr hk hne =>
      have hl : xs.length = ds.length := by
        have := hv.length
        rw [List.length_map] at this
        rw [← hr.length, this]
      refine absurd (zip_nil_of (f := fun x : NE => x.1.data) hl ha (fun x hx d => ?_)) hne
      have r := rp_mem hk x hx
      show (pk x.1.data).isSome = false
      generalize x.1.data = z at r
      cases r <;> rfl
  · cases h
theorem loop_ok {K : PySem.W.Frag} {J : It} {xs : List PyData} {u : TG} {z : TS} {g : MG} {b : MS} {ws : List Nat} {U : Wd} {S : Sto} {H : Hp} {σ : L2.St} {ρ : Loc} {N : Ends} (j : ImpG K E ws u g) (k : ImpS K E z b) (s : Sat K U S H) (rl : RelL K U ρ σ) (RJ : Runs K U H J xs)
    (w : Wants K E U H (mLoop g b xs ρ S) (KS K N)) : ∃ W : Nat → Nat → L2.St → Hp → Prop, (∃ m, W 0 m σ H) ∧ ∀ i m σ H, W i m σ H →
      (J.stop i H ∧ N.nx σ H) ∨ (J.go i H ∧ ∃ M : L2.St → Hp → Prop, (∀ σ' H', M σ' H' → ∃ m', m' < m ∧ W (i + 1) m' σ' H') ∧ ∀ x H', J.yld i H x H' → u x σ H' fun σ2 H2 => z { N with nx := M, ct := M, bk := N.nx } σ2 H2) := by
  refine ⟨fun n m σ' H' => m = xs.length - n ∧ n ≤ xs.length ∧ ∃ U' S' ρ', Step U H U' H' ∧ Sat K U' S' H' ∧ RelL K U' ρ' σ' ∧ Wants K E U' H' (mLoop g b (xs.drop n) ρ' S') (KS K N), ⟨xs.length, by simp, Nat.zero_le _, U, S, ρ, Step.refl _ _, s, rl, by rw [List.drop_zero]; exact w⟩, ?_⟩
  rintro n m σ' H' ⟨rfl, hn, U', S', ρ', st, s', rl', w'⟩
  obtain ⟨stop, go⟩ := RJ U' S' H' n st.p s'
  by_cases hlt : n < xs.length
  · have hx : xs[n]? = some xs[n] := by simp [hlt]
    obtain ⟨hgo, yl⟩ := go _ hx
    refine .inr ⟨hgo, fun σ3 H3 => ∃ U3 S3 ρ3, Step U H U3 H3 ∧ Sat K U3 S3 H3 ∧ RelL K U3 ρ3 σ3 ∧ Wants K E U3 H3 (mLoop g b (xs.drop (n + 1)) ρ3 S3) (KS K N), fun σ3 H3 h3 => ⟨xs.length - (n + 1), by omega, rfl, hlt, h3⟩, fun v H'' y => ?_⟩
    obtain ⟨U'', st2, s'', rv⟩ := yl v H'' y
    rw [drop_cons hx] at w'
    refine j U'' S' H'' σ' ρ' v (.p xs[n]) _ s'' (rl'.step st2) rv (Wants.mono (Wants.bind (Wants.step st2 w')) fun U3 S3 H3 ρ3 st3 s3 w3 σ3 rl3 _ => ?_)
    refine k U3 S3 H3 σ3 ρ3 _ s3 rl3 (w3.bind.mono fun U4 S4 H4 rr st4 s4 w4 σ4 rl4 => ?_)
    obtain ⟨f, ρ4⟩ := rr
    have all := ((st.trans st2).trans st3).trans st4
    cases f with
    | nx => exact ⟨U4, S4, ρ4, all, s4, rl4, w4⟩
    | ct => exact ⟨U4, S4, ρ4, all, s4, rl4, w4⟩
    | bk => exact (Wants.ok w4 s4) σ4 rl4
    | rt d => exact (Wants.ok w4 s4) σ4 rl4
  · have e : n = xs.length := by omega
    subst e
    rw [List.drop_length] at w'
    exact .inl ⟨stop rfl, (Wants.ok w' s') σ' rl'⟩
/-- for .. in x: x a dict that nobody changes -/
def mForK (k : Nat) (g : MG) (b : MS) : MS := fun ρ S => match ρ[k]? with
  | some (some (.p (.dict kvs))) => (match keysI kvs with
    | some xs => (mLoop g b xs ρ S).nox
    | none => .stuck)
  | _ => .stuck
theorem is_forK {x : Str} {p : Pos} {tg : Expr} {body : List Stmt} {g : MG} {b : MS} {ws : List Nat} {k : Nat} (hp : PassesOwn (model X.prog X.w) X.A X.env X.xe) (hc : X.calm = true) (hv : PE X (.Name x p) (tVar k)) (hg : IG X E ws tg g) (hb : ISs X E body b)
    (hs : ∀ z, foldedSetIterable (.Name x p) X.env z = pure z := by intro _; rfl) : IS X E (.For tg (.Name x p) body [] pos) (mForK k g b) := by
  obtain ⟨u, q, j⟩ := hg
  obtain ⟨z, r, kk⟩ := hb
  have P := ps_for hp hc (pi_keys hv) q r hs (pos := pos)
  refine ⟨_, ps_or2 P (ps_lock P), fun U S H σ ρ N s rl w => ?_⟩
  unfold mForK at w
  split at w
  · next kvs he =>
    split at w
    · next xs hx =>
      obtain ⟨v, hσ, rv⟩ := rl.get k _ he
      obtain ⟨a, ks, rfl, hF, rfl⟩ := rp_dK rv hx
      rcases s.fz a _ hF with hH | ⟨od, hH, _⟩
      · refine .inr ⟨a, _, hH, trivial, fun od => ⟨.ref a, hσ, a, od, rfl, .inl ⟨ks, upd_same, ?_⟩⟩⟩
        refine loop_ok j kk (s.lock hF hH) rl (runsK hF upd_same) ?_
        cases hl : mLoop g b (ks.map fun q => keyP q.1) ρ S with
        | stuck => rw [hl] at w; exact w
        | exc c S' => rw [hl] at w; exact False.elim w
        | ok r' S' =>
          rw [hl] at w
          intro U' H' st s' σ' rl'
          have hk : H' a = some (.frz od (.dK ks)) := st.ff a _ _ hF upd_same
          have w1 := w U' (upd H' a (.dK ks)) (st.unlock hH) (s'.unlock (st.ef _ _ hF)) σ' rl'
          obtain ⟨f, ρ'⟩ := r'
          cases f with
          | nx => exact ⟨hk, w1⟩
          | ct => exact ⟨hk, w1⟩
          | bk => exact ⟨hk, w1⟩
          | rt d => exact fun v rv => ⟨hk, w1 v rv⟩
      · exact .inl ⟨.ref a, hσ, a, od, rfl, .inl ⟨ks, hH, loop_ok j kk s rl (runsK hF hH) (Wants.nox w)⟩⟩
    · exact False.elim w
  · exact False.elim w

/-! ### a call with things that are only looked at; what is told is a truth -/
def peek (d : D) (S : Sto) : Option PyData := match d with
  | .p x => some x
  | .r l => match S[l]? with
    | some (some (.ins _ _)) => none
    | some (some (.tab _ _)) => none
    | some (some o) => some (thaw o)
    | _ => none
def peeks (S : Sto) : List D → Option (List PyData)
  | [] => some []
  | d :: ds => match peek d S, peeks S ds with
    | some x, some xs => some (x :: xs)
    | _, _ => none
def mCallB (fn : Fn) (n : MA) : ME := fun ρ S => (n ρ S).bind fun ds S1 => match peeks S1 ds with
  | some xs => (match fn (xs.map .p) [] with
    | .ok (.p (.bool b)) _ => .ok (.p (.bool b)) S1
    | _ => .stuck)
  | none => .stuck
open Classical in
/-- for a while nothing is changed -/
noncomputable def Wd.still (U : Wd) (S : Sto) (H : Hp) : Wd := ⟨fun a => match U.F a with
  | some o => some o
  | none => if (∃ (l : Nat) (b : Ob), U.io l = some a ∧ S[l]? = some (some b)) then H a else none, fun _ => none⟩
theorem still_sub {U : Wd} {S : Sto} {H : Hp} : Sub U.F (U.still S H).F := fun a o h => by
  show (match U.F a with | some o => some o | none => _) = some o
  rw [h]
theorem still_none {U : Wd} {S : Sto} {H : Hp} {l : Nat} {a : Addr} (h : (U.still S H).io l = some a) : False := by
  have h' : (none : Option Addr) = some a := h
  cases h'
open Classical in
theorem still_sat {K : PySem.W.Frag} {U : Wd} {S : Sto} {H : Hp} (s : Sat K U S H) : Sat K (U.still S H) [] H where
  fz := fun a o h => by
    have h' : (match U.F a with
      | some o => some o
      | none => if (∃ (l : Nat) (b : Ob), U.io l = some a ∧ S[l]? = some (some b)) then H a else none) = some o := h
    split at h'
    · next o' e => cases h'; exact s.fz a _ e
    · split at h'
      · exact .inl h'
      · cases h'
  dom := fun l a h => (still_none h).elim
  tot := fun l h => absurd h (Nat.not_lt_zero _)
  inj := fun l l' a h _ => (still_none h).elim
  ob := fun l a b h _ => (still_none h).elim
  hs := fun l a h => (still_none h).elim
  rf := fun l b h => by simp at h
open Classical in
theorem still_rel {K : PySem.W.Frag} {U : Wd} {S : Sto} {H : Hp} (s : Sat K U S H) {d : D} {v : V} {x : PyData} (r : RelD K U d v) (h : peek d S = some x) : Rp K (U.still S H).F v x := by
  cases d with
  | p y => cases h; exact Rp.sub still_sub r
  | r l =>
    obtain ⟨a, ha, rfl⟩ := r
    unfold peek at h
    simp only at h
    split at h
    · cases h
    · cases h
    · next b hnb hnb2 hb =>
      cases h
      obtain ⟨hF, o, hH, hO⟩ := s.ob l a b ha hb
      refine Rp.sub (fun c u e => ?_) (ob_rp hO hF (fun C fs e => hnb C fs (by rw [e])) (fun P q e => hnb2 P q (by rw [e])))
      by_cases hc : c = a
      · subst hc
        rw [upd_same] at e
        rw [← e]
        show (match U.F c with | some o => some o | none => _) = some o
        rw [hF]
        show (if (∃ (l : Nat) (b : Ob), U.io l = some c ∧ S[l]? = some (some b)) then H c else none) = some o
        rw [if_pos ⟨l, b, ha, hb⟩]
        exact hH
      · rw [upd_ne hc] at e
        exact still_sub c u e
    · cases h
theorem still_rels {K : PySem.W.Frag} {U : Wd} {S : Sto} {H : Hp} (s : Sat K U S H) : ∀ {ds : List D} {vs : List V} {xs : List PyData}, RelDs K U ds vs → peeks S ds = some xs → RelDs K (U.still S H) (xs.map .p) vs
  | [], _, _, .nil, h => by cases h; exact .nil
  | d :: ds, _, xs, .cons r t, h => by
    unfold peeks at h
    split at h
    · next x ys h1 h2 =>
      cases h
      exact .cons (still_rel s r h1) (still_rels s t h2)
    · cases h
theorem still_back {K : PySem.W.Frag} {U U' : Wd} {S S' : Sto} {H H' : Hp} (s : Sat K U S H) (st : Step (U.still S' H) H U' H') : Step U H U H' ∧ Sat K U S H' := by
  have kp : ∀ a o, H a = some o → H' a = some o := fun a o h => st.fr a o h fun l e => still_none e
  refine ⟨⟨Sub.refl _, fun _ _ h => h, fun a o h _ => kp a o h, fun _ _ h => .inl h, fun _ _ h => .inl h, fun a o h => ⟨o, kp a o h⟩, fun a o _ _ h => kp a o h⟩, ⟨fun a o h => ?_, s.dom, s.tot, s.inj, fun l a b h q => ?_, fun l a h => ?_, s.rf⟩⟩
  · rcases s.fz a o h with z | ⟨z, q, i⟩
    · exact .inl (kp _ _ z)
    · exact .inr ⟨z, kp _ _ q, i⟩
  · obtain ⟨z1, u, z2, z3⟩ := s.ob l a b h q
    exact ⟨z1, u, kp _ _ z2, z3⟩
  · obtain ⟨u, q⟩ := s.hs l a h
    exact ⟨u, kp _ _ q⟩
theorem ie_ownB {k : Nat} {ps : List Str} {fn : Fn} {x : Str} {p : Pos} {e : Expr} {es : List Expr} {na : MA} (C : Cal X.prog X.w X.K X.mg X.base x ps k fn) (hr : Room k X.A) (hg : Gl X x)
    (ha : IA X E (e :: es) na) (hl : (e :: es).length = ps.length := by rfl) (hdb : (x == ("__debug__" : Str)) = false := by decide) (he : starEach (e :: es) X.env = (false, eval e X.env) :: starEach es X.env := by rfl) (hpl : (backTo pos (starEach es X.env)).any (·.1) = false := by rfl) :
    IE X E (.Call (.Name x p) (e :: es) [] pos) (mCallB fn na) := by
  obtain ⟨f, fd, F, hm, hk, hb⟩ := C
  obtain ⟨⟨t, pt, i⟩, hln⟩ := ha
  refine ⟨_, pe_call F hr hg hm hk hb .nil pass0 pt hdb he hpl, fun U S H σ ρ Q s rl w => i U S H σ ρ _ s rl ?_⟩
  unfold mCallB at w
  cases hh : na ρ S with
  | stuck => rw [hh] at w; exact w
  | exc c S' => rw [hh] at w; exact w
  | ok ds S' =>
    rw [hh] at w
    have hd : ds.length = ps.length := (hln ρ S ds S' hh).trans hl
    intro U1 H1 st1 s1 vs rv
    rw [List.append_nil]
    have hv : ds.length = vs.length := Paired.length rv
    have w1 := Wants.step st1 w
    have w2 : Wants X.K E U1 H1 (match peeks S' ds with
      | some xs => (match fn (xs.map .p) [] with
        | .ok (.p (.bool b)) _ => .ok (.p (.bool b)) S'
        | _ => .stuck)
      | none => .stuck) (KD X.K Q) := w1
    split at w2
    · next xs hx =>
      split at w2
      · next b S2 hf =>
        refine ⟨by rw [← hv]; exact hd, U1.still S' H1, [], xs.map .p, still_sat s1, still_rels s1 rv hx, ?_⟩
        rw [hf]
        intro U3 H3 st3 s3 v rv3
        obtain ⟨k1, k2⟩ := still_back s1 st3
        cases rv3
        exact w2 U1 H3 k1 k2 _ (.bl b)
      · exact False.elim w2
    · exact False.elim w2
end
end G


namespace G
open PySem L2
section
variable {X : Cx} {E : EX}
/-! ### min of a list of data -/
def rMinD (K : PySem.W.Frag) : List V → Hp → VK → Prop := fun vs H Q => ∃ (a : Addr) (xs : List V) (F : Hp) (d : PyData) (ds : List PyData), vs = [V.ref a] ∧ Rd H a (.lst xs) ∧ Le F H ∧ RpAll K F xs (d :: ds) ∧ lay (.list (d :: ds)) = true ∧ PySem.W.AlikeAll (d :: ds) ∧
  ∀ v, Rp K F v (PySem.W.minD d ds) → Q v H
theorem cr_minD (hc : X.calm = true) (hu : X.A.units + 100 < cLine) : CallR X (.builtin "min") (rMinD X.K) := by
  intro pins s σ H vs us Q I r h
  obtain ⟨a, xs, F, d, ds, rfl, hq, hF, ra, hl, hal, q⟩ := h
  rw [Vals.ref1 r]
  have dp : DpAll X.K H xs (d :: ds) := RpAll.dp hF ra (lay_can hl)
  obtain ⟨z, its, n, rv, e⟩ := hq.ok I.hok
  obtain ⟨as, hr⟩ := Dp.readsAll I (d :: ds) xs its dp rv
  have hdep := SeqAt.depth_of_shaped hl
  rw [PyData.depth] at hdep
  refine PySem.W.min_list_data (vs := its.toArray) (I.ok.hd hc) ⟨_, e, rfl, n, rfl⟩ hr hal (by omega) fun i v h' tk bs hv hm hk => ?_
  have hvi : its[i]? = some v := by simpa using hv
  obtain ⟨y, hy, ry⟩ : ∃ y, xs[i]? = some y ∧ RelV y v := by
    have hi : i < xs.length := by rw [rv.length]; exact (List.getElem?_eq_some_iff.mp hvi).1
    obtain ⟨w', hw, rw'⟩ := rv.get (List.getElem?_eq_getElem hi)
    rw [hvi] at hw
    cases hw
    exact ⟨_, List.getElem?_eq_getElem hi, rw'⟩
  obtain ⟨x, hx, rx⟩ := ra.getV hy
  obtain ⟨bs', hrd, _⟩ := PySem.W.readsAll_atA hr i v hv
  have ex : (d :: ds).getD i .none = x := by rw [List.getD_eq_getElem?_getD, hx]; rfl
  rw [ex] at hrd
  have hxm : PySem.W.minD d ds = x := (PyProof.Rows.reads_det (h := h') (h' := h') (fun _ _ z _ => z) hm (PyProof.Rows.Reads.keeps hk hrd)).1.symm
  have I1 : Inv X pins σ H { s with heap := h', toks := tk } := I.kept hk
  exact ⟨y, H, I1, ry, q y (by rw [hxm]; exact rx)⟩
def alikeB (xs : List PyData) : Bool := (xs.all (fun x => PySem.W.alike x x) && srtAlike xs) && xs.all (fun x => match x with | .none => false | _ => true)
theorem alikeB_of {xs : List PyData} (h : alikeB xs = true) : PySem.W.AlikeAll xs := by
  unfold alikeB at h
  rw [Bool.and_eq_true, Bool.and_eq_true] at h
  refine ⟨fun x hx y hy => alike_all h.1.1 h.1.2 x hx y hy, fun x hx e => ?_⟩
  subst e
  have q := List.all_eq_true.mp h.2 _ hx
  cases q
def gMinD : GC := gSeq fun k xs S => match k, xs with
  | true, d :: ds => if (lay (.list (d :: ds)) && alikeB (d :: ds)) = true then .ok (.p (PySem.W.minD d ds)) S else .stuck
  | _, _ => .stuck
theorem imp_minD {K : PySem.W.Frag} : ImpC K E (rMinD K) gMinD := imp_seq fun U S H a k vs xs Q s q r w => by
  split at w
  · next d ds =>
    split at w
    · next hb =>
      rw [Bool.and_eq_true] at hb
      exact ⟨a, vs, U.F, d, ds, rfl, q, s.fz, r, hb.1, alikeB_of hb.2, fun v rv => (Wants.ok w s) v rv⟩
    · exact False.elim w
  · exact False.elim w
end
end G


namespace G
open PySem L2
/-! ### [e for a in xs for b in ys] -/
section
variable {X : Cx} {E : EX} {pos : Pos}
theorem bind_assoc {α β γ : Type} (r : Res α) (f : α → Sto → Res β) (h : β → Sto → Res γ) : (r.bind f).bind h = r.bind fun a S => (f a S).bind h := by cases r <;> rfl
theorem Stp.aside {U U' : Wd} {H H' : Hp} {p : Addr} {o : HO} (t : Stp U H U' H') (hp : U.F p = none) : Stp U H U' (upd H' p o) :=
  ⟨t.ef, fun a u u' f h => by rw [upd_ne (fun e => by rw [e, hp] at f; cases f)]; exact t.ff a u u' f h⟩
/-- the turns of the inner for -/
theorem lc_in {K : PySem.W.Frag} {J : It} {g : TG} {tt : TT} {te : TE} {mg : MG} {mt : MT} {me : ME} {ws vs : List Nat} (hws : ∀ i ∈ ws, i ∈ vs) (ig : ImpG K E1 ws g mg) (it : ImpT K E1 tt mt) (ie : ImpE K E1 te me)
    {Ub : Wd} {Hb : Hp} {U1 : Wd} {S1 : Sto} {H1 : Hp} {σ : L2.St} {ρ : Loc} {xs : List PyData} {Q : VK} (stb : Step Ub Hb U1 H1) (s1 : Sat K U1 S1 H1) (rl : RelL K U1 ρ σ) (RJ : Runs K U1 H1 J xs) {Dd : Addr} {acc0 : List V} {accP0 : List PyData} (hDb : Hb Dd = none) (hF0 : U1.F Dd = none) (hio0 : ∀ l, U1.io l ≠ some Dd) (hD : H1 Dd = some (.lst acc0)) (ra0 : RpAll K U1.F acc0 accP0)
    (hz : acc0.length + xs.length ≤ 1000000) {U0 : Wd} {H0 : Hp} {kk : List PyData → Sto → Res (List PyData)} (w : Wants K E U0 H0 ((mLcL mg mt me (wipeL ρ vs) xs S1).bind kk) (KL K H0 Q)) (Nx : Hp → Prop)
    (hN : ∀ U' S' H' acc zs, Step Ub Hb U' H' → Sat K U' S' H' → U'.F Dd = none → (∀ l, U'.io l ≠ some Dd) → H' Dd = some (.lst acc) → RpAll K U'.F acc (accP0 ++ zs) → acc.length ≤ acc0.length + xs.length → Wants K E U0 H0 (kk zs S') (KL K H0 Q) → Nx H') :
    ∃ W : Nat → Nat → Hp → Prop, (∃ m, W 0 m H1) ∧ ∀ i m H, W i m H →
      (J.stop i H ∧ Nx H) ∨ (J.go i H ∧ ∃ Nx1 : Hp → Prop, (∀ H', Nx1 H' → ∃ m', m' < m ∧ W (i + 1) m' H') ∧ ∀ x H', J.yld i H x H' → g x (L2.wipe σ vs) H' fun σ2 H2 => L2.wipe σ2 vs = L2.wipe σ vs ∧ tt σ2 H2 fun b H3 =>
        if b = true then te σ2 H3 fun y H4 => ∃ acc, H4 Dd = some (.lst acc) ∧ acc.length < sizeLine ∧ Nx1 (upd H4 Dd (.lst (acc ++ [y]))) else Nx1 H3) := by
  let St' : Nat → Hp → Prop := fun n H' => ∃ (U' : Wd) (S' : Sto) (acc : List V) (zs : List PyData), Step Ub Hb U' H' ∧ Stp U1 H1 U' H' ∧ (∀ ρ, RelL K U1 ρ σ → RelL K U' ρ σ) ∧ Sat K U' S' H' ∧ U'.F Dd = none ∧ (∀ l, U'.io l ≠ some Dd) ∧ H' Dd = some (.lst acc) ∧ RpAll K U'.F acc (accP0 ++ zs) ∧ acc.length ≤ acc0.length + n ∧
    Wants K E U0 H0 ((mLcL mg mt me (wipeL ρ vs) (xs.drop n) S').bind fun ys S2 => kk (zs ++ ys) S2) (KL K H0 Q)
  refine ⟨fun n m H' => m = xs.length - n ∧ n ≤ xs.length ∧ St' n H', ⟨xs.length, by simp, Nat.zero_le _, U1, S1, acc0, [], stb, Stp.refl _ _, fun _ r => r, s1, hF0, hio0, hD, by rw [List.append_nil]; exact ra0, Nat.le_refl _, by
    rw [List.drop_zero]
    exact w⟩, ?_⟩
  rintro n m H' ⟨rfl, hn, U', S', acc, zs, st, stp, rlk, s', hF, hio, hacc, racc, hlen, w'⟩
  obtain ⟨stop, go⟩ := RJ U' S' H' n stp s'
  by_cases hlt : n < xs.length
  · have hx : xs[n]? = some xs[n] := by simp [hlt]
    obtain ⟨hgo, yl⟩ := go _ hx
    refine .inr ⟨hgo, St' (n + 1), fun H3 h3 => ⟨xs.length - (n + 1), by omega, rfl, hlt, h3⟩, fun v H'' y => ?_⟩
    obtain ⟨U2, st2, s2, rv⟩ := yl v H'' y
    obtain ⟨d2, f2, i2⟩ := st2.aloof hacc hF hio
    rw [drop_cons hx] at w'
    unfold mLcL at w'
    rw [bind_assoc] at w'
    refine ig U2 S' H'' (L2.wipe σ vs) (wipeL ρ vs) v (.p xs[n]) _ s2 (((rlk ρ rl).step st2).wipe vs) rv (Wants.mono (Wants.at w') fun U3 S3 H3 ρ3 st3 s3 w3 σ3 rl3 o3 => ⟨wipe_only o3 hws, ?_⟩)
    obtain ⟨d3, f3, i3⟩ := st3.aloof d2 f2 i2
    rw [bind_assoc] at w3
    refine it U3 S3 H3 σ3 ρ3 _ s3 rl3 (Wants.mono (Wants.at w3) fun U4 S4 H4 b st4 s4 w4 => ?_)
    obtain ⟨d4, f4, i4⟩ := st4.aloof d3 f3 i3
    have all4 := (((st.trans st2).trans st3).trans st4)
    have stp4 := (((stp.trans st2.p).trans st3.p).trans st4.p)
    have ef4 : Sub U'.F U4.F := ((st2.trans st3).trans st4).ef
    have rk4 : ∀ ρ, RelL K U1 ρ σ → RelL K U4 ρ σ := fun ρ r => (((rlk ρ r).step st2).step st3).step st4
    cases b with
    | true =>
      rw [if_pos rfl] at w4 ⊢
      rw [bind_assoc] at w4
      refine ie U4 S4 H4 σ3 ρ3 _ s4 (rl3.step st4) (Wants.mono (Wants.at w4) fun U5 S5 H5 d st5 s5 w5 u ru => ?_)
      obtain ⟨d5, f5, i5⟩ := st5.aloof d4 f4 i4
      refine ⟨acc, d5, Nat.lt_of_le_of_lt (by omega : acc.length ≤ 1000000) (by decide), ?_⟩
      cases d with
      | r l => exact False.elim w5
      | p y =>
        refine ⟨U5, S5, acc ++ [u], zs ++ [y], (all4.trans st5).aside hDb, (stp4.trans st5.p).aside hF0, fun ρ r => (rk4 ρ r).step st5, s5.aside f5 i5, f5, i5, upd_same, ?_, by rw [List.length_append, List.length_singleton]; omega, ?_⟩
        · rw [← List.append_assoc]
          exact RpAll.append (racc.sub (ef4.trans st5.ef)) (.cons ru .nil)
        · have w6 : Wants K E U0 H0 (((mLcL mg mt me (wipeL ρ vs) (xs.drop (n + 1)) S5).bind fun ys S4 => Res.ok (y :: ys) S4).bind fun ys S2 => kk (zs ++ ys) S2) (KL K H0 Q) := w5
          rw [bind_assoc] at w6
          have e : (fun (a : List PyData) (S : Sto) => (Res.ok (y :: a) S).bind fun ys S2 => kk (zs ++ ys) S2) = fun ys S2 => kk (zs ++ [y] ++ ys) S2 := by
            funext ys S2
            show kk (zs ++ y :: ys) S2 = _
            rw [List.append_assoc]; rfl
          rw [e] at w6
          exact w6
    | false =>
      rw [if_neg Bool.false_ne_true] at w4 ⊢
      exact ⟨U4, S4, acc, zs, all4, stp4, rk4, s4, f4, i4, d4, racc.sub ef4, by omega, w4⟩
  · have e : n = xs.length := by omega
    subst e
    rw [List.drop_length] at w'
    have w7 : Wants K E U0 H0 (kk (zs ++ []) S') (KL K H0 Q) := w'
    rw [List.append_nil] at w7
    exact .inl ⟨stop rfl, hN U' S' H' acc zs st s' hF hio hacc racc hlen w7⟩
def mLc2L (g : MG) (mi : MI) (g1 : MG) (te : ME) (ρ : Loc) (vs1 : List Nat) : Nat → List PyData → Sto → Res (List PyData)
  | _, [], S => .ok [] S
  | n, x :: xs, S => (g (.p x) ρ S).nox.bind fun ρ1 S1 => (mi ρ1 S1).nox.bind fun ys S2 => if n + ys.length ≤ 1000000 then (mLcL g1 mYes te (wipeL ρ1 vs1) ys S2).bind fun zs S3 => (mLc2L g mi g1 te ρ vs1 (n + ys.length) xs S3).bind fun ws S4 => .ok (zs ++ ws) S4 else .stuck
def mLc2 (mi : MI) (g : MG) (mi1 : MI) (g1 : MG) (te : ME) (vs vs1 : List Nat) : ML := fun ρ S => (mi ρ S).bind fun xs S1 => mLc2L g mi1 g1 te (wipeL ρ vs) vs1 0 xs S1
theorem lc2_turns {K : PySem.W.Frag} {J : It} {g g1 : TG} {wi1 : TI} {tt tt1 : TT} {te : TE} {mg mg1 : MG} {mi1 : MI} {me : ME} {ws ws1 vs vs1 : List Nat} (hws : ∀ i ∈ ws, i ∈ vs) (hws1 : ∀ i ∈ ws1, i ∈ vs1) (ig : ImpG K E1 ws g mg) (it : ImpT K E1 tt mYes) (ii : ImpI K E1 wi1 mi1) (ig1 : ImpG K E1 ws1 g1 mg1) (it1 : ImpT K E1 tt1 mYes) (ie : ImpE K E1 te me)
    {U1 : Wd} {S1 : Sto} {H1 : Hp} {σ : L2.St} {ρ : Loc} {xs : List PyData} {Q : VK} (s1 : Sat K U1 S1 H1) (rl : RelL K U1 ρ σ) (RJ : Runs K U1 H1 J xs)
    {U0 : Wd} {H0 : Hp} (st01 : Step U0 H0 U1 H1) (w : Wants K E U0 H0 (mLc2L mg mi1 mg1 me (wipeL ρ vs) vs1 0 xs S1) (KL K H0 Q)) (Dd : Addr) (hD : H1 Dd = none) :
    ∃ W : Nat → Nat → Hp → Prop, (∃ m, W 0 m (upd H1 Dd (.lst []))) ∧ ∀ i m H, W i m H →
      (J.stop i H ∧ Q (.ref Dd) H) ∨ (J.go i H ∧ ∃ Nx : Hp → Prop, (∀ H', Nx H' → ∃ m', m' < m ∧ W (i + 1) m' H') ∧ ∀ x H', J.yld i H x H' → g x (L2.wipe σ vs) H' fun σ2 H2 => L2.wipe σ2 vs = L2.wipe σ vs ∧ tt σ2 H2 fun b H3 =>
        if b = true then wi1 σ2 H3 fun J1 H4 => ∃ W1 : Nat → Nat → Hp → Prop, (∃ m, W1 0 m H4) ∧ ∀ j k H, W1 j k H →
          (J1.stop j H ∧ Nx H) ∨ (J1.go j H ∧ ∃ Nx1 : Hp → Prop, (∀ H', Nx1 H' → ∃ k', k' < k ∧ W1 (j + 1) k' H') ∧ ∀ x H', J1.yld j H x H' → g1 x (L2.wipe σ2 vs1) H' fun σ3 H5 => L2.wipe σ3 vs1 = L2.wipe σ2 vs1 ∧ tt1 σ3 H5 fun b H6 =>
            if b = true then te σ3 H6 fun y H7 => ∃ acc, H7 Dd = some (.lst acc) ∧ acc.length < sizeLine ∧ Nx1 (upd H7 Dd (.lst (acc ++ [y]))) else Nx1 H6)
        else Nx H3) := by
  let St' : Nat → Hp → Prop := fun n H' => ∃ (U' : Wd) (S' : Sto) (acc : List V) (accP : List PyData) (k : Nat), Step U1 H1 U' H' ∧ Sat K U' S' H' ∧ U'.F Dd = none ∧ (∀ l, U'.io l ≠ some Dd) ∧ H' Dd = some (.lst acc) ∧ RpAll K U'.F acc accP ∧ acc.length ≤ k ∧
    Wants K E U0 H0 ((mLc2L mg mi1 mg1 me (wipeL ρ vs) vs1 k (xs.drop n) S').bind fun ys S2 => .ok (accP ++ ys) S2) (KL K H0 Q)
  refine ⟨fun n m H' => m = xs.length - n ∧ n ≤ xs.length ∧ St' n H', ⟨xs.length, by simp, Nat.zero_le _, U1, S1, [], [], 0, Step.aside (Step.refl _ _) hD, s1.aside (s1.no hD) (s1.noi hD), s1.no hD, s1.noi hD, upd_same, .nil, Nat.le_refl _, by
    rw [List.drop_zero]
    cases hh : mLc2L mg mi1 mg1 me (wipeL ρ vs) vs1 0 xs S1 with
    | ok a S => rw [hh] at w; exact w
    | exc c S => rw [hh] at w; exact w
    | stuck => rw [hh] at w; exact w⟩, ?_⟩
  rintro n m H' ⟨rfl, hn, U', S', acc, accP, k, st, s', hF, hio, hacc, racc, hlen, w'⟩
  obtain ⟨stop, go⟩ := RJ U' S' H' n st.p s'
  by_cases hlt : n < xs.length
  · have hx : xs[n]? = some xs[n] := by simp [hlt]
    obtain ⟨hgo, yl⟩ := go _ hx
    refine .inr ⟨hgo, St' (n + 1), fun H3 h3 => ⟨xs.length - (n + 1), by omega, rfl, hlt, h3⟩, fun v H'' y => ?_⟩
    obtain ⟨U2, st2, s2, rv⟩ := yl v H'' y
    obtain ⟨d2, f2, i2⟩ := st2.aloof hacc hF hio
    rw [drop_cons hx] at w'
    unfold mLc2L at w'
    rw [bind_assoc] at w'
    refine ig U2 S' H'' (L2.wipe σ vs) (wipeL ρ vs) v (.p xs[n]) _ s2 (((rl.step st).step st2).wipe vs) rv (Wants.mono (Wants.at w') fun U3 S3 H3 ρ3 st3 s3 w3 σ3 rl3 o3 => ⟨wipe_only o3 hws, ?_⟩)
    obtain ⟨d3, f3, i3⟩ := st3.aloof d2 f2 i2
    refine it U3 S3 H3 σ3 ρ3 _ s3 rl3 fun U4 H4 st4 s4 => ?_
    obtain ⟨d4, f4, i4⟩ := st4.aloof d3 f3 i3
    rw [if_pos rfl]
    rw [bind_assoc] at w3
    refine ii U4 S3 H4 σ3 ρ3 _ s4 (rl3.step st4) (Wants.mono (Wants.at w3) fun U5 S5 H5 ys st5 s5 w5 J1 RJ1 => ?_)
    obtain ⟨d5, f5, i5⟩ := st5.aloof d4 f4 i4
    by_cases hk : k + ys.length ≤ 1000000
    · rw [if_pos hk, bind_assoc] at w5
      have all5 := (((st.trans st2).trans st3).trans st4).trans st5
      have ef5 : Sub U'.F U5.F := (((st2.trans st3).trans st4).trans st5).ef
      refine lc_in hws1 ig1 it1 ie all5 s5 ((rl3.step st4).step st5) RJ1 hD f5 i5 d5 (racc.sub ef5) (by omega) w5 (St' (n + 1)) fun U6 S6 H6 acc6 zs st6 s6 f6 i6 d6 r6 l6 w6 => ?_
      refine ⟨U6, S6, acc6, accP ++ zs, k + ys.length, st6, s6, f6, i6, d6, r6, by omega, ?_⟩
      rw [bind_assoc] at w6
      have e : (fun (a : List PyData) (S : Sto) => (Res.ok (zs ++ a) S).bind fun ys S2 => Res.ok (accP ++ ys) S2) = fun ys S2 => Res.ok (accP ++ zs ++ ys) S2 := by
        funext ys S2
        show Res.ok (accP ++ (zs ++ ys)) S2 = _
        rw [List.append_assoc]
      rw [e] at w6
      exact w6
    · rw [if_neg hk] at w5
      exact False.elim w5
  · have e : n = xs.length := by omega
    subst e
    rw [List.drop_length] at w'
    have w7 : Wants K E U0 H0 (.ok (accP ++ []) S') (KL K H0 Q) := by
      unfold mLc2L at w'
      exact w'
    rw [List.append_nil] at w7
    exact .inl ⟨stop rfl, w7 _ _ (st01.trans st) s' Dd acc (st01.old hD) hF hio hacc racc⟩
theorem il_lc2 {elt tg iter tg1 iter1 : Expr} {scope : Scope} {own : List (Str × Nat)} {mi mi1 : MI} {g g1 : MG} {te : ME} {ws ws1 vs1 : List Nat} (hc : X.calm = true) (hN : X.N.Nodup) (hi : II X E tg iter mi) (ok : BlkOk X.N X.env.scope scope own)
    (hws : ∀ i ∈ ws, i ∈ own.map (·.2)) (hws1 : ∀ i ∈ ws1, i ∈ vs1) (hv : ∀ i ∈ vs1, i ∈ own.map (·.2))
    (hg : ∀ (s : Shared) (H : Hp) (C : Addr) (cl : List (Str × Addr)) (fp : List Addr), IG (X.blk s H scope (compEnvC scope cl C X.env) fp) E1 ws tg g)
    (hi1 : ∀ (s : Shared) (H : Hp) (C : Addr) (cl : List (Str × Addr)) (fp : List Addr), II (X.blk s H scope (compEnvC scope cl C X.env) fp) E1 tg1 iter1 mi1)
    (hg1 : ∀ (s : Shared) (H : Hp) (C : Addr) (cl : List (Str × Addr)) (fp : List Addr), IG (X.blk s H scope (compEnvC scope cl C X.env) fp) E1 ws1 tg1 g1)
    (he : ∀ (s : Shared) (H : Hp) (C : Addr) (cl : List (Str × Addr)) (fp : List Addr), IE (X.blk s H scope (compEnvC scope cl C X.env) fp) E1 elt te)
    (hs : ∀ x, foldedSetIterable iter X.env x = pure x := by intro _; rfl) (hs1 : ∀ env x, foldedSetIterable iter1 env x = pure x := by intro _ _; rfl) :
    IL X E (.ListComp elt [⟨tg, iter, [], 0⟩, ⟨tg1, iter1, [], 0⟩] scope pos) (mLc2 mi g mi1 g1 te (own.map (·.2)) vs1) := by
  obtain ⟨t, p, i⟩ := hi
  refine ⟨_, pe_lc2 (vs1 := vs1) hc hN p ok hv (fun s H C cl fp => (hg s H C cl fp).can) (fun s H C cl fp => (its_nil (X := X.blk s H scope (compEnvC scope cl C X.env) fp) (E := E1)).can) (fun s H C cl fp => (hi1 s H C cl fp).can) (fun s H C cl fp => (hg1 s H C cl fp).can) (fun s H C cl fp => (its_nil (X := X.blk s H scope (compEnvC scope cl C X.env) fp) (E := E1)).can)
    (g := canG X.K E1 ws g) (tt := canT X.K E1 mYes) (wi1 := canI X.K E1 mi1) (g1 := canG X.K E1 ws1 g1) (tt1 := canT X.K E1 mYes) (te := canE X.K E1 te) (fun s H C cl fp => (he s H C cl fp).can) hs hs1, fun U S H σ ρ Q s rl w => i U S H σ ρ _ s rl (w.bindL.mono fun U1 S1 H1 xs st1 s1 w1 J RJ Dd hD => ?_)⟩
  obtain ⟨_, w1⟩ := w1
  exact lc2_turns hws hws1 impCanG impCanT impCanI impCanG impCanT impCanE s1 (rl.step st1) RJ st1 w1 Dd hD
end
end G


namespace G
open PySem L2
/-! ### at the end of a turn what the turn made is forgotten -/
def fgt (n : Nat) : Option D → Option D
  | some (.r l) => if l < n then some (.r l) else none
  | o => o
def mCut (b : MS) : MS := fun ρ S => match b ρ S with
  | .ok (.rt (.r l), ρ') S' => if l < S.length then .ok (.rt (.r l), ρ'.map (fgt S.length)) (S'.take S.length) else .stuck
  | .ok (f, ρ') S' => .ok (f, ρ'.map (fgt S.length)) (S'.take S.length)
  | .exc c S' => .exc c S'
  | .stuck => .stuck
theorem RelL.fgt {K : PySem.W.Frag} {U : Wd} {ρ : Loc} {σ : L2.St} {n : Nat} (h : RelL K U ρ σ) : RelL K (U.cut n) (ρ.map (fgt n)) σ := by
  refine ⟨by rw [List.length_map]; exact h.len, fun i d e => ?_⟩
  rw [List.getElem?_map] at e
  cases ho : ρ[i]? with
  | none => rw [ho] at e; cases e
  | some o =>
    rw [ho] at e
    have e' : G.fgt n o = some d := by simpa using e
    cases o with
    | none => cases e'
    | some d0 =>
      cases d0 with
      | p x =>
        cases e'
        obtain ⟨v, hv, r⟩ := h.get i _ ho
        exact ⟨v, hv, r⟩
      | r l =>
        unfold G.fgt at e'
        split at e'
        · next l' hl =>
          cases hl
          split at e'
          · next hlt =>
            cases e'
            obtain ⟨v, hv, a, ha, hva⟩ := h.get i _ ho
            refine ⟨v, hv, a, ?_, hva⟩
            show (if l < n then U.io l else none) = some a
            rw [if_pos hlt]; exact ha
          · cases e'
        · next hne => exact absurd rfl (hne l)
theorem imp_cut {K : PySem.W.Frag} {E : EX} {t : TS} {b : MS} (h : ImpS K E t b) : ImpS K E t (mCut b) := by
  intro U S H σ ρ N s rl w
  refine h U S H σ ρ N s rl ?_
  unfold mCut at w
  cases hb : b ρ S with
  | stuck => rw [hb] at w; exact w
  | exc c S' => rw [hb] at w; exact w
  | ok r S' =>
    obtain ⟨f, ρ'⟩ := r
    rw [hb] at w
    intro U' H' st s' σ' rl'
    cases f with
    | nx => exact w _ _ (st.cut s.dom) (s'.cut _) σ' rl'.fgt
    | bk => exact w _ _ (st.cut s.dom) (s'.cut _) σ' rl'.fgt
    | ct => exact w _ _ (st.cut s.dom) (s'.cut _) σ' rl'.fgt
    | rt d =>
      cases d with
      | p x => exact fun v rv => w _ _ (st.cut s.dom) (s'.cut _) σ' rl'.fgt v rv
      | r l =>
        simp only at w
        split at w
        · next hl =>
          intro v rv
          obtain ⟨a, ha, hva⟩ := rv
          refine w _ _ (st.cut s.dom) (s'.cut _) σ' rl'.fgt v ⟨a, ?_, hva⟩
          show (if l < S.length then U'.io l else none) = some a
          rw [if_pos hl]; exact ha
        · exact False.elim w
theorem iss_cut {X : Cx} {E : EX} {body : List Stmt} {b : MS} (h : ISs X E body b) : ISs X E body (mCut b) := by
  obtain ⟨t, p, i⟩ := h
  exact ⟨_, p, imp_cut i⟩
end G


set_option maxHeartbeats 4000000
namespace G
open PySem PySem.Spec PyProof.Rows L2
/-! ### set(a list of whole numbers) -/
/-- a set just made -/
abbrev fSet (w : World) : Obj := { cls := .type "set", dict := none, data := .set #[] 0 (.fresh 0 0 (!w.params.followText "set-order")) }
section
variable {P : Program} {w : World} {A : Around} {E : Value → Shared → Prop} {s : Shared}
/-- what the filling leaves -/
def Fild (w : World) (s : Shared) (ns : List Int) (z : Value) (t : Shared) : Prop := z = .none ∧ ∃ (g : Heap) (k c : Nat), t = { s with heap := g, toks := k } ∧ SetR w g s.heap.objs.size (fun j => decide (j ∈ ns)) c ∧ c ≤ ns.length ∧ ∀ b o, s.heap.get? b = some o → g.get? b = some o
theorem set_list {l : Addr} {items : Array Value} (ns : List Int) {Q : Value → Shared → Prop} (hA : A.handled = none) (hL : s.heap.IsList l items) (hI : IntsAre items.toList ns) (hB : ns.length + 1 < scanBound)
    (fin : ∀ (g : Heap) (k c : Nat), SetR w g s.heap.objs.size (fun j => decide (j ∈ ns)) c → c ≤ ns.length → (∀ b o, s.heap.get? b = some o → g.get? b = some o) → Q (.ref s.heap.objs.size) { s with heap := g, toks := k }) : wpAny (model P w) A (call (.type "set") [.ref l]) Q E s := by
  have size : items.size = ns.length := (Array.length_toList (xs := items)).symm.trans (IntsAre.length hI)
  obtain ⟨c0, tl0, mro0⟩ := F.called_set.mro
  have made0 := F.called_set.made
  have sub0 := F.called_set.sub
  have nt0 := F.called_set.notType
  have cc0 := F.called_set.canCreate
  have tc0 := F.typeCall_set_1 (.ref l)
  refine wpAny_call (codeAny_of_tree (show wpAny _ _ (callAny (.type "set") _) _ _ _ from wpAny_pure ⟨Code.quiet_builtin _ (by decide +kernel), codeAny_builtin F.entry_type_call ?_⟩))
  rw [Around.under_plain (weight_type_call_type "set" [.ref l] []) rfl]
  repeat (any_goals (first | assumption | wp_step))
  refine codeAny_mono (code_set_led1 (.ref l) (E := E) (Q₁ := fun z t => z = .ref s.heap.objs.size ∧ t = { s with heap := s.heap.push (fSet w) }) ⟨rfl, rfl⟩) fun r t hr => ?_
  cases r with
  | error e => exact hr
  | ok fl =>
    cases fl with
    | next => exact hr.elim
    | brk => exact hr.elim
    | cont => exact hr.elim
    | ret z =>
      obtain ⟨rfl, rfl⟩ := hr
      have at0 : (s.heap.push (fSet w)).get? s.heap.objs.size = some (fSet w) := Heap.get?_push_size _ rfl
      have ty0 : Shared.TypeIs { s with heap := s.heap.push (fSet w) } (.ref s.heap.objs.size) "set" := ⟨_, at0, rfl⟩
      have ini := F.called_set.init.lookup
      have bnd := F.called_set.init.bind (.ref s.heap.objs.size)
      repeat (any_goals (first | assumption | wp_step))
      refine codeAny_mono (codeAny_call_builtin (R := wants (Fild w s ns) E) F.called_set.init.plain F.entry_set_init (check_set_init_1 ty0 ?_)) fun r' t' hr' => ?_
      · obtain ⟨⟨oc, od, da, os⟩, ho, hc, m, hd⟩ := hL
        simp only at hc hd
        subst hc hd
        have ho' : (s.heap.push (fSet w)).get? l = some { cls := .type "list", dict := od, data := .seq items m, slots := os } := Heap.get?_push_of_some _ ho
        have nS := F.sub_list_set
        have nF := F.sub_list_frozenset
        have nD : (Value.type "list" == Value.type "dict") = false := by decide
        have li : (s.heap.push (fSet w)).IsList l items := ⟨_, ho', rfl, m, rfl⟩
        unfold Builtin.«set.__init__» noKeywords Builtin.Frozenset.updateFrom
        generalize e : pyIter = it
        wp_walk
        subst e
        refine wpAny_pyIter_list li (wpAny_bind (wpAny_runValue ?_))
        have lt : l < s.heap.objs.size := Heap.lt_size ho
        have sz : (s.heap.push (fSet w)).objs.size = s.heap.objs.size + 1 := Heap.size_push ..
        have ne1 : l ≠ (s.heap.push (fSet w)).objs.size := by rw [sz]; exact Nat.ne_of_lt (Nat.lt_succ_of_lt lt)
        have ne2 : s.heap.objs.size ∉ [(s.heap.push (fSet w)).objs.size, l] := fun q => by
          rcases List.mem_cons.mp q with q | q
          · rw [sz] at q; exact Nat.ne_of_lt (Nat.lt_succ_self _) q
          · exact Nat.ne_of_gt lt (List.mem_singleton.mp q)
        refine set_update_ints ((Walks.list (by simp [hA]) (s.heap.push (fSet w)).objs.size l ne1 items).toS) s.heap.objs.size ne2 ns size hB (fun i v hv => ?_) (items.size - 0) 0 _ (by omega) (Nat.zero_le _) ⟨⟨_, Heap.get?_push_size _ rfl, rfl, rfl⟩, li.push _⟩ ⟨0, Nat.le_refl 0, setR_new_at (Heap.get?_push_of_some _ at0)⟩ ?_
        · have hi : i < ns.length := by rw [← size]; exact (Array.getElem?_eq_some_iff.mp hv).1
          obtain ⟨tk, e⟩ := IntsAre.int_at hI i v (by rw [Array.getElem?_toList]; exact hv)
          refine ⟨ns[i], tk, List.getElem?_eq_getElem hi, ?_⟩
          rw [e, List.getD_eq_getElem?_getD, List.getElem?_eq_getElem hi]
          rfl
        · intro u c hm hcu hu
          obtain ⟨g, gg, dd, tk, oo⟩ := u
          have e1 : gg = s.gens := hm.gens
          have e2 : dd = s.drawn := hm.drawn
          have e3 : oo = s.os := hm.os
          subst e1 e2 e3
          refine wpAny_pure ?_
          show wpAny _ _ (ret Value.none) _ _ _
          rw [size] at hcu
          refine wpAny_pure ⟨rfl, g, tk, c, rfl, hu, hcu, fun b o q => ?_⟩
          have lb : b < s.heap.objs.size := Heap.lt_size q
          refine hm.heap b o (fun q => ?_) (Heap.get?_push_of_some _ (Heap.get?_push_of_some _ q))
          rcases List.mem_cons.mp q with q | q
          · exact Nat.ne_of_lt lb q
          · rw [sz] at q
            exact Nat.ne_of_lt (Nat.lt_succ_of_lt lb) (List.mem_singleton.mp q)
      · cases r' with
        | error e => exact hr'
        | ok fl' =>
          cases fl' with
          | next => exact hr'.elim
          | brk => exact hr'.elim
          | cont => exact hr'.elim
          | ret z' =>
            obtain ⟨rfl, g, k, c, rfl, h1, h2, h3⟩ := hr'
            repeat (any_goals (first | assumption | wp_step))
            exact fin _ _ _ h1 h2 h3
end
end G


set_option maxHeartbeats 4000000
namespace G
open PySem PySem.Spec PyProof.Rows L2
def wholes : List PyData → Option (List Int)
  | [] => some []
  | .int i :: r => (wholes r).map (i :: ·)
  | _ => none
theorem wholes_eq : ∀ {xs : List PyData} {ns : List Int}, wholes xs = some ns → xs = ns.map PyData.int
  | [], ns, h => by cases h; rfl
  | x :: xs, ns, h => by
    cases x with
    | int i =>
      cases e : wholes xs with
      | none => simp [wholes, e] at h
      | some r =>
        simp [wholes, e] at h
        subst h
        rw [List.map_cons, wholes_eq e]
    | _ => cases h
theorem rp_wholes {K : PySem.W.Frag} {F : Hp} : ∀ {vs : List V} {ns : List Int}, RpAll K F vs (ns.map PyData.int) → vs = ns.map V.int
  | _, [], .nil => rfl
  | _, n :: ns, .cons h t => by
    cases h
    rw [rp_wholes t]; rfl
theorem ints_valsL : ∀ {ns : List Int} {us : List Value}, Vals (ns.map V.int) us → IntsAre us ns
  | [], _, .nil => .nil
  | n :: ns, _, .cons r t => by
    obtain ⟨k, rfl⟩ := r
    exact .cons n k (ints_valsL t)
theorem wk_ints (ns : List Int) : wkT (ns.map PyData.int) = false := by
  cases ns with
  | nil => rfl
  | cons a ns => cases ns with
    | nil => rfl
    | cons b ns => cases ns <;> rfl
/-! ### sorted(set(a list of whole numbers)) -/
def insU (x : Int) : List Int → List Int
  | [] => [x]
  | y :: ys => if x < y then x :: y :: ys else if x = y then y :: ys else y :: insU x ys
def sdI : List Int → List Int
  | [] => []
  | x :: xs => insU x (sdI xs)
theorem insU_mem {x z : Int} : ∀ {ys : List Int}, z ∈ insU x ys ↔ z = x ∨ z ∈ ys
  | [] => by simp [insU]
  | y :: ys => by
    have ih := insU_mem (x := x) (z := z) (ys := ys)
    unfold insU
    split
    · simp
    · split
      · rename_i h
        subst h
        rw [List.mem_cons]
        constructor
        · exact .inr
        · rintro (h | h)
          · exact .inl h
          · exact h
      · rw [List.mem_cons, ih, List.mem_cons]
        constructor
        · rintro (h | h | h)
          · exact .inr (.inl h)
          · exact .inl h
          · exact .inr (.inr h)
        · rintro (h | h | h)
          · exact .inr (.inl h)
          · exact .inl h
          · exact .inr (.inr h)
theorem sdI_mem {z : Int} : ∀ {xs : List Int}, z ∈ sdI xs ↔ z ∈ xs
  | [] => Iff.rfl
  | x :: xs => by rw [sdI, insU_mem, sdI_mem, List.mem_cons]
theorem insU_srt {x : Int} : ∀ {ys : List Int}, ys.Pairwise (· < ·) → (insU x ys).Pairwise (· < ·)
  | [], _ => List.pairwise_singleton _ _
  | y :: ys, h => by
    obtain ⟨h1, h2⟩ := List.pairwise_cons.mp h
    unfold insU
    split
    · rename_i hl
      refine List.pairwise_cons.mpr ⟨fun z hz => ?_, h⟩
      rcases List.mem_cons.mp hz with rfl | hz
      · exact hl
      · have := h1 z hz; omega
    · split
      · exact h
      · refine List.pairwise_cons.mpr ⟨fun z hz => ?_, insU_srt h2⟩
        rcases insU_mem.mp hz with rfl | hz
        · omega
        · exact h1 z hz
theorem sdI_srt : ∀ xs : List Int, (sdI xs).Pairwise (· < ·)
  | [] => List.Pairwise.nil
  | x :: xs => insU_srt (sdI_srt xs)
theorem srt_uniq : ∀ {xs ys : List Int}, xs.Pairwise (· < ·) → ys.Pairwise (· < ·) → (∀ z, z ∈ xs ↔ z ∈ ys) → xs = ys
  | [], [], _, _, _ => rfl
  | [], y :: ys, _, _, h => by
    have := (h y).mpr List.mem_cons_self
    cases this
  | x :: xs, [], _, _, h => by
    have := (h x).mp List.mem_cons_self
    cases this
  | x :: xs, y :: ys, hx, hy, h => by
    obtain ⟨x1, x2⟩ := List.pairwise_cons.mp hx
    obtain ⟨y1, y2⟩ := List.pairwise_cons.mp hy
    have e : x = y := by
      rcases List.mem_cons.mp ((h x).mp List.mem_cons_self) with e | e
      · exact e
      · rcases List.mem_cons.mp ((h y).mpr List.mem_cons_self) with q | q
        · exact q.symm
        · have := y1 x e
          have := x1 y q
          omega
    subst e
    rw [srt_uniq x2 y2 fun z => ?_]
    constructor
    · intro hz
      rcases List.mem_cons.mp ((h z).mp (List.mem_cons_of_mem _ hz)) with e | e
      · have := x1 z hz; omega
      · exact e
    · intro hz
      rcases List.mem_cons.mp ((h z).mpr (List.mem_cons_of_mem _ hz)) with e | e
      · have := y1 z hz; omega
      · exact e
def gSortSet : D → Sto → Res D := fun d S => match d with
  | .p (.list xs) => (match wholes xs with
    | some ns => if ns.length ≤ 60 then .ok (.p (.list ((sdI ns).map PyData.int))) S else .stuck
    | none => .stuck)
  | _ => .stuck
section
variable {X : Cx} {E : EX}
theorem sdI_len : ∀ xs : List Int, (sdI xs).length ≤ xs.length
  | [] => Nat.le_refl _
  | x :: xs => by
    have h : ∀ ys : List Int, (insU x ys).length ≤ ys.length + 1 := by
      intro ys
      induction ys with
      | nil => exact Nat.le_refl _
      | cons y ys ih =>
        unfold insU
        split
        · exact Nat.le_refl _
        · split
          · exact Nat.le_succ _
          · rw [List.length_cons, List.length_cons]; omega
    have := sdI_len xs
    have := h (sdI xs)
    rw [sdI, List.length_cons]
    omega
theorem pe_sortSet {a : Expr} {ta : TE} {p p2 q pos : Pos} (hc : X.calm = true) (hg : Gl X "sorted") (hm : X.mg "sorted" = none) (hg2 : Gl X "set") (hm2 : X.mg "set" = none) (ha : PE X a ta) (na : starEach [a] X.env = (false, eval a X.env) :: starEach [] X.env := by rfl) :
    PE X (.Call (.Name "sorted" p) [.Call (.Name "set" p2) [a] [] q] [] pos) (fun σ H Q => ta σ H fun x H1 => ∃ (l : Addr) (ns : List Int), x = V.ref l ∧ SqL X.K H1 l (ns.map V.int) ∧ ns.length ≤ 60 ∧ ∀ p, H1 p = none → Q (.ref p) (upd H1 p (.lst ((sdI ns).map V.int)))) := by
  refine ⟨fun pins s σ H Q I h => Call_ (ld_blt I hg hm boot_sorted1 (PyProof.Rows.callWith_builtin1 (PyProof.Rows.args_cons ?_ rfl) rfl rfl))⟩
  refine Call_ (ld_blt I hg2 hm2 PyProof.Rows.boot_set (PyProof.Rows.callWith_type1 (PyProof.Rows.args_cons (thn (ha.run pins s σ H _ I h) fun v s1 ⟨x, H1, I1, r1, q1⟩ => PyProof.Rows.args_nil ?_) na) na rfl))
  obtain ⟨l, ns, rfl, hq, h1, q1⟩ := q1
  cases r1
  obtain ⟨its, r, pl, hz⟩ := I1.list hq
  refine set_list ns (I1.ok.hd hc) pl.isList (by simpa using ints_valsL r) (by unfold scanBound; omega) fun g k c hS hcl hk => PyProof.Rows.args_nil ?_
  have I2 : Inv X pins σ H1 { s1 with heap := g, toks := k } := I1.kept hk
  refine sorted_set (s := { s1 with heap := g, toks := k }) hS (I1.ok.hd hc) (by omega) fun s' b out c' ms k' g' o' hp hg' hi hs hme hl => ?_
  have em : ms = sdI ns := srt_uniq hs (sdI_srt ns) fun z => by rw [hme, sdI_mem, decide_eq_true_eq]
  subst em
  have hn : H1 b = none := I2.hok.fresh hp
  have hlen : ((sdI ns).map V.int).length ≤ sizeLine := by
    have := sdI_len ns
    rw [List.length_map, sizeLine_eq]; omega
  have J : Inv X pins σ (upd H1 b (.lst ((sdI ns).map V.int))) { ({ s1 with heap := g, toks := k } : Shared) with heap := s'.heap, gens := s'.gens, drawn := s'.drawn, toks := s'.toks } :=
    I2.call (ch := []) (Un.laid k' hp hn) (I2.hok.laid k' hp ⟨hlen, out.toList, c', vals_of_ints hi, hg'⟩) (by rw [g']; exact I2.bare) (fun _ z => nomatch z)
  have e : s' = { s1 with heap := s'.heap, gens := s'.gens, drawn := s'.drawn, toks := s'.toks } := by
    cases s'
    cases s1
    cases o'
    rfl
  rw [e]
  exact ⟨.ref b, _, J, rfl, q1 b hn⟩
theorem ie_sortSet {a : Expr} {ma : ME} {p p2 q pos : Pos} (hg : Gl X "sorted") (hm : X.mg "sorted" = none) (hg2 : Gl X "set") (hm2 : X.mg "set" = none) (ha : IE X E a ma) (hc : X.calm = true := by rfl) (na : starEach [a] X.env = (false, eval a X.env) :: starEach [] X.env := by rfl) :
    IE X E (.Call (.Name "sorted" p) [.Call (.Name "set" p2) [a] [] q] [] pos) (m1 gSortSet ma) := by
  obtain ⟨t, pt, i⟩ := ha
  refine ⟨_, pe_sortSet hc hg hm hg2 hm2 pt na, fun U S H σ ρ Q s rl w => i U S H σ ρ _ s rl (Wants.mono (Wants.bind w) fun U1 S1 H1 d st1 s1 w1 v rv => ?_)⟩
  unfold gSortSet at w1
  split at w1
  · next xs =>
    split at w1
    · next ns hns =>
      split at w1
      · next hl =>
        have e := wholes_eq hns
        subst e
        cases rv with
        | lst hq hr =>
          have ev := rp_wholes hr
          subst ev
          refine ⟨_, ns, rfl, .inl (Rd.le s1.fz hq), hl, fun p hp => newL s1 (?_ : RpAll X.K U1.F ((sdI ns).map V.int) ((sdI ns).map PyData.int)) hp w1⟩
          generalize sdI ns = ms
          induction ms with
          | nil => exact .nil
          | cons m ms ih => exact .cons (.int m) ih
      · exact False.elim w1
    · exact False.elim w1
  · exact False.elim w1
/-! ### t.index(k), t a tuple of whole numbers -/
def mTix (mo me : ME) : ME := fun ρ S => (mo ρ S).bind fun d S1 => match d with
  | .p (.tuple xs) => (match wholes xs with
    | some ns => (me ρ S1).bind fun e S2 => (match e with
      | .p (.int k) => if k ∈ ns then .ok (.p (.int (ns.idxOf k : Nat))) S2 else .stuck
      | _ => .stuck)
    | none => .stuck)
  | _ => .stuck
theorem pe_tix {o e : Expr} {to : TE} {t : TA} {apos cpos : Pos} (ho : PE X o to) (ha : PA X [e] t) (hbase : attributeBase o "index" X.env (eval o X.env) = eval o X.env := by rfl)
    (hfew : ((backTo cpos (starEach [e] X.env)).all (fun x => !x.1) && (backToKw cpos (keywordEach [] X.env)).all (fun x => x.1.isSome) && decide ([e].length + ([] : List Keyword).length + (if ([] : List Keyword).isEmpty then 0 else 1) < 30)) = true := by rfl)
    (hline : (apos.endLine == cpos.line) = true := by rfl) (hs : starEach [e] X.env = (false, eval e X.env) :: starEach [] X.env := by rfl) (hplain : (backTo cpos (starEach [] X.env)).any (·.1) = false := by rfl) :
    PE X (.Call (.Attribute o "index" apos) [e] [] cpos) (fun σ H Q => to σ H fun x H1 => ∃ (a : Addr) (ns : List Int), x = .ref a ∧ GoodT H1 a (ns.map V.int) ∧ t σ H1 fun vs H2 => ∃ k : Int, vs = [.int k] ∧ SqT X.K H2 a (ns.map V.int) ∧ k ∈ ns ∧ Q (.int (ns.idxOf k : Nat)) H2) := by
  refine ⟨fun pins s σ H Q I h => wpAny_Call_method_late hbase hfew hline rfl (thn (ho.run pins s σ H _ I h) fun v s1 ⟨x, H1, I1, r1, a, ns, ex, ⟨ob, hob, hdn⟩, q1⟩ => ?_)⟩
  subst ex
  cases r1
  obtain ⟨g0, _, us, _, tt⟩ := I1.hok a _ hob
  refine ⟨"tuple", "tuple.index", F.plainAttrs_tuple, F.slot_tuple_index, F.type_tuple_index, IsTup.typeIs tt, fun b eb => ?_, ?_⟩
  · cases eb
    exact ⟨ob, g0, hdn⟩
  have hA := ha.run cpos pins s1 σ H1 _ I1 q1
  rw [hs] at hA ⊢
  refine Calls.callWith_builtin (by show (false || (backTo cpos (starEach [] X.env)).any (·.1)) = false; rw [hplain]; rfl) (Calls.evalArgs_plain (thn hA fun ws s2 ⟨vs, H2, I2, r2, k, ev, hq, hk, q2⟩ => ?_))
  subst ev
  obtain ⟨u, rfl, tk, rfl⟩ := vals1 r2
  obtain ⟨its, rv, p2, _⟩ := I2.tuple hq
  exact PySem.SeqAt.tuple_index_ints (ns := ns) p2 (ints_valsL rv) hk ⟨.int _, H2, I2.tok _, ⟨_, rfl⟩, q2⟩
theorem ie_tix {o e : Expr} {mo me : ME} {apos cpos : Pos} (ho : IE X E o mo) (he : IE X E e me) (hbase : attributeBase o "index" X.env (eval o X.env) = eval o X.env := by rfl)
    (hfew : ((backTo cpos (starEach [e] X.env)).all (fun x => !x.1) && (backToKw cpos (keywordEach [] X.env)).all (fun x => x.1.isSome) && decide ([e].length + ([] : List Keyword).length + (if ([] : List Keyword).isEmpty then 0 else 1) < 30)) = true := by rfl)
    (hline : (apos.endLine == cpos.line) = true := by rfl) (hs : starEach [e] X.env = (false, eval e X.env) :: starEach [] X.env := by rfl) (hplain : (backTo cpos (starEach [] X.env)).any (·.1) = false := by rfl) : IE X E (.Call (.Attribute o "index" apos) [e] [] cpos) (mTix mo me) := by
  obtain ⟨t, pt, i⟩ := ho
  obtain ⟨t2, pt2, i2⟩ := he
  refine ⟨_, pe_tix pt (pa_cons (hs := hs) pt2 pa_nil) hbase hfew hline hs hplain, fun U S H σ ρ Q s rl w => i U S H σ ρ _ s rl (Wants.mono (Wants.bind w) fun U1 S1 H1 d st1 s1 w1 v rv => ?_)⟩
  split at w1
  · next xs =>
    split at w1
    · next ns hns =>
      have e := wholes_eq hns
      subst e
      cases rv with
      | tup hq hr =>
        have ev := rp_wholes hr
        subst ev
        refine ⟨_, ns, rfl, GoodT.le s1.fz (hq.2.resolve_left (by rw [wk_ints]; exact Bool.false_ne_true)), i2 U1 S1 H1 σ ρ _ s1 (rl.step st1) (Wants.mono (Wants.bind w1) fun U2 S2 H2 d2 st2 s2 w2 v2 rv2 => ?_)⟩
        split at w2
        · next k =>
          split at w2
          · next hk =>
            cases rv2
            exact ⟨k, rfl, SqT.le s2.fz (SqT.sub st2.ef hq), hk, (Wants.ok w2 s2) _ (.int _)⟩
          · exact False.elim w2
        · exact False.elim w2
    · exact False.elim w1
  · exact False.elim w1
end
end G


set_option maxHeartbeats 4000000
namespace G
open PySem L2
/-! ### a def that is handed plain things runs on a store of its own -/
def mCallF (fn : Fn) (na : MA) : ME := fun ρ S => (na ρ S).bind fun ds S1 => match pures ds with
  | some xs => (match fn (xs.map .p) [] with
    | .ok (.p x) [] => .ok (.p x) S1
    | .ok (.r 0) [some (.lst ys)] => .ok (.r S1.length) (S1 ++ [some (.lst ys)])
    | _ => .stuck)
  | none => .stuck
theorem pures_eq : ∀ {ds : List D} {xs : List PyData}, pures ds = some xs → ds = xs.map .p
  | [], xs, h => by cases h; rfl
  | d :: ds, xs, h => by
    cases d with
    | r l => cases h
    | p x =>
      obtain ⟨ys, e, rfl⟩ := Option.map_eq_some_iff.mp (show (pures ds).map (x :: ·) = some xs from h)
      rw [List.map_cons, pures_eq e]
section
variable {K : PySem.W.Frag} {U U3 : Wd} {S : Sto} {H H3 : Hp}
theorem cut0_io {l : Nat} {a : Addr} (h : (U.cut 0).io l = some a) : False := by
  have h' : (if l < 0 then U.io l else none) = some a := h
  rw [if_neg (Nat.not_lt_zero l)] at h'
  cases h'
theorem cut0_rels : ∀ {xs : List PyData} {vs : List V}, RelDs K U (xs.map .p) vs → RelDs K (U.cut 0) (xs.map .p) vs
  | [], _, .nil => .nil
  | x :: xs, _, .cons r t => .cons r (cut0_rels t)
theorem frame_kp (st : Step (U.cut 0) H U3 H3) : ∀ a o, H a = some o → H3 a = some o := fun a o h => st.fr a o h fun l e => cut0_io e
theorem frame_nf (st : Step (U.cut 0) H U3 H3) : ∀ a o, U3.F a = some o → U.F a = some o ∨ H a = none := fun a o h => by
  rcases st.nf a o h with q | q | ⟨l, q⟩
  · exact .inl q
  · exact .inr q
  · exact (cut0_io q).elim
theorem frame_step (st : Step (U.cut 0) H U3 H3) : Step U H ⟨U3.F, U.io⟩ H3 where
  ef := st.ef
  ei := fun _ _ h => h
  fr := fun a o h _ => frame_kp st a o h
  ni := fun _ _ h => .inl h
  nf := fun a o h => (frame_nf st a o h).elim .inl fun q => .inr (.inl q)
  dm := st.dm
  ff := fun a o _ _ h => frame_kp st a o h
theorem frame_sat (s : Sat K U S H) (st : Step (U.cut 0) H U3 H3) (fz : Le U3.F H3) : Sat K ⟨U3.F, U.io⟩ S H3 where
  fz := fz
  dom := s.dom
  tot := s.tot
  inj := s.inj
  ob := fun l a b h q => by
    obtain ⟨z1, o, z2, z3⟩ := s.ob l a b h q
    refine ⟨?_, o, frame_kp st a o z2, ObIs.grow (U := U) (U' := ⟨U3.F, U.io⟩) st.ef (fun _ _ h => h) z3⟩
    cases e : U3.F a with
    | none => rfl
    | some o' =>
      rcases frame_nf st a o' e with q | q
      · rw [z1] at q; cases q
      · rw [z2] at q; cases q
  hs := fun l a h => by
    obtain ⟨o, q⟩ := s.hs l a h
    exact ⟨o, frame_kp st a o q⟩
  rf := s.rf
end
section
variable {X : Cx} {E : EX} {pos : Pos}
theorem ie_ownF {k : Nat} {ps : List Str} {fn : Fn} {x : Str} {p : Pos} {e : Expr} {es : List Expr} {na : MA} (C : Cal X.prog X.w X.K X.mg X.base x ps k fn) (hr : Room k X.A) (hg : Gl X x)
    (ha : IA X E (e :: es) na) (hl : (e :: es).length = ps.length := by rfl) (hdb : (x == ("__debug__" : Str)) = false := by decide) (he : starEach (e :: es) X.env = (false, eval e X.env) :: starEach es X.env := by rfl) (hpl : (backTo pos (starEach es X.env)).any (·.1) = false := by rfl) :
    IE X E (.Call (.Name x p) (e :: es) [] pos) (mCallF fn na) := by
  obtain ⟨f, fd, F, hm, hk, hb⟩ := C
  obtain ⟨⟨t, pt, i⟩, hln⟩ := ha
  refine ⟨_, pe_call F hr hg hm hk hb .nil pass0 pt hdb he hpl, fun U S H σ ρ Q s rl w => i U S H σ ρ _ s rl ?_⟩
  unfold mCallF at w
  cases hh : na ρ S with
  | stuck => rw [hh] at w; exact w
  | exc c S' => rw [hh] at w; exact w
  | ok ds S' =>
    rw [hh] at w
    have hd : ds.length = ps.length := (hln ρ S ds S' hh).trans hl
    intro U1 H1 st1 s1 vs rv
    rw [List.append_nil]
    have hv : ds.length = vs.length := Paired.length rv
    have w1 := Wants.step st1 w
    have w2 : Wants X.K E U1 H1 (match pures ds with
      | some xs => (match fn (xs.map .p) [] with
        | .ok (.p x) [] => .ok (.p x) S'
        | .ok (.r 0) [some (.lst ys)] => .ok (.r S'.length) (S' ++ [some (.lst ys)])
        | _ => .stuck)
      | none => .stuck) (KD X.K Q) := w1
    split at w2
    · next xs hx =>
      have ed := pures_eq hx
      subst ed
      have sc : Sat X.K (U1.cut 0) [] H1 := by
        have := s1.cut 0
        rw [List.take_zero] at this
        exact this
      refine ⟨by rw [← hv]; exact hd, U1.cut 0, [], xs.map .p, sc, cut0_rels rv, ?_⟩
      split at w2
      · next y hf =>
        rw [hf]
        intro U3 H3 st3 s3 v rv3
        exact w2 _ H3 (frame_step st3) (frame_sat s1 st3 s3.fz) v rv3
      · next ys hf =>
        rw [hf]
        intro U3 H3 st3 s3 v rv3
        obtain ⟨a3, ha3, rfl⟩ := rv3
        obtain ⟨hF, o3, hH, zs, eo, ra⟩ := s3.ob 0 a3 _ ha3 rfl
        subst eo
        have hn : H1 a3 = none := (st3.ni 0 a3 ha3).elim (fun q => (cut0_io q).elim) id
        -- the store's new thing, put behind all others
        have s4 := frame_sat s1 st3 s3.fz
        have dom1 := s1.dom
        refine w2 ⟨U3.F, fun l => if l = S'.length then some a3 else U1.io l⟩ H3 ⟨st3.ef, fun l a h => ?_, fun a o h _ => frame_kp st3 a o h, fun l a h => ?_, fun a o h => (frame_nf st3 a o h).elim .inl fun q => .inr (.inl q), st3.dm, fun a o _ _ h => frame_kp st3 a o h⟩ ⟨s3.fz, fun l a h => ?_, fun l h => ?_, fun l l' a h h' => ?_, fun l a b h q => ?_, fun l a h => ?_, fun l b q => ?_⟩ _ ⟨a3, if_pos rfl, rfl⟩
        · show (if l = S'.length then some a3 else U1.io l) = some a
          rw [if_neg (Nat.ne_of_lt (dom1 l a h))]; exact h
        · have h' : (if l = S'.length then some a3 else U1.io l) = some a := h
          by_cases e : l = S'.length
          · rw [if_pos e] at h'; cases h'; exact .inr hn
          · rw [if_neg e] at h'; exact .inl h'
        · have h' : (if l = S'.length then some a3 else U1.io l) = some a := h
          rw [List.length_append, List.length_singleton]
          by_cases e : l = S'.length
          · omega
          · rw [if_neg e] at h'
            have := dom1 l a h'; omega
        · rw [List.length_append, List.length_singleton] at h
          show ∃ a, (if l = S'.length then some a3 else U1.io l) = some a
          by_cases e : l = S'.length
          · exact ⟨a3, if_pos e⟩
          · rw [if_neg e]; exact s1.tot l (by omega)
        · have h1 : (if l = S'.length then some a3 else U1.io l) = some a := h
          have h2 : (if l' = S'.length then some a3 else U1.io l') = some a := h'
          by_cases e : l = S'.length
          · by_cases e' : l' = S'.length
            · rw [e, e']
            · rw [if_pos e] at h1; rw [if_neg e'] at h2
              cases h1
              exact absurd h2 (s1.noi hn l')
          · by_cases e' : l' = S'.length
            · rw [if_neg e] at h1; rw [if_pos e'] at h2
              cases h2
              exact absurd h1 (s1.noi hn l)
            · rw [if_neg e] at h1; rw [if_neg e'] at h2
              exact s1.inj l l' a h1 h2
        · have h1 : (if l = S'.length then some a3 else U1.io l) = some a := h
          by_cases e : l = S'.length
          · rw [if_pos e] at h1; cases h1
            subst e
            rw [List.getElem?_append_right (Nat.le_refl _)] at q
            simp at q
            subst q
            exact ⟨hF, _, hH, zs, rfl, ra⟩
          · rw [if_neg e] at h1
            have hl' := dom1 l a h1
            rw [List.getElem?_append_left hl'] at q
            obtain ⟨z1, o, z2, z3⟩ := s4.ob l a b h1 q
            refine ⟨z1, o, z2, ObIs.few (U := ⟨U3.F, U1.io⟩) (U' := ⟨U3.F, fun l => if l = S'.length then some a3 else U1.io l⟩) (n := l) rfl (fun m c hm hc => ?_) (s1.rf l b q) z3⟩
            show (if m = S'.length then some a3 else U1.io m) = some c
            rw [if_neg (by omega)]; exact hc
        · have h1 : (if l = S'.length then some a3 else U1.io l) = some a := h
          by_cases e : l = S'.length
          · rw [if_pos e] at h1; cases h1
            exact ⟨_, hH⟩
          · rw [if_neg e] at h1
            exact s4.hs l a h1
        · by_cases e : l < S'.length
          · rw [List.getElem?_append_left e] at q
            exact s1.rf l b q
          · have hl' := (List.getElem?_eq_some_iff.mp q).1
            rw [List.length_append, List.length_singleton] at hl'
            have : l = S'.length := by omega
            subst this
            rw [List.getElem?_append_right (Nat.le_refl _)] at q
            simp at q
            subst q
            trivial
      · exact False.elim w2
    · exact False.elim w2
end
end G


namespace G
open PySem L2
/-! ### what a mirror gives -/
def wp {α : Type} (r : Res α) (P : α → Sto → Prop) : Prop := ∃ a S, r = .ok a S ∧ P a S
section
variable {α β : Type} {r : Res α} {f : α → Sto → Res β} {a : α} {S : Sto} {ρ : Loc} {d e : D}
theorem wp_ok {P : α → Sto → Prop} : wp (.ok a S) P ↔ P a S := ⟨fun ⟨_, _, e, h⟩ => by cases e; exact h, fun h => ⟨_, _, rfl, h⟩⟩
theorem wp_bind {P : β → Sto → Prop} : wp (r.bind f) P ↔ wp r fun a S => wp (f a S) P := by
  constructor
  · rintro ⟨b, S1, e, h⟩
    cases r with
    | ok a S2 => exact ⟨a, S2, rfl, b, S1, e, h⟩
    | exc _ _ => cases e
    | stuck => cases e
  · rintro ⟨a, S2, rfl, b, S1, e, h⟩
    exact ⟨b, S1, e, h⟩
theorem wp_nox {P : α → Sto → Prop} : wp r.nox P ↔ wp r P := by
  cases r <;> simp [Res.nox, wp]
theorem wp_mono {P Q : α → Sto → Prop} (h : wp r P) (k : ∀ a S, P a S → Q a S) : wp r Q := by
  obtain ⟨a, S, e, h⟩ := h
  exact ⟨a, S, e, k _ _ h⟩
theorem wp_eq {P : α → Sto → Prop} (h : wp r P) : ∃ a S, r = .ok a S ∧ P a S := h
theorem wp_if {c : Bool} {r r' : Res α} {P : α → Sto → Prop} : wp (if c = true then r else r') P ↔ (if c = true then wp r P else wp r' P) := by
  cases c <;> simp
theorem wp_ite {c : Prop} [Decidable c] {r r' : Res α} {P : α → Sto → Prop} : wp (if c then r else r') P ↔ (if c then wp r P else wp r' P) := by
  split <;> rfl
/-- a sequence, what comes after it out of sight -/
theorem wp_seq {m n : MS} {P : Fl × Loc → Sto → Prop} (h : ∀ k : Fl × Loc → Sto → Prop, (∀ ρ1 S1, wp (n ρ1 S1) P → k (.nx, ρ1) S1) → (∀ d ρ1 S1, P (.rt d, ρ1) S1 → k (.rt d, ρ1) S1) → (∀ ρ1 S1, P (.ct, ρ1) S1 → k (.ct, ρ1) S1) → (∀ ρ1 S1, P (.bk, ρ1) S1 → k (.bk, ρ1) S1) → wp (m ρ S) k) : wp (mSeq m n ρ S) P := by
  unfold mSeq
  rw [wp_bind]
  refine h _ (fun _ _ h => h) (fun _ _ _ h => wp_ok.mpr h) (fun _ _ h => wp_ok.mpr h) (fun _ _ h => wp_ok.mpr h)
theorem wp_asg {m : ME} {g : MG} {P : Fl × Loc → Sto → Prop} : wp (mAsg m g ρ S) P ↔ wp (m ρ S) fun d S1 => wp (g d ρ S1) fun ρ' S2 => P (.nx, ρ') S2 := by
  unfold mAsg; simp only [wp_bind, wp_ok]
theorem wp_gN {i : Nat} {P : Loc → Sto → Prop} : wp (gN i d ρ S) P ↔ P (ρ.set i (some d)) S := wp_ok
theorem wp_ret {m : ME} {P : Fl × Loc → Sto → Prop} : wp (mRet m ρ S) P ↔ wp (m ρ S) fun d S1 => P (.rt d, ρ) S1 := by
  unfold mRet; simp only [wp_bind, wp_ok]
theorem wp_drop {m : ME} {P : Fl × Loc → Sto → Prop} : wp (mDrop m ρ S) P ↔ wp (m ρ S) fun d S1 => P (.nx, ρ) S1 := by
  unfold mDrop; simp only [wp_bind, wp_ok]
theorem wp_mif {c : MT} {m n : MS} {P : Fl × Loc → Sto → Prop} : wp (mIf c m n ρ S) P ↔ wp (c ρ S) fun b S1 => if b = true then wp (m ρ S1) P else wp (n ρ S1) P := by
  unfold mIf; simp only [wp_bind, wp_if]
theorem wp_next {P : Fl × Loc → Sto → Prop} : wp (mNext ρ S) P ↔ P (.nx, ρ) S := wp_ok
theorem wp_for {mi : MI} {g : MG} {b : MS} {P : Fl × Loc → Sto → Prop} : wp (mFor mi g b ρ S) P ↔ wp (mi ρ S) fun xs S1 => wp (mLoop g b xs ρ S1) P := by
  unfold mFor; rw [wp_bind]
theorem wp_loop {g : MG} {b : MS} {P : Fl × Loc → Sto → Prop} (I : List PyData → Loc → Sto → Prop) (xs : List PyData) (h0 : I xs ρ S)
    (step : ∀ (x : PyData) (r : List PyData) (ρ : Loc) (S : Sto), I (x :: r) ρ S → ∀ k : Fl × Loc → Sto → Prop, (∀ ρ1 S1, I r ρ1 S1 → k (.nx, ρ1) S1) → wp (g (.p x) ρ S) fun ρ1 S1 => wp (b ρ1 S1) k)
    (fin : ∀ ρ S, I [] ρ S → P (.nx, ρ) S) : wp (mLoop g b xs ρ S) P := by
  induction xs generalizing ρ S with
  | nil => exact wp_ok.mpr (fin _ _ h0)
  | cons x r ih =>
    unfold mLoop
    rw [wp_bind]
    refine wp_mono (step x r ρ S h0 (fun q S1 => wp (mLoop g b r q.2 S1) P ∧ q.1 = .nx) fun ρ1 S1 h => ⟨ih h, rfl⟩) fun ρ1 S1 h => ?_
    rw [wp_bind]
    refine wp_mono h fun q S2 h => ?_
    obtain ⟨h1, h2⟩ := h
    rw [h2]
    exact h1
theorem wp_while {c : MT} {b : MS} {P : Fl × Loc → Sto → Prop} (I : Nat → Loc → Sto → Prop) (n : Nat) (h0 : I n ρ S)
    (step : ∀ (n : Nat) (ρ : Loc) (S : Sto), I n ρ S → ∃ (m : Nat) (t : Bool), n = m + 1 ∧ c ρ S = .ok t S ∧ (t = false → P (.nx, ρ) S) ∧ (t = true → wp (b ρ S) fun q S1 => q.1 = .nx ∧ I m q.2 S1)) : wp (mWhile c b n ρ S) P := by
  induction n generalizing ρ S with
  | zero =>
    obtain ⟨m, t, e, _⟩ := step 0 ρ S h0
    cases e
  | succ m ih =>
    obtain ⟨m', t, e, e1, e2, e3⟩ := step _ ρ S h0
    cases e
    unfold mWhile
    rw [e1]
    simp only [Res.bind]
    cases t with
    | false => exact wp_ok.mpr (e2 rfl)
    | true =>
      simp only [if_true]
      have := e3 rfl
      obtain ⟨q, S1, e4, e5, e6⟩ := this
      rw [e4]
      simp only [e5]
      exact ih e6
/-- a comprehension: it holds for the rest of the row -/
theorem wp_lcL {g : MG} {tt : MT} {te : ME} {P : List PyData → Sto → Prop} (I : List PyData → List PyData → Sto → Prop) (xs : List PyData) (ys0 : List PyData) (h0 : I xs ys0 S)
    (step : ∀ (x : PyData) (r ys : List PyData) (S : Sto), I (x :: r) ys S → wp (g (.p x) ρ S) fun ρ1 S1 => wp (tt ρ1 S1) fun b S2 => if b = true then wp (te ρ1 S2) fun d S3 => ∃ y, d = .p y ∧ I r (ys ++ [y]) S3 else I r ys S2)
    (fin : ∀ ys S, I [] (ys0 ++ ys) S → P ys S) : wp (mLcL g tt te ρ xs S) P := by
  induction xs generalizing ys0 S P with
  | nil => exact wp_ok.mpr (fin _ _ (by rw [List.append_nil]; exact h0))
  | cons x r ih =>
    unfold mLcL
    rw [wp_bind, wp_nox]
    refine wp_mono (step x r ys0 S h0) fun ρ1 S1 h => ?_
    rw [wp_bind, wp_nox]
    refine wp_mono h fun b S2 h => ?_
    cases b with
    | true =>
      simp only [if_true] at h ⊢
      rw [wp_bind, wp_nox]
      refine wp_mono h fun d S3 h => ?_
      obtain ⟨y, rfl, h⟩ := h
      simp only
      rw [wp_bind]
      refine ih _ h fun ys S hi => ?_
      rw [wp_ok]
      exact fin _ _ (by rw [List.append_assoc] at hi; exact hi)
    | false =>
      simp only [Bool.false_eq_true, if_false] at h ⊢
      exact ih _ h fun ys S hi => fin _ _ hi
/-- a comprehension whose parts are plain -/
theorem lcL_plain {g : MG} {tt : MT} {te : ME} {t : PyData → Bool} {v : PyData → PyData} (xs : List PyData)
    (hg : ∀ x ∈ xs, ∃ ρ1, g (.p x) ρ S = .ok ρ1 S ∧ tt ρ1 S = .ok (t x) S ∧ (t x = true → te ρ1 S = .ok (.p (v x)) S)) : mLcL g tt te ρ xs S = .ok ((xs.filter t).map v) S := by
  induction xs with
  | nil => rfl
  | cons x r ih =>
    obtain ⟨ρ1, h1, h2, h3⟩ := hg x (List.mem_cons_self ..)
    have i := ih fun y hy => hg y (List.mem_cons_of_mem _ hy)
    unfold mLcL
    rw [h1]
    simp only [Res.nox, Res.bind, h2]
    cases ht : t x with
    | true => simp only [if_true, h3 ht, Res.nox, Res.bind, i, List.filter_cons, ht, List.map_cons]
    | false => simp only [Bool.false_eq_true, if_false, i, List.filter_cons, ht]
theorem wp_fn {n : Nat} {m : MS} {ds : List D} {P : D → Sto → Prop} (h : wp (m (startL n ds) S) fun q S1 => match q.1 with
    | .rt (.p x) => P (.p x) (S1.take S.length)
    | .rt (.r l) => (l < S.length ∧ P (.r l) (S1.take S.length)) ∨ (S.length ≤ l ∧ ∃ o, S1[l]? = some o ∧ mov o = true ∧ P (.r S.length) (S1.take S.length ++ [o]))
    | .nx => P (.p .none) (S1.take S.length)
    | _ => False) : wp (fnOf n m ds S) P := by
  obtain ⟨⟨q, ρ1⟩, S1, e, h⟩ := h
  unfold fnOf
  rw [e]
  cases q with
  | nx => exact wp_ok.mpr h
  | bk => exact h.elim
  | ct => exact h.elim
  | rt d =>
    cases d with
    | p x => exact wp_ok.mpr h
    | r l =>
      rcases h with ⟨h1, h2⟩ | ⟨h1, o, h2, hm, h3⟩
      · simp only [finish, if_pos h1]; exact wp_ok.mpr h2
      · have hl : ¬ l < S.length := by omega
        have hs : S.length ≤ S1.length := Nat.le_of_lt (Nat.lt_of_le_of_lt h1 (List.getElem?_eq_some_iff.mp h2).1)
        simp only [finish, if_neg hl, h2, decide_eq_true hs, hm, Bool.and_self, if_true]
        exact wp_ok.mpr h3
end
/-! ### rows of numbers -/
theorem rangeP_len : ∀ (n : Nat) (lo : Int), (rangeP lo n).length = n
  | 0, _ => rfl
  | n + 1, lo => by rw [rangeP, List.length_cons, rangeP_len n]
end G


set_option maxHeartbeats 4000000
namespace LK
open PySem L2 G
def topS (i : Nat) : Stmt := PySem.Challenge.pw_roofsights_k04_whole_orders_with_just_th.main.body.getD i (.Pass ⟨0, 0, 0, 0⟩)
structure Bt (mg : Str → Option Value) : Prop where
  n_all : mg "all" = none
  n_any : mg "any" = none
  n_bool : mg "bool" = none
  n_enumerate : mg "enumerate" = none
  n_int : mg "int" = none
  n_isinstance : mg "isinstance" = none
  n_len : mg "len" = none
  n_list : mg "list" = none
  n_min : mg "min" = none
  n_range : mg "range" = none
  n_set : mg "set" = none
  n_sorted : mg "sorted" = none
  n_str : mg "str" = none
  n_sum : mg "sum" = none
  n_tuple : mg "tuple" = none
  n_zip : mg "zip" = none
  k_MOST_HOUSES : ∃ t, mg "MOST_HOUSES" = some (.int 12 t)
section
variable {P : Program} {w : World} {K : PySem.W.Frag} {mg : Str → Option Value} {base : Heap}
abbrev st_is_from : Stmt := topS 6
abbrev N_is_from : List Str := ["thing", "low", "high"]
theorem sc_is_from : FnScope N_is_from ["thing", "low", "high"] (defScope st_is_from) := ⟨rfl, rfl, rfl, by decide +kernel, rfl, by decide +kernel, by decide +kernel⟩
def b_is_from : MS :=
    (mRet (mAndV (mIsi [.int] (mVar 0)) (mAndV (mNotV (mIsi [.bool] (mVar 0))) (mCh (mVar 1) (cLink gLe (mVar 0) (cLast gLe (mVar 2)))))))
def f_is_from : Fn := fun ds S => (fnOf 3 b_is_from ds S).nox
theorem ok_is_from (B : Bt mg) (F : DefAt K mg "is_from" "is_from" ["thing", "low", "high"] st_is_from)  : Cal P w K mg base "is_from" ["thing", "low", "high"] 1 f_is_from := cal_mk F sc_is_from fun cdv A outer s H E f hr =>
    (iss_one (is_ret (ie_and (ie_isi (t := .int) rfl B.n_isinstance rfl B.n_int (by decide +kernel) (iv 0)) (ie_and (ie_not (ie_isi (t := .bool) rfl B.n_isinstance rfl B.n_bool (by decide +kernel) (iv 0))) (ie_one (ie_ch (iv 1) (ck_le hr.units (iv 0) (cl_le hr.units (iv 2)))))))))
abbrev st_is_rising : Stmt := topS 7
abbrev N_is_rising : List Str := ["things", "one", "other"]
theorem sc_is_rising : FnScope N_is_rising ["things"] (defScope st_is_rising) := ⟨rfl, rfl, rfl, by decide +kernel, rfl, by decide +kernel, by decide +kernel⟩
def b_is_rising : MS :=
    (mRet (mCB gAll (mCons (mP (mLc (mZip (mCons (mVar 0) (mCons (mSl (mVar 0) (mPart (some (mC (.int 1)))) (mPart none)) mNil))) (gT 2 (gsCons (gN 1) (gsCons (gN 2) gsNil))) mYes (m2 gLt (mVar 1) (mVar 2)) [1, 2])) mNil)))
def f_is_rising : Fn := fun ds S => (fnOf 3 b_is_rising ds S).nox
theorem ok_is_rising (B : Bt mg) (F : DefAt K mg "is_rising" "is_rising" ["things"] st_is_rising)  : Cal P w K mg base "is_rising" ["things"] 1 f_is_rising := cal_mk F sc_is_rising fun cdv A outer s H E f hr =>
    (iss_one (is_ret (ie_cb (cr_all rfl) imp_all rfl B.n_all boot_all1 (ia_cons (IL.p (il_lc (own := [("one", 1), ("other", 2)]) rfl sc_is_rising.nd (ii_zip rfl B.n_zip (ia_cons (iv 0) (ia_cons (ie_slice (iv 0) (ip_some ie_int) ip_none) ia_nil))) (blkOk_by (own := [("one", 1), ("other", 2)]) (N := N_is_rising) (sc := defScope st_is_rising) (by decide +kernel)) (by decide) (fun _ _ _ _ _ => (ig_tup rfl (igs_cons (ig_name (i := 1) sc_is_rising.nd rfl (.inl rfl)) (igs_cons (ig_name (i := 2) sc_is_rising.nd rfl (.inl rfl)) igs_nil)))) (fun _ _ _ _ _ => its_nil) (fun _ _ _ _ _ => (ie_lt hr.units (iv 1) (iv 2))))) ia_nil))))
abbrev st_is_lot : Stmt := topS 8
abbrev N_is_lot : List Str := ["many", "thing", "pair"]
theorem sc_is_lot : FnScope N_is_lot ["many", "thing"] (defScope st_is_lot) := ⟨rfl, rfl, rfl, by decide +kernel, rfl, by decide +kernel, by decide +kernel⟩
def b_is_lot : MS :=
    (mSeq (mIf (mNot (mTest (mIsi [.tuple] (mVar 1)))) (mRet (mC (.bool false))) mNext)
    (mSeq (mFor (mItems (mVar 1)) (gN 2) (mSeq (mIf (mOr (mNot (mTest (mIsi [.tuple] (mVar 2)))) (mOr (mTest (m2 gNe (mCB gLen (mCons (mVar 2) mNil)) (mC (.int 2)))) (mNot (mTest (mCall f_is_from (mCons (m2 gIx (mVar 2) (mC (.int 0))) (mCons (mC (.int 0)) (mCons (m2 gSub (mVar 0) (mC (.int 2))) mNil)))))))) (mRet (mC (.bool false))) mNext)
    (mIf (mNot (mTest (mCall f_is_from (mCons (m2 gIx (mVar 2) (mC (.int 1))) (mCons (m2 gAdd (m2 gIx (mVar 2) (mC (.int 0))) (mC (.int 1))) (mCons (m2 gSub (mVar 0) (mC (.int 1))) mNil)))))) (mRet (mC (.bool false))) mNext)))
    (mRet (mCall f_is_rising (mCons (mVar 1) mNil)))))
def f_is_lot : Fn := fun ds S => (fnOf 3 b_is_lot ds S).nox
theorem ok_is_lot (B : Bt mg) (F : DefAt K mg "is_lot" "is_lot" ["many", "thing"] st_is_lot) (C_is_rising : Cal P w K mg base "is_rising" ["things"] 1 f_is_rising) (C_is_from : Cal P w K mg base "is_from" ["thing", "low", "high"] 1 f_is_from) : Cal P w K mg base "is_lot" ["many", "thing"] 2 f_is_lot := cal_mk F sc_is_lot fun cdv A outer s H E f hr =>
    (iss_cons (is_if (it_not (it_val (ie_isi (t := .tuple) rfl B.n_isinstance rfl B.n_tuple (by decide +kernel) (iv 1)))) (iss_one (is_ret ie_bl)) iss_nil)
    (iss_cons (is_for .never rfl (ii_any (iv 1)) (ig_name (i := 2) sc_is_lot.nd rfl (.inl rfl)) (iss_cons (is_if (IW.it (iw_or (it_not (it_val (ie_isi (t := .tuple) rfl B.n_isinstance rfl B.n_tuple (by decide +kernel) (iv 2)))) (iw_or (it_ne hr.units (ie_cb call_len_seq imp_len rfl B.n_len boot_len (ia_cons (iv 2) ia_nil)) ie_int) (iw_or1 (it_not (it_val (ie_own C_is_from hr rfl (ia_cons (ie_item (iv 2) ie_int) (ia_cons ie_int (ia_cons (ie_sub (iv 0) ie_int) ia_nil)))))))))) (iss_one (is_ret ie_bl)) iss_nil)
    (iss_one (is_if (it_not (it_val (ie_own C_is_from hr rfl (ia_cons (ie_item (iv 2) ie_int) (ia_cons (ie_add (ie_item (iv 2) ie_int) ie_int) (ia_cons (ie_sub (iv 0) ie_int) ia_nil)))))) (iss_one (is_ret ie_bl)) iss_nil))))
    (iss_one (is_ret (ie_own C_is_rising hr rfl (ia_cons (iv 1) ia_nil))))))
abbrev st_need_many : Stmt := topS 9
abbrev N_need_many : List Str := ["many"]
theorem sc_need_many : FnScope N_need_many ["many"] (defScope st_need_many) := ⟨rfl, rfl, rfl, by decide +kernel, rfl, by decide +kernel, by decide +kernel⟩
def b_need_many : MS :=
    (mIf (mNot (mTest (mCall f_is_from (mCons (mVar 0) (mCons (mC (.int 1)) (mCons (mC (.int 12)) mNil)))))) mStuck mNext)
def f_need_many : Fn := fun ds S => (fnOf 1 b_need_many ds S).nox
theorem ok_need_many (B : Bt mg) (F : DefAt K mg "need_many" "need_many" ["many"] st_need_many) (C_is_from : Cal P w K mg base "is_from" ["thing", "low", "high"] 1 f_is_from) : Cal P w K mg base "need_many" ["many"] 2 f_need_many := cal_mk F sc_need_many fun cdv A outer s H E f hr =>
    (iss_one (is_if (it_not (it_val (ie_own C_is_from hr rfl (ia_cons (iv 0) (ia_cons ie_int (ia_cons (ie_globE rfl B.k_MOST_HOUSES) ia_nil)))))) (iss_one is_never) iss_nil))
abbrev st_need_lot : Stmt := topS 10
abbrev N_need_lot : List Str := ["many", "lot"]
theorem sc_need_lot : FnScope N_need_lot ["many", "lot"] (defScope st_need_lot) := ⟨rfl, rfl, rfl, by decide +kernel, rfl, by decide +kernel, by decide +kernel⟩
def b_need_lot : MS :=
    (mSeq (mDrop (mCall f_need_many (mCons (mVar 0) mNil)))
    (mIf (mNot (mTest (mCall f_is_lot (mCons (mVar 0) (mCons (mVar 1) mNil))))) mStuck mNext))
def f_need_lot : Fn := fun ds S => (fnOf 2 b_need_lot ds S).nox
theorem ok_need_lot (B : Bt mg) (F : DefAt K mg "need_lot" "need_lot" ["many", "lot"] st_need_lot) (C_need_many : Cal P w K mg base "need_many" ["many"] 2 f_need_many) (C_is_lot : Cal P w K mg base "is_lot" ["many", "thing"] 2 f_is_lot) : Cal P w K mg base "need_lot" ["many", "lot"] 3 f_need_lot := cal_mk F sc_need_lot fun cdv A outer s H E f hr =>
    (iss_cons (is_expr (ie_own C_need_many hr rfl (ia_cons (iv 0) ia_nil)))
    (iss_one (is_if (it_not (it_val (ie_own C_is_lot hr rfl (ia_cons (iv 0) (ia_cons (iv 1) ia_nil))))) (iss_one is_never) iss_nil)))
abbrev st_all_bars : Stmt := topS 11
abbrev N_all_bars : List Str := ["many", "lot", "found", "one", "other", "between", "third", "fourth", "place"]
theorem sc_all_bars : FnScope N_all_bars ["many", "lot"] (defScope st_all_bars) := ⟨rfl, rfl, rfl, by decide +kernel, rfl, by decide +kernel, by decide +kernel⟩
def b_all_bars : MS :=
    (mSeq (mAsg (mR (mLc (mRng1 (mCons (m2 gSub (mVar 0) (mC (.int 1))) mNil)) (gN 3) (mTest (m2 gNotIn (mTup (mCons (mVar 3) (mCons (m2 gAdd (mVar 3) (mC (.int 1))) mNil))) (mVar 1))) (mTup (mCons (mC (.str "apart")) (mCons (mVar 3) (mCons (m2 gAdd (mVar 3) (mC (.int 1))) mNil)))) [3])) (gN 2))
    (mSeq (mFor (mItems (mVar 1)) (gT 2 (gsCons (gN 3) (gsCons (gN 4) gsNil))) (mFor (mItems (mVar 1)) (gT 2 (gsCons (gN 6) (gsCons (gN 7) gsNil))) (mIf (mTest (mCh (mVar 3) (cLink gLt (mVar 6) (cLink gLt (mVar 4) (cLast gLt (mVar 7)))))) (mDrop (mMth gApp (mVar 2) (mCons (mTup (mCons (mC (.str "cross")) (mCons (mVar 3) (mCons (mVar 4) (mCons (mVar 6) (mCons (mVar 7) mNil)))))) mNil))) mNext)))
    (mSeq (mFor (mItems (mVar 1)) (gT 2 (gsCons (gN 3) (gsCons (gN 4) gsNil))) (mSeq (mAsg (mP (mLc (mRng2 (mCons (m2 gAdd (mVar 3) (mC (.int 1))) (mCons (mVar 4) mNil))) (gN 8) (mAnd (mTest (m2 gIn (mTup (mCons (mVar 3) (mCons (mVar 8) mNil))) (mVar 1))) (mTest (m2 gIn (mTup (mCons (mVar 8) (mCons (mVar 4) mNil))) (mVar 1)))) (mVar 8) [8])) (gN 5))
    (mIf (mAnd (mTest (m2 gGt (mVar 4) (m2 gAdd (mVar 3) (mC (.int 1))))) (mTest (m2 gEq (mVar 5) (mP (mLst mNil))))) (mDrop (mMth gApp (mVar 2) (mCons (mTup (mCons (mC (.str "alone")) (mCons (mVar 3) (mCons (mVar 4) mNil)))) mNil))) mNext)))
    (mFz 2 (mRet (mVar 2))))))
def f_all_bars : Fn := fun ds S => (fnOf 9 b_all_bars ds S).nox
theorem ok_all_bars (B : Bt mg) (F : DefAt K mg "all_bars" "all_bars" ["many", "lot"] st_all_bars)  : Cal P w K mg base "all_bars" ["many", "lot"] 1 f_all_bars := cal_mk F sc_all_bars fun cdv A outer s H E f hr =>
    (iss_cons (is_setLc (i := 2) (own := [("one", 3)]) (fun _ _ h => h.r) rfl sc_all_bars.nd rfl rfl (sw_true rfl rfl rfl (by decide +kernel)) (ii_rng1 rfl B.n_range (ia_cons (ie_sub (iv 0) ie_int) ia_nil)) (blkOk_by (own := [("one", 3)]) (N := N_all_bars) (sc := defScope st_all_bars) (by decide +kernel)) (by decide) (fun _ _ _ _ _ => (ig_name (i := 3) sc_all_bars.nd rfl (.inl rfl))) (fun _ _ _ _ _ => (its_one (it_notIn (u65 hr) (ie_tup (ia_cons (iv 3) (ia_cons (ie_add (iv 3) ie_int) ia_nil))) (iv 1)))) (fun _ _ _ _ _ => (ie_tup (ia_cons ie_str (ia_cons (iv 3) (ia_cons (ie_add (iv 3) ie_int) ia_nil))))))
    (iss_cons (is_for .never rfl (ii_any (iv 1)) (ig_tup rfl (igs_cons (ig_name (i := 3) sc_all_bars.nd rfl (.inr rfl)) (igs_cons (ig_name (i := 4) sc_all_bars.nd rfl (.inr rfl)) igs_nil))) (iss_one (is_for .never rfl (ii_any (iv 1)) (ig_tup rfl (igs_cons (ig_name (i := 6) sc_all_bars.nd rfl (.inl rfl)) (igs_cons (ig_name (i := 7) sc_all_bars.nd rfl (.inl rfl)) igs_nil))) (iss_one (is_if (it_ch (iv 3) (ck_lt hr.units (iv 6) (ck_lt hr.units (iv 4) (cl_lt hr.units (iv 7))))) (iss_one (is_expr (ie_mth mt_append imp_app PySem.F.slot_list_append PySem.F.type_list_append (iv 2) (ia_cons (ie_tup (ia_cons ie_str (ia_cons (iv 3) (ia_cons (iv 4) (ia_cons (iv 6) (ia_cons (iv 7) ia_nil)))))) ia_nil)))) iss_nil)))))
    (iss_cons (is_for .never rfl (ii_any (iv 1)) (ig_tup rfl (igs_cons (ig_name (i := 3) sc_all_bars.nd rfl (.inr rfl)) (igs_cons (ig_name (i := 4) sc_all_bars.nd rfl (.inr rfl)) igs_nil))) (iss_cons (is_setLc (i := 5) (own := [("place", 8)]) (fun _ _ h => h.p) rfl sc_all_bars.nd rfl rfl (sw_true rfl rfl rfl (by decide +kernel)) (ii_rng2 rfl B.n_range (ia_cons (ie_add (iv 3) ie_int) (ia_cons (iv 4) ia_nil))) (blkOk_by (own := [("place", 8)]) (N := N_all_bars) (sc := defScope st_all_bars) (by decide +kernel)) (by decide) (fun _ _ _ _ _ => (ig_name (i := 8) sc_all_bars.nd rfl (.inl rfl))) (fun _ _ _ _ _ => (its_one (IW.it (iw_and (it_in (u65 hr) (ie_tup (ia_cons (iv 3) (ia_cons (iv 8) ia_nil))) (iv 1)) (iw_and1 (it_in (u65 hr) (ie_tup (ia_cons (iv 8) (ia_cons (iv 4) ia_nil))) (iv 1))))))) (fun _ _ _ _ _ => (iv 8)))
    (iss_one (is_if (IW.it (iw_and (it_gt hr.units (iv 4) (ie_add (iv 3) ie_int)) (iw_and1 (it_eq hr.units (iv 5) (IL.p (il_lst ia_nil)))))) (iss_one (is_expr (ie_mth mt_append imp_app PySem.F.slot_list_append PySem.F.type_list_append (iv 2) (ia_cons (ie_tup (ia_cons ie_str (ia_cons (iv 3) (ia_cons (iv 4) ia_nil)))) ia_nil)))) iss_nil))))
    (iss_one (is_fz 2 (is_ret (iv 2)))))))
abbrev st_is_sound : Stmt := topS 12
abbrev N_is_sound : List Str := ["many", "lot"]
theorem sc_is_sound : FnScope N_is_sound ["many", "lot"] (defScope st_is_sound) := ⟨rfl, rfl, rfl, by decide +kernel, rfl, by decide +kernel, by decide +kernel⟩
def b_is_sound : MS :=
    (mRet (m2 gEq (mCall f_all_bars (mCons (mVar 0) (mCons (mVar 1) mNil))) (mP (mLst mNil))))
def f_is_sound : Fn := fun ds S => (fnOf 2 b_is_sound ds S).nox
theorem ok_is_sound (B : Bt mg) (F : DefAt K mg "is_sound" "is_sound" ["many", "lot"] st_is_sound) (C_all_bars : Cal P w K mg base "all_bars" ["many", "lot"] 1 f_all_bars) : Cal P w K mg base "is_sound" ["many", "lot"] 2 f_is_sound := cal_mk F sc_is_sound fun cdv A outer s H E f hr =>
    (iss_one (is_ret (ie_eq hr.units (ie_own C_all_bars hr rfl (ia_cons (iv 0) (ia_cons (iv 1) ia_nil))) (IL.p (il_lst ia_nil)))))
abbrev st_amid : Stmt := topS 14
abbrev N_amid : List Str := ["lot", "low", "high", "some", "place"]
theorem sc_amid : FnScope N_amid ["lot", "low", "high"] (defScope st_amid) := ⟨rfl, rfl, rfl, by decide +kernel, rfl, by decide +kernel, by decide +kernel⟩
def b_amid : MS :=
    (mSeq (mAsg (mP (mLc (mRng2 (mCons (m2 gAdd (mVar 1) (mC (.int 1))) (mCons (mVar 2) mNil))) (gN 4) (mAnd (mTest (m2 gIn (mTup (mCons (mVar 1) (mCons (mVar 4) mNil))) (mVar 0))) (mTest (m2 gIn (mTup (mCons (mVar 4) (mCons (mVar 2) mNil))) (mVar 0)))) (mVar 4) [4])) (gN 3))
    (mRet (mIfE (mTest (m2 gNe (mVar 3) (mP (mLst mNil)))) (m2 gIx (mVar 3) (mC (.int 0))) (mC .none))))
def f_amid : Fn := fun ds S => (fnOf 5 b_amid ds S).nox
theorem ok_amid (B : Bt mg) (F : DefAt K mg "amid" "amid" ["lot", "low", "high"] st_amid)  : Cal P w K mg base "amid" ["lot", "low", "high"] 1 f_amid := cal_mk F sc_amid fun cdv A outer s H E f hr =>
    (iss_cons (is_setLc (i := 3) (own := [("place", 4)]) (fun _ _ h => h.p) rfl sc_amid.nd rfl rfl (sw_true rfl rfl rfl (by decide +kernel)) (ii_rng2 rfl B.n_range (ia_cons (ie_add (iv 1) ie_int) (ia_cons (iv 2) ia_nil))) (blkOk_by (own := [("place", 4)]) (N := N_amid) (sc := defScope st_amid) (by decide +kernel)) (by decide) (fun _ _ _ _ _ => (ig_name (i := 4) sc_amid.nd rfl (.inl rfl))) (fun _ _ _ _ _ => (its_one (IW.it (iw_and (it_in (u65 hr) (ie_tup (ia_cons (iv 1) (ia_cons (iv 4) ia_nil))) (iv 0)) (iw_and1 (it_in (u65 hr) (ie_tup (ia_cons (iv 4) (ia_cons (iv 2) ia_nil))) (iv 0))))))) (fun _ _ _ _ _ => (iv 4)))
    (iss_one (is_ret (ie_if (it_ne hr.units (iv 3) (IL.p (il_lst ia_nil))) (ie_item (iv 3) ie_int) ie_non))))
abbrev st_outer : Stmt := topS 15
abbrev N_outer : List Str := ["many", "lot", "found", "place", "one", "other"]
theorem sc_outer : FnScope N_outer ["many", "lot"] (defScope st_outer) := ⟨rfl, rfl, rfl, by decide +kernel, rfl, by decide +kernel, by decide +kernel⟩
def b_outer : MS :=
    (mSeq (mAsg (mR (mLst mNil)) (gN 2))
    (mSeq (mFor (mRng1 (mCons (mVar 0) mNil)) (gN 3) (mIf (mNot (mTest (mCB gAny (mCons (mP (mLc (mItems (mVar 1)) (gT 2 (gsCons (gN 4) (gsCons (gN 5) gsNil))) mYes (mCh (mVar 4) (cLink gLt (mVar 3) (cLast gLt (mVar 5)))) [4, 5])) mNil)))) (mDrop (mMth gApp (mVar 2) (mCons (mVar 3) mNil))) mNext))
    (mFz 2 (mRet (mVar 2)))))
def f_outer : Fn := fun ds S => (fnOf 6 b_outer ds S).nox
theorem ok_outer (B : Bt mg) (F : DefAt K mg "outer" "outer" ["many", "lot"] st_outer)  : Cal P w K mg base "outer" ["many", "lot"] 1 f_outer := cal_mk F sc_outer fun cdv A outer s H E f hr =>
    (iss_cons (is_set (i := 2) sc_outer.nd rfl (.inl rfl) (IL.r (il_lst ia_nil)))
    (iss_cons (is_for .never rfl (ii_rng1 rfl B.n_range (ia_cons (iv 0) ia_nil)) (ig_name (i := 3) sc_outer.nd rfl (.inr rfl)) (iss_one (is_if (it_not (it_val (ie_cb (cr_any rfl) imp_any rfl B.n_any boot_any1 (ia_cons (IL.p (il_lc (own := [("one", 4), ("other", 5)]) rfl sc_outer.nd (ii_any (iv 1)) (blkOk_by (own := [("one", 4), ("other", 5)]) (N := N_outer) (sc := defScope st_outer) (by decide +kernel)) (by decide) (fun _ _ _ _ _ => (ig_tup rfl (igs_cons (ig_name (i := 4) sc_outer.nd rfl (.inl rfl)) (igs_cons (ig_name (i := 5) sc_outer.nd rfl (.inl rfl)) igs_nil)))) (fun _ _ _ _ _ => its_nil) (fun _ _ _ _ _ => (ie_ch (iv 4) (ck_lt hr.units (iv 3) (cl_lt hr.units (iv 5))))))) ia_nil)))) (iss_one (is_expr (ie_mth mt_append imp_app PySem.F.slot_list_append PySem.F.type_list_append (iv 2) (ia_cons (iv 3) ia_nil)))) iss_nil)))
    (iss_one (is_fz 2 (is_ret (iv 2))))))
abbrev st_under : Stmt := topS 16
abbrev N_under : List Str := ["lot", "low", "high", "above", "found", "place"]
theorem sc_under : FnScope N_under ["lot", "low", "high", "above", "found"] (defScope st_under) := ⟨rfl, rfl, rfl, by decide +kernel, rfl, by decide +kernel, by decide +kernel⟩
def b_under (fn : Fn) : MS :=
    (mSeq (mAsg (mCall f_amid (mCons (mVar 0) (mCons (mVar 1) (mCons (mVar 2) mNil)))) (gN 5))
    (mIf (mTest (m2 (gIs true) (mVar 5) (mC .none))) (mSeq (mAsg (mVar 3) (gSubT (mVar 4) (mVar 5) gDPut))
    (mSeq (mDrop (mCall fn (mCons (mVar 0) (mCons (mVar 1) (mCons (mVar 5) (mCons (mVar 5) (mCons (mVar 4) mNil)))))))
    (mDrop (mCall fn (mCons (mVar 0) (mCons (mVar 5) (mCons (mVar 2) (mCons (mVar 5) (mCons (mVar 4) mNil))))))))) mNext))
def f_under : Nat → Fn
  | 0 => fun _ _ => .stuck
  | k + 1 => fun ds S => (fnOf 6 (b_under (f_under k)) ds S).nox
theorem ok_under (B : Bt mg) (F : DefAt K mg "under" "under" ["lot", "low", "high", "above", "found"] st_under) (C_amid : Cal P w K mg base "amid" ["lot", "low", "high"] 1 f_amid) : ∀ k : Nat, Cal P w K mg base "under" ["lot", "low", "high", "above", "found"] (1 + k) (f_under k)
  | 0 => cal_none F sc_under
  | k + 1 => by
    have C := ok_under B F C_amid k
    exact cal_mk F sc_under fun cdv A outer s H E f hr =>
    (iss_cons (is_set (i := 5) sc_under.nd rfl (.inl rfl) (ie_own C_amid (hr.mono (Nat.le_trans (by decide : 1 ≤ 1) (Nat.le_add_right 1 k))) rfl (ia_cons (iv 0) (ia_cons (iv 1) (ia_cons (iv 2) ia_nil)))))
    (iss_one (is_if (it_isNot (iv 5) ie_non) (iss_cons (is_asg (iv 3) (ig_dput (u65 hr) (iv 4) (iv 5)))
    (iss_cons (is_expr (ie_own C hr rfl (ia_cons (iv 0) (ia_cons (iv 1) (ia_cons (iv 5) (ia_cons (iv 5) (ia_cons (iv 4) ia_nil)))))))
    (iss_one (is_expr (ie_own C hr rfl (ia_cons (iv 0) (ia_cons (iv 5) (ia_cons (iv 2) (ia_cons (iv 5) (ia_cons (iv 4) ia_nil)))))))))) iss_nil)))
abbrev st_tree_of : Stmt := topS 17
abbrev N_tree_of : List Str := ["many", "lot", "top", "row", "at", "found", "spot"]
theorem sc_tree_of : FnScope N_tree_of ["many", "lot", "top"] (defScope st_tree_of) := ⟨rfl, rfl, rfl, by decide +kernel, rfl, by decide +kernel, by decide +kernel⟩
def b_tree_of : MS :=
    (mSeq (mAsg (mCall f_outer (mCons (mVar 0) (mCons (mVar 1) mNil))) (gN 3))
    (mSeq (mAsg (mMth gIndex (mVar 3) (mCons (mVar 2) mNil)) (gN 4))
    (mSeq (mAsg mDNew (gN 5))
    (mSeq (mFor (mRng1 (mCons (mVar 4) mNil)) (gN 6) (mSeq (mAsg (m2 gIx (mVar 3) (m2 gAdd (mVar 6) (mC (.int 1)))) (gSubT (mVar 5) (m2 gIx (mVar 3) (mVar 6)) gDPut))
    (mDrop (mCall (f_under 12) (mCons (mVar 1) (mCons (m2 gIx (mVar 3) (mVar 6)) (mCons (m2 gIx (mVar 3) (m2 gAdd (mVar 6) (mC (.int 1)))) (mCons (m2 gIx (mVar 3) (mVar 6)) (mCons (mVar 5) mNil)))))))))
    (mSeq (mFor (mRng2 (mCons (mVar 4) (mCons (m2 gSub (mCB gLen (mCons (mVar 3) mNil)) (mC (.int 1))) mNil))) (gN 6) (mSeq (mAsg (m2 gIx (mVar 3) (mVar 6)) (gSubT (mVar 5) (m2 gIx (mVar 3) (m2 gAdd (mVar 6) (mC (.int 1)))) gDPut))
    (mDrop (mCall (f_under 12) (mCons (mVar 1) (mCons (m2 gIx (mVar 3) (mVar 6)) (mCons (m2 gIx (mVar 3) (m2 gAdd (mVar 6) (mC (.int 1)))) (mCons (m2 gIx (mVar 3) (m2 gAdd (mVar 6) (mC (.int 1)))) (mCons (mVar 5) mNil)))))))))
    (mFz 5 (mRet (mVar 5))))))))
def f_tree_of : Fn := fun ds S => (fnOf 7 b_tree_of ds S).nox
theorem ok_tree_of (B : Bt mg) (F : DefAt K mg "tree_of" "tree_of" ["many", "lot", "top"] st_tree_of) (C_outer : Cal P w K mg base "outer" ["many", "lot"] 1 f_outer) (C_under : Cal P w K mg base "under" ["lot", "low", "high", "above", "found"] 13 (f_under 12)) : Cal P w K mg base "tree_of" ["many", "lot", "top"] 14 f_tree_of := cal_mk F sc_tree_of fun cdv A outer s H E f hr =>
    (iss_cons (is_set (i := 3) sc_tree_of.nd rfl (.inl rfl) (ie_own C_outer (hr.mono (by decide)) rfl (ia_cons (iv 0) (ia_cons (iv 1) ia_nil))))
    (iss_cons (is_set (i := 4) sc_tree_of.nd rfl (.inl rfl) (ie_mth (mt_indexD (u65 hr)) imp_index PySem.F.slot_list_index PySem.F.type_list_index (iv 3) (ia_cons (iv 2) ia_nil)))
    (iss_cons (is_set (i := 5) sc_tree_of.nd rfl (.inl rfl) ie_dnew)
    (iss_cons (is_for .never rfl (ii_rng1 rfl B.n_range (ia_cons (iv 4) ia_nil)) (ig_name (i := 6) sc_tree_of.nd rfl (.inl rfl)) (iss_cons (is_asg (ie_item (iv 3) (ie_add (iv 6) ie_int)) (ig_dput (u65 hr) (iv 5) (ie_item (iv 3) (iv 6))))
    (iss_one (is_expr (ie_own C_under hr rfl (ia_cons (iv 1) (ia_cons (ie_item (iv 3) (iv 6)) (ia_cons (ie_item (iv 3) (ie_add (iv 6) ie_int)) (ia_cons (ie_item (iv 3) (iv 6)) (ia_cons (iv 5) ia_nil))))))))))
    (iss_cons (is_for .never rfl (ii_rng2 rfl B.n_range (ia_cons (iv 4) (ia_cons (ie_sub (ie_cb call_len_seq imp_len rfl B.n_len boot_len (ia_cons (iv 3) ia_nil)) ie_int) ia_nil))) (ig_name (i := 6) sc_tree_of.nd rfl (.inl rfl)) (iss_cons (is_asg (ie_item (iv 3) (iv 6)) (ig_dput (u65 hr) (iv 5) (ie_item (iv 3) (ie_add (iv 6) ie_int))))
    (iss_one (is_expr (ie_own C_under hr rfl (ia_cons (iv 1) (ia_cons (ie_item (iv 3) (iv 6)) (ia_cons (ie_item (iv 3) (ie_add (iv 6) ie_int)) (ia_cons (ie_item (iv 3) (ie_add (iv 6) ie_int)) (ia_cons (iv 5) ia_nil))))))))))
    (iss_one (is_fz 5 (is_ret (iv 5)))))))))
abbrev st_above_all : Stmt := topS 18
abbrev N_above_all : List Str := ["tree", "house", "found"]
theorem sc_above_all : FnScope N_above_all ["tree", "house"] (defScope st_above_all) := ⟨rfl, rfl, rfl, by decide +kernel, rfl, by decide +kernel, by decide +kernel⟩
def b_above_all : MS :=
    (mSeq (mAsg (mR (mLst mNil)) (gN 2))
    (mSeq (mWhile (mTest (m2 (gDIn false) (mVar 1) (mVar 0))) (mSeq (mAsg (m2 gDGet (mVar 0) (mVar 1)) (gN 1))
    (mDrop (mMth gApp (mVar 2) (mCons (mVar 1) mNil)))) 14)
    (mFz 2 (mRet (mVar 2)))))
def f_above_all : Fn := fun ds S => (fnOf 3 b_above_all ds S).nox
theorem ok_above_all (B : Bt mg) (F : DefAt K mg "above_all" "above_all" ["tree", "house"] st_above_all)  : Cal P w K mg base "above_all" ["tree", "house"] 1 f_above_all := cal_mk F sc_above_all fun cdv A outer s H E f hr =>
    (iss_cons (is_set (i := 2) sc_above_all.nd rfl (.inl rfl) (IL.r (il_lst ia_nil)))
    (iss_cons (is_while 14 .never (it_din (u65 hr) (iv 1) (iv 0)) (iss_cons (is_set (i := 1) sc_above_all.nd rfl (.inl rfl) (ie_dget (u65 hr) (iv 0) (iv 1)))
    (iss_one (is_expr (ie_mth mt_append imp_app PySem.F.slot_list_append PySem.F.type_list_append (iv 2) (ia_cons (iv 1) ia_nil))))))
    (iss_one (is_fz 2 (is_ret (iv 2))))))
abbrev st_orders_by : Stmt := topS 19
abbrev N_orders_by : List Str := ["many", "tree", "sizes", "house", "found", "number", "size", "higher_one"]
theorem sc_orders_by : FnScope N_orders_by ["many", "tree"] (defScope st_orders_by) := ⟨rfl, rfl, rfl, by decide +kernel, rfl, by decide +kernel, by decide +kernel⟩
def b_orders_by : MS :=
    (mSeq (mAsg (mR (mRep (mLst (mCons (mC (.int 1)) mNil)) (mVar 0))) (gN 2))
    (mSeq (mForK 1 (gN 3) (mFor (mItems (mCall f_above_all (mCons (mVar 1) (mCons (mVar 3) mNil)))) (gN 7) (mAugS (mVar 2) (mVar 7) (mC (.int 1)))))
    (mSeq (mAsg (mC (.int 1)) (gN 4))
    (mSeq (mFor (mRng2 (mCons (mC (.int 2)) (mCons (m2 gAdd (mVar 0) (mC (.int 1))) mNil))) (gN 5) (mAug 4 (mVar 5) gMul))
    (mSeq (mFz 2 (mFor (mItems (mVar 2)) (gN 6) (mAug 4 (mVar 6) gDiv)))
    (mRet (mVar 4)))))))
def f_orders_by : Fn := fun ds S => (fnOf 8 b_orders_by ds S).nox
theorem ok_orders_by (B : Bt mg) (F : DefAt K mg "orders_by" "orders_by" ["many", "tree"] st_orders_by) (C_above_all : Cal P w K mg base "above_all" ["tree", "house"] 1 f_above_all) : Cal P w K mg base "orders_by" ["many", "tree"] 2 f_orders_by := cal_mk F sc_orders_by fun cdv A outer s H E f hr =>
    (iss_cons (is_set (i := 2) sc_orders_by.nd rfl (.inl rfl) (IL.r (il_rep (il_lst (ia_cons ie_int ia_nil)) (iv 0))))
    (iss_cons (is_forK (k := 1) .never rfl (pv 1) (ig_name (i := 3) sc_orders_by.nd rfl (.inl rfl)) (iss_one (is_for .never rfl (ii_any (ie_own C_above_all hr rfl (ia_cons (iv 1) (ia_cons (iv 3) ia_nil)))) (ig_name (i := 7) sc_orders_by.nd rfl (.inl rfl)) (iss_one (is_augS (iv 2) (iv 7) ie_int)))))
    (iss_cons (is_set (i := 4) sc_orders_by.nd rfl (.inl rfl) ie_int)
    (iss_cons (is_for .never rfl (ii_rng2 rfl B.n_range (ia_cons ie_int (ia_cons (ie_add (iv 0) ie_int) ia_nil))) (ig_name (i := 5) sc_orders_by.nd rfl (.inl rfl)) (iss_one (is_imul (k := 4) sc_orders_by.nd rfl (.inl rfl) (iv 5))))
    (iss_cons (is_fz 2 (is_for .never rfl (ii_any (iv 2)) (ig_name (i := 6) sc_orders_by.nd rfl (.inl rfl)) (iss_one (is_idiv (k := 4) sc_orders_by.nd rfl (.inl rfl) (iv 6)))))
    (iss_one (is_ret (iv 4))))))))
abbrev st_tops : Stmt := topS 20
abbrev N_tops : List Str := ["many", "lot", "top"]
theorem sc_tops : FnScope N_tops ["many", "lot"] (defScope st_tops) := ⟨rfl, rfl, rfl, by decide +kernel, rfl, by decide +kernel, by decide +kernel⟩
def b_tops : MS :=
    (mRet (mP (mLc (mItems (mCall f_outer (mCons (mVar 0) (mCons (mVar 1) mNil)))) (gN 2) mYes (mTup (mCons (mVar 2) (mCons (mCall f_tree_of (mCons (mVar 0) (mCons (mVar 1) (mCons (mVar 2) mNil)))) mNil))) [2])))
def f_tops : Fn := fun ds S => (fnOf 3 b_tops ds S).nox
theorem ok_tops (B : Bt mg) (F : DefAt K mg "tops" "tops" ["many", "lot"] st_tops) (C_tree_of : Cal P w K mg base "tree_of" ["many", "lot", "top"] 14 f_tree_of) (C_outer : Cal P w K mg base "outer" ["many", "lot"] 1 f_outer) : Cal P w K mg base "tops" ["many", "lot"] 15 f_tops := cal_mk F sc_tops fun cdv A outer s H E f hr =>
    (iss_one (is_ret (IL.p (il_lc (own := [("top", 2)]) rfl sc_tops.nd (ii_any (ie_own C_outer (hr.mono (by decide)) rfl (ia_cons (iv 0) (ia_cons (iv 1) ia_nil)))) (blkOk_by (own := [("top", 2)]) (N := N_tops) (sc := defScope st_tops) (by decide +kernel)) (by decide) (fun _ _ _ _ _ => (ig_name (i := 2) sc_tops.nd rfl (.inl rfl))) (fun _ _ _ _ _ => its_nil) (fun _ _ _ _ _ => (ie_tup (ia_cons (iv 2) (ia_cons (ie_own C_tree_of hr rfl (ia_cons (iv 0) (ia_cons (iv 1) (ia_cons (iv 2) ia_nil)))) ia_nil))))))))
abbrev st_first_by : Stmt := topS 21
abbrev N_first_by : List Str := ["many", "tree", "found", "number", "some", "house"]
theorem sc_first_by : FnScope N_first_by ["many", "tree"] (defScope st_first_by) := ⟨rfl, rfl, rfl, by decide +kernel, rfl, by decide +kernel, by decide +kernel⟩
def b_first_by : MS :=
    (mSeq (mAsg (mR (mRep (mLst (mCons (mC (.int 0)) mNil)) (mVar 0))) (gN 2))
    (mSeq (mFor (mRng3 (mCons (mVar 0) (mCons (mC (.int 0)) (mCons (m1 gNeg (mC (.int 1))) mNil)))) (gN 3) (mSeq (mAsg (mR (mLst mNil)) (gN 4))
    (mSeq (mFor (mRng1 (mCons (mVar 0) mNil)) (gN 5) (mIf (mAnd (mTest (m2 gEq (m2 gIx (mVar 2) (mVar 5)) (mC (.int 0)))) (mOr (mTest (m2 (gDIn true) (mVar 5) (mVar 1))) (mTest (m2 gGt (m2 gIx (mVar 2) (m2 gDGet (mVar 1) (mVar 5))) (mC (.int 0)))))) (mDrop (mMth gApp (mVar 4) (mCons (mVar 5) mNil))) mNext))
    (mAsg (mVar 3) (gSubT (mVar 2) (m2 gIx (mVar 4) (m1 gNeg (mC (.int 1)))) gSet)))))
    (mRet (mCB gTuple (mCons (mVar 2) mNil)))))
def f_first_by : Fn := fun ds S => (fnOf 6 b_first_by ds S).nox
theorem ok_first_by (B : Bt mg) (F : DefAt K mg "first_by" "first_by" ["many", "tree"] st_first_by)  : Cal P w K mg base "first_by" ["many", "tree"] 1 f_first_by := cal_mk F sc_first_by fun cdv A outer s H E f hr =>
    (iss_cons (is_set (i := 2) sc_first_by.nd rfl (.inl rfl) (IL.r (il_rep (il_lst (ia_cons ie_int ia_nil)) (iv 0))))
    (iss_cons (is_for .never rfl (ii_rng3 rfl B.n_range (ia_cons (iv 0) (ia_cons ie_int (ia_cons (ie_neg ie_int) ia_nil)))) (ig_name (i := 3) sc_first_by.nd rfl (.inl rfl)) (iss_cons (is_set (i := 4) sc_first_by.nd rfl (.inl rfl) (IL.r (il_lst ia_nil)))
    (iss_cons (is_for .never rfl (ii_rng1 rfl B.n_range (ia_cons (iv 0) ia_nil)) (ig_name (i := 5) sc_first_by.nd rfl (.inl rfl)) (iss_one (is_if (IW.it (iw_and (it_eq hr.units (ie_item (iv 2) (iv 5)) ie_int) (iw_and1 (IW.it (iw_or (it_dnin (u65 hr) (iv 5) (iv 1)) (iw_or1 (it_gt hr.units (ie_item (iv 2) (ie_dget (u65 hr) (iv 1) (iv 5))) ie_int))))))) (iss_one (is_expr (ie_mth mt_append imp_app PySem.F.slot_list_append PySem.F.type_list_append (iv 4) (ia_cons (iv 5) ia_nil)))) iss_nil)))
    (iss_one (is_asg (iv 3) (ig_item (iv 2) (ie_item (iv 4) (ie_neg ie_int))))))))
    (iss_one (is_ret (ie_ct call_tupN imp_tuple rfl B.n_tuple boot_ttuple (ia_cons (iv 2) ia_nil))))))
abbrev st_how_many : Stmt := topS 22
abbrev N_how_many : List Str := ["many", "lot", "top", "tree"]
theorem sc_how_many : FnScope N_how_many ["many", "lot"] (defScope st_how_many) := ⟨rfl, rfl, rfl, by decide +kernel, rfl, by decide +kernel, by decide +kernel⟩
def b_how_many : MS :=
    (mSeq (mDrop (mCall f_need_lot (mCons (mVar 0) (mCons (mVar 1) mNil))))
    (mSeq (mIf (mNot (mTest (mCall f_is_sound (mCons (mVar 0) (mCons (mVar 1) mNil))))) (mRet (mC (.int 0))) mNext)
    (mRet (mCB gSum (mCons (mP (mLc (mItems (mCall f_tops (mCons (mVar 0) (mCons (mVar 1) mNil)))) (gT 2 (gsCons (gN 2) (gsCons (gN 3) gsNil))) mYes (mCall f_orders_by (mCons (mVar 0) (mCons (mVar 3) mNil))) [2, 3])) mNil)))))
def f_how_many : Fn := fun ds S => (fnOf 4 b_how_many ds S).nox
theorem ok_how_many (B : Bt mg) (F : DefAt K mg "how_many" "how_many" ["many", "lot"] st_how_many) (C_need_lot : Cal P w K mg base "need_lot" ["many", "lot"] 3 f_need_lot) (C_is_sound : Cal P w K mg base "is_sound" ["many", "lot"] 2 f_is_sound) (C_orders_by : Cal P w K mg base "orders_by" ["many", "tree"] 2 f_orders_by) (C_tops : Cal P w K mg base "tops" ["many", "lot"] 15 f_tops) : Cal P w K mg base "how_many" ["many", "lot"] 16 f_how_many := cal_mk F sc_how_many fun cdv A outer s H E f hr =>
    (iss_cons (is_expr (ie_own C_need_lot (hr.mono (by decide)) rfl (ia_cons (iv 0) (ia_cons (iv 1) ia_nil))))
    (iss_cons (is_if (it_not (it_val (ie_own C_is_sound (hr.mono (by decide)) rfl (ia_cons (iv 0) (ia_cons (iv 1) ia_nil))))) (iss_one (is_ret ie_int)) iss_nil)
    (iss_one (is_ret (ie_cb (cr_sum rfl) imp_sum rfl B.n_sum boot_sum1 (ia_cons (IL.p (il_lc (own := [("top", 2), ("tree", 3)]) rfl sc_how_many.nd (ii_any (ie_own C_tops hr rfl (ia_cons (iv 0) (ia_cons (iv 1) ia_nil)))) (blkOk_by (own := [("top", 2), ("tree", 3)]) (N := N_how_many) (sc := defScope st_how_many) (by decide +kernel)) (by decide) (fun _ _ _ _ _ => (ig_tup rfl (igs_cons (ig_name (i := 2) sc_how_many.nd rfl (.inl rfl)) (igs_cons (ig_name (i := 3) sc_how_many.nd rfl (.inl rfl)) igs_nil)))) (fun _ _ _ _ _ => its_nil) (fun _ _ _ _ _ => (ie_own C_orders_by (hr.mono (by decide)) rfl (ia_cons (iv 0) (ia_cons (iv 3) ia_nil)))))) ia_nil))))))
abbrev st_first_order : Stmt := topS 23
abbrev N_first_order : List Str := ["many", "lot", "top", "tree"]
theorem sc_first_order : FnScope N_first_order ["many", "lot"] (defScope st_first_order) := ⟨rfl, rfl, rfl, by decide +kernel, rfl, by decide +kernel, by decide +kernel⟩
def b_first_order : MS :=
    (mSeq (mDrop (mCall f_need_lot (mCons (mVar 0) (mCons (mVar 1) mNil))))
    (mSeq (mIf (mNot (mTest (mCall f_is_sound (mCons (mVar 0) (mCons (mVar 1) mNil))))) (mRet (mC .none)) mNext)
    (mRet (mCB gMinD (mCons (mP (mLc (mItems (mCall f_tops (mCons (mVar 0) (mCons (mVar 1) mNil)))) (gT 2 (gsCons (gN 2) (gsCons (gN 3) gsNil))) mYes (mCall f_first_by (mCons (mVar 0) (mCons (mVar 3) mNil))) [2, 3])) mNil)))))
def f_first_order : Fn := fun ds S => (fnOf 4 b_first_order ds S).nox
theorem ok_first_order (B : Bt mg) (F : DefAt K mg "first_order" "first_order" ["many", "lot"] st_first_order) (C_need_lot : Cal P w K mg base "need_lot" ["many", "lot"] 3 f_need_lot) (C_is_sound : Cal P w K mg base "is_sound" ["many", "lot"] 2 f_is_sound) (C_first_by : Cal P w K mg base "first_by" ["many", "tree"] 1 f_first_by) (C_tops : Cal P w K mg base "tops" ["many", "lot"] 15 f_tops) : Cal P w K mg base "first_order" ["many", "lot"] 16 f_first_order := cal_mk F sc_first_order fun cdv A outer s H E f hr =>
    (iss_cons (is_expr (ie_own C_need_lot (hr.mono (by decide)) rfl (ia_cons (iv 0) (ia_cons (iv 1) ia_nil))))
    (iss_cons (is_if (it_not (it_val (ie_own C_is_sound (hr.mono (by decide)) rfl (ia_cons (iv 0) (ia_cons (iv 1) ia_nil))))) (iss_one (is_ret ie_non)) iss_nil)
    (iss_one (is_ret (ie_cb (cr_minD rfl (u100 hr)) imp_minD rfl B.n_min boot_min1 (ia_cons (IL.p (il_lc (own := [("top", 2), ("tree", 3)]) rfl sc_first_order.nd (ii_any (ie_own C_tops hr rfl (ia_cons (iv 0) (ia_cons (iv 1) ia_nil)))) (blkOk_by (own := [("top", 2), ("tree", 3)]) (N := N_first_order) (sc := defScope st_first_order) (by decide +kernel)) (by decide) (fun _ _ _ _ _ => (ig_tup rfl (igs_cons (ig_name (i := 2) sc_first_order.nd rfl (.inl rfl)) (igs_cons (ig_name (i := 3) sc_first_order.nd rfl (.inl rfl)) igs_nil)))) (fun _ _ _ _ _ => its_nil) (fun _ _ _ _ _ => (ie_own C_first_by (hr.mono (by decide)) rfl (ia_cons (iv 0) (ia_cons (iv 3) ia_nil)))))) ia_nil))))))
abbrev st_highest : Stmt := topS 24
abbrev N_highest : List Str := ["many", "lot", "top", "tree"]
theorem sc_highest : FnScope N_highest ["many", "lot"] (defScope st_highest) := ⟨rfl, rfl, rfl, by decide +kernel, rfl, by decide +kernel, by decide +kernel⟩
def b_highest : MS :=
    (mSeq (mDrop (mCall f_need_lot (mCons (mVar 0) (mCons (mVar 1) mNil))))
    (mSeq (mIf (mNot (mTest (mCall f_is_sound (mCons (mVar 0) (mCons (mVar 1) mNil))))) (mRet (mR (mLst mNil))) mNext)
    (mRet (mR (mLc (mItems (mCall f_tops (mCons (mVar 0) (mCons (mVar 1) mNil)))) (gT 2 (gsCons (gN 2) (gsCons (gN 3) gsNil))) mYes (mTup (mCons (mVar 2) (mCons (mCall f_orders_by (mCons (mVar 0) (mCons (mVar 3) mNil))) mNil))) [2, 3])))))
def f_highest : Fn := fun ds S => (fnOf 4 b_highest ds S).nox
theorem ok_highest (B : Bt mg) (F : DefAt K mg "highest" "highest" ["many", "lot"] st_highest) (C_need_lot : Cal P w K mg base "need_lot" ["many", "lot"] 3 f_need_lot) (C_is_sound : Cal P w K mg base "is_sound" ["many", "lot"] 2 f_is_sound) (C_orders_by : Cal P w K mg base "orders_by" ["many", "tree"] 2 f_orders_by) (C_tops : Cal P w K mg base "tops" ["many", "lot"] 15 f_tops) : Cal P w K mg base "highest" ["many", "lot"] 16 f_highest := cal_mk F sc_highest fun cdv A outer s H E f hr =>
    (iss_cons (is_expr (ie_own C_need_lot (hr.mono (by decide)) rfl (ia_cons (iv 0) (ia_cons (iv 1) ia_nil))))
    (iss_cons (is_if (it_not (it_val (ie_own C_is_sound (hr.mono (by decide)) rfl (ia_cons (iv 0) (ia_cons (iv 1) ia_nil))))) (iss_one (is_ret (IL.r (il_lst ia_nil)))) iss_nil)
    (iss_one (is_ret (IL.r (il_lc (own := [("top", 2), ("tree", 3)]) rfl sc_highest.nd (ii_any (ie_own C_tops hr rfl (ia_cons (iv 0) (ia_cons (iv 1) ia_nil)))) (blkOk_by (own := [("top", 2), ("tree", 3)]) (N := N_highest) (sc := defScope st_highest) (by decide +kernel)) (by decide) (fun _ _ _ _ _ => (ig_tup rfl (igs_cons (ig_name (i := 2) sc_highest.nd rfl (.inl rfl)) (igs_cons (ig_name (i := 3) sc_highest.nd rfl (.inl rfl)) igs_nil)))) (fun _ _ _ _ _ => its_nil) (fun _ _ _ _ _ => (ie_tup (ia_cons (iv 2) (ia_cons (ie_own C_orders_by (hr.mono (by decide)) rfl (ia_cons (iv 0) (ia_cons (iv 3) ia_nil))) ia_nil))))))))))
abbrev st_law_deck : Stmt := topS 26
abbrev N_law_deck : List Str := ["cell", "turn"]
theorem sc_law_deck : FnScope N_law_deck ["cell", "turn"] (defScope st_law_deck) := ⟨rfl, rfl, rfl, by decide +kernel, rfl, by decide +kernel, by decide +kernel⟩
def b_law_deck : MS :=
    (mSeq (mIf (mTest (m2 gGe (mVar 0) (m2 gPow (mC (.int 10)) (mC (.int 18))))) (mRet (mR (mLst (mCons (m2 gSub (mVar 0) (m2 gPow (mC (.int 10)) (mC (.int 18)))) (mCons (m2 gMod (mVar 0) (mC (.int 2147483579))) (mCons (mVar 1) mNil)))))) mNext)
    (mRet (mR (mLst (mCons (mC (.int 0)) (mCons (m2 gMod (mVar 0) (mC (.int 2147483579))) (mCons (mVar 1) mNil)))))))
def f_law_deck : Fn := fun ds S => (fnOf 2 b_law_deck ds S).nox
theorem ok_law_deck (B : Bt mg) (F : DefAt K mg "_law_deck" "_law_deck" ["cell", "turn"] st_law_deck)  : Cal P w K mg base "_law_deck" ["cell", "turn"] 1 f_law_deck := cal_mk F sc_law_deck fun cdv A outer s H E f hr =>
    (iss_cons (is_if (it_ge hr.units (iv 0) (ie_pow ie_int ie_int)) (iss_one (is_ret (IL.r (il_lst (ia_cons (ie_sub (iv 0) (ie_pow ie_int ie_int)) (ia_cons (ie_mod (iv 0) ie_int) (ia_cons (iv 1) ia_nil))))))) iss_nil)
    (iss_one (is_ret (IL.r (il_lst (ia_cons ie_int (ia_cons (ie_mod (iv 0) ie_int) (ia_cons (iv 1) ia_nil))))))))
abbrev st_law_pick : Stmt := topS 27
abbrev N_law_pick : List Str := ["deck", "size", "number", "found"]
theorem sc_law_pick : FnScope N_law_pick ["deck", "size"] (defScope st_law_pick) := ⟨rfl, rfl, rfl, by decide +kernel, rfl, by decide +kernel, by decide +kernel⟩
def b_law_pick : MS :=
    (mSeq (mIf (mTest (m2 gGt (m2 gIx (mVar 0) (mC (.int 0))) (mC (.int 1)))) (mSeq (mAsg (m2 gMod (m2 gIx (mVar 0) (mC (.int 0))) (mVar 1)) (gN 3))
    (mSeq (mAsg (m2 gDiv (m2 gIx (mVar 0) (mC (.int 0))) (mVar 1)) (gSubT (mVar 0) (mC (.int 0)) gSet))
    (mRet (mVar 3)))) mNext)
    (mSeq (mAsg (m2 gAdd (m2 gIx (mVar 0) (mC (.int 2))) (mC (.int 1))) (gSubT (mVar 0) (mC (.int 2)) gSet))
    (mSeq (mAsg (m2 gMod (m2 gPow (m2 gAdd (m2 gIx (mVar 0) (mC (.int 1))) (m2 gMul (mC (.int 15485867)) (m2 gIx (mVar 0) (mC (.int 2))))) (mC (.int 5))) (mC (.int 2147483647))) (gN 2))
    (mSeq (mAsg (m2 gDiv (m2 gMod (m2 gPow (m2 gAdd (mVar 2) (m2 gMul (mC (.int 7919)) (m2 gIx (mVar 0) (mC (.int 2))))) (mC (.int 3))) (mC (.int 2147483629))) (mC (.int 32))) (gN 3))
    (mRet (m2 gMod (mVar 3) (mVar 1)))))))
def f_law_pick : Fn := fun ds S => (fnOf 4 b_law_pick ds S).nox
theorem ok_law_pick (B : Bt mg) (F : DefAt K mg "_law_pick" "_law_pick" ["deck", "size"] st_law_pick)  : Cal P w K mg base "_law_pick" ["deck", "size"] 1 f_law_pick := cal_mk F sc_law_pick fun cdv A outer s H E f hr =>
    (iss_cons (is_if (it_gt hr.units (ie_item (iv 0) ie_int) ie_int) (iss_cons (is_set (i := 3) sc_law_pick.nd rfl (.inl rfl) (ie_mod (ie_item (iv 0) ie_int) (iv 1)))
    (iss_cons (is_asg (ie_div (ie_item (iv 0) ie_int) (iv 1)) (ig_item (iv 0) ie_int))
    (iss_one (is_ret (iv 3))))) iss_nil)
    (iss_cons (is_asg (ie_add (ie_item (iv 0) ie_int) ie_int) (ig_item (iv 0) ie_int))
    (iss_cons (is_set (i := 2) sc_law_pick.nd rfl (.inl rfl) (ie_mod (ie_pow (ie_add (ie_item (iv 0) ie_int) (ie_mul ie_int (ie_item (iv 0) ie_int))) ie_int) ie_int))
    (iss_cons (is_set (i := 3) sc_law_pick.nd rfl (.inl rfl) (ie_div (ie_mod (ie_pow (ie_add (iv 2) (ie_mul ie_int (ie_item (iv 0) ie_int))) ie_int) ie_int) ie_int))
    (iss_one (is_ret (ie_mod (iv 3) (iv 1))))))))
abbrev st_law_one : Stmt := topS 28
abbrev N_law_one : List Str := ["deck", "some"]
theorem sc_law_one : FnScope N_law_one ["deck", "some"] (defScope st_law_one) := ⟨rfl, rfl, rfl, by decide +kernel, rfl, by decide +kernel, by decide +kernel⟩
def b_law_one : MS :=
    (mRet (m2 gIx (mVar 1) (mCall f_law_pick (mCons (mVar 0) (mCons (mCB gLen (mCons (mVar 1) mNil)) mNil)))))
def f_law_one : Fn := fun ds S => (fnOf 2 b_law_one ds S).nox
theorem ok_law_one (B : Bt mg) (F : DefAt K mg "_law_one" "_law_one" ["deck", "some"] st_law_one) (C_law_pick : Cal P w K mg base "_law_pick" ["deck", "size"] 1 f_law_pick) : Cal P w K mg base "_law_one" ["deck", "some"] 2 f_law_one := cal_mk F sc_law_one fun cdv A outer s H E f hr =>
    (iss_one (is_ret (ie_item (iv 1) (ie_own C_law_pick hr rfl (ia_cons (iv 0) (ia_cons (ie_cb call_len_seq imp_len rfl B.n_len boot_len (ia_cons (iv 1) ia_nil)) ia_nil))))))
abbrev st_law_sort : Stmt := topS 29
abbrev N_law_sort : List Str := ["thing"]
theorem sc_law_sort : FnScope N_law_sort ["thing"] (defScope st_law_sort) := ⟨rfl, rfl, rfl, by decide +kernel, rfl, by decide +kernel, by decide +kernel⟩
def b_law_sort : MS :=
    (mSeq (mIf (mTest (mIsi [.bool] (mVar 0))) (mRet (mC (.int 1))) mNext)
    (mSeq (mIf (mTest (mIsi [.int] (mVar 0))) (mRet (mC (.int 2))) mNext)
    (mSeq (mIf (mTest (mIsi [.str] (mVar 0))) (mRet (mC (.int 3))) mNext)
    (mSeq (mIf (mTest (mIsi [.list] (mVar 0))) (mRet (mC (.int 4))) mNext)
    (mRet (mIfE (mTest (mIsi [.tuple] (mVar 0))) (mC (.int 5)) (mC (.int 6))))))))
def f_law_sort : Fn := fun ds S => (fnOf 1 b_law_sort ds S).nox
theorem ok_law_sort (B : Bt mg) (F : DefAt K mg "_law_sort" "_law_sort" ["thing"] st_law_sort)  : Cal P w K mg base "_law_sort" ["thing"] 1 f_law_sort := cal_mk F sc_law_sort fun cdv A outer s H E f hr =>
    (iss_cons (is_if (it_val (ie_isi (t := .bool) rfl B.n_isinstance rfl B.n_bool (by decide +kernel) (iv 0))) (iss_one (is_ret ie_int)) iss_nil)
    (iss_cons (is_if (it_val (ie_isi (t := .int) rfl B.n_isinstance rfl B.n_int (by decide +kernel) (iv 0))) (iss_one (is_ret ie_int)) iss_nil)
    (iss_cons (is_if (it_val (ie_isi (t := .str) rfl B.n_isinstance rfl B.n_str (by decide +kernel) (iv 0))) (iss_one (is_ret ie_int)) iss_nil)
    (iss_cons (is_if (it_val (ie_isi (t := .list) rfl B.n_isinstance rfl B.n_list (by decide +kernel) (iv 0))) (iss_one (is_ret ie_int)) iss_nil)
    (iss_one (is_ret (ie_if (it_val (ie_isi (t := .tuple) rfl B.n_isinstance rfl B.n_tuple (by decide +kernel) (iv 0))) ie_int ie_int)))))))
abbrev st_law_same : Stmt := topS 30
abbrev N_law_same : List Str := ["told", "due", "k", "part"]
theorem sc_law_same : FnScope N_law_same ["told", "due"] (defScope st_law_same) := ⟨rfl, rfl, rfl, by decide +kernel, rfl, by decide +kernel, by decide +kernel⟩
def b_law_same (fn : Fn) : MS :=
    (mSeq (mIf (mTest (m2 gNe (mCall f_law_sort (mCons (mVar 0) mNil)) (mCall f_law_sort (mCons (mVar 1) mNil)))) (mRet (mC (.bool false))) mNext)
    (mSeq (mIf (mAnd (mTest (m2 gGt (mCall f_law_sort (mCons (mVar 0) mNil)) (mC (.int 3)))) (mTest (m2 gLt (mCall f_law_sort (mCons (mVar 0) mNil)) (mC (.int 6))))) (mSeq (mIf (mTest (m2 gNe (mCB gLen (mCons (mVar 0) mNil)) (mCB gLen (mCons (mVar 1) mNil)))) (mRet (mC (.bool false))) mNext)
    (mRet (m2 gEq (mP (mLc (mEnum (mCons (mVar 0) mNil)) (gT 2 (gsCons (gN 2) (gsCons (gN 3) gsNil))) (mNot (mTest (mCall fn (mCons (mVar 3) (mCons (m2 gIx (mVar 1) (mVar 2)) mNil))))) (mVar 2) [2, 3])) (mP (mLst mNil))))) mNext)
    (mRet (m2 gEq (mVar 0) (mVar 1)))))
def f_law_same : Nat → Fn
  | 0 => fun _ _ => .stuck
  | k + 1 => fun ds S => (fnOf 4 (b_law_same (f_law_same k)) ds S).nox
theorem ok_law_same (B : Bt mg) (F : DefAt K mg "_law_same" "_law_same" ["told", "due"] st_law_same) (C_law_sort : Cal P w K mg base "_law_sort" ["thing"] 1 f_law_sort) : ∀ k : Nat, Cal P w K mg base "_law_same" ["told", "due"] (1 + k) (f_law_same k)
  | 0 => cal_none F sc_law_same
  | k + 1 => by
    have C := ok_law_same B F C_law_sort k
    exact cal_mk F sc_law_same fun cdv A outer s H E f hr =>
    (iss_cons (is_if (it_ne hr.units (ie_own C_law_sort (hr.mono (Nat.le_trans (by decide : 1 ≤ 1) (Nat.le_add_right 1 k))) rfl (ia_cons (iv 0) ia_nil)) (ie_own C_law_sort (hr.mono (Nat.le_trans (by decide : 1 ≤ 1) (Nat.le_add_right 1 k))) rfl (ia_cons (iv 1) ia_nil))) (iss_one (is_ret ie_bl)) iss_nil)
    (iss_cons (is_if (IW.it (iw_and (it_gt hr.units (ie_own C_law_sort (hr.mono (Nat.le_trans (by decide : 1 ≤ 1) (Nat.le_add_right 1 k))) rfl (ia_cons (iv 0) ia_nil)) ie_int) (iw_and1 (it_lt hr.units (ie_own C_law_sort (hr.mono (Nat.le_trans (by decide : 1 ≤ 1) (Nat.le_add_right 1 k))) rfl (ia_cons (iv 0) ia_nil)) ie_int)))) (iss_cons (is_if (it_ne hr.units (ie_cb call_len_seq imp_len rfl B.n_len boot_len (ia_cons (iv 0) ia_nil)) (ie_cb call_len_seq imp_len rfl B.n_len boot_len (ia_cons (iv 1) ia_nil))) (iss_one (is_ret ie_bl)) iss_nil)
    (iss_one (is_ret (ie_eq hr.units (IL.p (il_lc (own := [("k", 2), ("part", 3)]) rfl sc_law_same.nd (ii_enum rfl B.n_enumerate (ia_cons (iv 0) ia_nil)) (blkOk_by (own := [("k", 2), ("part", 3)]) (N := N_law_same) (sc := defScope st_law_same) (by decide +kernel)) (by decide) (fun _ _ _ _ _ => (ig_tup rfl (igs_cons (ig_name (i := 2) sc_law_same.nd rfl (.inl rfl)) (igs_cons (ig_name (i := 3) sc_law_same.nd rfl (.inl rfl)) igs_nil)))) (fun _ _ _ _ _ => (its_one (it_not (it_val (ie_own C hr rfl (ia_cons (iv 3) (ia_cons (ie_item (iv 1) (iv 2)) ia_nil))))))) (fun _ _ _ _ _ => (iv 2)))) (IL.p (il_lst ia_nil)))))) iss_nil)
    (iss_one (is_ret (ie_eq hr.units (iv 0) (iv 1))))))
abbrev st_law_seen : Stmt := topS 31
abbrev N_law_seen : List Str := ["heights_so", "found", "one", "other", "low", "height"]
theorem sc_law_seen : FnScope N_law_seen ["heights_so"] (defScope st_law_seen) := ⟨rfl, rfl, rfl, by decide +kernel, rfl, by decide +kernel, by decide +kernel⟩
def b_law_seen : MS :=
    (mSeq (mAsg (mR (mLst mNil)) (gN 1))
    (mSeq (mFor (mRng1 (mCons (mCB gLen (mCons (mVar 0) mNil)) mNil)) (gN 2) (mFor (mRng2 (mCons (m2 gAdd (mVar 2) (mC (.int 1))) (mCons (mCB gLen (mCons (mVar 0) mNil)) mNil))) (gN 3) (mSeq (mAsg (mCB gMin (mCons (m2 gIx (mVar 0) (mVar 2)) (mCons (m2 gIx (mVar 0) (mVar 3)) mNil))) (gN 4))
    (mIf (mTest (m2 gEq (mP (mLc (mItems (mSl (mVar 0) (mPart (some (m2 gAdd (mVar 2) (mC (.int 1))))) (mPart (some (mVar 3))))) (gN 5) (mTest (m2 gGt (mVar 5) (mVar 4))) (mVar 5) [5])) (mP (mLst mNil)))) (mDrop (mMth gApp (mVar 1) (mCons (mTup (mCons (mVar 2) (mCons (mVar 3) mNil))) mNil))) mNext))))
    (mRet (mCB gTuple (mCons (mVar 1) mNil)))))
def f_law_seen : Fn := fun ds S => (fnOf 6 b_law_seen ds S).nox
theorem ok_law_seen (B : Bt mg) (F : DefAt K mg "_law_seen" "_law_seen" ["heights_so"] st_law_seen)  : Cal P w K mg base "_law_seen" ["heights_so"] 1 f_law_seen := cal_mk F sc_law_seen fun cdv A outer s H E f hr =>
    (iss_cons (is_set (i := 1) sc_law_seen.nd rfl (.inl rfl) (IL.r (il_lst ia_nil)))
    (iss_cons (is_for .never rfl (ii_rng1 rfl B.n_range (ia_cons (ie_cb call_len_seq imp_len rfl B.n_len boot_len (ia_cons (iv 0) ia_nil)) ia_nil)) (ig_name (i := 2) sc_law_seen.nd rfl (.inl rfl)) (iss_one (is_for .never rfl (ii_rng2 rfl B.n_range (ia_cons (ie_add (iv 2) ie_int) (ia_cons (ie_cb call_len_seq imp_len rfl B.n_len boot_len (ia_cons (iv 0) ia_nil)) ia_nil))) (ig_name (i := 3) sc_law_seen.nd rfl (.inl rfl)) (iss_cons (is_set (i := 4) sc_law_seen.nd rfl (.inr rfl) (ie_cb (call_min2 rfl) imp_I2 rfl B.n_min boot_min1 (ia_cons (ie_item (iv 0) (iv 2)) (ia_cons (ie_item (iv 0) (iv 3)) ia_nil))))
    (iss_one (is_if (it_eq hr.units (IL.p (il_lc (own := [("height", 5)]) rfl sc_law_seen.nd (ii_any (ie_slice (iv 0) (ip_some (ie_add (iv 2) ie_int)) (ip_some (iv 3)))) (blkOk_by (own := [("height", 5)]) (N := N_law_seen) (sc := defScope st_law_seen) (by decide +kernel)) (by decide) (fun _ _ _ _ _ => (ig_name (i := 5) sc_law_seen.nd rfl (.inl rfl))) (fun _ _ _ _ _ => (its_one (it_gt hr.units (iv 5) (iv 4)))) (fun _ _ _ _ _ => (iv 5)))) (IL.p (il_lst ia_nil))) (iss_one (is_expr (ie_mth mt_append imp_app PySem.F.slot_list_append PySem.F.type_list_append (iv 1) (ia_cons (ie_tup (ia_cons (iv 2) (ia_cons (iv 3) ia_nil))) ia_nil)))) iss_nil))))))
    (iss_one (is_ret (ie_ct call_tupN imp_tuple rfl B.n_tuple boot_ttuple (ia_cons (iv 1) ia_nil))))))
abbrev st_law_pairs : Stmt := topS 32
abbrev N_law_pairs : List Str := ["many", "found", "one", "other"]
theorem sc_law_pairs : FnScope N_law_pairs ["many"] (defScope st_law_pairs) := ⟨rfl, rfl, rfl, by decide +kernel, rfl, by decide +kernel, by decide +kernel⟩
def b_law_pairs : MS :=
    (mSeq (mAsg (mP (mLst mNil)) (gN 1))
    (mSeq (mFor (mRng1 (mCons (mVar 0) mNil)) (gN 2) (mAsg (m2 gAdd (mVar 1) (mP (mLc (mRng2 (mCons (m2 gAdd (mVar 2) (mC (.int 1))) (mCons (mVar 0) mNil))) (gN 3) mYes (mTup (mCons (mVar 2) (mCons (mVar 3) mNil))) [3]))) (gN 1)))
    (mRet (mVar 1))))
def f_law_pairs : Fn := fun ds S => (fnOf 4 b_law_pairs ds S).nox
theorem ok_law_pairs (B : Bt mg) (F : DefAt K mg "_law_pairs" "_law_pairs" ["many"] st_law_pairs)  : Cal P w K mg base "_law_pairs" ["many"] 1 f_law_pairs := cal_mk F sc_law_pairs fun cdv A outer s H E f hr =>
    (iss_cons (is_set (i := 1) sc_law_pairs.nd rfl (.inl rfl) (IL.p (il_lst ia_nil)))
    (iss_cons (is_for .never rfl (ii_rng1 rfl B.n_range (ia_cons (iv 0) ia_nil)) (ig_name (i := 2) sc_law_pairs.nd rfl (.inr rfl)) (iss_one (is_set (i := 1) sc_law_pairs.nd rfl (.inl rfl) (ie_add (iv 1) (IL.p (il_lc (own := [("other", 3)]) rfl sc_law_pairs.nd (ii_rng2 rfl B.n_range (ia_cons (ie_add (iv 2) ie_int) (ia_cons (iv 0) ia_nil))) (blkOk_by (own := [("other", 3)]) (N := N_law_pairs) (sc := defScope st_law_pairs) (by decide +kernel)) (by decide) (fun _ _ _ _ _ => (ig_name (i := 3) sc_law_pairs.nd rfl (.inl rfl))) (fun _ _ _ _ _ => its_nil) (fun _ _ _ _ _ => (ie_tup (ia_cons (iv 2) (ia_cons (iv 3) ia_nil))))))))))
    (iss_one (is_ret (iv 1)))))
abbrev st_law_bent : Stmt := topS 33
abbrev N_law_bent : List Str := ["deck", "many", "lot", "pairs", "found", "turn", "pair"]
theorem sc_law_bent : FnScope N_law_bent ["deck", "many", "lot"] (defScope st_law_bent) := ⟨rfl, rfl, rfl, by decide +kernel, rfl, by decide +kernel, by decide +kernel⟩
def b_law_bent : MS :=
    (mSeq (mAsg (mCall f_law_pairs (mCons (mVar 1) mNil)) (gN 3))
    (mSeq (mAsg (mR (mCL gList (mCons (mVar 2) mNil))) (gN 4))
    (mSeq (mFor (mRng1 (mCons (m2 gAdd (mC (.int 1)) (mCall f_law_pick (mCons (mVar 0) (mCons (mC (.int 2)) mNil)))) mNil)) (gN 5) (mIf (mTest (m2 gNe (mVar 3) (mP (mLst mNil)))) (mSeq (mAsg (mCall f_law_one (mCons (mVar 0) (mCons (mVar 3) mNil))) (gN 6))
    (mIf (mTest (m2 gIn (mVar 6) (mVar 4))) (mDrop (mMth gRem (mVar 4) (mCons (mVar 6) mNil))) (mDrop (mMth gApp (mVar 4) (mCons (mVar 6) mNil))))) mNext))
    (mRet (mCB gTuple (mCons (mP (mCL gSorted (mCons (mVar 4) mNil))) mNil))))))
def f_law_bent : Fn := fun ds S => (fnOf 7 b_law_bent ds S).nox
theorem ok_law_bent (B : Bt mg) (F : DefAt K mg "_law_bent" "_law_bent" ["deck", "many", "lot"] st_law_bent) (C_law_pairs : Cal P w K mg base "_law_pairs" ["many"] 1 f_law_pairs) (C_law_pick : Cal P w K mg base "_law_pick" ["deck", "size"] 1 f_law_pick) (C_law_one : Cal P w K mg base "_law_one" ["deck", "some"] 2 f_law_one) : Cal P w K mg base "_law_bent" ["deck", "many", "lot"] 3 f_law_bent := cal_mk F sc_law_bent fun cdv A outer s H E f hr =>
    (iss_cons (is_set (i := 3) sc_law_bent.nd rfl (.inl rfl) (ie_own C_law_pairs (hr.mono (by decide)) rfl (ia_cons (iv 1) ia_nil)))
    (iss_cons (is_set (i := 4) sc_law_bent.nd rfl (.inl rfl) (IL.r (il_ct call_list_of imp_list rfl B.n_list boot_tlist (ia_cons (iv 2) ia_nil))))
    (iss_cons (is_for .never rfl (ii_rng1 rfl B.n_range (ia_cons (ie_add ie_int (ie_own C_law_pick (hr.mono (by decide)) rfl (ia_cons (iv 0) (ia_cons ie_int ia_nil)))) ia_nil)) (ig_name (i := 5) sc_law_bent.nd rfl (.inl rfl)) (iss_one (is_if (it_ne hr.units (iv 3) (IL.p (il_lst ia_nil))) (iss_cons (is_set (i := 6) sc_law_bent.nd rfl (.inl rfl) (ie_own C_law_one hr rfl (ia_cons (iv 0) (ia_cons (iv 3) ia_nil))))
    (iss_one (is_if (it_in (u65 hr) (iv 6) (iv 4)) (iss_one (is_expr (ie_mth (mt_remD (u65 hr)) imp_rem PySem.F.slot_list_remove PySem.F.type_list_remove (iv 4) (ia_cons (iv 6) ia_nil)))) (iss_one (is_expr (ie_mth mt_append imp_app PySem.F.slot_list_append PySem.F.type_list_append (iv 4) (ia_cons (iv 6) ia_nil))))))) iss_nil)))
    (iss_one (is_ret (ie_ct call_tupN imp_tuple rfl B.n_tuple boot_ttuple (ia_cons (IL.p (il_cb (cr_srt (u100 hr)) imp_srt rfl B.n_sorted boot_sorted1 (ia_cons (iv 4) ia_nil))) ia_nil)))))))
abbrev st_law_orders : Stmt := topS 34
abbrev N_law_orders : List Str := ["many", "found", "turn", "more", "row", "number"]
theorem sc_law_orders : FnScope N_law_orders ["many"] (defScope st_law_orders) := ⟨rfl, rfl, rfl, by decide +kernel, rfl, by decide +kernel, by decide +kernel⟩
def b_law_orders : MS :=
    (mSeq (mAsg (mP (mLst (mCons (mTup mNil) mNil))) (gN 1))
    (mSeq (mFor (mRng1 (mCons (mVar 0) mNil)) (gN 2) (mSeq (mAsg (mP (mLst mNil)) (gN 3))
    (mSeq (mFor (mItems (mVar 1)) (gN 4) (mAsg (m2 gAdd (mVar 3) (mP (mLc (mRng2 (mCons (mC (.int 1)) (mCons (m2 gAdd (mVar 0) (mC (.int 1))) mNil))) (gN 5) (mTest (m2 gNotIn (mVar 5) (mVar 4))) (m2 gAdd (mVar 4) (mTup (mCons (mVar 5) mNil))) [5]))) (gN 3)))
    (mAsg (mVar 3) (gN 1)))))
    (mRet (mVar 1))))
def f_law_orders : Fn := fun ds S => (fnOf 6 b_law_orders ds S).nox
theorem ok_law_orders (B : Bt mg) (F : DefAt K mg "_law_orders" "_law_orders" ["many"] st_law_orders)  : Cal P w K mg base "_law_orders" ["many"] 1 f_law_orders := cal_mk F sc_law_orders fun cdv A outer s H E f hr =>
    (iss_cons (is_set (i := 1) sc_law_orders.nd rfl (.inl rfl) (IL.p (il_lst (ia_cons (ie_tup ia_nil) ia_nil))))
    (iss_cons (is_for .never rfl (ii_rng1 rfl B.n_range (ia_cons (iv 0) ia_nil)) (ig_name (i := 2) sc_law_orders.nd rfl (.inl rfl)) (iss_cons (is_set (i := 3) sc_law_orders.nd rfl (.inl rfl) (IL.p (il_lst ia_nil)))
    (iss_cons (is_for .never rfl (ii_any (iv 1)) (ig_name (i := 4) sc_law_orders.nd rfl (.inr rfl)) (iss_one (is_set (i := 3) sc_law_orders.nd rfl (.inl rfl) (ie_add (iv 3) (IL.p (il_lc (own := [("number", 5)]) rfl sc_law_orders.nd (ii_rng2 rfl B.n_range (ia_cons ie_int (ia_cons (ie_add (iv 0) ie_int) ia_nil))) (blkOk_by (own := [("number", 5)]) (N := N_law_orders) (sc := defScope st_law_orders) (by decide +kernel)) (by decide) (fun _ _ _ _ _ => (ig_name (i := 5) sc_law_orders.nd rfl (.inl rfl))) (fun _ _ _ _ _ => (its_one (it_notIn (u65 hr) (iv 5) (iv 4)))) (fun _ _ _ _ _ => (ie_add (iv 4) (ie_tup (ia_cons (iv 5) ia_nil))))))))))
    (iss_one (is_set (i := 1) sc_law_orders.nd rfl (.inl rfl) (iv 3))))))
    (iss_one (is_ret (iv 1)))))
abbrev st_law_by_lots : Stmt := topS 35
abbrev N_law_by_lots : List Str := ["many", "found", "order", "lot"]
theorem sc_law_by_lots : FnScope N_law_by_lots ["many"] (defScope st_law_by_lots) := ⟨rfl, rfl, rfl, by decide +kernel, rfl, by decide +kernel, by decide +kernel⟩
def b_law_by_lots : MS :=
    (mSeq (mAsg mDNew (gN 1))
    (mSeq (mFor (mItems (mCall f_law_orders (mCons (mVar 0) mNil))) (gN 2) (mSeq (mAsg (mCall f_law_seen (mCons (mVar 2) mNil)) (gN 3))
    (mAsg (m2 gAdd (mDGet2 (mVar 1) (mVar 3) (mP (mLst mNil))) (mP (mLst (mCons (mVar 2) mNil)))) (gSubT (mVar 1) (mVar 3) gDPut))))
    (mFz 1 (mRet (mVar 1)))))
def f_law_by_lots : Fn := fun ds S => (fnOf 4 b_law_by_lots ds S).nox
theorem ok_law_by_lots (B : Bt mg) (F : DefAt K mg "_law_by_lots" "_law_by_lots" ["many"] st_law_by_lots) (C_law_orders : Cal P w K mg base "_law_orders" ["many"] 1 f_law_orders) (C_law_seen : Cal P w K mg base "_law_seen" ["heights_so"] 1 f_law_seen) : Cal P w K mg base "_law_by_lots" ["many"] 2 f_law_by_lots := cal_mk F sc_law_by_lots fun cdv A outer s H E f hr =>
    (iss_cons (is_set (i := 1) sc_law_by_lots.nd rfl (.inl rfl) ie_dnew)
    (iss_cons (is_for .never rfl (ii_any (ie_own C_law_orders hr rfl (ia_cons (iv 0) ia_nil))) (ig_name (i := 2) sc_law_by_lots.nd rfl (.inl rfl)) (iss_cons (is_set (i := 3) sc_law_by_lots.nd rfl (.inl rfl) (ie_own C_law_seen hr rfl (ia_cons (iv 2) ia_nil)))
    (iss_one (is_asg (ie_add (ie_dget2 (u65 hr) (iv 1) (iv 3) (IL.p (il_lst ia_nil))) (IL.p (il_lst (ia_cons (iv 2) ia_nil)))) (ig_dput (u65 hr) (iv 1) (iv 3))))))
    (iss_one (is_fz 1 (is_ret (iv 1))))))
abbrev st_law : Stmt := topS 36
abbrev N_law : List Str := ["script", "cell", "deck", "many", "by_lots", "lot", "turn", "every", "tops_so", "due", "told", "bent", "good", "order", "top"]
theorem sc_law : FnScope N_law ["script"] (defScope st_law) := ⟨rfl, rfl, rfl, by decide +kernel, rfl, by decide +kernel, by decide +kernel⟩
def b_law_1 : MS :=
    (mSeq (mAsg (m2 gDGet (mVar 4) (mVar 5)) (gN 7))
    (mSeq (mIf (mNot (mTest (mCall (f_law_same 6) (mCons (mP (mLst (mCons (mCallF f_how_many (mCons (mVar 3) (mCons (mVar 5) mNil))) (mCons (mCallF f_first_order (mCons (mVar 3) (mCons (mVar 5) mNil))) mNil)))) (mCons (mP (mLst (mCons (mCB gLen (mCons (mVar 7) mNil)) (mCons (m2 gIx (mVar 7) (mC (.int 0))) mNil)))) mNil))))) (mRet (mC (.bool false))) mNext)
    (mSeq (mAsg (mP (mLc (mItems (mVar 7)) (gN 13) mYes (mTix (mVar 13) (mVar 3)) [13])) (gN 8))
    (mSeq (mAsg (mP (mLc (mItems (m1 gSortSet (mVar 8))) (gN 14) mYes (mTup (mCons (mVar 14) (mCons (mMth gCount (mVar 8) (mCons (mVar 14) mNil)) mNil))) [14])) (gN 9))
    (mSeq (mAsg (mCallF f_highest (mCons (mVar 3) (mCons (mVar 5) mNil))) (gN 10))
    (mSeq (mIf (mNot (mTest (mCallB (f_law_same 6) (mCons (mVar 10) (mCons (mVar 9) mNil))))) (mRet (mC (.bool false))) mNext)
    (mDrop (mMth gApp (mVar 10) (mCons (mC (.int 1)) mNil)))))))))
def b_law_2 : MS :=
    (mSeq (mAsg (mCall f_law_bent (mCons (mVar 2) (mCons (mVar 3) (mCons (mCall f_law_one (mCons (mVar 2) (mCons (mP (mCL gSortedD (mCons (mVar 4) mNil))) mNil))) mNil)))) (gN 11))
    (mSeq (mAsg (m2 (gDIn false) (mVar 11) (mVar 4)) (gN 12))
    (mSeq (mIf (mNot (mTest (mCall (f_law_same 6) (mCons (mCallF f_how_many (mCons (mVar 3) (mCons (mVar 11) mNil))) (mCons (mIfE (mTest (mVar 12)) (mCB gLen (mCons (m2 gDGet (mVar 4) (mVar 11)) mNil)) (mC (.int 0))) mNil))))) (mRet (mC (.bool false))) mNext)
    (mIf (mOr (mTest (m2 gEq (m2 (gIs false) (mCallF f_first_order (mCons (mVar 3) (mCons (mVar 11) mNil))) (mC .none)) (mVar 12))) (mTest (m2 gEq (m2 gEq (mCallF f_highest (mCons (mVar 3) (mCons (mVar 11) mNil))) (mP (mLst mNil))) (mVar 12)))) (mRet (mC (.bool false))) mNext))))
def b_law_3 : MS :=
    (mSeq (mAsg (mCall f_law_deck (mCons (mVar 1) (mCons (mC (.int 4)) mNil))) (gN 2))
    (mSeq (mAsg (m2 gAdd (mC (.int 1)) (mCall f_law_pick (mCons (mVar 2) (mCons (mC (.int 6)) mNil)))) (gN 3))
    (mSeq (mAsg (mCall f_law_by_lots (mCons (mVar 3) mNil)) (gN 4))
    (mSeq (mFor (mItems (mP (mCL gSortedD (mCons (mVar 4) mNil)))) (gN 5) (mCut b_law_1))
    (mFor (mRng1 (mCons (mC (.int 6)) mNil)) (gN 6) (mCut b_law_2))))))
def b_law : MS :=
    (mSeq (mFor (mItems (mSl (m2 gAdd (mP (mLst (mCons (mC (.int 0)) mNil))) (mVar 0)) (mPart none) (mPart (some (mC (.int 4)))))) (gN 1) (mCut b_law_3))
    (mRet (mAndV (m2 gEq (mCallF f_how_many (mCons (mC (.int 3)) (mCons (mTup (mCons (mTup (mCons (mC (.int 0)) (mCons (mC (.int 1)) mNil))) (mCons (mTup (mCons (mC (.int 1)) (mCons (mC (.int 2)) mNil))) mNil))) mNil))) (mC (.int 4))) (m2 gEq (mCallF f_how_many (mCons (mC (.int 3)) (mCons (mTup (mCons (mTup (mCons (mC (.int 0)) (mCons (mC (.int 1)) mNil))) (mCons (mTup (mCons (mC (.int 0)) (mCons (mC (.int 2)) mNil))) (mCons (mTup (mCons (mC (.int 1)) (mCons (mC (.int 2)) mNil))) mNil)))) mNil))) (mC (.int 2))))))
def f_law : Fn := fun ds S => (fnOf 15 b_law ds S).nox
theorem okF_law (B : Bt mg) {f : Addr} {fd : FuncData} (F : Fun K "law" "law" st_law f fd) (C_law_deck : Cal P w K mg base "_law_deck" ["cell", "turn"] 1 f_law_deck) (C_law_by_lots : Cal P w K mg base "_law_by_lots" ["many"] 2 f_law_by_lots) (C_law_pick : Cal P w K mg base "_law_pick" ["deck", "size"] 1 f_law_pick) (C_highest : Cal P w K mg base "highest" ["many", "lot"] 16 f_highest) (C_law_bent : Cal P w K mg base "_law_bent" ["deck", "many", "lot"] 3 f_law_bent) (C_how_many : Cal P w K mg base "how_many" ["many", "lot"] 16 f_how_many) (C_law_same : Cal P w K mg base "_law_same" ["told", "due"] 7 (f_law_same 6)) (C_law_one : Cal P w K mg base "_law_one" ["deck", "some"] 2 f_law_one) (C_first_order : Cal P w K mg base "first_order" ["many", "lot"] 16 f_first_order) : FnOk P w K mg base CX0 17 f fd ["script"] (spF K (fun _ => .none) 1 f_law) := fn_ok F sc_law fun cdv A outer s H E hr =>
    (iss_cons (is_for .never rfl (ii_any (ie_slice (ie_add (IL.p (il_lst (ia_cons ie_int ia_nil))) (iv 0)) ip_none (ip_some ie_int))) (ig_name (i := 1) sc_law.nd rfl (.inl rfl)) (iss_cut (iss_cons (is_set (i := 2) sc_law.nd rfl (.inl rfl) (ie_own C_law_deck (hr.mono (by decide)) rfl (ia_cons (iv 1) (ia_cons ie_int ia_nil))))
    (iss_cons (is_set (i := 3) sc_law.nd rfl (.inr rfl) (ie_add ie_int (ie_own C_law_pick (hr.mono (by decide)) rfl (ia_cons (iv 2) (ia_cons ie_int ia_nil)))))
    (iss_cons (is_set (i := 4) sc_law.nd rfl (.inl rfl) (ie_own C_law_by_lots (hr.mono (by decide)) rfl (ia_cons (iv 3) ia_nil)))
    (iss_cons (is_for .never rfl (ii_any (IL.p (il_cb (cr_srtD rfl (u100 hr)) imp_srtD rfl B.n_sorted boot_sorted1 (ia_cons (iv 4) ia_nil)))) (ig_name (i := 5) sc_law.nd rfl (.inl rfl)) (iss_cut (iss_cons (is_set (i := 7) sc_law.nd rfl (.inl rfl) (ie_dget (u65 hr) (iv 4) (iv 5)))
    (iss_cons (is_if (it_not (it_val (ie_own C_law_same (hr.mono (by decide)) rfl (ia_cons (IL.p (il_lst (ia_cons (ie_ownF C_how_many hr rfl (ia_cons (iv 3) (ia_cons (iv 5) ia_nil))) (ia_cons (ie_ownF C_first_order hr rfl (ia_cons (iv 3) (ia_cons (iv 5) ia_nil))) ia_nil)))) (ia_cons (IL.p (il_lst (ia_cons (ie_cb call_len_seq imp_len rfl B.n_len boot_len (ia_cons (iv 7) ia_nil)) (ia_cons (ie_item (iv 7) ie_int) ia_nil)))) ia_nil))))) (iss_one (is_ret ie_bl)) iss_nil)
    (iss_cons (is_set (i := 8) sc_law.nd rfl (.inr rfl) (IL.p (il_lc (own := [("order", 13)]) rfl sc_law.nd (ii_any (iv 7)) (blkOk_by (own := [("order", 13)]) (N := N_law) (sc := defScope st_law) (by decide +kernel)) (by decide) (fun _ _ _ _ _ => (ig_name (i := 13) sc_law.nd rfl (.inl rfl))) (fun _ _ _ _ _ => its_nil) (fun _ _ _ _ _ => (ie_tix (iv 13) (iv 3))))))
    (iss_cons (is_setLc (i := 9) (own := [("top", 14)]) (fun _ _ h => h.p) rfl sc_law.nd rfl rfl (sw_true rfl rfl rfl (by decide +kernel)) (ii_any (ie_sortSet rfl B.n_sorted rfl B.n_set (iv 8))) (blkOk_by (own := [("top", 14)]) (N := N_law) (sc := defScope st_law) (by decide +kernel)) (by decide) (fun _ _ _ _ _ => (ig_name (i := 14) sc_law.nd rfl (.inl rfl))) (fun _ _ _ _ _ => its_nil) (fun _ _ _ _ _ => (ie_tup (ia_cons (iv 14) (ia_cons (ie_mth (mt_cntD (u65 hr)) imp_count PySem.F.slot_list_count PySem.F.type_list_count (iv 8) (ia_cons (iv 14) ia_nil)) ia_nil)))))
    (iss_cons (is_set (i := 10) sc_law.nd rfl (.inl rfl) (ie_ownF C_highest hr rfl (ia_cons (iv 3) (ia_cons (iv 5) ia_nil))))
    (iss_cons (is_if (it_not (it_val (ie_ownB C_law_same (hr.mono (by decide)) rfl (ia_cons (iv 10) (ia_cons (iv 9) ia_nil))))) (iss_one (is_ret ie_bl)) iss_nil)
    (iss_one (is_expr (ie_mth mt_append imp_app PySem.F.slot_list_append PySem.F.type_list_append (iv 10) (ia_cons ie_int ia_nil))))))))))))
    (iss_one (is_for .never rfl (ii_rng1 rfl B.n_range (ia_cons ie_int ia_nil)) (ig_name (i := 6) sc_law.nd rfl (.inl rfl)) (iss_cut (iss_cons (is_set (i := 11) sc_law.nd rfl (.inl rfl) (ie_own C_law_bent (hr.mono (by decide)) rfl (ia_cons (iv 2) (ia_cons (iv 3) (ia_cons (ie_own C_law_one (hr.mono (by decide)) rfl (ia_cons (iv 2) (ia_cons (IL.p (il_cb (cr_srtD rfl (u100 hr)) imp_srtD rfl B.n_sorted boot_sorted1 (ia_cons (iv 4) ia_nil))) ia_nil))) ia_nil)))))
    (iss_cons (is_set (i := 12) sc_law.nd rfl (.inl rfl) (ie_din (u65 hr) (iv 11) (iv 4)))
    (iss_cons (is_if (it_not (it_val (ie_own C_law_same (hr.mono (by decide)) rfl (ia_cons (ie_ownF C_how_many hr rfl (ia_cons (iv 3) (ia_cons (iv 11) ia_nil))) (ia_cons (ie_if (it_val (iv 12)) (ie_cb call_len_seq imp_len rfl B.n_len boot_len (ia_cons (ie_dget (u65 hr) (iv 4) (iv 11)) ia_nil)) ie_int) ia_nil))))) (iss_one (is_ret ie_bl)) iss_nil)
    (iss_one (is_if (IW.it (iw_or (it_eq hr.units (ie_is (ie_ownF C_first_order hr rfl (ia_cons (iv 3) (ia_cons (iv 11) ia_nil))) ie_non) (iv 12)) (iw_or1 (it_eq hr.units (ie_eq hr.units (ie_ownF C_highest hr rfl (ia_cons (iv 3) (ia_cons (iv 11) ia_nil))) (IL.p (il_lst ia_nil))) (iv 12))))) (iss_one (is_ret ie_bl)) iss_nil))))))))))))))
    (iss_one (is_ret (ie_and (ie_eq hr.units (ie_ownF C_how_many hr rfl (ia_cons ie_int (ia_cons (ie_tup (ia_cons (ie_tup (ia_cons ie_int (ia_cons ie_int ia_nil))) (ia_cons (ie_tup (ia_cons ie_int (ia_cons ie_int ia_nil))) ia_nil))) ia_nil))) ie_int) (ie_one (ie_eq hr.units (ie_ownF C_how_many hr rfl (ia_cons ie_int (ia_cons (ie_tup (ia_cons (ie_tup (ia_cons ie_int (ia_cons ie_int ia_nil))) (ia_cons (ie_tup (ia_cons ie_int (ia_cons ie_int ia_nil))) (ia_cons (ie_tup (ia_cons ie_int (ia_cons ie_int ia_nil))) ia_nil)))) ia_nil))) ie_int))))))
theorem all_ok (B : Bt mg) (D_is_from : DefAt K mg "is_from" "is_from" ["thing", "low", "high"] st_is_from) (D_is_rising : DefAt K mg "is_rising" "is_rising" ["things"] st_is_rising) (D_is_lot : DefAt K mg "is_lot" "is_lot" ["many", "thing"] st_is_lot) (D_need_many : DefAt K mg "need_many" "need_many" ["many"] st_need_many) (D_need_lot : DefAt K mg "need_lot" "need_lot" ["many", "lot"] st_need_lot) (D_all_bars : DefAt K mg "all_bars" "all_bars" ["many", "lot"] st_all_bars) (D_is_sound : DefAt K mg "is_sound" "is_sound" ["many", "lot"] st_is_sound) (D_amid : DefAt K mg "amid" "amid" ["lot", "low", "high"] st_amid) (D_outer : DefAt K mg "outer" "outer" ["many", "lot"] st_outer) (D_under : DefAt K mg "under" "under" ["lot", "low", "high", "above", "found"] st_under) (D_tree_of : DefAt K mg "tree_of" "tree_of" ["many", "lot", "top"] st_tree_of) (D_above_all : DefAt K mg "above_all" "above_all" ["tree", "house"] st_above_all) (D_orders_by : DefAt K mg "orders_by" "orders_by" ["many", "tree"] st_orders_by) (D_tops : DefAt K mg "tops" "tops" ["many", "lot"] st_tops) (D_first_by : DefAt K mg "first_by" "first_by" ["many", "tree"] st_first_by) (D_how_many : DefAt K mg "how_many" "how_many" ["many", "lot"] st_how_many) (D_first_order : DefAt K mg "first_order" "first_order" ["many", "lot"] st_first_order) (D_highest : DefAt K mg "highest" "highest" ["many", "lot"] st_highest) (D_law_deck : DefAt K mg "_law_deck" "_law_deck" ["cell", "turn"] st_law_deck) (D_law_pick : DefAt K mg "_law_pick" "_law_pick" ["deck", "size"] st_law_pick) (D_law_one : DefAt K mg "_law_one" "_law_one" ["deck", "some"] st_law_one) (D_law_sort : DefAt K mg "_law_sort" "_law_sort" ["thing"] st_law_sort) (D_law_same : DefAt K mg "_law_same" "_law_same" ["told", "due"] st_law_same) (D_law_seen : DefAt K mg "_law_seen" "_law_seen" ["heights_so"] st_law_seen) (D_law_pairs : DefAt K mg "_law_pairs" "_law_pairs" ["many"] st_law_pairs) (D_law_bent : DefAt K mg "_law_bent" "_law_bent" ["deck", "many", "lot"] st_law_bent) (D_law_orders : DefAt K mg "_law_orders" "_law_orders" ["many"] st_law_orders) (D_law_by_lots : DefAt K mg "_law_by_lots" "_law_by_lots" ["many"] st_law_by_lots) {f : Addr} {fd : FuncData} (F : Fun K "law" "law" st_law f fd) : FnOk P w K mg base CX0 17 f fd ["script"] (spF K (fun _ => .none) 1 f_law) := by
  have C_is_from := ok_is_from (P := P) (w := w) (base := base) B D_is_from 
  have C_is_rising := ok_is_rising (P := P) (w := w) (base := base) B D_is_rising 
  have C_is_lot := ok_is_lot (P := P) (w := w) (base := base) B D_is_lot C_is_rising C_is_from
  have C_need_many := ok_need_many (P := P) (w := w) (base := base) B D_need_many C_is_from
  have C_need_lot := ok_need_lot (P := P) (w := w) (base := base) B D_need_lot C_need_many C_is_lot
  have C_all_bars := ok_all_bars (P := P) (w := w) (base := base) B D_all_bars 
  have C_is_sound := ok_is_sound (P := P) (w := w) (base := base) B D_is_sound C_all_bars
  have C_amid := ok_amid (P := P) (w := w) (base := base) B D_amid 
  have C_outer := ok_outer (P := P) (w := w) (base := base) B D_outer 
  have C_under := ok_under (P := P) (w := w) (base := base) B D_under C_amid 12
  have C_tree_of := ok_tree_of (P := P) (w := w) (base := base) B D_tree_of C_outer C_under
  have C_above_all := ok_above_all (P := P) (w := w) (base := base) B D_above_all 
  have C_orders_by := ok_orders_by (P := P) (w := w) (base := base) B D_orders_by C_above_all
  have C_tops := ok_tops (P := P) (w := w) (base := base) B D_tops C_tree_of C_outer
  have C_first_by := ok_first_by (P := P) (w := w) (base := base) B D_first_by 
  have C_how_many := ok_how_many (P := P) (w := w) (base := base) B D_how_many C_need_lot C_is_sound C_orders_by C_tops
  have C_first_order := ok_first_order (P := P) (w := w) (base := base) B D_first_order C_need_lot C_is_sound C_first_by C_tops
  have C_highest := ok_highest (P := P) (w := w) (base := base) B D_highest C_need_lot C_is_sound C_orders_by C_tops
  have C_law_deck := ok_law_deck (P := P) (w := w) (base := base) B D_law_deck 
  have C_law_pick := ok_law_pick (P := P) (w := w) (base := base) B D_law_pick 
  have C_law_one := ok_law_one (P := P) (w := w) (base := base) B D_law_one C_law_pick
  have C_law_sort := ok_law_sort (P := P) (w := w) (base := base) B D_law_sort 
  have C_law_same := ok_law_same (P := P) (w := w) (base := base) B D_law_same C_law_sort 6
  have C_law_seen := ok_law_seen (P := P) (w := w) (base := base) B D_law_seen 
  have C_law_pairs := ok_law_pairs (P := P) (w := w) (base := base) B D_law_pairs 
  have C_law_bent := ok_law_bent (P := P) (w := w) (base := base) B D_law_bent C_law_pairs C_law_pick C_law_one
  have C_law_orders := ok_law_orders (P := P) (w := w) (base := base) B D_law_orders 
  have C_law_by_lots := ok_law_by_lots (P := P) (w := w) (base := base) B D_law_by_lots C_law_orders C_law_seen
  exact okF_law B F C_law_deck C_law_by_lots C_law_pick C_highest C_law_bent C_how_many C_law_same C_law_one C_first_order
end
end LK


set_option maxHeartbeats 4000000
namespace LK
open PySem L2 G
def Dk (S : Sto) (l k : Nat) : Prop := ∃ a b c : Int, S[l]? = some (some (.lst [.int a, .int b, .int c])) ∧ 0 ≤ b ∧ b < 2147483579 ∧ 0 ≤ c ∧ c ≤ k
theorem Dk.mono {S : Sto} {l k k' : Nat} (h : Dk S l k) (hk : k ≤ k') : Dk S l k' := by
  obtain ⟨a, b, c, h1, h2, h3, h4, h5⟩ := h
  exact ⟨a, b, c, h1, h2, h3, h4, by omega⟩
theorem take_set {S : Sto} {l : Nat} {o : Option Ob} : (S.set l o).take S.length = S.set l o := by
  rw [List.take_of_length_le]; rw [List.length_set]; exact Nat.le_refl _
theorem set_get {S : Sto} {l : Nat} {o o' : Option Ob} (h : S[l]? = some o) : (S.set l o')[l]? = some o' := by
  rw [List.getElem?_set_self]; exact (List.getElem?_eq_some_iff.mp h).1
theorem pick_wp {S : Sto} {l k : Nat} {n : Int} {P : D → Sto → Prop} (h : Dk S l k) (hk : k < 68719476736) (hn : 0 < n) (hn2 : n < 1073741824)
    (q : ∀ v o, 0 ≤ v → v < n → Dk (S.set l o) l (k+1) → P (.p (.int v)) (S.set l o)) : wp (f_law_pick [.r l, .p (.int n)] S) P := by
  obtain ⟨a, b, c, h1, h2, h3, h4, h5⟩ := h
  unfold f_law_pick
  rw [wp_nox]
  apply wp_fn
  by_cases ha : a > 1
  · simp [b_law_pick, startL, mSeq, mIf, mTest, m2, mVar, mC, mAsg, mRet, gN, gSubT, gSet, gIx, gGt, gMod, gDiv, gAdd, gMul, gPow, i2, okB, cPos, cDiv, cTrue, cMul, cPow, seqOf, atI, ixN, toB, Res.bind, wp_ok, h1, ha, hn, hn2]
    rw [take_set]
    refine q _ _ (Int.emod_nonneg _ (by omega)) (Int.emod_lt_of_pos _ hn) ⟨_, b, c, set_get h1, h2, h3, h4, by omega⟩
  · have hb1 : (b + 15485867 * (c + 1)).natAbs < 18446744073709551616 := by omega
    have hr : 0 ≤ (b + 15485867 * (c + 1)) ^ 5 % 2147483647 := Int.emod_nonneg _ (by decide)
    have hr2 : (b + 15485867 * (c + 1)) ^ 5 % 2147483647 < 2147483647 := Int.emod_lt_of_pos _ (by decide)
    have hb2 : ((b + 15485867 * (c + 1)) ^ 5 % 2147483647 + 7919 * (c + 1)).natAbs < 18446744073709551616 := by omega
    simp [b_law_pick, startL, mSeq, mIf, mTest, m2, mVar, mC, mAsg, mRet, mNext, gN, gSubT, gSet, gIx, gGt, gMod, gDiv, gAdd, gMul, gPow, i2, okB, cPos, cDiv, cTrue, cMul, cPow, seqOf, atI, ixN, toB, Res.bind, wp_ok, h1, ha, hn, hn2, set_get h1, hb1, hb2]
    rw [take_set]
    refine q _ _ (Int.emod_nonneg _ (by omega)) (Int.emod_lt_of_pos _ hn) ⟨_, b, _, set_get h1, h2, h3, by omega, by omega⟩
end LK


set_option maxHeartbeats 4000000
namespace LK
open PySem L2 G
/-! ### shapes -/
def La (n : Nat) (x : PyData) : Prop := x.canLay0 = true ∧ x.depth ≤ n
theorem La.lay {n : Nat} {x : PyData} (h : La n x) (hn : n ≤ 64) : lay x = true := by
  unfold G.lay SeqAt.shaped
  rw [h.1, Bool.true_and]
  exact decide_eq_true (Nat.le_trans h.2 hn)
theorem La.mono {n m : Nat} {x : PyData} (h : La n x) (hn : n ≤ m) : La m x := ⟨h.1, Nat.le_trans h.2 hn⟩
theorem La.all {n : Nat} : ∀ {xs : List PyData}, (∀ x ∈ xs, La n x) → PyData.canLayAll0 xs = true ∧ PyData.depthAll xs ≤ n
  | [], _ => ⟨rfl, Nat.zero_le _⟩
  | x :: xs, h => by
    obtain ⟨a, b⟩ := La.all fun y hy => h y (List.mem_cons_of_mem _ hy)
    obtain ⟨c, d⟩ := h x (List.mem_cons_self ..)
    refine ⟨?_, ?_⟩
    · rw [PyData.canLayAll0, a, c]; rfl
    · rw [PyData.depthAll]; exact Nat.max_le.mpr ⟨d, b⟩
theorem La.list {n : Nat} {xs : List PyData} (h : ∀ x ∈ xs, La n x) : La (n + 1) (.list xs) := by
  obtain ⟨a, b⟩ := La.all h
  refine ⟨?_, ?_⟩
  · rw [PyData.canLay0]; exact a
  · rw [PyData.depth]; omega
theorem La.tuple {n : Nat} {xs : List PyData} (h : ∀ x ∈ xs, La n x) : La (n + 1) (.tuple xs) := by
  obtain ⟨a, b⟩ := La.all h
  refine ⟨?_, ?_⟩
  · rw [PyData.canLay0]; exact a
  · rw [PyData.depth]; omega
theorem La.int {n : Nat} (i : Int) : La n (.int i) := ⟨rfl, Nat.zero_le _⟩
theorem La.bool {n : Nat} (i : Bool) : La n (.bool i) := ⟨rfl, Nat.zero_le _⟩
theorem La.none {n : Nat} : La n .none := ⟨rfl, Nat.zero_le _⟩
theorem La.ints {n : Nat} (hs : List Int) : ∀ x ∈ hs.map PyData.int, La n x := fun x h => by
  obtain ⟨i, _, rfl⟩ := List.mem_map.mp h
  exact .int i
/-! ### the store -/
section
variable {S : Sto} {x y : Option Ob} {l k : Nat}
theorem Dk.lt (h : Dk S l k) : l < S.length := by
  obtain ⟨a, b, c, h1, _⟩ := h
  exact (List.getElem?_eq_some_iff.mp h1).1
theorem Dk.app {t : Sto} (h : Dk S l k) : Dk (S ++ t) l k := by
  have hl := h.lt
  obtain ⟨a, b, c, h1, h2⟩ := h
  exact ⟨a, b, c, by rw [List.getElem?_append_left hl]; exact h1, h2⟩
theorem Dk.unapp {t : Sto} (h : Dk (S ++ t) l k) (hl : l < S.length) : Dk S l k := by
  obtain ⟨a, b, c, h1, h2⟩ := h
  exact ⟨a, b, c, by rw [List.getElem?_append_left hl] at h1; exact h1, h2⟩
theorem app_set {t : Sto} (hl : l < S.length) : (S ++ t).set l x = S.set l x ++ t := by
  rw [List.set_append_left _ _ hl]
theorem last_get : (S ++ [x])[S.length]? = some x := List.getElem?_concat_length ..
theorem last_set : (S ++ [x]).set S.length y = S ++ [y] := by
  rw [List.set_append_right _ _ (Nat.le_refl _), Nat.sub_self]; rfl
theorem last_take : (S ++ [x]).take S.length = S := List.take_left ..
theorem last_get' {n : Nat} (hn : n = S.length) : (S ++ [x])[n]? = some x := by rw [hn]; exact last_get
theorem last_set' {n : Nat} (hn : n = S.length) : (S ++ [x]).set n y = S ++ [y] := by rw [hn]; exact last_set
theorem last_take' {n : Nat} (hn : n = S.length) : (S ++ [x]).take n = S := by rw [hn]; exact last_take
end
/-! ### items -/
theorem atI_nat {α : Type} {xs : List α} {v : Int} (h0 : 0 ≤ v) (h1 : v < xs.length) : ∃ x, atI xs v = some x ∧ x ∈ xs ∧ xs[v.toNat]? = some x := by
  have hv : v.toNat < xs.length := by omega
  refine ⟨xs[v.toNat], ?_, List.getElem_mem hv, List.getElem?_eq_getElem hv⟩
  unfold atI ixN
  rw [if_pos h0, if_pos h1]
  exact List.getElem?_eq_getElem hv
theorem deck_eq {S : Sto} {c t : Int} {k : Nat} (ht : 0 ≤ t) (hk : t ≤ k) : ∃ o, f_law_deck [.p (.int c), .p (.int t)] S = .ok (.r S.length) (S ++ [o]) ∧ Dk (S ++ [o]) S.length k := by
  have hb := Int.emod_nonneg c (b := 2147483579) (by decide)
  have hb2 := Int.emod_lt_of_pos c (b := 2147483579) (by decide)
  by_cases hc : (1000000000000000000 : Int) ≤ c
  · refine ⟨some (.lst [.int (c - 1000000000000000000), .int (c % 2147483579), .int t]), ?_, _, _, _, last_get, hb, hb2, ht, hk⟩
    simp [f_law_deck, fnOf, G.finish, Res.nox, b_law_deck, startL, mSeq, mIf, mTest, m2, mVar, mC, mAsg, mRet, mNext, mR, mLst, mCons, mNil, pures, gGe, gPow, i2, okB, cPow, cTrue, cPos, G.gSub, gMod, toB, Res.bind, hc]
  · refine ⟨some (.lst [.int 0, .int (c % 2147483579), .int t]), ?_, _, _, _, last_get, hb, hb2, ht, hk⟩
    simp [f_law_deck, fnOf, G.finish, Res.nox, b_law_deck, startL, mSeq, mIf, mTest, m2, mVar, mC, mAsg, mRet, mNext, mR, mLst, mCons, mNil, pures, gGe, gPow, i2, okB, cPow, cTrue, cPos, G.gSub, gMod, toB, Res.bind, hc]
theorem one_wp {S : Sto} {l k : Nat} {xs : List PyData} {P : D → Sto → Prop} (h : Dk S l k) (hk : k < 68719476736) (hx : xs ≠ []) (hl : xs.length < 1073741824)
    (q : ∀ x o, x ∈ xs → Dk (S.set l o) l (k+1) → P (.p x) (S.set l o)) : wp (f_law_one [.r l, .p (.list xs)] S) P := by
  unfold f_law_one
  rw [wp_nox]
  apply wp_fn
  have hp : 0 < xs.length := List.length_pos_iff.mpr hx
  simp only [b_law_one, startL, wp_ret, m2, wp_bind, mCall, wp_nox]
  simp [mVar, mCons, mNil, mCB, gLen, gSeq, seqOf, Res.bind, wp_ok]
  refine pick_wp h hk (by omega) (by omega) fun v o h0 h1 hd => ?_
  obtain ⟨x, e1, e2, _⟩ := atI_nat (xs := xs) h0 h1
  simp only [gIx, seqOf, e1, wp_ok]
  rw [take_set]
  exact q x o e2 hd
/-! ### numbers in a row -/
theorem any_ints {h : Int} : ∀ {hs : List Int}, (hs.map PyData.int).any (fun z => PyData.eqv z (.int h)) = decide (h ∈ hs)
  | [] => rfl
  | x :: hs => by
    rw [List.map_cons, List.any_cons, any_ints]
    simp only [PyData.eqv]
    by_cases hx : x = h
    · subst hx; simp
    · have : ¬ h = x := fun e => hx e.symm
      simp [hx, this]
theorem isIn_ints {h : Int} {hs : List Int} : isIn (.int h) (.list (hs.map PyData.int)) = decide (h ∈ hs) := any_ints
theorem layIn_ints {h : Int} {hs : List Int} : layIn (.int h) (.list (hs.map PyData.int)) = true := by
  unfold layIn
  rw [(La.int (n := 0) h).lay (by omega), (La.list (La.ints (n := 0) hs)).lay (by omega)]
  rfl
end LK


set_option maxHeartbeats 4000000
namespace LK
open PySem L2 G
/-! ### rows of numbers, pairs -/
def ran (lo : Int) : Nat → List Int
  | 0 => []
  | n + 1 => lo :: ran (lo + 1) n
theorem rangeP_ran : ∀ (n : Nat) (lo : Int), rangeP lo n = (ran lo n).map PyData.int
  | 0, _ => rfl
  | n + 1, lo => by rw [rangeP, ran, List.map_cons, rangeP_ran n]
theorem mem_ran : ∀ {n : Nat} {lo x : Int}, x ∈ ran lo n ↔ lo ≤ x ∧ x < lo + n
  | 0, lo, x => by
    constructor
    · intro h; cases h
    · intro h; omega
  | n + 1, lo, x => by
    rw [ran, List.mem_cons, mem_ran]
    omega
theorem ran_len : ∀ {n : Nat} {lo : Int}, (ran lo n).length = n
  | 0, _ => rfl
  | n + 1, lo => by rw [ran, List.length_cons, ran_len]
theorem ran_sorted : ∀ {n : Nat} {lo : Int}, (ran lo n).Pairwise (· < ·)
  | 0, _ => .nil
  | n + 1, lo => .cons (fun x h => by have := mem_ran.mp h; omega) ran_sorted
def pr (p : Int × Int) : PyData := .tuple [.int p.1, .int p.2]
def ltP (a b : Int × Int) : Prop := a.1 < b.1 ∨ (a.1 = b.1 ∧ a.2 < b.2)
structure Lot (n : Int) (ps : List (Int × Int)) : Prop where
  inr : ∀ p ∈ ps, 0 ≤ p.1 ∧ p.1 < p.2 ∧ p.2 < n
  srt : ps.Pairwise ltP
theorem Lot.sub {n : Int} {ps qs : List (Int × Int)} (h : Lot n ps) (s : qs.Sublist ps) : Lot n qs := ⟨fun p hp => h.inr p (s.subset hp), h.srt.sublist s⟩
def pairsOf (n : Int) : List (Int × Int) := (ran 0 n.toNat).flatMap fun i => (ran (i + 1) (n - (i + 1)).toNat).map fun j => (i, j)
theorem mem_pairs {n : Int} {p : Int × Int} : p ∈ pairsOf n ↔ 0 ≤ p.1 ∧ p.1 < p.2 ∧ p.2 < n := by
  unfold pairsOf
  rw [List.mem_flatMap]
  constructor
  · rintro ⟨i, hi, h⟩
    obtain ⟨j, hj, rfl⟩ := List.mem_map.mp h
    have h1 := mem_ran.mp hi
    have h2 := mem_ran.mp hj
    exact ⟨by omega, by show i < j; omega, by show j < n; omega⟩
  · rintro ⟨h1, h2, h3⟩
    exact ⟨p.1, mem_ran.mpr (by omega), List.mem_map.mpr ⟨p.2, mem_ran.mpr (by omega), rfl⟩⟩
theorem srt_flat {F : Int → List (Int × Int)} (hF : ∀ i, ∀ p ∈ F i, p.1 = i) (hs : ∀ i, (F i).Pairwise ltP) : ∀ {is : List Int}, is.Pairwise (· < ·) → (is.flatMap F).Pairwise ltP
  | [], _ => .nil
  | i :: is, h => by
    rw [List.flatMap_cons, List.pairwise_append]
    refine ⟨hs i, srt_flat hF hs (List.pairwise_cons.mp h).2, fun a ha b hb => ?_⟩
    obtain ⟨j, hj, hb⟩ := List.mem_flatMap.mp hb
    have := (List.pairwise_cons.mp h).1 j hj
    left
    rw [hF _ a ha, hF _ b hb]
    exact this
theorem pairs_lot (n : Int) : Lot n (pairsOf n) := ⟨fun p h => mem_pairs.mp h, srt_flat (fun i p h => by obtain ⟨j, _, rfl⟩ := List.mem_map.mp h; rfl) (fun i => by
    rw [List.pairwise_map]
    exact ran_sorted.imp fun h => .inr ⟨rfl, h⟩) ran_sorted⟩
theorem len_pairs {n : Int} (h : n ≤ 12) : (pairsOf n).length ≤ 144 := by
  unfold pairsOf
  rw [List.length_flatMap]
  have : ∀ (is : List Int), (∀ i ∈ is, 0 ≤ i) → (is.map fun i => ((ran (i + 1) (n - (i + 1)).toNat).map fun j => (i, j)).length).sum ≤ is.length * 12 := by
    intro is
    induction is with
    | nil => intro _; exact Nat.le_refl _
    | cons i is ih =>
      intro hi
      have := ih fun j hj => hi j (List.mem_cons_of_mem _ hj)
      have h0 := hi i (List.mem_cons_self ..)
      rw [List.map_cons, List.sum_cons, List.length_cons, List.length_map, ran_len]
      omega
  have h2 := this (ran 0 n.toNat) fun i hi => (mem_ran.mp hi).1
  rw [ran_len] at h2
  omega
theorem La.pr {n : Nat} (p : Int × Int) : La (n + 1) (pr p) := La.tuple fun x h => by
  rcases List.mem_cons.mp h with rfl | h
  · exact .int _
  · rw [List.mem_singleton] at h; subst h; exact .int _
theorem La.prs {n : Nat} (ps : List (Int × Int)) : ∀ x ∈ ps.map LK.pr, La (n + 1) x := fun x h => by
  obtain ⟨p, _, rfl⟩ := List.mem_map.mp h
  exact .pr p
theorem eqv_pr {p q : Int × Int} : PyData.eqv (pr p) (pr q) = decide (p = q) := by
  obtain ⟨a, b⟩ := p
  obtain ⟨c, d⟩ := q
  simp only [LK.pr, PyData.eqv, PyData.eqvAll, Bool.and_true]
  by_cases h1 : a = c <;> by_cases h2 : b = d <;> simp [h1, h2]
theorem any_prs {p : Int × Int} : ∀ {ps : List (Int × Int)}, (ps.map pr).any (fun z => PyData.eqv z (pr p)) = decide (p ∈ ps)
  | [] => rfl
  | x :: hs => by
    rw [List.map_cons, List.any_cons, any_prs, eqv_pr]
    by_cases hx : x = p
    · subst hx; simp
    · have : ¬ p = x := fun e => hx e.symm
      simp [hx, this]
theorem isIn_prs {p : Int × Int} {ps : List (Int × Int)} : isIn (pr p) (.tuple (ps.map pr)) = decide (p ∈ ps) := any_prs
theorem isIn_prsL {p : Int × Int} {ps : List (Int × Int)} : isIn (pr p) (.list (ps.map pr)) = decide (p ∈ ps) := any_prs
theorem layIn_prs {p : Int × Int} {ps : List (Int × Int)} : layIn (pr p) (.tuple (ps.map pr)) = true := by
  unfold layIn
  rw [(La.pr (n := 0) p).lay (by omega), (La.tuple (La.prs (n := 0) ps)).lay (by omega)]
  rfl
theorem layIn_prsL {p : Int × Int} {ps : List (Int × Int)} : layIn (pr p) (.list (ps.map pr)) = true := by
  unfold layIn
  rw [(La.pr (n := 0) p).lay (by omega), (La.list (La.prs (n := 0) ps)).lay (by omega)]
  rfl
theorem inB_of {i : Int} (h : -1000000 ≤ i) (h' : i ≤ 1000000) : inB i = true := by unfold inB; simp; omega
/-- a comprehension over a row that stands for plain things -/
theorem lc_map {α : Type} {g : MG} {tt : MT} {te : ME} {ρ : G.Loc} {S : Sto} (c : α → PyData) {t : α → Bool} {v : α → PyData} (xs : List α)
    (hg : ∀ x ∈ xs, ∃ ρ1, g (.p (c x)) ρ S = .ok ρ1 S ∧ tt ρ1 S = .ok (t x) S ∧ (t x = true → te ρ1 S = .ok (.p (v x)) S)) : mLcL g tt te ρ (xs.map c) S = .ok ((xs.filter t).map v) S := by
  induction xs with
  | nil => rfl
  | cons x r ih =>
    obtain ⟨ρ1, h1, h2, h3⟩ := hg x (List.mem_cons_self ..)
    have i := ih fun y hy => hg y (List.mem_cons_of_mem _ hy)
    rw [List.map_cons]
    unfold mLcL
    rw [h1]
    simp only [Res.nox, Res.bind, h2]
    cases ht : t x with
    | true => simp only [if_true, h3 ht, Res.nox, Res.bind, i, List.filter_cons, ht, List.map_cons]
    | false => simp only [Bool.false_eq_true, if_false, i, List.filter_cons, ht]
theorem pairs_eq {S : Sto} {n : Int} (h0 : 0 ≤ n) (h1 : n ≤ 12) : f_law_pairs [.p (.int n)] S = .ok (.p (.list ((pairsOf n).map pr))) S := by
  suffices h : wp (f_law_pairs [.p (.int n)] S) (fun d S1 => d = .p (.list ((pairsOf n).map pr)) ∧ S1 = S) by
    obtain ⟨d, S1, e, rfl, rfl⟩ := h
    exact e
  unfold f_law_pairs
  rw [wp_nox]
  apply wp_fn
  unfold b_law_pairs
  apply wp_seq
  intro k1 hk1 _ _ _
  simp [mSeq, mIf, mTest, m2, m1, mVar, mC, mAsg, mRet, mNext, mDrop, mR, mP, mLst, mTup, mCons, mNil, pures, mCall, mCB, mCL, gN, gT, gsCons, gsNil, gSubT, gSet, gIx, gGt, gGe, gLt, gLe, gMod, gDiv, G.gSub, gAdd, gMul, gPow, gNeg, i2, okB, cPos, cDiv, cTrue, cMul, cPow, seqOf, datOf, toB, wp_ok, wp_bind, wp_nox, mNot, mAnd, mOr, mAndV, mNotV, mOrV, mIfE, mIsi, isTs, isT, gLen, gSeq, gSeqL, gList, gTuple, mMth, isLst, gApp, gPut, mFz, thaw, mSl, mPart, startL]
  apply hk1
  apply wp_seq
  intro k2 hk2 _ _ _
  rw [wp_for]
  simp [mSeq, mIf, mTest, m2, m1, mVar, mC, mAsg, mRet, mNext, mDrop, mR, mP, mLst, mTup, mCons, mNil, pures, mCall, mCB, mCL, gN, gT, gsCons, gsNil, gSubT, gSet, gIx, gGt, gGe, gLt, gLe, gMod, gDiv, G.gSub, gAdd, gMul, gPow, gNeg, i2, okB, cPos, cDiv, cTrue, cMul, cPow, seqOf, datOf, toB, wp_ok, wp_bind, wp_nox, mNot, mAnd, mOr, mAndV, mNotV, mOrV, mIfE, mIsi, isTs, isT, gLen, gSeq, gSeqL, gList, gTuple, mMth, isLst, gApp, gPut, mFz, thaw, mSl, mPart, startL, mRng1, inB_of (i := n) (by omega) (by omega), rangeP_ran]
  refine wp_loop (fun r ρ S1 => ∃ (is : List Int) (fs : List (Int × Int)) (o2 : Option D), r = is.map PyData.int ∧ ρ = [some (.p (.int n)), some (.p (.list (fs.map pr))), o2, none] ∧ S1 = S ∧ (∀ i ∈ is, 0 ≤ i ∧ i < n) ∧ fs ++ (is.flatMap fun i => (ran (i + 1) (n - (i + 1)).toNat).map fun j => (i, j)) = pairsOf n) _ ?_ ?_ ?_
  · exact ⟨_, [], none, rfl, rfl, rfl, fun i hi => by have := mem_ran.mp hi; omega, rfl⟩
  · rintro x r ρ S1 ⟨is, fs, o2, e, rfl, rfl, hi, hf⟩ k3 hk3
    cases is with
    | nil => cases e
    | cons i is =>
      cases e
      rw [wp_gN]
      have hi' := hi i (List.mem_cons_self ..)
      rw [wp_asg]
      have hlc : mLcL (gN 3) mYes (mTup (mCons (mVar 2) (mCons (mVar 3) mNil))) [some (.p (.int n)), some (.p (.list (fs.map pr))), some (.p (.int i)), none] ((ran (i + 1) (n - (i + 1)).toNat).map PyData.int) S1 = .ok (((ran (i + 1) (n - (i + 1)).toNat).filter fun _ => true).map fun j => pr (i, j)) S1 := lc_map PyData.int _ fun j hj => ⟨_, rfl, rfl, fun _ => by simp [mSeq, mIf, mTest, m2, m1, mVar, mC, mAsg, mRet, mNext, mDrop, mR, mP, mLst, mTup, mCons, mNil, pures, mCall, mCB, mCL, gN, gT, gsCons, gsNil, gSubT, gSet, gIx, gGt, gGe, gLt, gLe, gMod, gDiv, G.gSub, gAdd, gMul, gPow, gNeg, i2, okB, cPos, cDiv, cTrue, cMul, cPow, seqOf, datOf, toB, Res.bind, Res.nox, wp_ok, wp_bind, wp_nox, mNot, mAnd, mOr, mAndV, mNotV, mOrV, mIfE, mIsi, isTs, isT, gLen, gSeq, gSeqL, gList, gTuple, mMth, isLst, gApp, gPut, mFz, thaw, mSl, mPart, startL, LK.pr]⟩
      have hlen := len_pairs h1
      rw [← hf, List.length_append, List.flatMap_cons, List.length_append, List.length_map, ran_len] at hlen
      have hl2 : (n - (i + 1)).toNat ≤ 1000000 := by omega
      have hl3 : fs.length + (n - (i + 1)).toNat ≤ 1000000 := by omega
      have hfl : (ran (i + 1) (n - (i + 1)).toNat).filter (fun _ => true) = ran (i + 1) (n - (i + 1)).toNat := List.filter_eq_self.mpr fun _ _ => rfl
      rw [hfl] at hlc
      simp [mSeq, mIf, mTest, m2, m1, mVar, mC, mAsg, mRet, mNext, mDrop, mR, mP, mLst, mTup, mCons, mNil, pures, mCall, mCB, mCL, gN, gT, gsCons, gsNil, gSubT, gSet, gIx, gGt, gGe, gLt, gLe, gMod, gDiv, G.gSub, gAdd, gMul, gPow, gNeg, i2, okB, cPos, cDiv, cTrue, cMul, cPow, seqOf, datOf, toB, wp_ok, wp_bind, wp_nox, mNot, mAnd, mOr, mAndV, mNotV, mOrV, mIfE, mIsi, isTs, isT, gLen, gSeq, gSeqL, gList, gTuple, mMth, isLst, gApp, gPut, mFz, thaw, mSl, mPart, startL, mLc, mRng2, inB_of (i := n) (by omega) (by omega), inB_of (i := i + 1) (by omega) (by omega), rangeP_ran, wipeL, ran_len, hl2, hlc, hl3]
      apply hk3
      refine ⟨is, fs ++ (ran (i + 1) (n - (i + 1)).toNat).map fun j => (i, j), some (.p (.int i)), rfl, ?_, rfl, fun j hj => hi j (List.mem_cons_of_mem _ hj), ?_⟩
      · simp
      · rw [List.append_assoc, ← hf, List.flatMap_cons]
  · rintro ρ S1 ⟨is, fs, o2, e, rfl, rfl, hi, hf⟩
    cases is with
    | cons i is => cases e
    | nil =>
      apply hk2
      rw [List.flatMap_nil, List.append_nil] at hf
      subst hf
      simp [mSeq, mIf, mTest, m2, m1, mVar, mC, mAsg, mRet, mNext, mDrop, mR, mP, mLst, mTup, mCons, mNil, pures, mCall, mCB, mCL, gN, gT, gsCons, gsNil, gSubT, gSet, gIx, gGt, gGe, gLt, gLe, gMod, gDiv, G.gSub, gAdd, gMul, gPow, gNeg, i2, okB, cPos, cDiv, cTrue, cMul, cPow, seqOf, datOf, toB, wp_ok, wp_bind, wp_nox, mNot, mAnd, mOr, mAndV, mNotV, mOrV, mIfE, mIsi, isTs, isT, gLen, gSeq, gSeqL, gList, gTuple, mMth, isLst, gApp, gPut, mFz, thaw, mSl, mPart, startL]
end LK


set_option maxHeartbeats 4000000
namespace LK
open PySem L2 G
/-! ### what the houses see -/
def cutI (hs : List Int) (lo hi : Option Int) : List Int := (hs.drop (HT.sIx hs.length 0 lo)).take (HT.sIx hs.length hs.length hi - HT.sIx hs.length 0 lo)
theorem cutP_ints {hs : List Int} {lo hi : Option Int} : cutP (hs.map PyData.int) lo hi = (cutI hs lo hi).map PyData.int := by
  unfold cutP cutI
  rw [List.length_map, List.map_take, List.map_drop]
def minI (a b : Int) : Int := if b < a then b else a
def seesB (hs : List Int) (p : Int × Int) : Bool := ((cutI hs (some (p.1 + 1)) (some p.2)).filter fun h => decide (minI (hs[p.1.toNat]?.getD 0) (hs[p.2.toNat]?.getD 0) < h)).isEmpty
def seenP (hs : List Int) : List (Int × Int) := (pairsOf hs.length).filter (seesB hs)
theorem seenP_lot (hs : List Int) : Lot hs.length (seenP hs) := (pairs_lot _).sub List.filter_sublist
theorem eqv_nil (xs : List PyData) : PyData.eqv (.list xs) (.list []) = xs.isEmpty := by
  cases xs <;> simp [PyData.eqv, PyData.eqvAll]
theorem lay2_nil {n : Nat} {xs : List PyData} (h : ∀ x ∈ xs, La n x) (hn : n ≤ 63) : lay2 (.list xs) (.list []) = true := by
  unfold lay2
  rw [(La.list h).lay (by omega), (La.list (n := 0) (xs := []) fun _ h => (nomatch h)).lay (by omega)]
  rfl
theorem gEq_nil {n : Nat} {xs : List PyData} {S : Sto} (h : ∀ x ∈ xs, La n x) (hn : n ≤ 63) : gEq (.p (.list xs)) (.p (.list [])) S = .ok (.p (.bool xs.isEmpty)) S := by
  simp [gEq, g2, datOf, lay2_nil h hn, eqv_nil, okB]
theorem gNe_nil {n : Nat} {xs : List PyData} {S : Sto} (h : ∀ x ∈ xs, La n x) (hn : n ≤ 63) : gNe (.p (.list xs)) (.p (.list [])) S = .ok (.p (.bool !xs.isEmpty)) S := by
  simp [gNe, g2, datOf, lay2_nil h hn, eqv_nil, okB]
theorem atI_ints {hs : List Int} {v : Int} (h0 : 0 ≤ v) (h1 : v < hs.length) : atI (hs.map PyData.int) v = some (.int (hs[v.toNat]?.getD 0)) := by
  obtain ⟨x, e1, e2, e3⟩ := atI_nat (xs := hs.map PyData.int) h0 (by rw [List.length_map]; exact h1)
  rw [List.getElem?_map] at e3
  obtain ⟨y, e4, rfl⟩ := Option.map_eq_some_iff.mp e3
  rw [e1, e4]
  rfl
theorem seen_eq {S : Sto} {hs : List Int} (hl : hs.length ≤ 12) : f_law_seen [.p (.tuple (hs.map PyData.int))] S = .ok (.p (.tuple ((seenP hs).map pr))) S := by
  suffices h : wp (f_law_seen [.p (.tuple (hs.map PyData.int))] S) (fun d S1 => d = .p (.tuple ((seenP hs).map pr)) ∧ S1 = S) by
    obtain ⟨d, S1, e, rfl, rfl⟩ := h
    exact e
  unfold f_law_seen
  rw [wp_nox]
  apply wp_fn
  unfold b_law_seen
  apply wp_seq
  intro k1 hk1 _ _ _
  simp [mSeq, mIf, mTest, m2, m1, mVar, mC, mAsg, mRet, mNext, mDrop, mR, mP, mLst, mTup, mCons, mNil, pures, mCall, mCB, mCL, gN, gT, gsCons, gsNil, gSubT, gSet, gIx, gGt, gGe, gLt, gLe, gMod, gDiv, G.gSub, gAdd, gMul, gPow, gNeg, i2, okB, cPos, cDiv, cTrue, cMul, cPow, seqOf, datOf, toB, wp_ok, wp_bind, wp_nox, mNot, mAnd, mOr, mAndV, mNotV, mOrV, mIfE, mIsi, isTs, isT, gLen, gSeq, gSeqL, gList, gTuple, mMth, isLst, gApp, gPut, mFz, thaw, mSl, mPart, startL]
  apply hk1
  apply wp_seq
  intro k2 hk2 _ _ _
  rw [wp_for]
  have hn : inB hs.length = true := inB_of (by omega) (by omega)
  simp [mSeq, mIf, mTest, m2, m1, mVar, mC, mAsg, mRet, mNext, mDrop, mR, mP, mLst, mTup, mCons, mNil, pures, mCall, mCB, mCL, gN, gT, gsCons, gsNil, gSubT, gSet, gIx, gGt, gGe, gLt, gLe, gMod, gDiv, G.gSub, gAdd, gMul, gPow, gNeg, i2, okB, cPos, cDiv, cTrue, cMul, cPow, seqOf, datOf, toB, wp_ok, wp_bind, wp_nox, mNot, mAnd, mOr, mAndV, mNotV, mOrV, mIfE, mIsi, isTs, isT, gLen, gSeq, gSeqL, gList, gTuple, mMth, isLst, gApp, gPut, mFz, thaw, mSl, mPart, startL, mRng1, hn, rangeP_ran]
  have hlp := len_pairs (n := hs.length) (by omega)
  have hle : (seenP hs).length ≤ 144 := Nat.le_trans (List.length_filter_le _ _) hlp
  refine wp_loop (fun r ρ S1 => ∃ (is : List Int) (fs : List (Int × Int)) (o2 o3 o4 : Option D), r = is.map PyData.int ∧ ρ = [some (.p (.tuple (hs.map PyData.int))), some (.r S.length), o2, o3, o4, none] ∧ S1 = S ++ [some (.lst (fs.map pr))] ∧ (∀ i ∈ is, 0 ≤ i ∧ i < hs.length) ∧ fs ++ (is.flatMap fun i => (ran (i + 1) (hs.length - (i + 1)).toNat).map fun j => (i, j)).filter (seesB hs) = seenP hs) _ ?_ ?_ ?_
  · exact ⟨_, [], none, none, none, rfl, rfl, rfl, fun i hi => by have := mem_ran.mp hi; omega, rfl⟩
  · rintro x r ρ S1 ⟨is, fs, o2, o3, o4, e, rfl, rfl, hi, hf⟩ k3 hk3
    cases is with
    | nil => cases e
    | cons i is =>
      cases e
      rw [wp_gN, wp_for]
      have hi' := hi i (List.mem_cons_self ..)
      simp [mSeq, mIf, mTest, m2, m1, mVar, mC, mAsg, mRet, mNext, mDrop, mR, mP, mLst, mTup, mCons, mNil, pures, mCall, mCB, mCL, gN, gT, gsCons, gsNil, gSubT, gSet, gIx, gGt, gGe, gLt, gLe, gMod, gDiv, G.gSub, gAdd, gMul, gPow, gNeg, i2, okB, cPos, cDiv, cTrue, cMul, cPow, seqOf, datOf, toB, wp_ok, wp_bind, wp_nox, mNot, mAnd, mOr, mAndV, mNotV, mOrV, mIfE, mIsi, isTs, isT, gLen, gSeq, gSeqL, gList, gTuple, mMth, isLst, gApp, gPut, mFz, thaw, mSl, mPart, startL, mRng2, hn, inB_of (i := i + 1) (by omega) (by omega), rangeP_ran]
      refine wp_loop (fun r ρ S1 => ∃ (js : List Int) (gs : List (Int × Int)) (o3 o4 : Option D), r = js.map PyData.int ∧ ρ = [some (.p (.tuple (hs.map PyData.int))), some (.r S.length), some (.p (.int i)), o3, o4, none] ∧ S1 = S ++ [some (.lst (gs.map pr))] ∧ (∀ j ∈ js, i < j ∧ j < hs.length) ∧ gs ++ ((js.map fun j => (i, j)).filter (seesB hs) ++ (is.flatMap fun i => (ran (i + 1) (hs.length - (i + 1)).toNat).map fun j => (i, j)).filter (seesB hs)) = seenP hs) _ ?_ ?_ ?_
      · refine ⟨_, fs, _, _, rfl, rfl, rfl, fun j hj => by have := mem_ran.mp hj; omega, ?_⟩
        rw [← hf, List.flatMap_cons, List.filter_append]
      · rintro x r ρ S1 ⟨js, gs, o3, o4, e, rfl, rfl, hj, hg⟩ k4 hk4
        cases js with
        | nil => cases e
        | cons j js =>
          cases e
          rw [wp_gN]
          have hj' := hj j (List.mem_cons_self ..)
          apply wp_seq
          intro k5 hk5 _ _ _
          simp [mSeq, mIf, mTest, m2, m1, mVar, mC, mAsg, mRet, mNext, mDrop, mR, mP, mLst, mTup, mCons, mNil, pures, mCall, mCB, mCL, gN, gT, gsCons, gsNil, gSubT, gSet, gIx, gGt, gGe, gLt, gLe, gMod, gDiv, G.gSub, gAdd, gMul, gPow, gNeg, i2, okB, cPos, cDiv, cTrue, cMul, cPow, seqOf, datOf, toB, wp_ok, wp_bind, wp_nox, mNot, mAnd, mOr, mAndV, mNotV, mOrV, mIfE, mIsi, isTs, isT, gLen, gSeq, gSeqL, gList, gTuple, mMth, isLst, gApp, gPut, mFz, thaw, mSl, mPart, startL, atI_ints (hs := hs) (v := i) (by omega) (by omega), atI_ints (hs := hs) (v := j) (by omega) (by omega), gMin, gI2]
          apply hk5
          rw [wp_mif]
          have hlc : ∀ (m : Int) ρ0 S0, ρ0 = [some (.p (.tuple (hs.map PyData.int))), some (.r S.length), some (.p (.int i)), some (.p (.int j)), some (.p (.int m)), none] → mLcL (gN 5) (mTest (m2 gGt (mVar 5) (mVar 4))) (mVar 5) ρ0 ((cutI hs (some (i + 1)) (some j)).map PyData.int) S0 = .ok (((cutI hs (some (i + 1)) (some j)).filter fun h => decide (m < h)).map PyData.int) S0 := by
            rintro m _ S0 rfl
            exact lc_map PyData.int _ fun h _ => ⟨_, rfl, by simp [mSeq, mIf, mTest, m2, m1, mVar, mC, mAsg, mRet, mNext, mDrop, mR, mP, mLst, mTup, mCons, mNil, pures, mCall, mCB, mCL, gN, gT, gsCons, gsNil, gSubT, gSet, gIx, gGt, gGe, gLt, gLe, gMod, gDiv, G.gSub, gAdd, gMul, gPow, gNeg, i2, okB, cPos, cDiv, cTrue, cMul, cPow, seqOf, datOf, toB, Res.bind, Res.nox, wp_ok, wp_bind, wp_nox, mNot, mAnd, mOr, mAndV, mNotV, mOrV, mIfE, mIsi, isTs, isT, gLen, gSeq, gSeqL, gList, gTuple, mMth, isLst, gApp, gPut, mFz, thaw, mSl, mPart, startL], fun _ => by simp [mSeq, mIf, mTest, m2, m1, mVar, mC, mAsg, mRet, mNext, mDrop, mR, mP, mLst, mTup, mCons, mNil, pures, mCall, mCB, mCL, gN, gT, gsCons, gsNil, gSubT, gSet, gIx, gGt, gGe, gLt, gLe, gMod, gDiv, G.gSub, gAdd, gMul, gPow, gNeg, i2, okB, cPos, cDiv, cTrue, cMul, cPow, seqOf, datOf, toB, Res.bind, Res.nox, wp_ok, wp_bind, wp_nox, mNot, mAnd, mOr, mAndV, mNotV, mOrV, mIfE, mIsi, isTs, isT, gLen, gSeq, gSeqL, gList, gTuple, mMth, isLst, gApp, gPut, mFz, thaw, mSl, mPart, startL]⟩
          have hcl : (cutI hs (some (i + 1)) (some j)).length ≤ 1000000 := by
            unfold cutI
            have := List.length_take_le' (HT.sIx hs.length hs.length (some j) - HT.sIx hs.length 0 (some (i + 1))) (hs.drop (HT.sIx hs.length 0 (some (i + 1))))
            rw [List.length_drop] at this
            omega
          have hgl : gs.length ≤ 1000000 := by
            have := congrArg List.length hg
            rw [List.length_append] at this
            omega
          simp [mSeq, mIf, mTest, m2, m1, mVar, mC, mAsg, mRet, mNext, mDrop, mR, mP, mLst, mTup, mCons, mNil, pures, mCall, mCB, mCL, gN, gT, gsCons, gsNil, gSubT, gSet, gIx, gGt, gGe, gLt, gLe, gMod, gDiv, G.gSub, gAdd, gMul, gPow, gNeg, i2, okB, cPos, cDiv, cTrue, cMul, cPow, seqOf, datOf, toB, wp_ok, wp_bind, wp_nox, mNot, mAnd, mOr, mAndV, mNotV, mOrV, mIfE, mIsi, isTs, isT, gLen, gSeq, gSeqL, gList, gTuple, mMth, isLst, gApp, gPut, mFz, thaw, mSl, mPart, startL, mLc, mItems, gSl, cutP_ints, wipeL, hcl, hlc _ _ _ rfl]
          rw [gEq_nil (La.ints (n := 0) _) (by omega)]
          simp [wp_ok]
          by_cases hsee : seesB hs (i, j) = true
          · rw [if_pos (by simpa [seesB, minI, List.isEmpty_iff] using hsee)]
            simp [mSeq, mIf, mTest, m2, m1, mVar, mC, mAsg, mRet, mNext, mDrop, mR, mP, mLst, mTup, mCons, mNil, pures, mCall, mCB, mCL, gN, gT, gsCons, gsNil, gSubT, gSet, gIx, gGt, gGe, gLt, gLe, gMod, gDiv, G.gSub, gAdd, gMul, gPow, gNeg, i2, okB, cPos, cDiv, cTrue, cMul, cPow, seqOf, datOf, toB, wp_ok, wp_bind, wp_nox, mNot, mAnd, mOr, mAndV, mNotV, mOrV, mIfE, mIsi, isTs, isT, gLen, gSeq, gSeqL, gList, gTuple, mMth, isLst, gApp, gPut, mFz, thaw, mSl, mPart, startL, last_get, last_set, hgl]
            apply hk4
            refine ⟨js, gs ++ [(i, j)], _, _, rfl, rfl, by simp [LK.pr], fun j hj'' => hj j (List.mem_cons_of_mem _ hj''), ?_⟩
            rw [List.append_assoc, ← hg, List.map_cons, List.filter_cons, if_pos hsee]
            simp
          · rw [if_neg (by simpa [seesB, minI, List.isEmpty_iff] using hsee)]
            apply hk4
            refine ⟨js, gs, _, _, rfl, rfl, rfl, fun j hj'' => hj j (List.mem_cons_of_mem _ hj''), ?_⟩
            rw [← hg, List.map_cons, List.filter_cons, if_neg hsee]
      · rintro ρ S1 ⟨js, gs, o3, o4, e, rfl, rfl, hj, hg⟩
        cases js with
        | cons j js => cases e
        | nil =>
          apply hk3
          exact ⟨is, gs, _, _, _, rfl, rfl, rfl, fun j hj => hi j (List.mem_cons_of_mem _ hj), hg⟩
  · rintro ρ S1 ⟨is, fs, o2, o3, o4, e, rfl, rfl, hi, hf⟩
    cases is with
    | cons i is => cases e
    | nil =>
      apply hk2
      rw [List.flatMap_nil, List.filter_nil, List.append_nil] at hf
      subst hf
      simp [mSeq, mIf, mTest, m2, m1, mVar, mC, mAsg, mRet, mNext, mDrop, mR, mP, mLst, mTup, mCons, mNil, pures, mCall, mCB, mCL, gN, gT, gsCons, gsNil, gSubT, gSet, gIx, gGt, gGe, gLt, gLe, gMod, gDiv, G.gSub, gAdd, gMul, gPow, gNeg, i2, okB, cPos, cDiv, cTrue, cMul, cPow, seqOf, datOf, toB, wp_ok, wp_bind, wp_nox, mNot, mAnd, mOr, mAndV, mNotV, mOrV, mIfE, mIsi, isTs, isT, gLen, gSeq, gSeqL, gList, gTuple, mMth, isLst, gApp, gPut, mFz, thaw, mSl, mPart, startL, last_get, last_take]
end LK


set_option maxHeartbeats 4000000
namespace LK
open PySem L2 G
/-! ### numbers within bounds, rising rows, lots -/
def isFromB : PyData → Int → Int → Bool
  | .int i, lo, hi => decide (lo ≤ i) && decide (i ≤ hi)
  | _, _, _ => false
theorem is_from_eq {S : Sto} {t : PyData} {lo hi : Int} (ht : ∀ kvs, t ≠ .dict kvs) : f_is_from [.p t, .p (.int lo), .p (.int hi)] S = .ok (.p (.bool (isFromB t lo hi))) S := by
  cases t with
  | dict kvs => exact absurd rfl (ht kvs)
  | int i =>
    by_cases h : lo ≤ i
    · simp [f_is_from, b_is_from, fnOf, G.finish, mSeq, mIf, mTest, m2, m1, mVar, mC, mAsg, mRet, mNext, mDrop, mR, mP, mLst, mTup, mCons, mNil, pures, mCall, mCB, mCL, gN, gT, gsCons, gsNil, gSubT, gSet, gIx, gGt, gGe, gLt, gLe, gMod, gDiv, G.gSub, gAdd, gMul, gPow, gNeg, i2, okB, cPos, cDiv, cTrue, cMul, cPow, seqOf, datOf, toB, Res.bind, Res.nox, wp_ok, wp_bind, wp_nox, mNot, mAnd, mOr, mAndV, mNotV, mOrV, mIfE, mIsi, isTs, isT, gLen, gSeq, gSeqL, gList, gTuple, mMth, isLst, gApp, gPut, mFz, thaw, mSl, mPart, startL, mCh, cLink, cLast, isFromB, h]
    · simp [f_is_from, b_is_from, fnOf, G.finish, mSeq, mIf, mTest, m2, m1, mVar, mC, mAsg, mRet, mNext, mDrop, mR, mP, mLst, mTup, mCons, mNil, pures, mCall, mCB, mCL, gN, gT, gsCons, gsNil, gSubT, gSet, gIx, gGt, gGe, gLt, gLe, gMod, gDiv, G.gSub, gAdd, gMul, gPow, gNeg, i2, okB, cPos, cDiv, cTrue, cMul, cPow, seqOf, datOf, toB, Res.bind, Res.nox, wp_ok, wp_bind, wp_nox, mNot, mAnd, mOr, mAndV, mNotV, mOrV, mIfE, mIsi, isTs, isT, gLen, gSeq, gSeqL, gList, gTuple, mMth, isLst, gApp, gPut, mFz, thaw, mSl, mPart, startL, mCh, cLink, cLast, isFromB, h]
  | _ => simp [f_is_from, b_is_from, fnOf, G.finish, mSeq, mIf, mTest, m2, m1, mVar, mC, mAsg, mRet, mNext, mDrop, mR, mP, mLst, mTup, mCons, mNil, pures, mCall, mCB, mCL, gN, gT, gsCons, gsNil, gSubT, gSet, gIx, gGt, gGe, gLt, gLe, gMod, gDiv, G.gSub, gAdd, gMul, gPow, gNeg, i2, okB, cPos, cDiv, cTrue, cMul, cPow, seqOf, datOf, toB, Res.bind, Res.nox, wp_ok, wp_bind, wp_nox, mNot, mAnd, mOr, mAndV, mNotV, mOrV, mIfE, mIsi, isTs, isT, gLen, gSeq, gSeqL, gList, gTuple, mMth, isLst, gApp, gPut, mFz, thaw, mSl, mPart, startL, isFromB]
instance ltP_dec (a b : Int × Int) : Decidable (ltP a b) := by unfold ltP; exact inferInstance
theorem lt_pr {p q : Int × Int} : PySem.W.dataLt (pr p) (pr q) = decide (ltP p q) := by
  unfold LK.pr
  rw [PySem.W.dataLt_tuple]
  simp only [PySem.W.keyToksAll, PySem.W.keyToks, List.singleton_append, PyProof.Rows.lex_cons, PyProof.Rows.itemOrd, PyProof.Rows.itemLt, PyProof.Rows.lexLt]
  unfold ltP
  by_cases h1 : p.1 < q.1
  · simp [h1]
  · by_cases h2 : q.1 < p.1
    · have : ¬ p.1 = q.1 := by omega
      simp [h1, h2, this]
    · have : p.1 = q.1 := by omega
      simp [this]
theorem gLt_pr {p q : Int × Int} {S : Sto} : gLt (.p (pr p)) (.p (pr q)) S = .ok (.p (.bool (decide (ltP p q)))) S := by
  have h1 : lay3 (pr p) (pr q) = true := by
    unfold lay3
    rw [(La.pr (n := 0) p).lay (by omega), (La.pr (n := 0) q).lay (by omega)]
    rfl
  show g2 lay3 (fun x y => .bool (PySem.W.dataLt x y)) (.p (pr p)) (.p (pr q)) S = _
  simp [g2, datOf, h1, okB, lt_pr]
theorem zip_rise : ∀ {ps : List (Int × Int)}, ps.Pairwise ltP → ∀ x ∈ zipP (ps.map pr) ((ps.drop 1).map pr), ∃ p q, x = .tuple [pr p, pr q] ∧ ltP p q
  | [], _, x, h => by cases h
  | [_], _, x, h => by cases h
  | a :: b :: ps, hp, x, h => by
    have h : x ∈ PyData.tuple [pr a, pr b] :: zipP ((b :: ps).map pr) (((b :: ps).drop 1).map pr) := h
    rcases List.mem_cons.mp h with rfl | h
    · exact ⟨a, b, rfl, (List.pairwise_cons.mp hp).1 b (List.mem_cons_self ..)⟩
    · exact zip_rise (List.pairwise_cons.mp hp).2 x h
theorem bools_true {α : Type} : ∀ (xs : List α), bools (xs.map fun _ => PyData.bool true) = some (xs.map fun _ => true)
  | [] => rfl
  | x :: xs => by
    show (bools (xs.map fun _ => PyData.bool true)).map (true :: ·) = _
    rw [bools_true xs]
    rfl
theorem cutP_tail {xs : List PyData} : cutP xs (some 1) none = xs.drop 1 := by
  unfold cutP
  have h1 : HT.sIx xs.length 0 (some 1) = min 1 xs.length := HT.sIx_nat _ _ 1
  rw [HT.sIx_none, h1]
  cases xs with
  | nil => rfl
  | cons x xs =>
    have : min 1 (x :: xs).length = 1 := by simp
    rw [this]
    simp
theorem rising_eq {S : Sto} {ps : List (Int × Int)} (hp : ps.Pairwise ltP) (hl : ps.length ≤ 1000000) : f_is_rising [.p (.tuple (ps.map pr))] S = .ok (.p (.bool true)) S := by
  have hz := zip_rise hp
  have hlc : mLcL (gT 2 (gsCons (gN 1) (gsCons (gN 2) gsNil))) mYes (m2 gLt (mVar 1) (mVar 2)) [some (.p (.tuple (ps.map pr))), none, none] (zipP (ps.map pr) ((ps.drop 1).map pr)) S = .ok (((zipP (ps.map pr) ((ps.drop 1).map pr)).filter fun _ => true).map fun _ => PyData.bool true) S := by
    refine lcL_plain _ fun x hx => ?_
    obtain ⟨p, q, rfl, h⟩ := hz x hx
    refine ⟨[some (.p (.tuple (ps.map pr))), some (.p (pr p)), some (.p (pr q))], by simp [mSeq, mIf, mTest, m2, m1, mVar, mC, mAsg, mRet, mNext, mDrop, mR, mP, mLst, mTup, mCons, mNil, pures, mCall, mCB, mCL, gN, gT, gsCons, gsNil, gSubT, gSet, gIx, gGt, gGe, gLt, gLe, gMod, gDiv, G.gSub, gAdd, gMul, gPow, gNeg, i2, okB, cPos, cDiv, cTrue, cMul, cPow, seqOf, datOf, toB, Res.bind, Res.nox, wp_ok, wp_bind, wp_nox, mNot, mAnd, mOr, mAndV, mNotV, mOrV, mIfE, mIsi, isTs, isT, gLen, gSeq, gSeqL, gList, gTuple, mMth, isLst, gApp, gPut, mFz, thaw, mSl, mPart, startL], rfl, fun _ => ?_⟩
    simp only [m2, mVar, List.getElem?_cons_succ, List.getElem?_cons_zero, Res.bind, gLt_pr]
    rw [decide_eq_true h]
  have hl2 : (zipP (ps.map pr) ((ps.drop 1).map pr)).length ≤ 1000000 := by
    rw [zipP_length, List.length_map]; omega
  simp only [List.drop_one, List.map_tail] at hlc hl2
  have hno : ∀ p : Int × Int, notI (LK.pr p) = true := fun _ => rfl
  simp [hno, f_is_rising, fnOf, b_is_rising, mRet, mCB, mCons, mP, mLc, mZip, mVar, mSl, mPart, mC, mNil, startL, Res.bind, gSl, seqOf, cutP_tail, hl2, wipeL, hlc, gAll, gSeq, bools_true, G.finish, Res.nox]
theorem is_lot_eq {S : Sto} {n : Int} {ps : List (Int × Int)} (h : Lot n ps) (hl : ps.length ≤ 1000000) : f_is_lot [.p (.int n), .p (.tuple (ps.map pr))] S = .ok (.p (.bool true)) S := by
  suffices h : wp (f_is_lot [.p (.int n), .p (.tuple (ps.map pr))] S) (fun d S1 => d = .p (.bool true) ∧ S1 = S) by
    obtain ⟨d, S1, e, rfl, rfl⟩ := h
    exact e
  unfold f_is_lot
  rw [wp_nox]
  apply wp_fn
  unfold b_is_lot
  apply wp_seq
  intro k1 hk1 _ _ _
  simp [mSeq, mIf, mTest, m2, m1, mVar, mC, mAsg, mRet, mNext, mDrop, mR, mP, mLst, mTup, mCons, mNil, pures, mCall, mCB, mCL, gN, gT, gsCons, gsNil, gSubT, gSet, gIx, gGt, gGe, gLt, gLe, gMod, gDiv, G.gSub, gAdd, gMul, gPow, gNeg, i2, okB, cPos, cDiv, cTrue, cMul, cPow, seqOf, datOf, toB, wp_ok, wp_bind, wp_nox, mNot, mAnd, mOr, mAndV, mNotV, mOrV, mIfE, mIsi, isTs, isT, gLen, gSeq, gSeqL, gList, gTuple, mMth, isLst, gApp, gPut, mFz, thaw, mSl, mPart, startL]
  apply hk1
  apply wp_seq
  intro k2 hk2 _ _ _
  rw [wp_for]
  simp [mSeq, mIf, mTest, m2, m1, mVar, mC, mAsg, mRet, mNext, mDrop, mR, mP, mLst, mTup, mCons, mNil, pures, mCall, mCB, mCL, gN, gT, gsCons, gsNil, gSubT, gSet, gIx, gGt, gGe, gLt, gLe, gMod, gDiv, G.gSub, gAdd, gMul, gPow, gNeg, i2, okB, cPos, cDiv, cTrue, cMul, cPow, seqOf, datOf, toB, wp_ok, wp_bind, wp_nox, mNot, mAnd, mOr, mAndV, mNotV, mOrV, mIfE, mIsi, isTs, isT, gLen, gSeq, gSeqL, gList, gTuple, mMth, isLst, gApp, gPut, mFz, thaw, mSl, mPart, startL, mItems]
  refine wp_loop (fun r ρ S1 => ∃ (qs : List (Int × Int)) (o2 : Option D), r = qs.map pr ∧ ρ = [some (.p (.int n)), some (.p (.tuple (ps.map pr))), o2] ∧ S1 = S ∧ ∀ p ∈ qs, 0 ≤ p.1 ∧ p.1 < p.2 ∧ p.2 < n) _ ?_ ?_ ?_
  · exact ⟨_, _, rfl, rfl, rfl, h.inr⟩
  · rintro x r ρ S1 ⟨qs, o2, e, rfl, rfl, hq⟩ k3 hk3
    cases qs with
    | nil => cases e
    | cons p qs =>
      cases e
      rw [wp_gN]
      obtain ⟨h1, h2, h3⟩ := hq p (List.mem_cons_self ..)
      have e0 : atI [PyData.int p.1, .int p.2] 0 = some (.int p.1) := rfl
      have e1 : atI [PyData.int p.1, .int p.2] 1 = some (.int p.2) := rfl
      have f0 : isFromB (.int p.1) 0 (n - 2) = true := by simp only [isFromB]; simp; omega
      have f1 : isFromB (.int p.2) (p.1 + 1) (n - 1) = true := by simp only [isFromB]; simp; omega
      have ne2 : gNe (.p (.int 2)) (.p (.int 2)) S1 = .ok (.p (.bool false)) S1 := rfl
      apply wp_seq
      intro k4 hk4 _ _ _
      simp [mSeq, mIf, mTest, m2, m1, mVar, mC, mAsg, mRet, mNext, mDrop, mR, mP, mLst, mTup, mCons, mNil, pures, mCall, mCB, mCL, gN, gT, gsCons, gsNil, gSubT, gSet, gIx, gGt, gGe, gLt, gLe, gMod, gDiv, G.gSub, gAdd, gMul, gPow, gNeg, i2, okB, cPos, cDiv, cTrue, cMul, cPow, seqOf, datOf, toB, wp_ok, wp_bind, wp_nox, mNot, mAnd, mOr, mAndV, mNotV, mOrV, mIfE, mIsi, isTs, isT, gLen, gSeq, gSeqL, gList, gTuple, mMth, isLst, gApp, gPut, mFz, thaw, mSl, mPart, startL, LK.pr, e0, is_from_eq, f0, ne2]
      apply hk4
      simp [mSeq, mIf, mTest, m2, m1, mVar, mC, mAsg, mRet, mNext, mDrop, mR, mP, mLst, mTup, mCons, mNil, pures, mCall, mCB, mCL, gN, gT, gsCons, gsNil, gSubT, gSet, gIx, gGt, gGe, gLt, gLe, gMod, gDiv, G.gSub, gAdd, gMul, gPow, gNeg, i2, okB, cPos, cDiv, cTrue, cMul, cPow, seqOf, datOf, toB, wp_ok, wp_bind, wp_nox, mNot, mAnd, mOr, mAndV, mNotV, mOrV, mIfE, mIsi, isTs, isT, gLen, gSeq, gSeqL, gList, gTuple, mMth, isLst, gApp, gPut, mFz, thaw, mSl, mPart, startL, LK.pr, e0, e1, is_from_eq, f1]
      apply hk3
      exact ⟨qs, _, rfl, rfl, rfl, fun p hp => hq p (List.mem_cons_of_mem _ hp)⟩
  · rintro ρ S1 ⟨qs, o2, e, rfl, rfl, hq⟩
    apply hk2
    simp [mSeq, mIf, mTest, m2, m1, mVar, mC, mAsg, mRet, mNext, mDrop, mR, mP, mLst, mTup, mCons, mNil, pures, mCall, mCB, mCL, gN, gT, gsCons, gsNil, gSubT, gSet, gIx, gGt, gGe, gLt, gLe, gMod, gDiv, G.gSub, gAdd, gMul, gPow, gNeg, i2, okB, cPos, cDiv, cTrue, cMul, cPow, seqOf, datOf, toB, wp_ok, wp_bind, wp_nox, mNot, mAnd, mOr, mAndV, mNotV, mOrV, mIfE, mIsi, isTs, isT, gLen, gSeq, gSeqL, gList, gTuple, mMth, isLst, gApp, gPut, mFz, thaw, mSl, mPart, startL, rising_eq h.srt hl]
theorem need_lot_eq {S : Sto} {n : Int} {ps : List (Int × Int)} (h : Lot n ps) (hl : ps.length ≤ 1000000) (h1 : 1 ≤ n) (h2 : n ≤ 12) : f_need_lot [.p (.int n), .p (.tuple (ps.map pr))] S = .ok (.p .none) S := by
  have f0 : isFromB (.int n) 1 12 = true := by simp only [isFromB]; simp; omega
  simp [f_need_lot, b_need_lot, f_need_many, b_need_many, fnOf, G.finish, mSeq, mIf, mTest, m2, m1, mVar, mC, mAsg, mRet, mNext, mDrop, mR, mP, mLst, mTup, mCons, mNil, pures, mCall, mCB, mCL, gN, gT, gsCons, gsNil, gSubT, gSet, gIx, gGt, gGe, gLt, gLe, gMod, gDiv, G.gSub, gAdd, gMul, gPow, gNeg, i2, okB, cPos, cDiv, cTrue, cMul, cPow, seqOf, datOf, toB, Res.bind, Res.nox, wp_ok, wp_bind, wp_nox, mNot, mAnd, mOr, mAndV, mNotV, mOrV, mIfE, mIsi, isTs, isT, gLen, gSeq, gSeqL, gList, gTuple, mMth, isLst, gApp, gPut, mFz, thaw, mSl, mPart, startL, is_from_eq, f0, is_lot_eq h hl]
end LK


set_option maxHeartbeats 4000000
namespace LK
open PySem L2 G
/-! ### what bars a lot -/
abbrev Bar := Str × List Int
def bd (b : Bar) : PyData := .tuple (.str b.1 :: b.2.map PyData.int)
def apartL (n : Int) (ps : List (Int × Int)) : List Bar := ((ran 0 (n - 1).toNat).filter fun i => !decide ((i, i + 1) ∈ ps)).map fun i => ("apart", [i, i + 1])
def crossB (p q : Int × Int) : Bool := decide (p.1 < q.1) && (decide (q.1 < p.2) && decide (p.2 < q.2))
def crossL (ps : List (Int × Int)) (p : Int × Int) : List Bar := (ps.filter (crossB p)).map fun q => ("cross", [p.1, p.2, q.1, q.2])
def aloneB (ps : List (Int × Int)) (p : Int × Int) : Bool := decide (p.1 + 1 < p.2) && ((ran (p.1 + 1) (p.2 - (p.1 + 1)).toNat).filter fun m => decide ((p.1, m) ∈ ps) && decide ((m, p.2) ∈ ps)).isEmpty
def aloneL (ps qs : List (Int × Int)) : List Bar := (qs.filter (aloneB ps)).map fun p => ("alone", [p.1, p.2])
def barsL (n : Int) (ps : List (Int × Int)) : List Bar := (apartL n ps ++ ps.flatMap (crossL ps)) ++ aloneL ps ps
theorem flat_len {α β : Type} {f : α → List β} {m : Nat} (h : ∀ x, (f x).length ≤ m) : ∀ (xs : List α), (xs.flatMap f).length ≤ xs.length * m
  | [] => Nat.zero_le _
  | x :: xs => by
    have := flat_len h xs
    have := h x
    rw [List.flatMap_cons, List.length_append, List.length_cons, Nat.succ_mul]
    omega
theorem apart_len {n : Int} {ps : List (Int × Int)} (hn : n ≤ 12) : (apartL n ps).length ≤ 12 := by
  unfold apartL
  rw [List.length_map]
  have := List.length_filter_le (fun i => !decide ((i, i + 1) ∈ ps)) (ran 0 (n - 1).toNat)
  rw [ran_len] at this
  omega
theorem cross_len {ps : List (Int × Int)} (h : ps.length ≤ 200) : (ps.flatMap (crossL ps)).length ≤ 40000 := by
  have := flat_len (f := crossL ps) (m := ps.length) (fun p => by unfold crossL; rw [List.length_map]; exact List.length_filter_le _ _) ps
  exact Nat.le_trans this (Nat.le_trans (Nat.mul_le_mul h h) (by decide))
theorem alone_len {ps qs : List (Int × Int)} (h : qs.length ≤ 200) : (aloneL ps qs).length ≤ 200 := by
  unfold aloneL
  rw [List.length_map]
  exact Nat.le_trans (List.length_filter_le _ _) h
theorem bars_len {n : Int} {ps : List (Int × Int)} (hn : n ≤ 12) (h : ps.length ≤ 200) : (barsL n ps).length ≤ 40212 := by
  unfold barsL
  rw [List.length_append, List.length_append]
  have := apart_len (ps := ps) hn
  have := cross_len h
  have := alone_len (ps := ps) h
  omega
theorem gIn_pr {a b : Int} {ps : List (Int × Int)} {S : Sto} : gIn (.p (.tuple [.int a, .int b])) (.p (.tuple (ps.map pr))) S = .ok (.p (.bool (decide ((a, b) ∈ ps)))) S := by
  have h1 := layIn_prs (p := (a, b)) (ps := ps)
  have h2 := isIn_prs (p := (a, b)) (ps := ps)
  simp only [LK.pr] at h1 h2
  simp only [gIn, g2, datOf, LK.pr, h1, h2, okB, if_true]
theorem gNotIn_pr {a b : Int} {ps : List (Int × Int)} {S : Sto} : gNotIn (.p (.tuple [.int a, .int b])) (.p (.tuple (ps.map pr))) S = .ok (.p (.bool (!decide ((a, b) ∈ ps)))) S := by
  have h1 := layIn_prs (p := (a, b)) (ps := ps)
  have h2 := isIn_prs (p := (a, b)) (ps := ps)
  simp only [LK.pr] at h1 h2
  simp only [gNotIn, g2, datOf, LK.pr, h1, h2, okB, if_true]
theorem all_bars_eq {S : Sto} {n : Int} {ps : List (Int × Int)} (h : Lot n ps) (hl : ps.length ≤ 200) (h1 : 1 ≤ n) (h2 : n ≤ 12) : f_all_bars [.p (.int n), .p (.tuple (ps.map pr))] S = .ok (.p (.list ((barsL n ps).map bd))) S := by
  suffices h : wp (f_all_bars [.p (.int n), .p (.tuple (ps.map pr))] S) (fun d S1 => d = .p (.list ((barsL n ps).map bd)) ∧ S1 = S) by
    obtain ⟨d, S1, e, rfl, rfl⟩ := h
    exact e
  have hap := apart_len (ps := ps) h2
  have hcr := cross_len hl
  have hal := alone_len (ps := ps) hl
  unfold f_all_bars
  rw [wp_nox]
  apply wp_fn
  unfold b_all_bars
  apply wp_seq
  intro k1 hk1 _ _ _
  have hA : mLcL (gN 3) (mTest (m2 gNotIn (mTup (mCons (mVar 3) (mCons (m2 gAdd (mVar 3) (mC (.int 1))) mNil))) (mVar 1))) (mTup (mCons (mC (.str "apart")) (mCons (mVar 3) (mCons (m2 gAdd (mVar 3) (mC (.int 1))) mNil)))) [some (.p (.int n)), some (.p (.tuple (ps.map pr))), none, none, none, none, none, none, none] ((ran 0 (n - 1).toNat).map PyData.int) S = .ok (((ran 0 (n - 1).toNat).filter fun i => !decide ((i, i + 1) ∈ ps)).map fun i => bd ("apart", [i, i + 1])) S :=
    lc_map PyData.int _ fun i _ => ⟨_, rfl, by simp [mSeq, mIf, mTest, m2, m1, mVar, mC, mAsg, mRet, mNext, mDrop, mR, mP, mLst, mTup, mCons, mNil, pures, mCall, mCB, mCL, gN, gT, gsCons, gsNil, gSubT, gSet, gIx, gGt, gGe, gLt, gLe, gMod, gDiv, G.gSub, gAdd, gMul, gPow, gNeg, i2, okB, cPos, cDiv, cTrue, cMul, cPow, seqOf, datOf, toB, Res.bind, Res.nox, wp_ok, wp_bind, wp_nox, mNot, mAnd, mOr, mAndV, mNotV, mOrV, mIfE, mIsi, isTs, isT, gLen, gSeq, gSeqL, gList, gTuple, mMth, isLst, gApp, gPut, mFz, thaw, mSl, mPart, startL, gNotIn_pr], fun _ => by simp [mSeq, mIf, mTest, m2, m1, mVar, mC, mAsg, mRet, mNext, mDrop, mR, mP, mLst, mTup, mCons, mNil, pures, mCall, mCB, mCL, gN, gT, gsCons, gsNil, gSubT, gSet, gIx, gGt, gGe, gLt, gLe, gMod, gDiv, G.gSub, gAdd, gMul, gPow, gNeg, i2, okB, cPos, cDiv, cTrue, cMul, cPow, seqOf, datOf, toB, Res.bind, Res.nox, wp_ok, wp_bind, wp_nox, mNot, mAnd, mOr, mAndV, mNotV, mOrV, mIfE, mIsi, isTs, isT, gLen, gSeq, gSeqL, gList, gTuple, mMth, isLst, gApp, gPut, mFz, thaw, mSl, mPart, startL, bd]⟩
  have hrl : (n - 1).toNat ≤ 1000000 := by omega
  simp [-Int.pred_toNat, -Int.toNat_le, mSeq, mIf, mTest, m2, m1, mVar, mC, mAsg, mRet, mNext, mDrop, mR, mP, mLst, mTup, mCons, mNil, pures, mCall, mCB, mCL, gN, gT, gsCons, gsNil, gSubT, gSet, gIx, gGt, gGe, gLt, gLe, gMod, gDiv, G.gSub, gAdd, gMul, gPow, gNeg, i2, okB, cPos, cDiv, cTrue, cMul, cPow, seqOf, datOf, toB, wp_ok, wp_bind, wp_nox, mNot, mAnd, mOr, mAndV, mNotV, mOrV, mIfE, mIsi, isTs, isT, gLen, gSeq, gSeqL, gList, gTuple, mMth, isLst, gApp, gPut, mFz, thaw, mSl, mPart, startL, mLc, mRng1, inB_of (i := n - 1) (by omega) (by omega), rangeP_ran, wipeL, ran_len, hA, hrl]
  apply hk1
  apply wp_seq
  intro k2 hk2 _ _ _
  rw [wp_for]
  simp [mSeq, mIf, mTest, m2, m1, mVar, mC, mAsg, mRet, mNext, mDrop, mR, mP, mLst, mTup, mCons, mNil, pures, mCall, mCB, mCL, gN, gT, gsCons, gsNil, gSubT, gSet, gIx, gGt, gGe, gLt, gLe, gMod, gDiv, G.gSub, gAdd, gMul, gPow, gNeg, i2, okB, cPos, cDiv, cTrue, cMul, cPow, seqOf, datOf, toB, wp_ok, wp_bind, wp_nox, mNot, mAnd, mOr, mAndV, mNotV, mOrV, mIfE, mIsi, isTs, isT, gLen, gSeq, gSeqL, gList, gTuple, mMth, isLst, gApp, gPut, mFz, thaw, mSl, mPart, startL, mItems]
  refine wp_loop (fun r ρ S1 => ∃ (qs : List (Int × Int)) (bs : List Bar) (o3 o4 o6 o7 : Option D), r = qs.map pr ∧ ρ = [some (.p (.int n)), some (.p (.tuple (ps.map pr))), some (.r S.length), o3, o4, none, o6, o7, none] ∧ S1 = S ++ [some (.lst (bs.map bd))] ∧ bs ++ qs.flatMap (crossL ps) = apartL n ps ++ ps.flatMap (crossL ps)) _ ?_ ?_ ?_
  · exact ⟨ps, apartL n ps, _, _, _, _, rfl, rfl, by simp [apartL], rfl⟩
  · rintro x r ρ S1 ⟨qs, bs, o3, o4, o6, o7, e, rfl, rfl, hb⟩ k3 hk3
    cases qs with
    | nil => cases e
    | cons p qs =>
      cases e
      simp [mSeq, mIf, mTest, m2, m1, mVar, mC, mAsg, mRet, mNext, mDrop, mR, mP, mLst, mTup, mCons, mNil, pures, mCall, mCB, mCL, gN, gT, gsCons, gsNil, gSubT, gSet, gIx, gGt, gGe, gLt, gLe, gMod, gDiv, G.gSub, gAdd, gMul, gPow, gNeg, i2, okB, cPos, cDiv, cTrue, cMul, cPow, seqOf, datOf, toB, wp_ok, wp_bind, wp_nox, mNot, mAnd, mOr, mAndV, mNotV, mOrV, mIfE, mIsi, isTs, isT, gLen, gSeq, gSeqL, gList, gTuple, mMth, isLst, gApp, gPut, mFz, thaw, mSl, mPart, startL, LK.pr, wp_for, mItems]
      refine wp_loop (fun r ρ S1 => ∃ (rs : List (Int × Int)) (bs : List Bar) (o6 o7 : Option D), r = rs.map pr ∧ ρ = [some (.p (.int n)), some (.p (.tuple (ps.map pr))), some (.r S.length), some (.p (.int p.1)), some (.p (.int p.2)), none, o6, o7, none] ∧ S1 = S ++ [some (.lst (bs.map bd))] ∧ bs ++ ((rs.filter (crossB p)).map (fun q => (("cross", [p.1, p.2, q.1, q.2]) : Bar)) ++ qs.flatMap (crossL ps)) = apartL n ps ++ ps.flatMap (crossL ps)) _ ?_ ?_ ?_
      · exact ⟨ps, bs, _, _, by rfl, rfl, rfl, by rw [← hb, List.flatMap_cons]; rfl⟩
      · rintro x r ρ S1 ⟨rs, bs, o6, o7, e, rfl, rfl, hb⟩ k4 hk4
        cases rs with
        | nil => cases e
        | cons q rs =>
          cases e
          have hbl : bs.length ≤ 1000000 := by
            have := congrArg List.length hb
            rw [List.length_append, List.length_append (as := apartL n ps)] at this
            omega
          simp [mSeq, mIf, mTest, m2, m1, mVar, mC, mAsg, mRet, mNext, mDrop, mR, mP, mLst, mTup, mCons, mNil, pures, mCall, mCB, mCL, gN, gT, gsCons, gsNil, gSubT, gSet, gIx, gGt, gGe, gLt, gLe, gMod, gDiv, G.gSub, gAdd, gMul, gPow, gNeg, i2, okB, cPos, cDiv, cTrue, cMul, cPow, seqOf, datOf, toB, wp_ok, wp_bind, wp_nox, mNot, mAnd, mOr, mAndV, mNotV, mOrV, mIfE, mIsi, isTs, isT, gLen, gSeq, gSeqL, gList, gTuple, mMth, isLst, gApp, gPut, mFz, thaw, mSl, mPart, startL, LK.pr, mCh, cLink, cLast]
          by_cases c1 : p.1 < q.1
          · by_cases c2 : q.1 < p.2
            · by_cases c3 : p.2 < q.2
              · simp [c1, c2, c3, mSeq, mIf, mTest, m2, m1, mVar, mC, mAsg, mRet, mNext, mDrop, mR, mP, mLst, mTup, mCons, mNil, pures, mCall, mCB, mCL, gN, gT, gsCons, gsNil, gSubT, gSet, gIx, gGt, gGe, gLt, gLe, gMod, gDiv, G.gSub, gAdd, gMul, gPow, gNeg, i2, okB, cPos, cDiv, cTrue, cMul, cPow, seqOf, datOf, toB, wp_ok, wp_bind, wp_nox, mNot, mAnd, mOr, mAndV, mNotV, mOrV, mIfE, mIsi, isTs, isT, gLen, gSeq, gSeqL, gList, gTuple, mMth, isLst, gApp, gPut, mFz, thaw, mSl, mPart, startL, last_get, last_set, hbl]
                apply hk4
                refine ⟨rs, bs ++ [(("cross", [p.1, p.2, q.1, q.2]) : Bar)], _, _, rfl, rfl, by simp [bd], ?_⟩
                rw [← hb, List.filter_cons, if_pos (by simp [crossB, c1, c2, c3])]
                simp
              · simp [c1, c2, c3, mSeq, mIf, mTest, m2, m1, mVar, mC, mAsg, mRet, mNext, mDrop, mR, mP, mLst, mTup, mCons, mNil, pures, mCall, mCB, mCL, gN, gT, gsCons, gsNil, gSubT, gSet, gIx, gGt, gGe, gLt, gLe, gMod, gDiv, G.gSub, gAdd, gMul, gPow, gNeg, i2, okB, cPos, cDiv, cTrue, cMul, cPow, seqOf, datOf, toB, wp_ok, wp_bind, wp_nox, mNot, mAnd, mOr, mAndV, mNotV, mOrV, mIfE, mIsi, isTs, isT, gLen, gSeq, gSeqL, gList, gTuple, mMth, isLst, gApp, gPut, mFz, thaw, mSl, mPart, startL]
                apply hk4
                refine ⟨rs, bs, _, _, rfl, rfl, rfl, ?_⟩
                rw [← hb, List.filter_cons, if_neg (by simp [crossB, c1, c2, c3])]
            · simp [c1, c2, mSeq, mIf, mTest, m2, m1, mVar, mC, mAsg, mRet, mNext, mDrop, mR, mP, mLst, mTup, mCons, mNil, pures, mCall, mCB, mCL, gN, gT, gsCons, gsNil, gSubT, gSet, gIx, gGt, gGe, gLt, gLe, gMod, gDiv, G.gSub, gAdd, gMul, gPow, gNeg, i2, okB, cPos, cDiv, cTrue, cMul, cPow, seqOf, datOf, toB, wp_ok, wp_bind, wp_nox, mNot, mAnd, mOr, mAndV, mNotV, mOrV, mIfE, mIsi, isTs, isT, gLen, gSeq, gSeqL, gList, gTuple, mMth, isLst, gApp, gPut, mFz, thaw, mSl, mPart, startL]
              apply hk4
              refine ⟨rs, bs, _, _, rfl, rfl, rfl, ?_⟩
              rw [← hb, List.filter_cons, if_neg (by simp [crossB, c1, c2])]
          · simp [c1, mSeq, mIf, mTest, m2, m1, mVar, mC, mAsg, mRet, mNext, mDrop, mR, mP, mLst, mTup, mCons, mNil, pures, mCall, mCB, mCL, gN, gT, gsCons, gsNil, gSubT, gSet, gIx, gGt, gGe, gLt, gLe, gMod, gDiv, G.gSub, gAdd, gMul, gPow, gNeg, i2, okB, cPos, cDiv, cTrue, cMul, cPow, seqOf, datOf, toB, wp_ok, wp_bind, wp_nox, mNot, mAnd, mOr, mAndV, mNotV, mOrV, mIfE, mIsi, isTs, isT, gLen, gSeq, gSeqL, gList, gTuple, mMth, isLst, gApp, gPut, mFz, thaw, mSl, mPart, startL]
            apply hk4
            refine ⟨rs, bs, _, _, rfl, rfl, rfl, ?_⟩
            rw [← hb, List.filter_cons, if_neg (by simp [crossB, c1])]
      · rintro ρ S1 ⟨rs, bs, o6, o7, e, rfl, rfl, hb⟩
        cases rs with
        | cons j js => cases e
        | nil =>
          apply hk3
          exact ⟨qs, bs, _, _, _, _, rfl, rfl, rfl, hb⟩
  · rintro ρ S1 ⟨qs, bs, o3, o4, o6, o7, e, rfl, rfl, hb⟩
    cases qs with
    | cons i is => cases e
    | nil =>
      apply hk2
      rw [List.flatMap_nil, List.append_nil] at hb
      apply wp_seq
      intro k3 hk3 _ _ _
      rw [wp_for]
      simp [mSeq, mIf, mTest, m2, m1, mVar, mC, mAsg, mRet, mNext, mDrop, mR, mP, mLst, mTup, mCons, mNil, pures, mCall, mCB, mCL, gN, gT, gsCons, gsNil, gSubT, gSet, gIx, gGt, gGe, gLt, gLe, gMod, gDiv, G.gSub, gAdd, gMul, gPow, gNeg, i2, okB, cPos, cDiv, cTrue, cMul, cPow, seqOf, datOf, toB, wp_ok, wp_bind, wp_nox, mNot, mAnd, mOr, mAndV, mNotV, mOrV, mIfE, mIsi, isTs, isT, gLen, gSeq, gSeqL, gList, gTuple, mMth, isLst, gApp, gPut, mFz, thaw, mSl, mPart, startL, mItems]
      refine wp_loop (fun r ρ S1 => ∃ (qs : List (Int × Int)) (bs : List Bar) (o3 o4 o5 : Option D), r = qs.map pr ∧ ρ = [some (.p (.int n)), some (.p (.tuple (ps.map pr))), some (.r S.length), o3, o4, o5, o6, o7, none] ∧ S1 = S ++ [some (.lst (bs.map bd))] ∧ (∀ p ∈ qs, 0 ≤ p.1 ∧ p.1 < p.2 ∧ p.2 < n) ∧ bs ++ aloneL ps qs = barsL n ps) _ ?_ ?_ ?_
      · exact ⟨ps, bs, _, _, _, rfl, rfl, rfl, h.inr, by rw [hb]; rfl⟩
      · rintro x r ρ S1 ⟨qs, bs, o3, o4, o5, e, rfl, rfl, hq, hb⟩ k4 hk4
        cases qs with
        | nil => cases e
        | cons p qs =>
          cases e
          obtain ⟨p1, p2, p3⟩ := hq p (List.mem_cons_self ..)
          have hbl : bs.length ≤ 1000000 := by
            have := congrArg List.length hb
            rw [List.length_append, barsL, List.length_append, List.length_append] at this
            omega
          have hM : mLcL (gN 8) (mAnd (mTest (m2 gIn (mTup (mCons (mVar 3) (mCons (mVar 8) mNil))) (mVar 1))) (mTest (m2 gIn (mTup (mCons (mVar 8) (mCons (mVar 4) mNil))) (mVar 1)))) (mVar 8) [some (.p (.int n)), some (.p (.tuple (ps.map pr))), some (.r S.length), some (.p (.int p.1)), some (.p (.int p.2)), o5, o6, o7, none] ((ran (p.1 + 1) (p.2 - (p.1 + 1)).toNat).map PyData.int) (S ++ [some (.lst (bs.map bd))]) = .ok (((ran (p.1 + 1) (p.2 - (p.1 + 1)).toNat).filter fun m => decide ((p.1, m) ∈ ps) && decide ((m, p.2) ∈ ps)).map PyData.int) (S ++ [some (.lst (bs.map bd))]) :=
            lc_map PyData.int _ fun i _ => ⟨_, rfl, by by_cases c : (p.1, i) ∈ ps <;> simp [mSeq, mIf, mTest, m2, m1, mVar, mC, mAsg, mRet, mNext, mDrop, mR, mP, mLst, mTup, mCons, mNil, pures, mCall, mCB, mCL, gN, gT, gsCons, gsNil, gSubT, gSet, gIx, gGt, gGe, gLt, gLe, gMod, gDiv, G.gSub, gAdd, gMul, gPow, gNeg, i2, okB, cPos, cDiv, cTrue, cMul, cPow, seqOf, datOf, toB, Res.bind, Res.nox, wp_ok, wp_bind, wp_nox, mNot, mAnd, mOr, mAndV, mNotV, mOrV, mIfE, mIsi, isTs, isT, gLen, gSeq, gSeqL, gList, gTuple, mMth, isLst, gApp, gPut, mFz, thaw, mSl, mPart, startL, gIn_pr, c], fun _ => by simp [mSeq, mIf, mTest, m2, m1, mVar, mC, mAsg, mRet, mNext, mDrop, mR, mP, mLst, mTup, mCons, mNil, pures, mCall, mCB, mCL, gN, gT, gsCons, gsNil, gSubT, gSet, gIx, gGt, gGe, gLt, gLe, gMod, gDiv, G.gSub, gAdd, gMul, gPow, gNeg, i2, okB, cPos, cDiv, cTrue, cMul, cPow, seqOf, datOf, toB, Res.bind, Res.nox, wp_ok, wp_bind, wp_nox, mNot, mAnd, mOr, mAndV, mNotV, mOrV, mIfE, mIsi, isTs, isT, gLen, gSeq, gSeqL, gList, gTuple, mMth, isLst, gApp, gPut, mFz, thaw, mSl, mPart, startL]⟩
          have hrl : (p.2 - (p.1 + 1)).toNat ≤ 1000000 := by omega
          simp only [LK.pr, gT, List.length_cons, List.length_nil, if_pos, List.map_cons, List.map_nil, gsCons, gsNil, gN, Res.bind, wp_ok, List.set_cons_succ, List.set_cons_zero]
          apply wp_seq
          intro k5 hk5 _ _ _
          simp [mSeq, mIf, mTest, m2, m1, mVar, mC, mAsg, mRet, mNext, mDrop, mR, mP, mLst, mTup, mCons, mNil, pures, mCall, mCB, mCL, gN, gT, gsCons, gsNil, gSubT, gSet, gIx, gGt, gGe, gLt, gLe, gMod, gDiv, G.gSub, gAdd, gMul, gPow, gNeg, i2, okB, cPos, cDiv, cTrue, cMul, cPow, seqOf, datOf, toB, wp_ok, wp_bind, wp_nox, mNot, mAnd, mOr, mAndV, mNotV, mOrV, mIfE, mIsi, isTs, isT, gLen, gSeq, gSeqL, gList, gTuple, mMth, isLst, gApp, gPut, mFz, thaw, mSl, mPart, startL, mLc, mRng2, inB_of (i := p.1 + 1) (by omega) (by omega), inB_of (i := p.2) (by omega) (by omega), rangeP_ran, wipeL, ran_len, hM, hrl]
          apply hk5
          simp only [wp_mif, mAnd, mTest, m2, mVar, mP, mLst, mNil, mC, List.getElem?_cons_succ, List.getElem?_cons_zero, Res.bind, gAdd, gGt, toB, pures, List.length_nil, Nat.zero_le, if_true]
          by_cases c1 : p.1 + 1 < p.2
          · simp only [c1, decide_true, if_true, gEq_nil (La.ints (n := 0) _) (by omega), wp_ok]
            by_cases c2 : ((ran (p.1 + 1) (p.2 - (p.1 + 1)).toNat).filter fun m => decide ((p.1, m) ∈ ps) && decide ((m, p.2) ∈ ps)).isEmpty = true
            · have c3 : aloneB ps p = true := by unfold aloneB; rw [c2, decide_eq_true c1]; rfl
              rw [if_pos (by rw [List.isEmpty_iff] at c2 ⊢; rw [c2]; rfl)]
              simp [mSeq, mIf, mTest, m2, m1, mVar, mC, mAsg, mRet, mNext, mDrop, mR, mP, mLst, mTup, mCons, mNil, pures, mCall, mCB, mCL, gN, gT, gsCons, gsNil, gSubT, gSet, gIx, gGt, gGe, gLt, gLe, gMod, gDiv, G.gSub, gAdd, gMul, gPow, gNeg, i2, okB, cPos, cDiv, cTrue, cMul, cPow, seqOf, datOf, toB, wp_ok, wp_bind, wp_nox, mNot, mAnd, mOr, mAndV, mNotV, mOrV, mIfE, mIsi, isTs, isT, gLen, gSeq, gSeqL, gList, gTuple, mMth, isLst, gApp, gPut, mFz, thaw, mSl, mPart, startL, last_get, last_set, hbl]
              apply hk4
              refine ⟨qs, bs ++ [(("alone", [p.1, p.2]) : Bar)], _, _, _, rfl, rfl, by simp [bd], fun p hp => hq p (List.mem_cons_of_mem _ hp), ?_⟩
              rw [← hb, aloneL, aloneL, List.filter_cons, if_pos c3]
              simp
            · have c3 : ¬ aloneB ps p = true := by unfold aloneB; rw [decide_eq_true c1, Bool.true_and]; exact c2
              rw [if_neg (by rw [List.isEmpty_iff] at c2 ⊢; intro e; exact c2 (List.map_eq_nil_iff.mp e))]
              simp [mSeq, mIf, mTest, m2, m1, mVar, mC, mAsg, mRet, mNext, mDrop, mR, mP, mLst, mTup, mCons, mNil, pures, mCall, mCB, mCL, gN, gT, gsCons, gsNil, gSubT, gSet, gIx, gGt, gGe, gLt, gLe, gMod, gDiv, G.gSub, gAdd, gMul, gPow, gNeg, i2, okB, cPos, cDiv, cTrue, cMul, cPow, seqOf, datOf, toB, wp_ok, wp_bind, wp_nox, mNot, mAnd, mOr, mAndV, mNotV, mOrV, mIfE, mIsi, isTs, isT, gLen, gSeq, gSeqL, gList, gTuple, mMth, isLst, gApp, gPut, mFz, thaw, mSl, mPart, startL]
              apply hk4
              refine ⟨qs, bs, _, _, _, rfl, rfl, rfl, fun p hp => hq p (List.mem_cons_of_mem _ hp), ?_⟩
              rw [← hb, aloneL, aloneL, List.filter_cons, if_neg c3]
          · have c3 : ¬ aloneB ps p = true := by unfold aloneB; rw [decide_eq_false c1]; exact Bool.false_ne_true
            simp [c1, mSeq, mIf, mTest, m2, m1, mVar, mC, mAsg, mRet, mNext, mDrop, mR, mP, mLst, mTup, mCons, mNil, pures, mCall, mCB, mCL, gN, gT, gsCons, gsNil, gSubT, gSet, gIx, gGt, gGe, gLt, gLe, gMod, gDiv, G.gSub, gAdd, gMul, gPow, gNeg, i2, okB, cPos, cDiv, cTrue, cMul, cPow, seqOf, datOf, toB, wp_ok, wp_bind, wp_nox, mNot, mAnd, mOr, mAndV, mNotV, mOrV, mIfE, mIsi, isTs, isT, gLen, gSeq, gSeqL, gList, gTuple, mMth, isLst, gApp, gPut, mFz, thaw, mSl, mPart, startL]
            apply hk4
            refine ⟨qs, bs, _, _, _, rfl, rfl, rfl, fun p hp => hq p (List.mem_cons_of_mem _ hp), ?_⟩
            rw [← hb, aloneL, aloneL, List.filter_cons, if_neg c3]
      · rintro ρ S1 ⟨qs, bs, o3, o4, o5, e, rfl, rfl, hq, hb⟩
        cases qs with
        | cons i is => cases e
        | nil =>
          apply hk3
          have hb : bs = barsL n ps := by rw [← hb]; simp [aloneL]
          subst hb
          simp [mSeq, mIf, mTest, m2, m1, mVar, mC, mAsg, mRet, mNext, mDrop, mR, mP, mLst, mTup, mCons, mNil, pures, mCall, mCB, mCL, gN, gT, gsCons, gsNil, gSubT, gSet, gIx, gGt, gGe, gLt, gLe, gMod, gDiv, G.gSub, gAdd, gMul, gPow, gNeg, i2, okB, cPos, cDiv, cTrue, cMul, cPow, seqOf, datOf, toB, wp_ok, wp_bind, wp_nox, mNot, mAnd, mOr, mAndV, mNotV, mOrV, mIfE, mIsi, isTs, isT, gLen, gSeq, gSeqL, gList, gTuple, mMth, isLst, gApp, gPut, mFz, thaw, mSl, mPart, startL, last_get, last_set, last_take]
end LK


set_option maxHeartbeats 4000000
namespace LK
open PySem L2 G
/-! ### the same, by sorts too -/
def sortN : PyData → Int
  | .bool _ => 1
  | .int _ => 2
  | .str _ => 3
  | .list _ => 4
  | .tuple _ => 5
  | _ => 6
theorem sort_eq {S : Sto} {t : PyData} (ht : t.canLay0 = true) : f_law_sort [.p t] S = .ok (.p (.int (sortN t))) S := by
  cases t with
  | dict kvs => cases ht
  | _ => simp [f_law_sort, b_law_sort, fnOf, G.finish, mSeq, mIf, mTest, m2, m1, mVar, mC, mAsg, mRet, mNext, mDrop, mR, mP, mLst, mTup, mCons, mNil, pures, mCall, mCB, mCL, gN, gT, gsCons, gsNil, gSubT, gSet, gIx, gGt, gGe, gLt, gLe, gMod, gDiv, G.gSub, gAdd, gMul, gPow, gNeg, i2, okB, cPos, cDiv, cTrue, cMul, cPow, seqOf, datOf, toB, Res.bind, Res.nox, wp_ok, wp_bind, wp_nox, mNot, mAnd, mOr, mAndV, mNotV, mOrV, mIfE, mIsi, isTs, isT, gLen, gSeq, gSeqL, gList, gTuple, mMth, isLst, gApp, gPut, mFz, thaw, mSl, mPart, startL, sortN]
mutual
def sameD : PyData → PyData → Bool
  | .none, .none => true
  | .bool a, .bool b => a == b
  | .int a, .int b => a == b
  | .str a, .str b => a == b
  | .list xs, .list ys => sameAll xs ys
  | .tuple xs, .tuple ys => sameAll xs ys
  | _, _ => false
def sameAll : List PyData → List PyData → Bool
  | [], [] => true
  | x :: xs, y :: ys => sameD x y && sameAll xs ys
  | _, _ => false
end
def Sm : Nat → PyData → Prop
  | _, .none => True
  | _, .bool _ => True
  | _, .int _ => True
  | _, .str s => PyData.canLay0 (.str s) = true
  | n + 1, .list xs => xs.length ≤ 1000000 ∧ ∀ x ∈ xs, Sm n x
  | n + 1, .tuple xs => xs.length ≤ 1000000 ∧ ∀ x ∈ xs, Sm n x
  | _, _ => False
theorem Sm.la : ∀ {n : Nat} {x : PyData}, Sm n x → La n x
  | _, .none, _ => .none
  | _, .bool _, _ => .bool _
  | _, .int _, _ => .int _
  | _, .str s, h => by
    unfold Sm at h
    exact ⟨h, Nat.zero_le _⟩
  | n + 1, .list xs, h => by
    unfold Sm at h
    exact La.list fun x hx => Sm.la (h.2 x hx)
  | n + 1, .tuple xs, h => by
    unfold Sm at h
    exact La.tuple fun x hx => Sm.la (h.2 x hx)
  | 0, .list _, h => by unfold Sm at h; exact h.elim
  | 0, .tuple _, h => by unfold Sm at h; exact h.elim
  | 0, .dict _, h => by unfold Sm at h; exact h.elim
  | n + 1, .dict _, h => by unfold Sm at h; exact h.elim
def enT (ys : List PyData) : PyData → Bool
  | .tuple [.int i, y] => !sameD y (ys[i.toNat]?.getD .none)
  | _ => false
def enV : PyData → PyData
  | .tuple [i, _] => i
  | _ => .none
theorem en_empty (zs : List PyData) : ∀ (xs ys : List PyData) (i : Nat), xs.length = ys.length → zs.drop i = ys → ((enumP i xs).filter (enT zs)).isEmpty = sameAll xs ys
  | [], [], _, _, _ => rfl
  | [], _ :: _, _, h, _ => by cases h
  | _ :: _, [], _, h, _ => by cases h
  | x :: xs, y :: ys, i, h, hz => by
    have hd : zs[i]? = some y := by rw [← List.head?_drop, hz]; rfl
    have ht : zs.drop (i + 1) = ys := by rw [← List.tail_drop, hz]; rfl
    have ih := en_empty zs xs ys (i + 1) (by simpa using h) ht
    rw [enumP, List.filter_cons]
    have e : enT zs (.tuple [.int i, x]) = !sameD x y := by
      show (!sameD x (zs[(i : Int).toNat]?.getD .none)) = _
      rw [Int.toNat_natCast, hd]
      rfl
    rw [e, sameAll]
    cases hs : sameD x y with
    | true =>
      simp only [Bool.not_true, Bool.false_eq_true, if_false, Bool.true_and]
      exact ih
    | false =>
      simp only [Bool.not_false, if_true, Bool.false_and]
      rfl
theorem en_mem : ∀ {xs : List PyData} {i : Nat} {z : PyData}, z ∈ enumP i xs → ∃ (j : Nat) (x : PyData), z = .tuple [.int j, x] ∧ x ∈ xs ∧ i ≤ j ∧ j < i + xs.length
  | [], _, _, h => by cases h
  | x :: xs, i, z, h => by
    rcases List.mem_cons.mp h with rfl | h
    · exact ⟨i, x, rfl, List.mem_cons_self .., Nat.le_refl _, by rw [List.length_cons]; omega⟩
    · obtain ⟨j, y, e, h1, h2, h3⟩ := en_mem h
      exact ⟨j, y, e, List.mem_cons_of_mem _ h1, by omega, by rw [List.length_cons]; omega⟩
theorem la_list {n : Nat} {xs : List PyData} (h : La n (.list xs)) : ∀ x ∈ xs, La n x := by
  intro x hx
  obtain ⟨h1, h2⟩ := h
  rw [PyData.canLay0] at h1
  rw [PyData.depth] at h2
  refine ⟨PyData.canLay0_of_mem xs x h1 hx, ?_⟩
  have : x.depth ≤ PyData.depthAll xs := by
    clear h1 h2
    induction xs with
    | nil => cases hx
    | cons y ys ih =>
      rw [PyData.depthAll]
      rcases List.mem_cons.mp hx with rfl | hx
      · exact Nat.le_max_left _ _
      · exact Nat.le_trans (ih hx) (Nat.le_max_right _ _)
  omega
theorem la_tuple {n : Nat} {xs : List PyData} (h : La n (.tuple xs)) : ∀ x ∈ xs, La n x := la_list (xs := xs) ⟨h.1, h.2⟩
theorem enumP_len : ∀ (xs : List PyData) (i : Nat), (enumP i xs).length = xs.length
  | [], _ => rfl
  | x :: xs, i => by rw [enumP, List.length_cons, List.length_cons, enumP_len]
theorem gNe_int {i j : Int} {S : Sto} : gNe (.p (.int i)) (.p (.int j)) S = .ok (.p (.bool !(i == j))) S := rfl
theorem gEq_atom {a b : PyData} {S : Sto} {n m : Nat} (ha : La n a) (hb : La m b) (hn : n ≤ 64) (hm : m ≤ 64) : gEq (.p a) (.p b) S = .ok (.p (.bool (PyData.eqv a b))) S := by
  have : lay2 a b = true := by unfold lay2; rw [ha.lay hn, hb.lay hm]; rfl
  simp only [gEq, g2, datOf, this, okB, if_true]
/-- the row of places where two rows differ -/
theorem same_row {S : Sto} {n m k : Nat} {xs ys : List PyData} {d e : D} {o2 o3 : Option D} (hx : xs.length ≤ 1000000) (hl : xs.length = ys.length) (he : ∀ S, ∃ b, seqOf e S = some (b, ys))
    (ih : ∀ x ∈ xs, ∀ y ∈ ys, f_law_same k [.p x, .p y] S = .ok (.p (.bool (sameD x y))) S) (h2 : o2 = none) (h3 : o3 = none) :
    mLcL (gT 2 (gsCons (gN 2) (gsCons (gN 3) gsNil))) (mNot (mTest (mCall (f_law_same k) (mCons (mVar 3) (mCons (m2 gIx (mVar 1) (mVar 2)) mNil))))) (mVar 2) [some d, some e, o2, o3] (enumP 0 xs) S = .ok (((enumP 0 xs).filter (enT ys)).map enV) S := by
  refine lcL_plain _ fun z hz => ?_
  obtain ⟨j, x, rfl, h1, _, h3⟩ := en_mem hz
  have hj : j < ys.length := by omega
  obtain ⟨y, e1, e2, e3⟩ := atI_nat (xs := ys) (v := j) (by omega) (by omega)
  obtain ⟨b, hb⟩ := he S
  rw [Int.toNat_natCast] at e3
  refine ⟨[some d, some e, some (.p (.int j)), some (.p x)], by simp [mSeq, mIf, mTest, m2, m1, mVar, mC, mAsg, mRet, mNext, mDrop, mR, mP, mLst, mTup, mCons, mNil, pures, mCall, mCB, mCL, gN, gT, gsCons, gsNil, gSubT, gSet, gIx, gGt, gGe, gLt, gLe, gMod, gDiv, G.gSub, gAdd, gMul, gPow, gNeg, i2, okB, cPos, cDiv, cTrue, cMul, cPow, seqOf, datOf, toB, Res.bind, Res.nox, wp_ok, wp_bind, wp_nox, mNot, mAnd, mOr, mAndV, mNotV, mOrV, mIfE, mIsi, isTs, isT, gLen, gSeq, gSeqL, gList, gTuple, mMth, isLst, gApp, gPut, mFz, thaw, mSl, mPart, startL], ?_, fun _ => by simp [mSeq, mIf, mTest, m2, m1, mVar, mC, mAsg, mRet, mNext, mDrop, mR, mP, mLst, mTup, mCons, mNil, pures, mCall, mCB, mCL, gN, gT, gsCons, gsNil, gSubT, gSet, gIx, gGt, gGe, gLt, gLe, gMod, gDiv, G.gSub, gAdd, gMul, gPow, gNeg, i2, okB, cPos, cDiv, cTrue, cMul, cPow, seqOf, datOf, toB, Res.bind, Res.nox, wp_ok, wp_bind, wp_nox, mNot, mAnd, mOr, mAndV, mNotV, mOrV, mIfE, mIsi, isTs, isT, gLen, gSeq, gSeqL, gList, gTuple, mMth, isLst, gApp, gPut, mFz, thaw, mSl, mPart, startL, enV]⟩
  simp [mNot, mTest, mCall, mCons, mVar, m2, mNil, gIx, hb, e1, Res.bind, Res.nox, ih x h1 y e2, toB, enT, e3]
theorem same_eq : ∀ {k n m : Nat} {a b : PyData} {S : Sto}, Sm n a → La m b → n < k → n ≤ 60 → m ≤ 60 → f_law_same k [.p a, .p b] S = .ok (.p (.bool (sameD a b))) S
  | 0, n, m, a, b, S, _, _, h, _, _ => absurd h (Nat.not_lt_zero _)
  | k + 1, n, m, a, b, S, ha, hb, hk, hn, hm => by
    have sa := sort_eq (S := S) ha.la.1
    have sb := sort_eq (S := S) hb.1
    have ge := gEq_atom (S := S) ha.la hb (by omega) (by omega)
    unfold f_law_same
    cases a with
    | dict _ => cases ha.la.1
    | list xs =>
      cases b with
      | dict _ => cases hb.1
      | list ys =>
        cases n with
        | zero => unfold Sm at ha; exact ha.elim
        | succ n =>
          by_cases hl : xs.length = ys.length
          · have hc := same_row (S := S) (n := n) (m := m) (k := k) (xs := xs) (ys := ys) (d := .p (.list xs)) (e := .p (.list ys)) ha.1 hl (fun _ => ⟨true, rfl⟩) (fun x hx y hy => same_eq (ha.2 x hx) (la_list hb y hy) (by omega) (by omega) hm) rfl rfl
            have hle : ∀ z ∈ ((enumP 0 xs).filter (enT ys)).map enV, La 0 z := by
              intro z hz
              obtain ⟨w, hw, rfl⟩ := List.mem_map.mp hz
              obtain ⟨j, x, rfl, _⟩ := en_mem (List.mem_filter.mp hw).1
              exact .int _
            have hi : (((enumP 0 xs).filter (enT ys)).map enV).isEmpty = sameAll xs ys := by
              rw [← en_empty ys xs ys 0 hl rfl]
              cases (enumP 0 xs).filter (enT ys) <;> rfl
            have he : (enumP 0 xs).length ≤ 1000000 := by rw [enumP_len]; exact ha.1
            simp [fnOf, b_law_same, G.finish, mSeq, mIf, mTest, m2, m1, mVar, mC, mAsg, mRet, mNext, mDrop, mR, mP, mLst, mTup, mCons, mNil, pures, mCall, mCB, mCL, gN, gT, gsCons, gsNil, gSubT, gSet, gIx, gGt, gGe, gLt, gLe, gMod, gDiv, G.gSub, gAdd, gMul, gPow, gNeg, i2, okB, cPos, cDiv, cTrue, cMul, cPow, seqOf, datOf, toB, Res.bind, Res.nox, wp_ok, wp_bind, wp_nox, mNot, mAnd, mOr, mAndV, mNotV, mOrV, mIfE, mIsi, isTs, isT, gLen, gSeq, gSeqL, gList, gTuple, mMth, isLst, gApp, gPut, mFz, thaw, mSl, mPart, startL, sa, sb, sortN, gNe_int, hl, mLc, mEnum, wipeL, he, hc, gEq_nil hle (by omega), hi, sameD]
          · have hl' : ¬ ((xs.length : Int) = ys.length) := by omega
            have hs : sameAll xs ys = false := by
              cases h : sameAll xs ys with
              | false => rfl
              | true =>
                exfalso
                apply hl
                clear ge sa sb hb ha hl hl'
                induction xs generalizing ys with
                | nil => cases ys with
                  | nil => rfl
                  | cons y ys => cases h
                | cons x xs ih => cases ys with
                  | nil => cases h
                  | cons y ys =>
                    rw [sameAll, Bool.and_eq_true] at h
                    rw [List.length_cons, List.length_cons, ih ys h.2]
            simp [fnOf, b_law_same, G.finish, mSeq, mIf, mTest, m2, m1, mVar, mC, mAsg, mRet, mNext, mDrop, mR, mP, mLst, mTup, mCons, mNil, pures, mCall, mCB, mCL, gN, gT, gsCons, gsNil, gSubT, gSet, gIx, gGt, gGe, gLt, gLe, gMod, gDiv, G.gSub, gAdd, gMul, gPow, gNeg, i2, okB, cPos, cDiv, cTrue, cMul, cPow, seqOf, datOf, toB, Res.bind, Res.nox, wp_ok, wp_bind, wp_nox, mNot, mAnd, mOr, mAndV, mNotV, mOrV, mIfE, mIsi, isTs, isT, gLen, gSeq, gSeqL, gList, gTuple, mMth, isLst, gApp, gPut, mFz, thaw, mSl, mPart, startL, sa, sb, sortN, gNe_int, hl, hl', sameD, hs]
      | _ => simp [fnOf, b_law_same, G.finish, mSeq, mIf, mTest, m2, m1, mVar, mC, mAsg, mRet, mNext, mDrop, mR, mP, mLst, mTup, mCons, mNil, pures, mCall, mCB, mCL, gN, gT, gsCons, gsNil, gSubT, gSet, gIx, gGt, gGe, gLt, gLe, gMod, gDiv, G.gSub, gAdd, gMul, gPow, gNeg, i2, okB, cPos, cDiv, cTrue, cMul, cPow, seqOf, datOf, toB, Res.bind, Res.nox, wp_ok, wp_bind, wp_nox, mNot, mAnd, mOr, mAndV, mNotV, mOrV, mIfE, mIsi, isTs, isT, gLen, gSeq, gSeqL, gList, gTuple, mMth, isLst, gApp, gPut, mFz, thaw, mSl, mPart, startL, sa, sb, sortN, gNe_int, sameD]
    | tuple xs =>
      cases b with
      | dict _ => cases hb.1
      | tuple ys =>
        cases n with
        | zero => unfold Sm at ha; exact ha.elim
        | succ n =>
          by_cases hl : xs.length = ys.length
          · have hc := same_row (S := S) (n := n) (m := m) (k := k) (xs := xs) (ys := ys) (d := .p (.tuple xs)) (e := .p (.tuple ys)) ha.1 hl (fun _ => ⟨false, rfl⟩) (fun x hx y hy => same_eq (ha.2 x hx) (la_tuple hb y hy) (by omega) (by omega) hm) rfl rfl
            have hle : ∀ z ∈ ((enumP 0 xs).filter (enT ys)).map enV, La 0 z := by
              intro z hz
              obtain ⟨w, hw, rfl⟩ := List.mem_map.mp hz
              obtain ⟨j, x, rfl, _⟩ := en_mem (List.mem_filter.mp hw).1
              exact .int _
            have hi : (((enumP 0 xs).filter (enT ys)).map enV).isEmpty = sameAll xs ys := by
              rw [← en_empty ys xs ys 0 hl rfl]
              cases (enumP 0 xs).filter (enT ys) <;> rfl
            have he : (enumP 0 xs).length ≤ 1000000 := by rw [enumP_len]; exact ha.1
            simp [fnOf, b_law_same, G.finish, mSeq, mIf, mTest, m2, m1, mVar, mC, mAsg, mRet, mNext, mDrop, mR, mP, mLst, mTup, mCons, mNil, pures, mCall, mCB, mCL, gN, gT, gsCons, gsNil, gSubT, gSet, gIx, gGt, gGe, gLt, gLe, gMod, gDiv, G.gSub, gAdd, gMul, gPow, gNeg, i2, okB, cPos, cDiv, cTrue, cMul, cPow, seqOf, datOf, toB, Res.bind, Res.nox, wp_ok, wp_bind, wp_nox, mNot, mAnd, mOr, mAndV, mNotV, mOrV, mIfE, mIsi, isTs, isT, gLen, gSeq, gSeqL, gList, gTuple, mMth, isLst, gApp, gPut, mFz, thaw, mSl, mPart, startL, sa, sb, sortN, gNe_int, hl, mLc, mEnum, wipeL, he, hc, gEq_nil hle (by omega), hi, sameD]
          · have hl' : ¬ ((xs.length : Int) = ys.length) := by omega
            have hs : sameAll xs ys = false := by
              cases h : sameAll xs ys with
              | false => rfl
              | true =>
                exfalso
                apply hl
                clear ge sa sb hb ha hl hl'
                induction xs generalizing ys with
                | nil => cases ys with
                  | nil => rfl
                  | cons y ys => cases h
                | cons x xs ih => cases ys with
                  | nil => cases h
                  | cons y ys =>
                    rw [sameAll, Bool.and_eq_true] at h
                    rw [List.length_cons, List.length_cons, ih ys h.2]
            simp [fnOf, b_law_same, G.finish, mSeq, mIf, mTest, m2, m1, mVar, mC, mAsg, mRet, mNext, mDrop, mR, mP, mLst, mTup, mCons, mNil, pures, mCall, mCB, mCL, gN, gT, gsCons, gsNil, gSubT, gSet, gIx, gGt, gGe, gLt, gLe, gMod, gDiv, G.gSub, gAdd, gMul, gPow, gNeg, i2, okB, cPos, cDiv, cTrue, cMul, cPow, seqOf, datOf, toB, Res.bind, Res.nox, wp_ok, wp_bind, wp_nox, mNot, mAnd, mOr, mAndV, mNotV, mOrV, mIfE, mIsi, isTs, isT, gLen, gSeq, gSeqL, gList, gTuple, mMth, isLst, gApp, gPut, mFz, thaw, mSl, mPart, startL, sa, sb, sortN, gNe_int, hl, hl', sameD, hs]
      | _ => simp [fnOf, b_law_same, G.finish, mSeq, mIf, mTest, m2, m1, mVar, mC, mAsg, mRet, mNext, mDrop, mR, mP, mLst, mTup, mCons, mNil, pures, mCall, mCB, mCL, gN, gT, gsCons, gsNil, gSubT, gSet, gIx, gGt, gGe, gLt, gLe, gMod, gDiv, G.gSub, gAdd, gMul, gPow, gNeg, i2, okB, cPos, cDiv, cTrue, cMul, cPow, seqOf, datOf, toB, Res.bind, Res.nox, wp_ok, wp_bind, wp_nox, mNot, mAnd, mOr, mAndV, mNotV, mOrV, mIfE, mIsi, isTs, isT, gLen, gSeq, gSeqL, gList, gTuple, mMth, isLst, gApp, gPut, mFz, thaw, mSl, mPart, startL, sa, sb, sortN, gNe_int, sameD]
    | _ =>
      cases b with
      | dict _ => cases hb.1
      | _ => simp [fnOf, b_law_same, G.finish, mSeq, mIf, mTest, m2, m1, mVar, mC, mAsg, mRet, mNext, mDrop, mR, mP, mLst, mTup, mCons, mNil, pures, mCall, mCB, mCL, gN, gT, gsCons, gsNil, gSubT, gSet, gIx, gGt, gGe, gLt, gLe, gMod, gDiv, G.gSub, gAdd, gMul, gPow, gNeg, i2, okB, cPos, cDiv, cTrue, cMul, cPow, seqOf, datOf, toB, Res.bind, Res.nox, wp_ok, wp_bind, wp_nox, mNot, mAnd, mOr, mAndV, mNotV, mOrV, mIfE, mIsi, isTs, isT, gLen, gSeq, gSeqL, gList, gTuple, mMth, isLst, gApp, gPut, mFz, thaw, mSl, mPart, startL, sa, sb, sortN, gNe_int, ge, sameD, PyData.eqv]
mutual
theorem sameD_iff : ∀ (a b : PyData), a.canLay0 = true → (sameD a b = true ↔ a = b)
  | .none, b, _ => by cases b <;> simp [sameD]
  | .bool x, b, _ => by cases b <;> simp [sameD]
  | .int x, b, _ => by cases b <;> simp [sameD]
  | .str x, b, _ => by cases b <;> simp [sameD]
  | .list xs, b, h => by
    cases b with
    | list ys => rw [sameD, PyData.list.injEq]; exact sameAll_iff xs ys (by rw [PyData.canLay0] at h; exact h)
    | _ => simp [sameD]
  | .tuple xs, b, h => by
    cases b with
    | tuple ys => rw [sameD, PyData.tuple.injEq]; exact sameAll_iff xs ys (by rw [PyData.canLay0] at h; exact h)
    | _ => simp [sameD]
  | .dict _, b, h => by cases h
theorem sameAll_iff : ∀ (xs ys : List PyData), PyData.canLayAll0 xs = true → (sameAll xs ys = true ↔ xs = ys)
  | [], [], _ => by simp [sameAll]
  | [], _ :: _, _ => by simp [sameAll]
  | _ :: _, [], _ => by simp [sameAll]
  | x :: xs, y :: ys, h => by
    rw [PyData.canLayAll0, Bool.and_eq_true] at h
    rw [sameAll, Bool.and_eq_true, List.cons.injEq, sameD_iff x y h.1, sameAll_iff xs ys h.2]
end
end LK


set_option maxHeartbeats 4000000
namespace LK
open PySem L2 G
/-! ### sorted pairs; a lot that is bent -/
def leP (a b : Int × Int) : Bool := !decide (ltP b a)
theorem leP_iff {a b : Int × Int} : leP a b = true ↔ ¬ ltP b a := by
  simp only [leP, Bool.not_eq_true', decide_eq_false_iff_not]
theorem leP_total (a b : Int × Int) : (leP a b || leP b a) = true := by
  rw [Bool.or_eq_true, leP_iff, leP_iff]
  unfold ltP
  omega
theorem leP_trans (a b c : Int × Int) (h1 : leP a b = true) (h2 : leP b c = true) : leP a c = true := by
  rw [leP_iff] at *
  unfold ltP at *
  omega
def sortI (ps : List (Int × Int)) : List (Int × Int) := ps.mergeSort leP
theorem sort_prs (ps : List (Int × Int)) : sortP (ps.map pr) = (sortI ps).map pr := by
  rw [sortP_eq]
  unfold sortI
  rw [List.map_mergeSort]
  intro a _ b _
  show leP a b = !PySem.W.dataLt (pr b) (pr a)
  rw [lt_pr]
  rfl
theorem sortI_lot {n : Int} {ps : List (Int × Int)} (hn : ps.Nodup) (h : ∀ p ∈ ps, 0 ≤ p.1 ∧ p.1 < p.2 ∧ p.2 < n) : Lot n (sortI ps) := by
  have hp : (sortI ps).Perm ps := List.mergeSort_perm ps leP
  refine ⟨fun p hp' => h p (hp.mem_iff.mp hp'), ?_⟩
  have h1 : (sortI ps).Pairwise (fun a b => leP a b = true) := List.pairwise_mergeSort leP_trans leP_total ps
  have h2 : (sortI ps).Nodup := hp.nodup_iff.mpr hn
  have h3 := h1.and h2
  refine h3.imp ?_
  rintro ⟨a, b⟩ ⟨c, d⟩ ⟨h4, h5⟩
  rw [leP_iff] at h4
  unfold ltP at h4 ⊢
  have h6 : ¬ (a = c ∧ b = d) := fun e => h5 (by rw [e.1, e.2])
  simp only at h4 ⊢
  omega
theorem sortI_len (ps : List (Int × Int)) : (sortI ps).length = ps.length := (List.mergeSort_perm ps leP).length_eq
theorem srt_prs (ps : List (Int × Int)) (hl : ps.length ≤ 1000000) : srtOk (ps.map pr) = true := by
  unfold srtOk
  rw [(La.list (La.prs (n := 0) ps)).lay (by omega), List.length_map, decide_eq_true hl]
  have h1 : (ps.map pr).all (fun x => PySem.W.alike x x) = true := by
    rw [List.all_map, List.all_eq_true]
    intro p _
    rfl
  have h2 : ∀ qs : List (Int × Int), srtAlike (qs.map pr) = true := by
    intro qs
    induction qs with
    | nil => rfl
    | cons q qs ih =>
      show ((qs.map pr).all (fun y => PySem.W.alike (pr q) y) && srtAlike (qs.map pr)) = true
      rw [ih, List.all_map, Bool.and_true, List.all_eq_true]
      intro p _
      rfl
  have h3 : srtKind (ps.map pr) = true := by
    unfold srtKind
    rw [Bool.or_eq_true]
    left
    rw [List.all_map, List.all_eq_true]
    intro p _
    rfl
  rw [h1, h2, h3]
  rfl
end LK


set_option maxHeartbeats 4000000
namespace LK
open PySem L2 G
theorem gRem_pr {S : Sto} {l : Nat} {fs : List (Int × Int)} {p : Int × Int} (h : S[l]? = some (some (.lst (fs.map pr)))) (hm : p ∈ fs) : ∃ gs : List (Int × Int), gs.Sublist fs ∧ gRem (.r l) [.p (pr p)] S = .ok (.p .none) (S.set l (some (.lst (gs.map pr)))) := by
  have h1 : ((lay (.list (fs.map pr)) && lay (pr p)) && (PyData.plainAll (fs.map pr) && (pr p).plain)) = true := by
    rw [(La.list (La.prs (n := 0) fs)).lay (by omega), (La.pr (n := 0) p).lay (by omega)]
    have : ∀ qs : List (Int × Int), PyData.plainAll (qs.map pr) = true := by
      intro qs
      induction qs with
      | nil => rfl
      | cons q qs ih =>
        show ((pr q).plain && PyData.plainAll (qs.map pr)) = true
        rw [ih]; rfl
    rw [this]
    rfl
  obtain ⟨j, hj⟩ : ∃ j, SeqAt.dataPlace (fs.map pr) (pr p) = some j := by
    unfold SeqAt.dataPlace
    cases hf : (fs.map pr).findIdx? (fun y => PyData.eqv y (pr p)) with
    | some j => exact ⟨j, rfl⟩
    | none =>
      exfalso
      rw [List.findIdx?_eq_none_iff] at hf
      have := hf (pr p) (List.mem_map.mpr ⟨p, hm, rfl⟩)
      rw [eqv_pr] at this
      simp at this
  refine ⟨fs.eraseIdx j, List.eraseIdx_sublist _ _, ?_⟩
  have he : (fs.map pr).eraseIdx j = (fs.eraseIdx j).map pr := by
    clear hj h h1 hm
    induction fs generalizing j with
    | nil => rfl
    | cons f fs ih =>
      cases j with
      | zero => rfl
      | succ j => simp only [List.map_cons, List.eraseIdx_cons_succ, ih]
  simp only [gRem, gPut, pures, Option.map_some, h, h1, if_true, hj, he]
theorem bent_wp {S : Sto} {l k : Nat} {n : Int} {ps : List (Int × Int)} {P : D → Sto → Prop} (h : Dk S l k) (hk : k < 1000000) (hp : Lot n ps) (hl : ps.length ≤ 198) (h1 : 1 ≤ n) (h2 : n ≤ 12)
    (q : ∀ qs o, Lot n qs → qs.length ≤ 200 → Dk (S.set l o) l (k+3) → P (.p (.tuple (qs.map pr))) (S.set l o)) : wp (f_law_bent [.r l, .p (.int n), .p (.tuple (ps.map pr))] S) P := by
  unfold f_law_bent
  rw [wp_nox]
  apply wp_fn
  unfold b_law_bent
  apply wp_seq
  intro k1 hk1 _ _ _
  simp [mSeq, mIf, mTest, m2, m1, mVar, mC, mAsg, mRet, mNext, mDrop, mR, mP, mLst, mTup, mCons, mNil, pures, mCall, mCB, mCL, gN, gT, gsCons, gsNil, gSubT, gSet, gIx, gGt, gGe, gLt, gLe, gMod, gDiv, G.gSub, gAdd, gMul, gPow, gNeg, i2, okB, cPos, cDiv, cTrue, cMul, cPow, seqOf, datOf, toB, wp_ok, wp_bind, wp_nox, mNot, mAnd, mOr, mAndV, mNotV, mOrV, mIfE, mIsi, isTs, isT, gLen, gSeq, gSeqL, gList, gTuple, mMth, isLst, gApp, gPut, mFz, thaw, mSl, mPart, startL, pairs_eq (show 0 ≤ n by omega) h2]
  apply hk1
  apply wp_seq
  intro k2 hk2 _ _ _
  simp [mSeq, mIf, mTest, m2, m1, mVar, mC, mAsg, mRet, mNext, mDrop, mR, mP, mLst, mTup, mCons, mNil, pures, mCall, mCB, mCL, gN, gT, gsCons, gsNil, gSubT, gSet, gIx, gGt, gGe, gLt, gLe, gMod, gDiv, G.gSub, gAdd, gMul, gPow, gNeg, i2, okB, cPos, cDiv, cTrue, cMul, cPow, seqOf, datOf, toB, wp_ok, wp_bind, wp_nox, mNot, mAnd, mOr, mAndV, mNotV, mOrV, mIfE, mIsi, isTs, isT, gLen, gSeq, gSeqL, gList, gTuple, mMth, isLst, gApp, gPut, mFz, thaw, mSl, mPart, startL]
  apply hk2
  apply wp_seq
  intro k3 hk3 _ _ _
  rw [wp_for]
  simp [mSeq, mIf, mTest, m2, m1, mVar, mC, mAsg, mRet, mNext, mDrop, mR, mP, mLst, mTup, mCons, mNil, pures, mCall, mCB, mCL, gN, gT, gsCons, gsNil, gSubT, gSet, gIx, gGt, gGe, gLt, gLe, gMod, gDiv, G.gSub, gAdd, gMul, gPow, gNeg, i2, okB, cPos, cDiv, cTrue, cMul, cPow, seqOf, datOf, toB, wp_ok, wp_bind, wp_nox, mNot, mAnd, mOr, mAndV, mNotV, mOrV, mIfE, mIsi, isTs, isT, gLen, gSeq, gSeqL, gList, gTuple, mMth, isLst, gApp, gPut, mFz, thaw, mSl, mPart, startL, mRng1]
  have hlt := h.lt
  refine pick_wp (n := 2) h.app (by omega) (by omega) (by omega) fun v o v0 v1 hd => ?_
  rw [app_set hlt] at hd ⊢
  have hlt' : l < (S.set l o).length := by rw [List.length_set]; exact hlt
  have hd := hd.unapp hlt'
  simp [wp_ok, inB_of (i := 1 + v) (by omega) (by omega), rangeP_ran]
  have hlp := len_pairs h2
  have hnd : ps.Nodup := hp.srt.imp fun {a b} h e => by
    subst e
    unfold ltP at h
    omega
  have lg0 : ∀ (o o' : Option Ob), (S.set l o ++ [o'])[S.length]? = some o' := fun o o' => last_get' (by simp)
  have ls0 : ∀ (o o' o'' : Option Ob), (S.set l o ++ [o']).set S.length o'' = S.set l o ++ [o''] := fun o o' o'' => last_set' (by simp)
  have lt0 : ∀ (o o' : Option Ob), (S.set l o ++ [o']).take S.length = S.set l o := fun o o' => last_take' (by simp)
  refine wp_loop (fun r ρ S1 => ∃ (fs : List (Int × Int)) (o5 o6 : Option D) (o : Option Ob) (j : Nat), ρ = [some (.r l), some (.p (.int n)), some (.p (.tuple (ps.map pr))), some (.p (.list ((pairsOf n).map pr))), some (.r S.length), o5, o6] ∧ S1 = S.set l o ++ [some (.lst (fs.map pr))] ∧ fs.Nodup ∧ (∀ p ∈ fs, 0 ≤ p.1 ∧ p.1 < p.2 ∧ p.2 < n) ∧ j + r.length = 2 ∧ fs.length ≤ 198 + j ∧ Dk (S.set l o) l (k + 1 + j)) _ ?_ ?_ ?_
  · refine ⟨ps, none, none, o, 2 - (1 + v).toNat, rfl, rfl, hnd, hp.inr, ?_, by omega, hd.mono (by omega)⟩
    rw [List.length_map, ran_len]
    omega
  · rintro x r ρ S1 ⟨fs, o5, o6, o, j, rfl, rfl, hnd, hin, hj, hlen, hd⟩ k4 hk4
    rw [List.length_cons] at hj
    rw [wp_gN, wp_mif]
    have hlt' : l < (S.set l o).length := by rw [List.length_set]; exact hlt
    have hne := gNe_nil (S := S.set l o ++ [some (.lst (fs.map pr))]) (La.prs (n := 0) (pairsOf n)) (by omega)
    simp [mSeq, mIf, mTest, m2, m1, mVar, mC, mAsg, mRet, mNext, mDrop, mR, mP, mLst, mTup, mCons, mNil, pures, mCall, mCB, mCL, gN, gT, gsCons, gsNil, gSubT, gSet, gIx, gGt, gGe, gLt, gLe, gMod, gDiv, G.gSub, gAdd, gMul, gPow, gNeg, i2, okB, cPos, cDiv, cTrue, cMul, cPow, seqOf, datOf, toB, wp_ok, wp_bind, wp_nox, mNot, mAnd, mOr, mAndV, mNotV, mOrV, mIfE, mIsi, isTs, isT, gLen, gSeq, gSeqL, gList, gTuple, mMth, isLst, gApp, gPut, mFz, thaw, mSl, mPart, startL] at hne ⊢
    simp [hne, wp_ok]
    by_cases he : pairsOf n = []
    · simp [he, mSeq, mIf, mTest, m2, m1, mVar, mC, mAsg, mRet, mNext, mDrop, mR, mP, mLst, mTup, mCons, mNil, pures, mCall, mCB, mCL, gN, gT, gsCons, gsNil, gSubT, gSet, gIx, gGt, gGe, gLt, gLe, gMod, gDiv, G.gSub, gAdd, gMul, gPow, gNeg, i2, okB, cPos, cDiv, cTrue, cMul, cPow, seqOf, datOf, toB, wp_ok, wp_bind, wp_nox, mNot, mAnd, mOr, mAndV, mNotV, mOrV, mIfE, mIsi, isTs, isT, gLen, gSeq, gSeqL, gList, gTuple, mMth, isLst, gApp, gPut, mFz, thaw, mSl, mPart, startL]
      apply hk4
      exact ⟨fs, some (.p x), o6, o, j + 1, by rw [he]; rfl, rfl, hnd, hin, by omega, by omega, hd.mono (by omega)⟩
    · simp [he, mSeq, mIf, mTest, m2, m1, mVar, mC, mAsg, mRet, mNext, mDrop, mR, mP, mLst, mTup, mCons, mNil, pures, mCall, mCB, mCL, gN, gT, gsCons, gsNil, gSubT, gSet, gIx, gGt, gGe, gLt, gLe, gMod, gDiv, G.gSub, gAdd, gMul, gPow, gNeg, i2, okB, cPos, cDiv, cTrue, cMul, cPow, seqOf, datOf, toB, wp_ok, wp_bind, wp_nox, mNot, mAnd, mOr, mAndV, mNotV, mOrV, mIfE, mIsi, isTs, isT, gLen, gSeq, gSeqL, gList, gTuple, mMth, isLst, gApp, gPut, mFz, thaw, mSl, mPart, startL]
      refine one_wp hd.app (by omega) (by simpa using he) (by rw [List.length_map]; omega) fun x o' hx hd' => ?_
      obtain ⟨p, hp', rfl⟩ := List.mem_map.mp hx
      rw [app_set hlt', List.set_set] at hd' ⊢
      have hlt2 : l < (S.set l o').length := by rw [List.length_set]; exact hlt
      have hd' := hd'.unapp hlt2
      have hin' := mem_pairs.mp hp'
      have hgi : gIn (.p (pr p)) (.r S.length) (S.set l o' ++ [some (.lst (fs.map pr))]) = .ok (.p (.bool (decide (p ∈ fs)))) (S.set l o' ++ [some (.lst (fs.map pr))]) := by
        simp only [gIn, g2, datOf, lg0, layIn_prsL, isIn_prsL, okB, if_true]
      simp [hgi, wp_ok]
      by_cases hm : p ∈ fs
      · obtain ⟨gs, hs, e⟩ := gRem_pr (S := S.set l o' ++ [some (.lst (fs.map pr))]) (l := S.length) (lg0 _ _) hm
        simp [hm, lg0, mSeq, mIf, mTest, m2, m1, mVar, mC, mAsg, mRet, mNext, mDrop, mR, mP, mLst, mTup, mCons, mNil, pures, mCall, mCB, mCL, gN, gT, gsCons, gsNil, gSubT, gSet, gIx, gGt, gGe, gLt, gLe, gMod, gDiv, G.gSub, gAdd, gMul, gPow, gNeg, i2, okB, cPos, cDiv, cTrue, cMul, cPow, seqOf, datOf, toB, wp_ok, wp_bind, wp_nox, mNot, mAnd, mOr, mAndV, mNotV, mOrV, mIfE, mIsi, isTs, isT, gLen, gSeq, gSeqL, gList, gTuple, mMth, isLst, gApp, gPut, mFz, thaw, mSl, mPart, startL]
        rw [e]
        simp [wp_ok, ls0]
        apply hk4
        refine ⟨gs, _, _, o', j + 1, rfl, rfl, hnd.sublist hs, fun p hp => hin p (hs.subset hp), by omega, by have := hs.length_le; omega, hd'.mono (by omega)⟩
      · have hfl : fs.length ≤ 1000000 := by omega
        simp [hm, lg0, ls0, hfl, mSeq, mIf, mTest, m2, m1, mVar, mC, mAsg, mRet, mNext, mDrop, mR, mP, mLst, mTup, mCons, mNil, pures, mCall, mCB, mCL, gN, gT, gsCons, gsNil, gSubT, gSet, gIx, gGt, gGe, gLt, gLe, gMod, gDiv, G.gSub, gAdd, gMul, gPow, gNeg, i2, okB, cPos, cDiv, cTrue, cMul, cPow, seqOf, datOf, toB, wp_ok, wp_bind, wp_nox, mNot, mAnd, mOr, mAndV, mNotV, mOrV, mIfE, mIsi, isTs, isT, gLen, gSeq, gSeqL, gList, gTuple, mMth, isLst, gApp, gPut, mFz, thaw, mSl, mPart, startL]
        apply hk4
        refine ⟨fs ++ [p], _, _, o', j + 1, rfl, by simp, ?_, ?_, by omega, by rw [List.length_append, List.length_singleton]; omega, hd'.mono (by omega)⟩
        · rw [List.nodup_append]
          refine ⟨hnd, by simp, fun a ha b hb => ?_⟩
          rw [List.mem_singleton] at hb
          intro e
          rw [e, hb] at ha
          exact hm ha
        · intro z hz
          rcases List.mem_append.mp hz with hz | hz
          · exact hin z hz
          · rw [List.mem_singleton] at hz; subst hz; exact hin'
  · rintro ρ S1 ⟨fs, o5, o6, o, j, rfl, rfl, hnd, hin, hj, hlen, hd⟩
    apply hk3
    rw [List.length_nil] at hj
    simp [mSeq, mIf, mTest, m2, m1, mVar, mC, mAsg, mRet, mNext, mDrop, mR, mP, mLst, mTup, mCons, mNil, pures, mCall, mCB, mCL, gN, gT, gsCons, gsNil, gSubT, gSet, gIx, gGt, gGe, gLt, gLe, gMod, gDiv, G.gSub, gAdd, gMul, gPow, gNeg, i2, okB, cPos, cDiv, cTrue, cMul, cPow, seqOf, datOf, toB, wp_ok, wp_bind, wp_nox, mNot, mAnd, mOr, mAndV, mNotV, mOrV, mIfE, mIsi, isTs, isT, gLen, gSeq, gSeqL, gList, gTuple, mMth, isLst, gApp, gPut, mFz, thaw, mSl, mPart, startL, gSorted, lg0, srt_prs fs (by omega), sort_prs, lt0]
    exact q _ o (sortI_lot hnd hin) (by rw [sortI_len]; omega) (hd.mono (by omega))
end LK


set_option maxHeartbeats 4000000
namespace LK
open PySem L2 G
theorem ltP_irr {a : Int × Int} : ¬ ltP a a := by unfold ltP; omega
theorem ltP_tr {a b c : Int × Int} (h1 : ltP a b) (h2 : ltP b c) : ltP a c := by unfold ltP at *; omega
theorem sub_sorted : ∀ {l2 l1 : List (Int × Int)}, l1.Pairwise ltP → l2.Pairwise ltP → (∀ x ∈ l1, x ∈ l2) → l1.Sublist l2
  | [], [], _, _, _ => .slnil
  | [], a :: l1, _, _, h => by cases h a (List.mem_cons_self ..)
  | b :: l2, [], _, _, _ => List.nil_sublist _
  | b :: l2, a :: l1, h1, h2, h => by
    rw [List.pairwise_cons] at h1 h2
    by_cases e : a = b
    · subst e
      refine List.Sublist.cons_cons a (sub_sorted h1.2 h2.2 fun x hx => ?_)
      rcases List.mem_cons.mp (h x (List.mem_cons_of_mem _ hx)) with rfl | h'
      · exact absurd (h1.1 x hx) ltP_irr
      · exact h'
    · have ha : a ∈ l2 := by
        rcases List.mem_cons.mp (h a (List.mem_cons_self ..)) with h' | h'
        · exact absurd h' e
        · exact h'
      have hb := h2.1 a ha
      refine .cons b (sub_sorted (List.pairwise_cons.mpr h1) h2.2 fun x hx => ?_)
      rcases List.mem_cons.mp (h x hx) with rfl | h'
      · exfalso
        rcases List.mem_cons.mp hx with rfl | hx'
        · exact e rfl
        · exact ltP_irr (ltP_tr hb (h1.1 x hx'))
      · exact h'
theorem Lot.subl {n : Int} {ps : List (Int × Int)} (h : Lot n ps) : ps.Sublist (pairsOf n) := sub_sorted h.srt (pairs_lot n).srt fun x hx => mem_pairs.mpr (h.inr x hx)
end LK


set_option maxHeartbeats 4000000
namespace LK
open PySem L2 G
/-! ### what is seen can be -/
def gH (hs : List Int) (k : Int) : Int := hs[k.toNat]?.getD 0
theorem mem_cut {hs : List Int} {i j x : Int} (hi : 0 ≤ i) (hij : i < j) (hj : j ≤ hs.length) : x ∈ cutI hs (some (i + 1)) (some j) ↔ ∃ k : Int, i < k ∧ k < j ∧ hs[k.toNat]? = some x := by
  have e1 : HT.sIx hs.length 0 (some (i + 1)) = (i + 1).toNat := by
    show (if i + 1 < 0 then _ else min (i + 1).toNat hs.length) = _
    rw [if_neg (by omega)]
    omega
  have e2 : HT.sIx hs.length hs.length (some j) = j.toNat := by
    show (if j < 0 then _ else min j.toNat hs.length) = _
    rw [if_neg (by omega)]
    omega
  unfold cutI
  rw [e1, e2, List.mem_iff_getElem?]
  constructor
  · rintro ⟨n, h⟩
    rw [List.getElem?_take] at h
    split at h
    · next hn =>
      rw [List.getElem?_drop] at h
      refine ⟨i + 1 + n, by omega, by omega, ?_⟩
      have : (i + 1 + (n : Int)).toNat = (i + 1).toNat + n := by omega
      rw [this]
      exact h
    · cases h
  · rintro ⟨k, h1, h2, h3⟩
    refine ⟨(k - (i + 1)).toNat, ?_⟩
    rw [List.getElem?_take, if_pos (by omega), List.getElem?_drop]
    have : (i + 1).toNat + (k - (i + 1)).toNat = k.toNat := by omega
    rw [this]
    exact h3
theorem gH_some {hs : List Int} {k : Int} (h0 : 0 ≤ k) (h1 : k < hs.length) : hs[k.toNat]? = some (gH hs k) := by
  have : k.toNat < hs.length := by omega
  unfold gH
  rw [List.getElem?_eq_getElem this]
  rfl
theorem sees_iff {hs : List Int} {p : Int × Int} (h0 : 0 ≤ p.1) (h1 : p.1 < p.2) (h2 : p.2 < hs.length) : seesB hs p = true ↔ ∀ k, p.1 < k → k < p.2 → gH hs k ≤ gH hs p.1 ∧ gH hs k ≤ gH hs p.2 := by
  unfold seesB
  rw [List.isEmpty_iff, List.filter_eq_nil_iff]
  have hm : ∀ x : Int, ¬ (decide (minI (hs[p.1.toNat]?.getD 0) (hs[p.2.toNat]?.getD 0) < x) = true) ↔ x ≤ gH hs p.1 ∧ x ≤ gH hs p.2 := by
    intro x
    rw [decide_eq_true_eq]
    unfold minI gH
    split <;> omega
  constructor
  · intro h k hk1 hk2
    exact (hm _).mp (h _ ((mem_cut h0 h1 (by omega)).mpr ⟨k, hk1, hk2, gH_some (by omega) (by omega)⟩))
  · intro h x hx
    obtain ⟨k, hk1, hk2, hk3⟩ := (mem_cut h0 h1 (by omega)).mp hx
    have := gH_some (hs := hs) (k := k) (by omega) (by omega)
    rw [hk3] at this
    cases this
    exact (hm _).mpr (h k hk1 hk2)
theorem mem_seen {hs : List Int} {p : Int × Int} : p ∈ seenP hs ↔ (0 ≤ p.1 ∧ p.1 < p.2 ∧ p.2 < hs.length) ∧ ∀ k, p.1 < k → k < p.2 → gH hs k ≤ gH hs p.1 ∧ gH hs k ≤ gH hs p.2 := by
  unfold seenP
  rw [List.mem_filter, mem_pairs]
  constructor
  · rintro ⟨h, h'⟩
    exact ⟨h, (sees_iff h.1 h.2.1 h.2.2).mp h'⟩
  · rintro ⟨h, h'⟩
    exact ⟨h, (sees_iff h.1 h.2.1 h.2.2).mpr h'⟩
theorem gH_inj {hs : List Int} (hn : hs.Nodup) {i j : Int} (hi : 0 ≤ i) (hi' : i < hs.length) (hj : 0 ≤ j) (hj' : j < hs.length) (e : gH hs i = gH hs j) : i = j := by
  have h1 := gH_some hi hi'
  have h2 := gH_some hj hj'
  rw [e, ← h2] at h1
  have h3 : i.toNat < hs.length := by omega
  have := (List.getElem?_inj h3 hn).mp h1
  omega
theorem max_at (f : Int → Int) (lo : Int) : ∀ n : Nat, ∃ m, lo ≤ m ∧ m ≤ lo + n ∧ ∀ k, lo ≤ k → k ≤ lo + n → f k ≤ f m
  | 0 => ⟨lo, by omega, by omega, fun k h1 h2 => by
      have : k = lo := by omega
      rw [this]; exact Int.le_refl _⟩
  | n + 1 => by
    obtain ⟨m, h1, h2, h3⟩ := max_at f lo n
    by_cases h : f (lo + (n + 1 : Nat)) ≤ f m
    · refine ⟨m, h1, by omega, fun k hk1 hk2 => ?_⟩
      by_cases e : k = lo + (n + 1 : Nat)
      · rw [e]; exact h
      · exact h3 k hk1 (by omega)
    · refine ⟨lo + (n + 1 : Nat), by omega, by omega, fun k hk1 hk2 => ?_⟩
      by_cases e : k = lo + (n + 1 : Nat)
      · rw [e]; exact Int.le_refl _
      · have := h3 k hk1 (by omega)
        omega
theorem seen_sound {hs : List Int} (hn : hs.Nodup) : barsL hs.length (seenP hs) = [] := by
  have ha : apartL hs.length (seenP hs) = [] := by
    unfold apartL
    rw [List.map_eq_nil_iff, List.filter_eq_nil_iff]
    intro i hi
    have := mem_ran.mp hi
    have hm : (i, i + 1) ∈ seenP hs := mem_seen.mpr ⟨⟨by omega, by show i < i + 1; omega, by show i + 1 < _; omega⟩, fun k h1 h2 => by
      exfalso
      have h1 : i < k := h1
      have h2 : k < i + 1 := h2
      omega⟩
    simp [hm]
  have hc : (seenP hs).flatMap (crossL (seenP hs)) = [] := by
    rw [List.flatMap_eq_nil_iff]
    intro p hp
    unfold crossL
    rw [List.map_eq_nil_iff, List.filter_eq_nil_iff]
    intro q hq hc
    unfold crossB at hc
    simp only [Bool.and_eq_true, decide_eq_true_eq] at hc
    obtain ⟨c1, c2, c3⟩ := hc
    obtain ⟨⟨p1, p2, p3⟩, hp⟩ := mem_seen.mp hp
    obtain ⟨⟨q1, q2, q3⟩, hq⟩ := mem_seen.mp hq
    have h1 := hp q.1 c1 c2
    have h2 := hq p.2 c2 c3
    have h3 := gH_inj hn q1 (by omega) (show 0 ≤ p.2 by omega) p3 (by omega)
    omega
  have hl : aloneL (seenP hs) (seenP hs) = [] := by
    unfold aloneL
    rw [List.map_eq_nil_iff, List.filter_eq_nil_iff]
    intro p hp hb
    unfold aloneB at hb
    rw [Bool.and_eq_true, decide_eq_true_eq, List.isEmpty_iff, List.filter_eq_nil_iff] at hb
    obtain ⟨b1, b2⟩ := hb
    obtain ⟨⟨p1, p2, p3⟩, hp⟩ := mem_seen.mp hp
    obtain ⟨m, m1, m2, m3⟩ := max_at (gH hs) (p.1 + 1) (p.2 - (p.1 + 2)).toNat
    refine b2 m (mem_ran.mpr (by omega)) ?_
    rw [Bool.and_eq_true, decide_eq_true_eq, decide_eq_true_eq]
    refine ⟨mem_seen.mpr ⟨⟨p1, by show p.1 < m; omega, by show m < _; omega⟩, fun k k1 k2 => ?_⟩, mem_seen.mpr ⟨⟨by show 0 ≤ m; omega, by show m < p.2; omega, p3⟩, fun k k1 k2 => ?_⟩⟩
    · have k1 : p.1 < k := k1
      have k2 : k < m := k2
      exact ⟨(hp k k1 (by omega)).1, m3 k (by omega) (by omega)⟩
    · have k1 : m < k := k1
      have k2 : k < p.2 := k2
      exact ⟨m3 k (by omega) (by omega), (hp k (by omega) k2).2⟩
  unfold barsL
  rw [ha, hc, hl]
  rfl
end LK


set_option maxHeartbeats 4000000
namespace LK
open PySem L2 G
/-! ### all orders -/
def tp (row : List Int) : PyData := .tuple (row.map PyData.int)
def addO (n : Nat) (row : List Int) : List (List Int) := ((ran 1 n).filter fun x => !decide (x ∈ row)).map fun x => row ++ [x]
def itO (n : Nat) : Nat → List (List Int)
  | 0 => [[]]
  | t + 1 => (itO n t).flatMap (addO n)
theorem addO_len (n : Nat) (row : List Int) : (addO n row).length ≤ n := by
  unfold addO
  rw [List.length_map]
  have := List.length_filter_le (fun x => !decide (x ∈ row)) (ran 1 n)
  rw [ran_len] at this
  exact this
theorem itO_len (n : Nat) : ∀ t, (itO n t).length ≤ n ^ t
  | 0 => Nat.le_refl _
  | t + 1 => by
    have h := flat_len (f := addO n) (addO_len n) (itO n t)
    have i := itO_len n t
    rw [itO, Nat.pow_succ]
    exact Nat.le_trans h (Nat.mul_le_mul_right n i)
theorem itO_row (n : Nat) : ∀ t, ∀ row ∈ itO n t, row.length = t ∧ row.Nodup ∧ ∀ x ∈ row, 1 ≤ x ∧ x ≤ n
  | 0, row, h => by
    rw [itO, List.mem_singleton] at h
    subst h
    exact ⟨rfl, List.nodup_nil, fun _ h => (nomatch h)⟩
  | t + 1, row, h => by
    rw [itO, List.mem_flatMap] at h
    obtain ⟨r, hr, h⟩ := h
    obtain ⟨x, hx, rfl⟩ := List.mem_map.mp h
    obtain ⟨i1, i2, i3⟩ := itO_row n t r hr
    obtain ⟨x1, x2⟩ := List.mem_filter.mp hx
    have x1 := mem_ran.mp x1
    have x2 : ¬ x ∈ r := by simpa using x2
    refine ⟨by rw [List.length_append, i1]; rfl, ?_, ?_⟩
    · rw [List.nodup_append]
      refine ⟨i2, by simp, fun a ha b hb => ?_⟩
      rw [List.mem_singleton] at hb
      intro e
      rw [e, hb] at ha
      exact x2 ha
    · intro y hy
      rcases List.mem_append.mp hy with hy | hy
      · exact i3 y hy
      · rw [List.mem_singleton] at hy; subst hy; omega
theorem gNotIn_tup {x : Int} {row : List Int} {S : Sto} : gNotIn (.p (.int x)) (.p (tp row)) S = .ok (.p (.bool (!decide (x ∈ row)))) S := by
  have h1 : layIn (.int x) (tp row) = true := by
    unfold layIn tp
    rw [(La.int (n := 0) x).lay (by omega), (La.tuple (La.ints (n := 0) row)).lay (by omega)]
    rfl
  have h2 : isIn (.int x) (tp row) = decide (x ∈ row) := any_ints
  simp only [gNotIn, g2, datOf, h1, h2, okB, if_true]
theorem pow_ok {n t : Nat} (hn : n ≤ 7) (ht : t ≤ 7) : n ^ t ≤ 823543 := Nat.le_trans (Nat.pow_le_pow_left hn t) (Nat.le_trans (Nat.pow_le_pow_right (by decide) ht) (by decide))
theorem orders_eq {S : Sto} {n : Nat} (hn : n ≤ 7) : f_law_orders [.p (.int n)] S = .ok (.p (.list ((itO n n).map tp))) S := by
  suffices h : wp (f_law_orders [.p (.int n)] S) (fun d S1 => d = .p (.list ((itO n n).map tp)) ∧ S1 = S) by
    obtain ⟨d, S1, e, rfl, rfl⟩ := h
    exact e
  unfold f_law_orders
  rw [wp_nox]
  apply wp_fn
  unfold b_law_orders
  apply wp_seq
  intro k1 hk1 _ _ _
  simp [mSeq, mIf, mTest, m2, m1, mVar, mC, mAsg, mRet, mNext, mDrop, mR, mP, mLst, mTup, mCons, mNil, pures, mCall, mCB, mCL, gN, gT, gsCons, gsNil, gSubT, gSet, gIx, gGt, gGe, gLt, gLe, gMod, gDiv, G.gSub, gAdd, gMul, gPow, gNeg, i2, okB, cPos, cDiv, cTrue, cMul, cPow, seqOf, datOf, toB, wp_ok, wp_bind, wp_nox, mNot, mAnd, mOr, mAndV, mNotV, mOrV, mIfE, mIsi, isTs, isT, gLen, gSeq, gSeqL, gList, gTuple, mMth, isLst, gApp, gPut, mFz, thaw, mSl, mPart, startL]
  apply hk1
  apply wp_seq
  intro k2 hk2 _ _ _
  rw [wp_for]
  simp [mSeq, mIf, mTest, m2, m1, mVar, mC, mAsg, mRet, mNext, mDrop, mR, mP, mLst, mTup, mCons, mNil, pures, mCall, mCB, mCL, gN, gT, gsCons, gsNil, gSubT, gSet, gIx, gGt, gGe, gLt, gLe, gMod, gDiv, G.gSub, gAdd, gMul, gPow, gNeg, i2, okB, cPos, cDiv, cTrue, cMul, cPow, seqOf, datOf, toB, wp_ok, wp_bind, wp_nox, mNot, mAnd, mOr, mAndV, mNotV, mOrV, mIfE, mIsi, isTs, isT, gLen, gSeq, gSeqL, gList, gTuple, mMth, isLst, gApp, gPut, mFz, thaw, mSl, mPart, startL, mRng1, inB_of (i := (n : Int)) (by omega) (by omega)]
  refine wp_loop (fun r ρ S1 => ∃ (t : Nat) (o2 o3 o4 : Option D), ρ = [some (.p (.int n)), some (.p (.list ((itO n t).map tp))), o2, o3, o4, none] ∧ S1 = S ∧ r.length + t = n) _ ?_ ?_ ?_
  · exact ⟨0, _, _, _, rfl, rfl, by rw [rangeP_length]; rfl⟩
  · rintro x r ρ S1 ⟨t, o2, o3, o4, rfl, rfl, hr⟩ k3 hk3
    rw [List.length_cons] at hr
    rw [wp_gN]
    apply wp_seq
    intro k4 hk4 _ _ _
    simp [mSeq, mIf, mTest, m2, m1, mVar, mC, mAsg, mRet, mNext, mDrop, mR, mP, mLst, mTup, mCons, mNil, pures, mCall, mCB, mCL, gN, gT, gsCons, gsNil, gSubT, gSet, gIx, gGt, gGe, gLt, gLe, gMod, gDiv, G.gSub, gAdd, gMul, gPow, gNeg, i2, okB, cPos, cDiv, cTrue, cMul, cPow, seqOf, datOf, toB, wp_ok, wp_bind, wp_nox, mNot, mAnd, mOr, mAndV, mNotV, mOrV, mIfE, mIsi, isTs, isT, gLen, gSeq, gSeqL, gList, gTuple, mMth, isLst, gApp, gPut, mFz, thaw, mSl, mPart, startL]
    apply hk4
    apply wp_seq
    intro k5 hk5 _ _ _
    rw [wp_for]
    simp [mSeq, mIf, mTest, m2, m1, mVar, mC, mAsg, mRet, mNext, mDrop, mR, mP, mLst, mTup, mCons, mNil, pures, mCall, mCB, mCL, gN, gT, gsCons, gsNil, gSubT, gSet, gIx, gGt, gGe, gLt, gLe, gMod, gDiv, G.gSub, gAdd, gMul, gPow, gNeg, i2, okB, cPos, cDiv, cTrue, cMul, cPow, seqOf, datOf, toB, wp_ok, wp_bind, wp_nox, mNot, mAnd, mOr, mAndV, mNotV, mOrV, mIfE, mIsi, isTs, isT, gLen, gSeq, gSeqL, gList, gTuple, mMth, isLst, gApp, gPut, mFz, thaw, mSl, mPart, startL, mItems]
    have hlen := itO_len n (t + 1)
    have hpow := pow_ok (n := n) (t := t + 1) hn (by omega)
    refine wp_loop (fun r ρ S2 => ∃ (rows done : List (List Int)) (o4 : Option D), r = rows.map tp ∧ ρ = [some (.p (.int n)), some (.p (.list ((itO n t).map tp))), some (.p x), some (.p (.list (done.map tp))), o4, none] ∧ S2 = S1 ∧ (∀ row ∈ rows, row.length = t) ∧ done ++ rows.flatMap (addO n) = itO n (t + 1)) _ ?_ ?_ ?_
    · exact ⟨itO n t, [], _, rfl, rfl, rfl, fun row h => (itO_row n t row h).1, rfl⟩
    · rintro y r2 ρ S2 ⟨rows, done, o4, e, rfl, rfl, hrow, hd⟩ k6 hk6
      cases rows with
      | nil => cases e
      | cons row rows =>
        cases e
        rw [wp_gN, wp_asg]
        have hrl := hrow row (List.mem_cons_self ..)
        have hlc : mLcL (gN 5) (mTest (m2 gNotIn (mVar 5) (mVar 4))) (m2 gAdd (mVar 4) (mTup (mCons (mVar 5) mNil))) [some (.p (.int n)), some (.p (.list ((itO n t).map tp))), some (.p x), some (.p (.list (done.map tp))), some (.p (tp row)), none] ((ran 1 n).map PyData.int) S2 = .ok (((ran 1 n).filter fun x => !decide (x ∈ row)).map fun x => tp (row ++ [x])) S2 :=
          lc_map PyData.int _ fun i _ => ⟨_, rfl, by simp [mTest, m2, mVar, Res.bind, gNotIn_tup, toB, gN], fun _ => by
            have : row.length + 1 ≤ 1000000 := by omega
            simp [mSeq, mIf, mTest, m2, m1, mVar, mC, mAsg, mRet, mNext, mDrop, mR, mP, mLst, mTup, mCons, mNil, pures, mCall, mCB, mCL, gN, gT, gsCons, gsNil, gSubT, gSet, gIx, gGt, gGe, gLt, gLe, gMod, gDiv, G.gSub, gAdd, gMul, gPow, gNeg, i2, okB, cPos, cDiv, cTrue, cMul, cPow, seqOf, datOf, toB, Res.bind, Res.nox, wp_ok, wp_bind, wp_nox, mNot, mAnd, mOr, mAndV, mNotV, mOrV, mIfE, mIsi, isTs, isT, gLen, gSeq, gSeqL, gList, gTuple, mMth, isLst, gApp, gPut, mFz, thaw, mSl, mPart, startL, tp, this]⟩
        have hmm : (((ran 1 n).filter fun x => !decide (x ∈ row)).map fun x => tp (row ++ [x])) = (addO n row).map tp := by
          unfold addO
          rw [List.map_map]
          rfl
        rw [hmm] at hlc
        have hl1 : (addO n row).length ≤ n := addO_len n row
        have hdl : done.length + (addO n row).length ≤ 1000000 := by
          have := congrArg List.length hd
          rw [List.length_append, List.flatMap_cons, List.length_append] at this
          omega
        have e1 : (1 : Int) + (n : Int) - 1 = n := by omega
        have hrg : rangeP 1 ((n : Int) + 1 - 1).toNat = (ran 1 n).map PyData.int := by
          rw [rangeP_ran]
          congr 2
          omega
        have hn1 : (ran 1 n).length ≤ 1000000 := by rw [ran_len]; omega
        simp only [m2, mVar, mP, mLc, mRng2, mCons, mC, mNil, gAdd, wp_bind, wp_ok, List.getElem?_cons_succ, List.getElem?_cons_zero, inB_of (i := (1 : Int)) (by omega) (by omega), inB_of (i := (n : Int) + 1) (by omega) (by omega), Bool.and_true, if_true, hrg, hn1, wipeL, List.set_cons_succ, List.set_cons_zero, hlc, seqOf, List.length_map, hdl, wp_gN]
        apply hk6
        refine ⟨rows, done ++ addO n row, _, rfl, by rw [List.map_append], rfl, fun r hr => hrow r (List.mem_cons_of_mem _ hr), ?_⟩
        rw [List.append_assoc, ← hd, List.flatMap_cons]
    · rintro ρ S2 ⟨rows, done, o4, e, rfl, rfl, hrow, hd⟩
      cases rows with
      | cons _ _ => cases e
      | nil =>
        apply hk5
        rw [List.flatMap_nil, List.append_nil] at hd
        subst hd
        simp [mSeq, mIf, mTest, m2, m1, mVar, mC, mAsg, mRet, mNext, mDrop, mR, mP, mLst, mTup, mCons, mNil, pures, mCall, mCB, mCL, gN, gT, gsCons, gsNil, gSubT, gSet, gIx, gGt, gGe, gLt, gLe, gMod, gDiv, G.gSub, gAdd, gMul, gPow, gNeg, i2, okB, cPos, cDiv, cTrue, cMul, cPow, seqOf, datOf, toB, wp_ok, wp_bind, wp_nox, mNot, mAnd, mOr, mAndV, mNotV, mOrV, mIfE, mIsi, isTs, isT, gLen, gSeq, gSeqL, gList, gTuple, mMth, isLst, gApp, gPut, mFz, thaw, mSl, mPart, startL]
        apply hk3
        exact ⟨t + 1, _, _, _, rfl, rfl, by omega⟩
  · rintro ρ S1 ⟨t, o2, o3, o4, rfl, rfl, hr⟩
    apply hk2
    rw [List.length_nil, Nat.zero_add] at hr
    subst hr
    simp [mSeq, mIf, mTest, m2, m1, mVar, mC, mAsg, mRet, mNext, mDrop, mR, mP, mLst, mTup, mCons, mNil, pures, mCall, mCB, mCL, gN, gT, gsCons, gsNil, gSubT, gSet, gIx, gGt, gGe, gLt, gLe, gMod, gDiv, G.gSub, gAdd, gMul, gPow, gNeg, i2, okB, cPos, cDiv, cTrue, cMul, cPow, seqOf, datOf, toB, wp_ok, wp_bind, wp_nox, mNot, mAnd, mOr, mAndV, mNotV, mOrV, mIfE, mIsi, isTs, isT, gLen, gSeq, gSeqL, gList, gTuple, mMth, isLst, gApp, gPut, mFz, thaw, mSl, mPart, startL]
end LK


set_option maxHeartbeats 4000000
namespace LK
open PySem L2 G
/-! ### orders by their lots -/
abbrev BL := List (List (Int × Int) × List (List Int))
def lotD (ps : List (Int × Int)) : PyData := .tuple (ps.map pr)
def encE (e : List (Int × Int) × List (List Int)) : PyData × PyData := (lotD e.1, .list (e.2.map tp))
def ups (d : BL) (o : List Int) : BL :=
  if (d.any fun e => decide (e.1 = seenP o)) = true then d.map (fun e => if e.1 = seenP o then (e.1, e.2 ++ [o]) else e) else d ++ [(seenP o, [o])]
theorem eqv_prs : ∀ ps qs : List (Int × Int), PyData.eqvAll (ps.map pr) (qs.map pr) = decide (ps = qs)
  | [], [] => rfl
  | [], _ :: _ => rfl
  | _ :: _, [] => rfl
  | p :: ps, q :: qs => by
    rw [List.map_cons, List.map_cons, PyData.eqvAll, eqv_pr, eqv_prs ps qs]
    by_cases h1 : p = q <;> by_cases h2 : ps = qs <;> simp [h1, h2]
theorem eqv_lot (ps qs : List (Int × Int)) : PyData.eqv (lotD ps) (lotD qs) = decide (ps = qs) := by
  unfold lotD
  rw [PyData.eqv, eqv_prs]
theorem nk_prs : ∀ ps : List (Int × Int), nkAll (ps.map pr) = some (ps.map fun p => NestedKey.tup [.num p.1, .num p.2])
  | [] => rfl
  | p :: ps => by
    rw [List.map_cons, nkAll, nk_prs ps]
    rfl
theorem depth_prs : ∀ ps : List (Int × Int), NestedKey.depthAll (ps.map fun p => NestedKey.tup [.num p.1, .num p.2]) ≤ 1
  | [] => Nat.zero_le _
  | p :: ps => by
    rw [List.map_cons, NestedKey.depthAll]
    exact Nat.max_le.mpr ⟨Nat.le_refl _, depth_prs ps⟩
theorem tk_lot (ps : List (Int × Int)) : (tk (lotD ps)).isSome = true := by
  unfold tk lotD
  simp only [nk_prs]
  have : (NestedKey.tup (ps.map fun p => NestedKey.tup [.num p.1, .num p.2])).depth ≤ 8 := by
    rw [NestedKey.depth]
    have := depth_prs ps
    omega
  rw [if_pos this]
  rfl
theorem kOk_lot (d : BL) (ps : List (Int × Int)) : kOk (d.map encE) (lotD ps) = true := by
  unfold kOk
  rw [Bool.or_eq_true, Bool.and_eq_true, Bool.and_eq_true]
  right
  refine ⟨tk_lot ps, ?_⟩
  rw [List.all_map, List.all_eq_true]
  intro e _
  exact tk_lot e.1
theorem look_lot (d : BL) (ps : List (Int × Int)) : lookP (d.map encE) (lotD ps) = (d.find? fun e => decide (e.1 = ps)).map fun e => .list (e.2.map tp) := by
  unfold lookP
  induction d with
  | nil => rfl
  | cons e d ih =>
    rw [List.map_cons, List.find?_cons, List.find?_cons]
    have : PyData.eqv (encE e).1 (lotD ps) = decide (e.1 = ps) := eqv_lot _ _
    rw [this]
    by_cases h : e.1 = ps
    · simp [h, encE]
    · simp only [h, decide_false]
      exact ih
theorem any_lot (d : BL) (ps : List (Int × Int)) : ((d.map encE).any fun p => PyData.eqv p.1 (lotD ps)) = d.any fun e => decide (e.1 = ps) := by
  rw [List.any_map]
  congr 1
  funext e
  exact eqv_lot _ _
/-- each lot stands once -/
def Once (d : BL) : Prop := (d.map (·.1)).Nodup
theorem ups_once {d : BL} {o : List Int} (h : Once d) : Once (ups d o) := by
  unfold ups Once at *
  split
  · rw [List.map_map]
    have : (d.map ((·.1) ∘ fun e => if e.1 = seenP o then (e.1, e.2 ++ [o]) else e)) = d.map (·.1) := by
      refine List.map_congr_left fun e _ => ?_
      show (if e.1 = seenP o then (e.1, e.2 ++ [o]) else e).1 = e.1
      split <;> rfl
    rw [this]
    exact h
  · next hn =>
    rw [List.map_append, List.nodup_append]
    refine ⟨h, by simp, fun a ha b hb => ?_⟩
    rw [List.map_cons, List.map_nil, List.mem_singleton] at hb
    intro e
    obtain ⟨x, hx, rfl⟩ := List.mem_map.mp ha
    apply hn
    rw [List.any_eq_true]
    exact ⟨x, hx, by rw [e, hb]; simp⟩
theorem put_ups {d : BL} (h : Once d) (o : List Int) : putP (d.map encE) (lotD (seenP o)) (.list ((((d.find? fun e => decide (e.1 = seenP o)).map (·.2)).getD [] ++ [o]).map tp)) = (ups d o).map encE := by
  unfold putP ups
  rw [any_lot]
  split
  · next ha =>
    rw [List.map_map, List.map_map]
    refine List.map_congr_left fun e he => ?_
    show (if PyData.eqv (encE e).1 (lotD (seenP o)) = true then ((encE e).1, _) else encE e) = encE (if e.1 = seenP o then (e.1, e.2 ++ [o]) else e)
    have : PyData.eqv (encE e).1 (lotD (seenP o)) = decide (e.1 = seenP o) := eqv_lot _ _
    rw [this]
    by_cases hk : e.1 = seenP o
    · have hf : (d.find? fun e => decide (e.1 = seenP o)) = some e := by
        clear ha this
        induction d with
        | nil => cases he
        | cons x d ih =>
          rw [List.find?_cons]
          unfold Once at h
          rw [List.map_cons, List.nodup_cons] at h
          rcases List.mem_cons.mp he with rfl | he
          · simp [hk]
          · have hx : ¬ x.1 = seenP o := fun e' => h.1 (by rw [e', ← hk]; exact List.mem_map.mpr ⟨e, he, rfl⟩)
            simp only [hx, decide_false]
            exact ih h.2 he
      simp only [hk, decide_true, if_true, hf, Option.map_some, Option.getD_some, encE]
    · simp only [hk, decide_false, if_false, Bool.false_eq_true]
  · next ha =>
    have hf : (d.find? fun e => decide (e.1 = seenP o)) = none := by
      rw [List.find?_eq_none]
      intro e he hc
      apply ha
      rw [List.any_eq_true]
      exact ⟨e, he, hc⟩
    rw [hf]
    simp [encE]
end LK


set_option maxHeartbeats 4000000
namespace LK
open PySem L2 G
def byL (n : Nat) : BL := (itO n n).foldl ups []
theorem ups_len {d : BL} {o : List Int} {k : Nat} (h : d.length ≤ k ∧ ∀ e ∈ d, e.2.length ≤ k) : (ups d o).length ≤ k + 1 ∧ ∀ e ∈ ups d o, e.2.length ≤ k + 1 := by
  unfold ups
  split
  · refine ⟨by rw [List.length_map]; omega, fun e he => ?_⟩
    obtain ⟨x, hx, rfl⟩ := List.mem_map.mp he
    have := h.2 x hx
    split
    · rw [List.length_append]; show x.2.length + 1 ≤ _; omega
    · omega
  · refine ⟨by rw [List.length_append]; show d.length + 1 ≤ _; omega, fun e he => ?_⟩
    rcases List.mem_append.mp he with he | he
    · have := h.2 e he; omega
    · rw [List.mem_singleton] at he; subst he; show 1 ≤ k + 1; omega
theorem by_lots_eq {S : Sto} {n : Nat} (hn : n ≤ 7) : f_law_by_lots [.p (.int n)] S = .ok (.p (.dict ((byL n).map encE))) S := by
  suffices h : wp (f_law_by_lots [.p (.int n)] S) (fun d S1 => d = .p (.dict ((byL n).map encE)) ∧ S1 = S) by
    obtain ⟨d, S1, e, rfl, rfl⟩ := h
    exact e
  unfold f_law_by_lots
  rw [wp_nox]
  apply wp_fn
  unfold b_law_by_lots
  apply wp_seq
  intro k1 hk1 _ _ _
  simp [mSeq, mIf, mTest, m2, m1, mVar, mC, mAsg, mRet, mNext, mDrop, mR, mP, mLst, mTup, mCons, mNil, pures, mCall, mCB, mCL, gN, gT, gsCons, gsNil, gSubT, gSet, gIx, gGt, gGe, gLt, gLe, gMod, gDiv, G.gSub, gAdd, gMul, gPow, gNeg, i2, okB, cPos, cDiv, cTrue, cMul, cPow, seqOf, datOf, toB, wp_ok, wp_bind, wp_nox, mNot, mAnd, mOr, mAndV, mNotV, mOrV, mIfE, mIsi, isTs, isT, gLen, gSeq, gSeqL, gList, gTuple, mMth, isLst, gApp, gPut, mFz, thaw, mSl, mPart, startL, mDNew]
  apply hk1
  apply wp_seq
  intro k2 hk2 _ _ _
  rw [wp_for]
  simp [mSeq, mIf, mTest, m2, m1, mVar, mC, mAsg, mRet, mNext, mDrop, mR, mP, mLst, mTup, mCons, mNil, pures, mCall, mCB, mCL, gN, gT, gsCons, gsNil, gSubT, gSet, gIx, gGt, gGe, gLt, gLe, gMod, gDiv, G.gSub, gAdd, gMul, gPow, gNeg, i2, okB, cPos, cDiv, cTrue, cMul, cPow, seqOf, datOf, toB, wp_ok, wp_bind, wp_nox, mNot, mAnd, mOr, mAndV, mNotV, mOrV, mIfE, mIsi, isTs, isT, gLen, gSeq, gSeqL, gList, gTuple, mMth, isLst, gApp, gPut, mFz, thaw, mSl, mPart, startL, mItems, orders_eq hn]
  have hlen : (itO n n).length ≤ 823543 := Nat.le_trans (itO_len n n) (pow_ok hn hn)
  refine wp_loop (fun r ρ S1 => ∃ (rest : List (List Int)) (d : BL) (k : Nat) (o2 o3 : Option D), r = rest.map tp ∧ ρ = [some (.p (.int n)), some (.r S.length), o2, o3] ∧ S1 = S ++ [some (.dct (d.map encE))] ∧ (∀ o ∈ rest, o.length = n) ∧ Once d ∧ (d.length ≤ k ∧ ∀ e ∈ d, e.2.length ≤ k) ∧ k + rest.length ≤ 823543 ∧ rest.foldl ups d = byL n) _ ?_ ?_ ?_
  · exact ⟨itO n n, [], 0, _, _, rfl, rfl, rfl, fun o h => (itO_row n n o h).1, List.nodup_nil, ⟨Nat.le_refl _, fun _ h => (nomatch h)⟩, by omega, rfl⟩
  · rintro x r ρ S1 ⟨rest, d, k, o2, o3, e, rfl, rfl, hrow, h1, hb, hk, hf⟩ k3 hk3
    cases rest with
    | nil => cases e
    | cons o rest =>
      cases e
      rw [List.length_cons] at hk
      have hol := hrow o (List.mem_cons_self ..)
      rw [wp_gN]
      apply wp_seq
      intro k4 hk4 _ _ _
      have hs := fun S => seen_eq (S := S) (hs := o) (by omega)
      simp [mSeq, mIf, mTest, m2, m1, mVar, mC, mAsg, mRet, mNext, mDrop, mR, mP, mLst, mTup, mCons, mNil, pures, mCall, mCB, mCL, gN, gT, gsCons, gsNil, gSubT, gSet, gIx, gGt, gGe, gLt, gLe, gMod, gDiv, G.gSub, gAdd, gMul, gPow, gNeg, i2, okB, cPos, cDiv, cTrue, cMul, cPow, seqOf, datOf, toB, wp_ok, wp_bind, wp_nox, mNot, mAnd, mOr, mAndV, mNotV, mOrV, mIfE, mIsi, isTs, isT, gLen, gSeq, gSeqL, gList, gTuple, mMth, isLst, gApp, gPut, mFz, thaw, mSl, mPart, startL, tp, hs]
      apply hk4
      have hlk := look_lot d (seenP o)
      have hput := put_ups h1 o
      have hko := kOk_lot d (seenP o)
      unfold lotD at hlk hput hko
      have hgl : (((d.find? fun e => decide (e.1 = seenP o)).map (·.2)).getD []).length + 1 ≤ 1000000 := by
        cases hfd : d.find? fun e => decide (e.1 = seenP o) with
        | none => show 0 + 1 ≤ _; omega
        | some e =>
          have := hb.2 e (List.mem_of_find?_eq_some hfd)
          show e.2.length + 1 ≤ _
          omega
      have hget : (lookP (d.map encE) (.tuple ((seenP o).map pr))).getD (.list []) = .list ((((d.find? fun e => decide (e.1 = seenP o)).map (·.2)).getD []).map tp) := by
        rw [hlk]
        cases d.find? fun e => decide (e.1 = seenP o) <;> rfl
      have hdl : (d.map encE).length < 1000000 := by rw [List.length_map]; have := hb.1; omega
      have htp : ∀ os : List (List Int), PyData.list (os.map tp ++ [tp o]) = .list ((os ++ [o]).map tp) := fun os => by rw [List.map_append]; rfl
      simp only [wp_asg, m2, mDGet2, isDct, dctOf, mVar, mP, mLst, mCons, mNil, wp_bind, wp_ok, List.getElem?_cons_succ, List.getElem?_cons_zero, last_get, Option.isSome_some, if_true, pures, List.length_nil, List.length_cons, Nat.zero_le, hko, hget, Option.map_some, gAdd, seqOf]
      rw [if_pos (by decide)]
      simp only [wp_ok, List.length_map, List.length_cons, List.length_nil, Nat.zero_add, hgl, if_true, gSubT, wp_bind, mVar, List.getElem?_cons_succ, List.getElem?_cons_zero, gDPut, last_get, hko, hdl, decide_true, Bool.and_true]
      rw [List.length_map] at hdl
      rw [decide_eq_true hdl, Bool.true_and, if_pos rfl, wp_ok, last_set]
      apply hk3
      refine ⟨rest, ups d o, k + 1, _, _, rfl, rfl, ?_, fun r hr => hrow r (List.mem_cons_of_mem _ hr), ups_once h1, ups_len hb, by omega, hf⟩
      rw [← hput, ← htp]
      rfl
  · rintro ρ S1 ⟨rest, d, k, o2, o3, e, rfl, rfl, hrow, h1, hb, hk, hf⟩
    cases rest with
    | cons _ _ => cases e
    | nil =>
      apply hk2
      have hf : d = byL n := hf
      subst hf
      simp [mSeq, mIf, mTest, m2, m1, mVar, mC, mAsg, mRet, mNext, mDrop, mR, mP, mLst, mTup, mCons, mNil, pures, mCall, mCB, mCL, gN, gT, gsCons, gsNil, gSubT, gSet, gIx, gGt, gGe, gLt, gLe, gMod, gDiv, G.gSub, gAdd, gMul, gPow, gNeg, i2, okB, cPos, cDiv, cTrue, cMul, cPow, seqOf, datOf, toB, wp_ok, wp_bind, wp_nox, mNot, mAnd, mOr, mAndV, mNotV, mOrV, mIfE, mIsi, isTs, isT, gLen, gSeq, gSeqL, gList, gTuple, mMth, isLst, gApp, gPut, mFz, thaw, mSl, mPart, startL, last_get, last_set, last_take]
end LK


set_option maxHeartbeats 4000000
namespace LK
open PySem L2 G
/-! ### each lot that nothing bars comes up, to six houses -/
def subs : List (Int × Int) → List (List (Int × Int))
  | [] => [[]]
  | p :: r => if p.2 = p.1 + 1 then (subs r).map (p :: ·) else subs r ++ (subs r).map (p :: ·)
def wit1 : List (List Int) := [[1]]
def wit2 : List (List Int) := [[1, 2]]
def wit3 : List (List Int) := [[1, 2, 3], [2, 1, 3]]
def wit4 : List (List Int) := [[1, 2, 3, 4], [1, 3, 2, 4], [2, 1, 3, 4], [3, 1, 2, 4], [3, 2, 1, 4]]
def wit5 : List (List Int) := [[1, 2, 3, 4, 5], [1, 2, 4, 3, 5], [1, 3, 2, 4, 5], [1, 4, 2, 3, 5], [1, 4, 3, 2, 5], [2, 1, 3, 4, 5], [2, 1, 4, 3, 5], [3, 1, 2, 4, 5], [3, 2, 1, 4, 5], [4, 1, 2, 3, 5], [4, 1, 3, 2, 5], [4, 2, 1, 3, 5], [4, 3, 1, 2, 5], [4, 3, 2, 1, 5]]
def wit6 : List (List Int) := [[1, 2, 3, 4, 5, 6], [1, 2, 3, 5, 4, 6], [1, 2, 4, 3, 5, 6], [1, 2, 5, 3, 4, 6], [1, 2, 5, 4, 3, 6], [1, 3, 2, 4, 5, 6], [1, 3, 2, 5, 4, 6], [1, 4, 2, 3, 5, 6], [1, 4, 3, 2, 5, 6], [1, 5, 2, 3, 4, 6], [1, 5, 2, 4, 3, 6], [1, 5, 3, 2, 4, 6], [1, 5, 4, 2, 3, 6], [1, 5, 4, 3, 2, 6], [2, 1, 3, 4, 5, 6], [2, 1, 3, 5, 4, 6], [2, 1, 4, 3, 5, 6], [2, 1, 5, 3, 4, 6], [2, 1, 5, 4, 3, 6], [3, 1, 2, 4, 5, 6], [3, 1, 2, 5, 4, 6], [3, 2, 1, 4, 5, 6], [3, 2, 1, 5, 4, 6], [4, 1, 2, 3, 5, 6], [4, 1, 3, 2, 5, 6], [4, 2, 1, 3, 5, 6], [4, 3, 1, 2, 5, 6], [4, 3, 2, 1, 5, 6], [5, 1, 2, 3, 4, 6], [5, 1, 2, 4, 3, 6], [5, 1, 3, 2, 4, 6], [5, 1, 4, 2, 3, 6], [5, 1, 4, 3, 2, 6], [5, 2, 1, 3, 4, 6], [5, 2, 1, 4, 3, 6], [5, 3, 1, 2, 4, 6], [5, 3, 2, 1, 4, 6], [5, 4, 1, 2, 3, 6], [5, 4, 1, 3, 2, 6], [5, 4, 2, 1, 3, 6], [5, 4, 3, 1, 2, 6], [5, 4, 3, 2, 1, 6]]
def chkW (n : Nat) (W : List (List Int)) : Bool := (subs (pairsOf n)).all fun ps => !(barsL n ps).isEmpty || (W.map seenP).contains ps
def chkO (n : Nat) (W : List (List Int)) : Bool := W.all fun o => (itO n n).contains o
theorem w1 : chkW 1 wit1 = true := by decide +kernel
theorem o1 : chkO 1 wit1 = true := by decide +kernel
theorem w2 : chkW 2 wit2 = true := by decide +kernel
theorem o2 : chkO 2 wit2 = true := by decide +kernel
theorem w3 : chkW 3 wit3 = true := by decide +kernel
theorem o3 : chkO 3 wit3 = true := by decide +kernel
theorem w4 : chkW 4 wit4 = true := by decide +kernel
theorem o4 : chkO 4 wit4 = true := by decide +kernel
theorem w5 : chkW 5 wit5 = true := by decide +kernel
theorem o5 : chkO 5 wit5 = true := by decide +kernel
theorem w6 : chkW 6 wit6 = true := by decide +kernel
theorem o6 : chkO 6 wit6 = true := by decide +kernel
theorem mem_subs : ∀ {l qs : List (Int × Int)}, l.Pairwise ltP → qs.Sublist l → (∀ p ∈ l, p.2 = p.1 + 1 → p ∈ qs) → qs ∈ subs l
  | [], qs, _, h, _ => by
    cases h
    exact List.mem_singleton.mpr rfl
  | p :: l, qs, hp, h, ha => by
    rw [List.pairwise_cons] at hp
    unfold subs
    cases h with
    | cons _ h =>
      have hn : p ∉ qs := fun hm => ltP_irr (hp.1 p (h.subset hm))
      have hne : ¬ p.2 = p.1 + 1 := fun e => hn (ha p (List.mem_cons_self ..) e)
      rw [if_neg hne]
      exact List.mem_append_left _ (mem_subs hp.2 h fun q hq => ha q (List.mem_cons_of_mem _ hq))
    | @cons_cons qs' _ _ h =>
      have hr : qs' ∈ subs l := mem_subs hp.2 h fun q hq e => by
        rcases List.mem_cons.mp (ha q (List.mem_cons_of_mem _ hq) e) with rfl | h'
        · exact absurd (hp.1 q hq) ltP_irr
        · exact h'
      split
      · exact List.mem_map.mpr ⟨qs', hr, rfl⟩
      · exact List.mem_append_right _ (List.mem_map.mpr ⟨qs', hr, rfl⟩)
theorem sound_up {n : Nat} {W : List (List Int)} (hw : chkW n W = true) (ho : chkO n W = true) {ps : List (Int × Int)} (h : Lot n ps) (hs : (barsL n ps).isEmpty = true) : ∃ o ∈ itO n n, seenP o = ps := by
  have hm : ps ∈ subs (pairsOf n) := by
    refine mem_subs (pairs_lot _).srt h.subl fun p hp e => ?_
    have hp := mem_pairs.mp hp
    have h0 : apartL n ps = [] := by
      rw [List.isEmpty_iff] at hs
      unfold barsL at hs
      exact (List.append_eq_nil_iff.mp (List.append_eq_nil_iff.mp hs).1).1
    unfold apartL at h0
    rw [List.map_eq_nil_iff, List.filter_eq_nil_iff] at h0
    have := h0 p.1 (mem_ran.mpr (by omega))
    have e' : p = (p.1, p.1 + 1) := by rw [← e]
    rw [e']
    simpa using this
  have := List.all_eq_true.mp hw ps hm
  rw [hs, Bool.not_true, Bool.false_or, List.contains_iff_mem] at this
  obtain ⟨o, h1, h2⟩ := List.mem_map.mp this
  have := List.all_eq_true.mp ho o h1
  rw [List.contains_iff_mem] at this
  exact ⟨o, this, h2⟩
theorem sound6 {n : Nat} (h1 : 1 ≤ n) (h6 : n ≤ 6) {ps : List (Int × Int)} (h : Lot n ps) (hs : (barsL n ps).isEmpty = true) : ∃ o ∈ itO n n, seenP o = ps := by
  match n, h1, h6 with
  | 1, _, _ => exact sound_up w1 o1 h hs
  | 2, _, _ => exact sound_up w2 o2 h hs
  | 3, _, _ => exact sound_up w3 o3 h hs
  | 4, _, _ => exact sound_up w4 o4 h hs
  | 5, _, _ => exact sound_up w5 o5 h hs
  | 6, _, _ => exact sound_up w6 o6 h hs
end LK


set_option maxHeartbeats 4000000
namespace LK
open PySem L2 G
theorem ups_keys {d : BL} {o : List Int} {ps : List (Int × Int)} : ps ∈ (ups d o).map (·.1) ↔ ps ∈ d.map (·.1) ∨ ps = seenP o := by
  unfold ups
  split
  · next ha =>
    have e : (d.map fun e => if e.1 = seenP o then (e.1, e.2 ++ [o]) else e).map (·.1) = d.map (·.1) := by
      rw [List.map_map]
      refine List.map_congr_left fun e _ => ?_
      show (if e.1 = seenP o then (e.1, e.2 ++ [o]) else e).1 = e.1
      split <;> rfl
    rw [e]
    constructor
    · exact .inl
    · rintro (h | rfl)
      · exact h
      · obtain ⟨x, hx, he⟩ := List.any_eq_true.mp ha
        have he := of_decide_eq_true he
        exact List.mem_map.mpr ⟨x, hx, he⟩
  · rw [List.map_append, List.mem_append]
    simp
theorem fold_keys {ps : List (Int × Int)} : ∀ (os : List (List Int)) (d : BL), ps ∈ (os.foldl ups d).map (·.1) ↔ ps ∈ d.map (·.1) ∨ ∃ o ∈ os, seenP o = ps
  | [], d => by simp
  | o :: os, d => by
    rw [List.foldl_cons, fold_keys os, ups_keys]
    constructor
    · rintro ((h | rfl) | ⟨o', h, e⟩)
      · exact .inl h
      · exact .inr ⟨o, List.mem_cons_self .., rfl⟩
      · exact .inr ⟨o', List.mem_cons_of_mem _ h, e⟩
    · rintro (h | ⟨o', h, e⟩)
      · exact .inl (.inl h)
      · rcases List.mem_cons.mp h with rfl | h
        · exact .inl (.inr e.symm)
        · exact .inr ⟨o', h, e⟩
theorem byL_keys {n : Nat} {ps : List (Int × Int)} : ps ∈ (byL n).map (·.1) ↔ ∃ o ∈ itO n n, seenP o = ps := by
  unfold byL
  rw [fold_keys]
  simp
theorem key_lot {n : Nat} {ps : List (Int × Int)} (h : ps ∈ (byL n).map (·.1)) : Lot n ps ∧ (barsL n ps).isEmpty = true := by
  obtain ⟨o, ho, rfl⟩ := byL_keys.mp h
  obtain ⟨h1, h2, _⟩ := itO_row n n o ho
  have hl := seenP_lot o
  have hs := seen_sound h2
  rw [h1] at hl hs
  exact ⟨hl, by rw [hs]; rfl⟩
theorem look_some_iff (d : BL) (ps : List (Int × Int)) : (lookP (d.map encE) (lotD ps)).isSome = decide (ps ∈ d.map (·.1)) := by
  rw [look_lot, Option.isSome_map]
  induction d with
  | nil => rfl
  | cons e d ih =>
    rw [List.find?_cons, List.map_cons]
    by_cases h : e.1 = ps
    · simp [h]
    · have h' : ¬ ps = e.1 := fun x => h x.symm
      simp only [h, decide_false, ih, List.mem_cons, h', false_or]
end LK


set_option maxHeartbeats 4000000
namespace LK
open PySem L2 G
theorem key_iff {n : Nat} (h1 : 1 ≤ n) (h6 : n ≤ 6) {ps : List (Int × Int)} (h : Lot n ps) : (lookP ((byL n).map encE) (lotD ps)).isSome = (barsL n ps).isEmpty := by
  rw [look_some_iff]
  cases hb : (barsL n ps).isEmpty with
  | true => exact decide_eq_true (byL_keys.mpr (sound6 h1 h6 h hb))
  | false =>
    refine decide_eq_false fun hm => ?_
    rw [(key_lot hm).2] at hb
    cases hb
end LK


set_option maxHeartbeats 4000000
namespace LK
open PySem L2 G
theorem alike_prs : ∀ ps qs : List (Int × Int), PySem.W.alikeAll (ps.map pr) (qs.map pr) = true
  | [], _ => by rw [List.map_nil, PySem.W.alikeAll]
  | p :: ps, [] => by rw [List.map_cons, List.map_nil, PySem.W.alikeAll]
  | p :: ps, q :: qs => by
    rw [List.map_cons, List.map_cons, PySem.W.alikeAll, alike_prs ps qs, Bool.and_true]
    rfl
theorem alike_lot (ps qs : List (Int × Int)) : PySem.W.alike (lotD ps) (lotD qs) = true := by
  unfold lotD
  rw [PySem.W.alike]
  exact alike_prs ps qs
theorem srt_lots {L : List (List (Int × Int))} (hl : L.length ≤ 1000) (hn : ∀ ps ∈ L, ps ≠ []) : srtOk (L.map lotD) = true := by
  unfold srtOk
  have hla : ∀ x ∈ L.map lotD, La 2 x := fun x hx => by
    obtain ⟨ps, _, rfl⟩ := List.mem_map.mp hx
    exact La.tuple (La.prs (n := 0) ps)
  rw [(La.list hla).lay (by omega), List.length_map, decide_eq_true (show L.length ≤ 1000000 by omega)]
  have h1 : (L.map lotD).all (fun x => PySem.W.alike x x) = true := by
    rw [List.all_map, List.all_eq_true]
    intro p _
    exact alike_lot p p
  have h2 : ∀ M : List (List (Int × Int)), srtAlike (M.map lotD) = true := by
    intro qs
    induction qs with
    | nil => rfl
    | cons q qs ih =>
      show ((qs.map lotD).all (fun y => PySem.W.alike (lotD q) y) && srtAlike (qs.map lotD)) = true
      rw [ih, List.all_map, Bool.and_true, List.all_eq_true]
      intro p _
      exact alike_lot q p
  have h3 : srtKind (L.map lotD) = true := by
    unfold srtKind
    rw [Bool.or_eq_true]
    left
    rw [List.all_map, List.all_eq_true]
    intro ps hps
    cases ps with
    | nil => exact absurd rfl (hn _ hps)
    | cons _ _ => rfl
  rw [h1, h2, h3]
  rfl
end LK


set_option maxHeartbeats 4000000
namespace LK
open PySem L2 G
/-! ### all lots of one to six houses, in the kernel -/
abbrev Ent := List (Int × Int) × Nat × List Int × List (Int × Nat)
def topsI (n : Nat) (os : List (List Int)) : List Int := os.map fun o => (o.idxOf (n : Int) : Int)
def cntT (n : Nat) (os : List (List Int)) : List (Int × Nat) := (sdI (topsI n os)).map fun t => (t, (topsI n os).count t)
def sumE (n : Nat) (e : List (Int × Int) × List (List Int)) : Ent := (e.1, e.2.length, e.2.headD [], cntT n e.2)
def dueD (ts : List (Int × Nat)) : List PyData := ts.map fun t => .tuple [.int t.1, .int (t.2 : Int)]
def runE (n : Nat) (t : Ent) : Bool :=
  (match f_how_many [.p (.int n), .p (lotD t.1)] [] with
    | .ok (.p x) [] => sameD (.int (t.2.1 : Int)) x
    | _ => false) &&
  ((match f_first_order [.p (.int n), .p (lotD t.1)] [] with
    | .ok (.p x) [] => sameD (tp t.2.2.1) x
    | _ => false) &&
  (match f_highest [.p (.int n), .p (lotD t.1)] [] with
    | .ok (.r 0) [some (.lst ys)] => sameAll (dueD t.2.2.2) ys
    | _ => false))
def t1_0 : Ent := ([], 1, [1], [(0, 1)])
def tab1 : List Ent := [t1_0]
theorem r1_0 : runE 1 t1_0 = true := by decide +kernel
theorem all1 : ∀ t ∈ tab1, runE 1 t = true := by
  intro t h
  simp only [tab1, List.mem_cons, List.not_mem_nil, or_false] at h
  rcases h with rfl
  · exact r1_0
theorem sum1 : (byL 1).map (sumE 1) = tab1 := by decide +kernel
def t2_0 : Ent := ([(0, 1)], 2, [1, 2], [(0, 1), (1, 1)])
def tab2 : List Ent := [t2_0]
theorem r2_0 : runE 2 t2_0 = true := by decide +kernel
theorem all2 : ∀ t ∈ tab2, runE 2 t = true := by
  intro t h
  simp only [tab2, List.mem_cons, List.not_mem_nil, or_false] at h
  rcases h with rfl
  · exact r2_0
theorem sum2 : (byL 2).map (sumE 2) = tab2 := by decide +kernel
def t3_0 : Ent := ([(0, 1), (1, 2)], 4, [1, 2, 3], [(0, 1), (1, 2), (2, 1)])
def t3_1 : Ent := ([(0, 1), (0, 2), (1, 2)], 2, [2, 1, 3], [(0, 1), (2, 1)])
def tab3 : List Ent := [t3_0, t3_1]
theorem r3_0 : runE 3 t3_0 = true := by decide +kernel
theorem r3_1 : runE 3 t3_1 = true := by decide +kernel
theorem all3 : ∀ t ∈ tab3, runE 3 t = true := by
  intro t h
  simp only [tab3, List.mem_cons, List.not_mem_nil, or_false] at h
  rcases h with rfl | rfl
  · exact r3_0
  · exact r3_1
theorem sum3 : (byL 3).map (sumE 3) = tab3 := by decide +kernel
def t4_0 : Ent := ([(0, 1), (1, 2), (2, 3)], 8, [1, 2, 3, 4], [(0, 1), (1, 3), (2, 3), (3, 1)])
def t4_1 : Ent := ([(0, 1), (1, 2), (1, 3), (2, 3)], 6, [1, 3, 2, 4], [(0, 1), (1, 3), (3, 2)])
def t4_2 : Ent := ([(0, 1), (0, 2), (1, 2), (2, 3)], 6, [2, 1, 3, 4], [(0, 2), (2, 3), (3, 1)])
def t4_3 : Ent := ([(0, 1), (0, 2), (0, 3), (1, 2), (2, 3)], 2, [3, 1, 2, 4], [(0, 1), (3, 1)])
def t4_4 : Ent := ([(0, 1), (0, 3), (1, 2), (1, 3), (2, 3)], 2, [3, 2, 1, 4], [(0, 1), (3, 1)])
def tab4 : List Ent := [t4_0, t4_1, t4_2, t4_3, t4_4]
theorem r4_0 : runE 4 t4_0 = true := by decide +kernel
theorem r4_1 : runE 4 t4_1 = true := by decide +kernel
theorem r4_2 : runE 4 t4_2 = true := by decide +kernel
theorem r4_3 : runE 4 t4_3 = true := by decide +kernel
theorem r4_4 : runE 4 t4_4 = true := by decide +kernel
theorem all4 : ∀ t ∈ tab4, runE 4 t = true := by
  intro t h
  simp only [tab4, List.mem_cons, List.not_mem_nil, or_false] at h
  rcases h with rfl | rfl | rfl | rfl | rfl
  · exact r4_0
  · exact r4_1
  · exact r4_2
  · exact r4_3
  · exact r4_4
theorem sum4 : (byL 4).map (sumE 4) = tab4 := by decide +kernel
def t5_0 : Ent := ([(0, 1), (1, 2), (2, 3), (3, 4)], 16, [1, 2, 3, 4, 5], [(0, 1), (1, 4), (2, 6), (3, 4), (4, 1)])
def t5_1 : Ent := ([(0, 1), (1, 2), (2, 3), (2, 4), (3, 4)], 14, [1, 2, 4, 3, 5], [(0, 1), (1, 4), (2, 6), (4, 3)])
def t5_2 : Ent := ([(0, 1), (1, 2), (1, 3), (2, 3), (3, 4)], 20, [1, 3, 2, 4, 5], [(0, 2), (1, 8), (3, 8), (4, 2)])
def t5_3 : Ent := ([(0, 1), (1, 2), (1, 3), (1, 4), (2, 3), (3, 4)], 8, [1, 4, 2, 3, 5], [(0, 1), (1, 4), (4, 3)])
def t5_4 : Ent := ([(0, 1), (1, 2), (1, 4), (2, 3), (2, 4), (3, 4)], 8, [1, 4, 3, 2, 5], [(0, 1), (1, 4), (4, 3)])
def t5_5 : Ent := ([(0, 1), (0, 2), (1, 2), (2, 3), (3, 4)], 14, [2, 1, 3, 4, 5], [(0, 3), (2, 6), (3, 4), (4, 1)])
def t5_6 : Ent := ([(0, 1), (0, 2), (1, 2), (2, 3), (2, 4), (3, 4)], 12, [2, 1, 4, 3, 5], [(0, 3), (2, 6), (4, 3)])
def t5_7 : Ent := ([(0, 1), (0, 2), (0, 3), (1, 2), (2, 3), (3, 4)], 8, [3, 1, 2, 4, 5], [(0, 3), (3, 4), (4, 1)])
def t5_8 : Ent := ([(0, 1), (0, 3), (1, 2), (1, 3), (2, 3), (3, 4)], 8, [3, 2, 1, 4, 5], [(0, 3), (3, 4), (4, 1)])
def t5_9 : Ent := ([(0, 1), (0, 2), (0, 3), (0, 4), (1, 2), (2, 3), (3, 4)], 2, [4, 1, 2, 3, 5], [(0, 1), (4, 1)])
def t5_10 : Ent := ([(0, 1), (0, 2), (0, 4), (1, 2), (2, 3), (2, 4), (3, 4)], 4, [4, 1, 3, 2, 5], [(0, 2), (4, 2)])
def t5_11 : Ent := ([(0, 1), (0, 3), (0, 4), (1, 2), (1, 3), (2, 3), (3, 4)], 2, [4, 2, 1, 3, 5], [(0, 1), (4, 1)])
def t5_12 : Ent := ([(0, 1), (0, 4), (1, 2), (1, 3), (1, 4), (2, 3), (3, 4)], 2, [4, 3, 1, 2, 5], [(0, 1), (4, 1)])
def t5_13 : Ent := ([(0, 1), (0, 4), (1, 2), (1, 4), (2, 3), (2, 4), (3, 4)], 2, [4, 3, 2, 1, 5], [(0, 1), (4, 1)])
def tab5 : List Ent := [t5_0, t5_1, t5_2, t5_3, t5_4, t5_5, t5_6, t5_7, t5_8, t5_9, t5_10, t5_11, t5_12, t5_13]
theorem r5_0 : runE 5 t5_0 = true := by decide +kernel
theorem r5_1 : runE 5 t5_1 = true := by decide +kernel
theorem r5_2 : runE 5 t5_2 = true := by decide +kernel
theorem r5_3 : runE 5 t5_3 = true := by decide +kernel
theorem r5_4 : runE 5 t5_4 = true := by decide +kernel
theorem r5_5 : runE 5 t5_5 = true := by decide +kernel
theorem r5_6 : runE 5 t5_6 = true := by decide +kernel
theorem r5_7 : runE 5 t5_7 = true := by decide +kernel
theorem r5_8 : runE 5 t5_8 = true := by decide +kernel
theorem r5_9 : runE 5 t5_9 = true := by decide +kernel
theorem r5_10 : runE 5 t5_10 = true := by decide +kernel
theorem r5_11 : runE 5 t5_11 = true := by decide +kernel
theorem r5_12 : runE 5 t5_12 = true := by decide +kernel
theorem r5_13 : runE 5 t5_13 = true := by decide +kernel
theorem all5 : ∀ t ∈ tab5, runE 5 t = true := by
  intro t h
  simp only [tab5, List.mem_cons, List.not_mem_nil, or_false] at h
  rcases h with rfl | rfl | rfl | rfl | rfl | rfl | rfl | rfl | rfl | rfl | rfl | rfl | rfl | rfl
  · exact r5_0
  · exact r5_1
  · exact r5_2
  · exact r5_3
  · exact r5_4
  · exact r5_5
  · exact r5_6
  · exact r5_7
  · exact r5_8
  · exact r5_9
  · exact r5_10
  · exact r5_11
  · exact r5_12
  · exact r5_13
theorem sum5 : (byL 5).map (sumE 5) = tab5 := by decide +kernel
def t6_0 : Ent := ([(0, 1), (1, 2), (2, 3), (3, 4), (4, 5)], 32, [1, 2, 3, 4, 5, 6], [(0, 1), (1, 5), (2, 10), (3, 10), (4, 5), (5, 1)])
def t6_1 : Ent := ([(0, 1), (1, 2), (2, 3), (3, 4), (3, 5), (4, 5)], 30, [1, 2, 3, 5, 4, 6], [(0, 1), (1, 5), (2, 10), (3, 10), (5, 4)])
def t6_2 : Ent := ([(0, 1), (1, 2), (2, 3), (2, 4), (3, 4), (4, 5)], 50, [1, 2, 4, 3, 5, 6], [(0, 2), (1, 10), (2, 20), (4, 15), (5, 3)])
def t6_3 : Ent := ([(0, 1), (1, 2), (2, 3), (2, 4), (2, 5), (3, 4), (4, 5)], 22, [1, 2, 5, 3, 4, 6], [(0, 1), (1, 5), (2, 10), (5, 6)])
def t6_4 : Ent := ([(0, 1), (1, 2), (2, 3), (2, 5), (3, 4), (3, 5), (4, 5)], 22, [1, 2, 5, 4, 3, 6], [(0, 1), (1, 5), (2, 10), (5, 6)])
def t6_5 : Ent := ([(0, 1), (1, 2), (1, 3), (2, 3), (3, 4), (4, 5)], 50, [1, 3, 2, 4, 5, 6], [(0, 3), (1, 15), (3, 20), (4, 10), (5, 2)])
def t6_6 : Ent := ([(0, 1), (1, 2), (1, 3), (2, 3), (3, 4), (3, 5), (4, 5)], 46, [1, 3, 2, 5, 4, 6], [(0, 3), (1, 15), (3, 20), (5, 8)])
def t6_7 : Ent := ([(0, 1), (1, 2), (1, 3), (1, 4), (2, 3), (3, 4), (4, 5)], 36, [1, 4, 2, 3, 5, 6], [(0, 3), (1, 15), (4, 15), (5, 3)])
def t6_8 : Ent := ([(0, 1), (1, 2), (1, 4), (2, 3), (2, 4), (3, 4), (4, 5)], 36, [1, 4, 3, 2, 5, 6], [(0, 3), (1, 15), (4, 15), (5, 3)])
def t6_9 : Ent := ([(0, 1), (1, 2), (1, 3), (1, 4), (1, 5), (2, 3), (3, 4), (4, 5)], 10, [1, 5, 2, 3, 4, 6], [(0, 1), (1, 5), (5, 4)])
def t6_10 : Ent := ([(0, 1), (1, 2), (1, 3), (1, 5), (2, 3), (3, 4), (3, 5), (4, 5)], 20, [1, 5, 2, 4, 3, 6], [(0, 2), (1, 10), (5, 8)])
def t6_11 : Ent := ([(0, 1), (1, 2), (1, 4), (1, 5), (2, 3), (2, 4), (3, 4), (4, 5)], 10, [1, 5, 3, 2, 4, 6], [(0, 1), (1, 5), (5, 4)])
def t6_12 : Ent := ([(0, 1), (1, 2), (1, 5), (2, 3), (2, 4), (2, 5), (3, 4), (4, 5)], 10, [1, 5, 4, 2, 3, 6], [(0, 1), (1, 5), (5, 4)])
def t6_13 : Ent := ([(0, 1), (1, 2), (1, 5), (2, 3), (2, 5), (3, 4), (3, 5), (4, 5)], 10, [1, 5, 4, 3, 2, 6], [(0, 1), (1, 5), (5, 4)])
def t6_14 : Ent := ([(0, 1), (0, 2), (1, 2), (2, 3), (3, 4), (4, 5)], 30, [2, 1, 3, 4, 5, 6], [(0, 4), (2, 10), (3, 10), (4, 5), (5, 1)])
def t6_15 : Ent := ([(0, 1), (0, 2), (1, 2), (2, 3), (3, 4), (3, 5), (4, 5)], 28, [2, 1, 3, 5, 4, 6], [(0, 4), (2, 10), (3, 10), (5, 4)])
def t6_16 : Ent := ([(0, 1), (0, 2), (1, 2), (2, 3), (2, 4), (3, 4), (4, 5)], 46, [2, 1, 4, 3, 5, 6], [(0, 8), (2, 20), (4, 15), (5, 3)])
def t6_17 : Ent := ([(0, 1), (0, 2), (1, 2), (2, 3), (2, 4), (2, 5), (3, 4), (4, 5)], 20, [2, 1, 5, 3, 4, 6], [(0, 4), (2, 10), (5, 6)])
def t6_18 : Ent := ([(0, 1), (0, 2), (1, 2), (2, 3), (2, 5), (3, 4), (3, 5), (4, 5)], 20, [2, 1, 5, 4, 3, 6], [(0, 4), (2, 10), (5, 6)])
def t6_19 : Ent := ([(0, 1), (0, 2), (0, 3), (1, 2), (2, 3), (3, 4), (4, 5)], 22, [3, 1, 2, 4, 5, 6], [(0, 6), (3, 10), (4, 5), (5, 1)])
def t6_20 : Ent := ([(0, 1), (0, 2), (0, 3), (1, 2), (2, 3), (3, 4), (3, 5), (4, 5)], 20, [3, 1, 2, 5, 4, 6], [(0, 6), (3, 10), (5, 4)])
def t6_21 : Ent := ([(0, 1), (0, 3), (1, 2), (1, 3), (2, 3), (3, 4), (4, 5)], 22, [3, 2, 1, 4, 5, 6], [(0, 6), (3, 10), (4, 5), (5, 1)])
def t6_22 : Ent := ([(0, 1), (0, 3), (1, 2), (1, 3), (2, 3), (3, 4), (3, 5), (4, 5)], 20, [3, 2, 1, 5, 4, 6], [(0, 6), (3, 10), (5, 4)])
def t6_23 : Ent := ([(0, 1), (0, 2), (0, 3), (0, 4), (1, 2), (2, 3), (3, 4), (4, 5)], 10, [4, 1, 2, 3, 5, 6], [(0, 4), (4, 5), (5, 1)])
def t6_24 : Ent := ([(0, 1), (0, 2), (0, 4), (1, 2), (2, 3), (2, 4), (3, 4), (4, 5)], 20, [4, 1, 3, 2, 5, 6], [(0, 8), (4, 10), (5, 2)])
def t6_25 : Ent := ([(0, 1), (0, 3), (0, 4), (1, 2), (1, 3), (2, 3), (3, 4), (4, 5)], 10, [4, 2, 1, 3, 5, 6], [(0, 4), (4, 5), (5, 1)])
def t6_26 : Ent := ([(0, 1), (0, 4), (1, 2), (1, 3), (1, 4), (2, 3), (3, 4), (4, 5)], 10, [4, 3, 1, 2, 5, 6], [(0, 4), (4, 5), (5, 1)])
def t6_27 : Ent := ([(0, 1), (0, 4), (1, 2), (1, 4), (2, 3), (2, 4), (3, 4), (4, 5)], 10, [4, 3, 2, 1, 5, 6], [(0, 4), (4, 5), (5, 1)])
def t6_28 : Ent := ([(0, 1), (0, 2), (0, 3), (0, 4), (0, 5), (1, 2), (2, 3), (3, 4), (4, 5)], 2, [5, 1, 2, 3, 4, 6], [(0, 1), (5, 1)])
def t6_29 : Ent := ([(0, 1), (0, 2), (0, 3), (0, 5), (1, 2), (2, 3), (3, 4), (3, 5), (4, 5)], 6, [5, 1, 2, 4, 3, 6], [(0, 3), (5, 3)])
def t6_30 : Ent := ([(0, 1), (0, 2), (0, 4), (0, 5), (1, 2), (2, 3), (2, 4), (3, 4), (4, 5)], 4, [5, 1, 3, 2, 4, 6], [(0, 2), (5, 2)])
def t6_31 : Ent := ([(0, 1), (0, 2), (0, 5), (1, 2), (2, 3), (2, 4), (2, 5), (3, 4), (4, 5)], 6, [5, 1, 4, 2, 3, 6], [(0, 3), (5, 3)])
def t6_32 : Ent := ([(0, 1), (0, 2), (0, 5), (1, 2), (2, 3), (2, 5), (3, 4), (3, 5), (4, 5)], 6, [5, 1, 4, 3, 2, 6], [(0, 3), (5, 3)])
def t6_33 : Ent := ([(0, 1), (0, 3), (0, 4), (0, 5), (1, 2), (1, 3), (2, 3), (3, 4), (4, 5)], 2, [5, 2, 1, 3, 4, 6], [(0, 1), (5, 1)])
def t6_34 : Ent := ([(0, 1), (0, 3), (0, 5), (1, 2), (1, 3), (2, 3), (3, 4), (3, 5), (4, 5)], 6, [5, 2, 1, 4, 3, 6], [(0, 3), (5, 3)])
def t6_35 : Ent := ([(0, 1), (0, 4), (0, 5), (1, 2), (1, 3), (1, 4), (2, 3), (3, 4), (4, 5)], 2, [5, 3, 1, 2, 4, 6], [(0, 1), (5, 1)])
def t6_36 : Ent := ([(0, 1), (0, 4), (0, 5), (1, 2), (1, 4), (2, 3), (2, 4), (3, 4), (4, 5)], 2, [5, 3, 2, 1, 4, 6], [(0, 1), (5, 1)])
def t6_37 : Ent := ([(0, 1), (0, 5), (1, 2), (1, 3), (1, 4), (1, 5), (2, 3), (3, 4), (4, 5)], 2, [5, 4, 1, 2, 3, 6], [(0, 1), (5, 1)])
def t6_38 : Ent := ([(0, 1), (0, 5), (1, 2), (1, 3), (1, 5), (2, 3), (3, 4), (3, 5), (4, 5)], 4, [5, 4, 1, 3, 2, 6], [(0, 2), (5, 2)])
def t6_39 : Ent := ([(0, 1), (0, 5), (1, 2), (1, 4), (1, 5), (2, 3), (2, 4), (3, 4), (4, 5)], 2, [5, 4, 2, 1, 3, 6], [(0, 1), (5, 1)])
def t6_40 : Ent := ([(0, 1), (0, 5), (1, 2), (1, 5), (2, 3), (2, 4), (2, 5), (3, 4), (4, 5)], 2, [5, 4, 3, 1, 2, 6], [(0, 1), (5, 1)])
def t6_41 : Ent := ([(0, 1), (0, 5), (1, 2), (1, 5), (2, 3), (2, 5), (3, 4), (3, 5), (4, 5)], 2, [5, 4, 3, 2, 1, 6], [(0, 1), (5, 1)])
def tab6 : List Ent := [t6_0, t6_1, t6_2, t6_3, t6_4, t6_5, t6_6, t6_7, t6_8, t6_9, t6_10, t6_11, t6_12, t6_13, t6_14, t6_15, t6_16, t6_17, t6_18, t6_19, t6_20, t6_21, t6_22, t6_23, t6_24, t6_25, t6_26, t6_27, t6_28, t6_29, t6_30, t6_31, t6_32, t6_33, t6_34, t6_35, t6_36, t6_37, t6_38, t6_39, t6_40, t6_41]
theorem r6_0 : runE 6 t6_0 = true := by decide +kernel
theorem r6_1 : runE 6 t6_1 = true := by decide +kernel
theorem r6_2 : runE 6 t6_2 = true := by decide +kernel
theorem r6_3 : runE 6 t6_3 = true := by decide +kernel
theorem r6_4 : runE 6 t6_4 = true := by decide +kernel
theorem r6_5 : runE 6 t6_5 = true := by decide +kernel
theorem r6_6 : runE 6 t6_6 = true := by decide +kernel
theorem r6_7 : runE 6 t6_7 = true := by decide +kernel
theorem r6_8 : runE 6 t6_8 = true := by decide +kernel
theorem r6_9 : runE 6 t6_9 = true := by decide +kernel
theorem r6_10 : runE 6 t6_10 = true := by decide +kernel
theorem r6_11 : runE 6 t6_11 = true := by decide +kernel
theorem r6_12 : runE 6 t6_12 = true := by decide +kernel
theorem r6_13 : runE 6 t6_13 = true := by decide +kernel
theorem r6_14 : runE 6 t6_14 = true := by decide +kernel
theorem r6_15 : runE 6 t6_15 = true := by decide +kernel
theorem r6_16 : runE 6 t6_16 = true := by decide +kernel
theorem r6_17 : runE 6 t6_17 = true := by decide +kernel
theorem r6_18 : runE 6 t6_18 = true := by decide +kernel
theorem r6_19 : runE 6 t6_19 = true := by decide +kernel
theorem r6_20 : runE 6 t6_20 = true := by decide +kernel
theorem r6_21 : runE 6 t6_21 = true := by decide +kernel
theorem r6_22 : runE 6 t6_22 = true := by decide +kernel
theorem r6_23 : runE 6 t6_23 = true := by decide +kernel
theorem r6_24 : runE 6 t6_24 = true := by decide +kernel
theorem r6_25 : runE 6 t6_25 = true := by decide +kernel
theorem r6_26 : runE 6 t6_26 = true := by decide +kernel
theorem r6_27 : runE 6 t6_27 = true := by decide +kernel
theorem r6_28 : runE 6 t6_28 = true := by decide +kernel
theorem r6_29 : runE 6 t6_29 = true := by decide +kernel
theorem r6_30 : runE 6 t6_30 = true := by decide +kernel
theorem r6_31 : runE 6 t6_31 = true := by decide +kernel
theorem r6_32 : runE 6 t6_32 = true := by decide +kernel
theorem r6_33 : runE 6 t6_33 = true := by decide +kernel
theorem r6_34 : runE 6 t6_34 = true := by decide +kernel
theorem r6_35 : runE 6 t6_35 = true := by decide +kernel
theorem r6_36 : runE 6 t6_36 = true := by decide +kernel
theorem r6_37 : runE 6 t6_37 = true := by decide +kernel
theorem r6_38 : runE 6 t6_38 = true := by decide +kernel
theorem r6_39 : runE 6 t6_39 = true := by decide +kernel
theorem r6_40 : runE 6 t6_40 = true := by decide +kernel
theorem r6_41 : runE 6 t6_41 = true := by decide +kernel
theorem all6 : ∀ t ∈ tab6, runE 6 t = true := by
  intro t h
  simp only [tab6, List.mem_cons, List.not_mem_nil, or_false] at h
  rcases h with rfl | rfl | rfl | rfl | rfl | rfl | rfl | rfl | rfl | rfl | rfl | rfl | rfl | rfl | rfl | rfl | rfl | rfl | rfl | rfl | rfl | rfl | rfl | rfl | rfl | rfl | rfl | rfl | rfl | rfl | rfl | rfl | rfl | rfl | rfl | rfl | rfl | rfl | rfl | rfl | rfl | rfl
  · exact r6_0
  · exact r6_1
  · exact r6_2
  · exact r6_3
  · exact r6_4
  · exact r6_5
  · exact r6_6
  · exact r6_7
  · exact r6_8
  · exact r6_9
  · exact r6_10
  · exact r6_11
  · exact r6_12
  · exact r6_13
  · exact r6_14
  · exact r6_15
  · exact r6_16
  · exact r6_17
  · exact r6_18
  · exact r6_19
  · exact r6_20
  · exact r6_21
  · exact r6_22
  · exact r6_23
  · exact r6_24
  · exact r6_25
  · exact r6_26
  · exact r6_27
  · exact r6_28
  · exact r6_29
  · exact r6_30
  · exact r6_31
  · exact r6_32
  · exact r6_33
  · exact r6_34
  · exact r6_35
  · exact r6_36
  · exact r6_37
  · exact r6_38
  · exact r6_39
  · exact r6_40
  · exact r6_41
theorem sum6 : (byL 6).map (sumE 6) = tab6 := by decide +kernel
end LK


set_option maxHeartbeats 4000000
namespace LK
open PySem L2 G
/-! ### the first that bars, and whether a thing bars -/
structure BarOk (n : Int) (b : Bar) : Prop where
  nm : PyData.canLay0 (.str b.1) = true
  len : b.2.length = 2 ∨ b.2.length = 4
  inr : ∀ i ∈ b.2, 0 ≤ i ∧ i < n
theorem nm_apart : PyData.canLay0 (.str "apart") = true := by decide +kernel
theorem nm_cross : PyData.canLay0 (.str "cross") = true := by decide +kernel
theorem nm_alone : PyData.canLay0 (.str "alone") = true := by decide +kernel
theorem bars_ok {n : Int} {ps : List (Int × Int)} (h : Lot n ps) : ∀ b ∈ barsL n ps, BarOk n b := by
  intro b hb
  unfold barsL at hb
  rcases List.mem_append.mp hb with hb | hb
  · rcases List.mem_append.mp hb with hb | hb
    · obtain ⟨i, hi, rfl⟩ := List.mem_map.mp hb
      have := mem_ran.mp (List.mem_filter.mp hi).1
      refine ⟨nm_apart, .inl rfl, fun j hj => ?_⟩
      simp at hj
      omega
    · obtain ⟨p, hp, hb⟩ := List.mem_flatMap.mp hb
      obtain ⟨q, hq, rfl⟩ := List.mem_map.mp hb
      have h1 := h.inr p hp
      have h2 := h.inr q (List.mem_filter.mp hq).1
      refine ⟨nm_cross, .inr rfl, fun j hj => ?_⟩
      simp at hj
      omega
  · obtain ⟨p, hp, rfl⟩ := List.mem_map.mp hb
    have h1 := h.inr p (List.mem_filter.mp hp).1
    refine ⟨nm_alone, .inl rfl, fun j hj => ?_⟩
    simp at hj
    omega
theorem BarOk.sm {n : Int} {b : Bar} (h : BarOk n b) : Sm 1 (bd b) := by
  unfold bd Sm
  refine ⟨?_, fun x hx => ?_⟩
  · rw [List.length_cons, List.length_map]
    have := h.len
    omega
  · rcases List.mem_cons.mp hx with rfl | hx
    · unfold Sm; exact h.nm
    · obtain ⟨i, _, rfl⟩ := List.mem_map.mp hx
      unfold Sm; trivial
def firstB (n : Int) (ps : List (Int × Int)) : PyData := match barsL n ps with
  | [] => .none
  | b :: _ => bd b
theorem bars_la {n : Int} {ps : List (Int × Int)} (h : Lot n ps) : ∀ x ∈ (barsL n ps).map bd, La 1 x := by
  intro x hx
  obtain ⟨b, hb, rfl⟩ := List.mem_map.mp hx
  exact (bars_ok h b hb).sm.la
end LK


set_option maxHeartbeats 4000000
namespace LK
open PySem L2 G
/-! ### what the program tells of a lot -/
theorem tab_ok {n : Nat} (h1 : 1 ≤ n) (h6 : n ≤ 6) : ∀ e ∈ byL n, runE n (sumE n e) = true ∧ 0 < e.2.length ∧ e.2.length ≤ 60 := by
  have key : ∀ (m : Nat) (tab : List Ent), (byL m).map (sumE m) = tab → (∀ t ∈ tab, runE m t = true) → (tab.all fun t => decide (0 < t.2.1) && decide (t.2.1 ≤ 60)) = true → ∀ e ∈ byL m, runE m (sumE m e) = true ∧ 0 < e.2.length ∧ e.2.length ≤ 60 := by
    intro m tab hs hr hb e he
    have hm : sumE m e ∈ tab := by rw [← hs]; exact List.mem_map.mpr ⟨e, he, rfl⟩
    have := List.all_eq_true.mp hb _ hm
    rw [Bool.and_eq_true, decide_eq_true_eq, decide_eq_true_eq] at this
    exact ⟨hr _ hm, this.1, this.2⟩
  match n, h1, h6 with
  | 1, _, _ => exact key 1 tab1 sum1 all1 (by decide +kernel)
  | 2, _, _ => exact key 2 tab2 sum2 all2 (by decide +kernel)
  | 3, _, _ => exact key 3 tab3 sum3 all3 (by decide +kernel)
  | 4, _, _ => exact key 4 tab4 sum4 all4 (by decide +kernel)
  | 5, _, _ => exact key 5 tab5 sum5 all5 (by decide +kernel)
  | 6, _, _ => exact key 6 tab6 sum6 all6 (by decide +kernel)
theorem byL_len {n : Nat} (h1 : 1 ≤ n) (h6 : n ≤ 6) : 1 ≤ (byL n).length ∧ (byL n).length ≤ 42 := by
  have key : ∀ (m : Nat) (tab : List Ent), (byL m).map (sumE m) = tab → 1 ≤ tab.length → tab.length ≤ 42 → 1 ≤ (byL m).length ∧ (byL m).length ≤ 42 := by
    intro m tab hs a b
    have := congrArg List.length hs
    rw [List.length_map] at this
    omega
  match n, h1, h6 with
  | 1, _, _ => exact key 1 tab1 sum1 (by decide) (by decide)
  | 2, _, _ => exact key 2 tab2 sum2 (by decide) (by decide)
  | 3, _, _ => exact key 3 tab3 sum3 (by decide) (by decide)
  | 4, _, _ => exact key 4 tab4 sum4 (by decide) (by decide)
  | 5, _, _ => exact key 5 tab5 sum5 (by decide) (by decide)
  | 6, _, _ => exact key 6 tab6 sum6 (by decide) (by decide)
theorem tp_can (o : List Int) : (tp o).canLay0 = true := (La.tuple (La.ints (n := 0) o)).1
theorem run_e {n : Nat} {e : List (Int × Int) × List (List Int)} (h : runE n (sumE n e) = true) :
    f_how_many [.p (.int n), .p (lotD e.1)] [] = .ok (.p (.int (e.2.length : Int))) [] ∧ f_first_order [.p (.int n), .p (lotD e.1)] [] = .ok (.p (tp (e.2.headD []))) [] ∧ f_highest [.p (.int n), .p (lotD e.1)] [] = .ok (.r 0) [some (.lst (dueD (cntT n e.2)))] := by
  simp only [runE, sumE, Bool.and_eq_true] at h
  obtain ⟨h1, h2, h3⟩ := h
  refine ⟨?_, ?_, ?_⟩
  · split at h1
    · next x hx =>
      rw [hx, ← (sameD_iff (.int (e.2.length : Int)) x rfl).mp h1]
    · cases h1
  · split at h2
    · next x hx =>
      rw [hx, ← (sameD_iff (tp (e.2.headD [])) x (tp_can _)).mp h2]
    · cases h2
  · split at h3
    · next ys hx =>
      have hc : PyData.canLayAll0 (dueD (cntT n e.2)) = true := (La.all (n := 1) fun x hx => by
        obtain ⟨t, _, rfl⟩ := List.mem_map.mp hx
        exact La.tuple fun y hy => by
          simp only [List.mem_cons, List.not_mem_nil, or_false] at hy
          rcases hy with rfl | rfl <;> exact .int _).1
      rw [hx, ← (sameAll_iff _ _ hc).mp h3]
    · cases h3
/-! ### orders of an entry -/
theorem ups_from {d : BL} {o : List Int} {R : List Int → Prop} (h : ∀ e ∈ d, ∀ q ∈ e.2, R q) (ho : R o) : ∀ e ∈ ups d o, ∀ q ∈ e.2, R q := by
  intro e he q hq
  unfold ups at he
  split at he
  · obtain ⟨x, hx, rfl⟩ := List.mem_map.mp he
    split at hq
    · rcases List.mem_append.mp hq with hq | hq
      · exact h x hx q hq
      · rw [List.mem_singleton] at hq; rw [hq]; exact ho
    · exact h x hx q hq
  · rcases List.mem_append.mp he with he | he
    · exact h e he q hq
    · rw [List.mem_singleton] at he; subst he
      have hq : q ∈ [o] := hq
      rw [List.mem_singleton] at hq; rw [hq]; exact ho
theorem fold_from {R : List Int → Prop} : ∀ (os : List (List Int)) (d : BL), (∀ e ∈ d, ∀ q ∈ e.2, R q) → (∀ o ∈ os, R o) → ∀ e ∈ os.foldl ups d, ∀ q ∈ e.2, R q
  | [], d, h, _ => h
  | o :: os, d, h, ho => by
    rw [List.foldl_cons]
    exact fold_from os (ups d o) (ups_from h (ho o (List.mem_cons_self ..))) fun q hq => ho q (List.mem_cons_of_mem _ hq)
theorem nodup_leI : ∀ {xs ys : List Int}, xs.Nodup → (∀ x ∈ xs, x ∈ ys) → xs.length ≤ ys.length
  | [], _, _, _ => Nat.zero_le _
  | x :: xs, ys, h, s => by
    obtain ⟨h1, h2⟩ := List.nodup_cons.mp h
    have hx : x ∈ ys := s x List.mem_cons_self
    have := nodup_leI (xs := xs) (ys := ys.erase x) h2 fun y hy => (List.mem_erase_of_ne (fun e => h1 (by rw [← e]; exact hy))).mpr (s y (List.mem_cons_of_mem _ hy))
    rw [List.length_erase_of_mem hx] at this
    have := List.length_pos_of_mem hx
    rw [List.length_cons]; omega
theorem top_in {n : Nat} (h1 : 1 ≤ n) : ∀ e ∈ byL n, ∀ o ∈ e.2, (n : Int) ∈ o := by
  refine fold_from (itO n n) [] (fun e he => nomatch he) fun o ho => ?_
  obtain ⟨hl, hn, hb⟩ := itO_row n n o ho
  by_cases hm : (n : Int) ∈ o
  · exact hm
  · have := nodup_leI (ys := ran 1 (n - 1)) hn fun x hx => by
      have hx' := hb x hx
      have : x ≠ n := fun e => hm (by rw [← e]; exact hx)
      exact mem_ran.mpr (by omega)
    rw [ran_len] at this
    omega
/-! ### lots that can't be -/
theorem is_sound_eq {S : Sto} {n : Int} {ps : List (Int × Int)} (h : Lot n ps) (hl : ps.length ≤ 200) (h1 : 1 ≤ n) (h2 : n ≤ 12) : f_is_sound [.p (.int n), .p (.tuple (ps.map pr))] S = .ok (.p (.bool (barsL n ps).isEmpty)) S := by
  have e := fun S => gEq_nil (S := S) (bars_la h) (by omega)
  have e2 : ((barsL n ps).map bd).isEmpty = (barsL n ps).isEmpty := by cases barsL n ps <;> rfl
  simp only [e2] at e
  simp [f_is_sound, b_is_sound, fnOf, G.finish, mSeq, mIf, mTest, m2, m1, mVar, mC, mAsg, mRet, mNext, mDrop, mR, mP, mLst, mTup, mCons, mNil, pures, mCall, mCB, mCL, gN, gT, gsCons, gsNil, gSubT, gSet, gIx, gGt, gGe, gLt, gLe, gMod, gDiv, G.gSub, gAdd, gMul, gPow, gNeg, i2, okB, cPos, cDiv, cTrue, cMul, cPow, seqOf, datOf, toB, Res.bind, Res.nox, wp_ok, wp_bind, wp_nox, mNot, mAnd, mOr, mAndV, mNotV, mOrV, mIfE, mIsi, isTs, isT, gLen, gSeq, gSeqL, gList, gTuple, mMth, isLst, gApp, gPut, mFz, thaw, mSl, mPart, startL, all_bars_eq h hl h1 h2, e]
theorem none_e {n : Int} {ps : List (Int × Int)} (h : Lot n ps) (hl : ps.length ≤ 200) (h1 : 1 ≤ n) (h2 : n ≤ 12) (hb : (barsL n ps).isEmpty = false) :
    f_how_many [.p (.int n), .p (lotD ps)] [] = .ok (.p (.int 0)) [] ∧ f_first_order [.p (.int n), .p (lotD ps)] [] = .ok (.p .none) [] ∧ f_highest [.p (.int n), .p (lotD ps)] [] = .ok (.r 0) [some (.lst [])] := by
  unfold lotD
  refine ⟨?_, ?_, ?_⟩
  · simp [f_how_many, b_how_many, fnOf, G.finish, mSeq, mIf, mTest, m2, m1, mVar, mC, mAsg, mRet, mNext, mDrop, mR, mP, mLst, mTup, mCons, mNil, pures, mCall, mCB, mCL, gN, gT, gsCons, gsNil, gSubT, gSet, gIx, gGt, gGe, gLt, gLe, gMod, gDiv, G.gSub, gAdd, gMul, gPow, gNeg, i2, okB, cPos, cDiv, cTrue, cMul, cPow, seqOf, datOf, toB, Res.bind, Res.nox, wp_ok, wp_bind, wp_nox, mNot, mAnd, mOr, mAndV, mNotV, mOrV, mIfE, mIsi, isTs, isT, gLen, gSeq, gSeqL, gList, gTuple, mMth, isLst, gApp, gPut, mFz, thaw, mSl, mPart, startL, need_lot_eq h (by omega) h1 h2, is_sound_eq h hl h1 h2, hb]
  · simp [f_first_order, b_first_order, fnOf, G.finish, mSeq, mIf, mTest, m2, m1, mVar, mC, mAsg, mRet, mNext, mDrop, mR, mP, mLst, mTup, mCons, mNil, pures, mCall, mCB, mCL, gN, gT, gsCons, gsNil, gSubT, gSet, gIx, gGt, gGe, gLt, gLe, gMod, gDiv, G.gSub, gAdd, gMul, gPow, gNeg, i2, okB, cPos, cDiv, cTrue, cMul, cPow, seqOf, datOf, toB, Res.bind, Res.nox, wp_ok, wp_bind, wp_nox, mNot, mAnd, mOr, mAndV, mNotV, mOrV, mIfE, mIsi, isTs, isT, gLen, gSeq, gSeqL, gList, gTuple, mMth, isLst, gApp, gPut, mFz, thaw, mSl, mPart, startL, need_lot_eq h (by omega) h1 h2, is_sound_eq h hl h1 h2, hb]
  · simp [f_highest, b_highest, fnOf, G.finish, mSeq, mIf, mTest, m2, m1, mVar, mC, mAsg, mRet, mNext, mDrop, mR, mP, mLst, mTup, mCons, mNil, pures, mCall, mCB, mCL, gN, gT, gsCons, gsNil, gSubT, gSet, gIx, gGt, gGe, gLt, gLe, gMod, gDiv, G.gSub, gAdd, gMul, gPow, gNeg, i2, okB, cPos, cDiv, cTrue, cMul, cPow, seqOf, datOf, toB, Res.bind, Res.nox, wp_ok, wp_bind, wp_nox, mNot, mAnd, mOr, mAndV, mNotV, mOrV, mIfE, mIsi, isTs, isT, gLen, gSeq, gSeqL, gList, gTuple, mMth, isLst, gApp, gPut, mFz, thaw, mSl, mPart, startL, need_lot_eq h (by omega) h1 h2, is_sound_eq h hl h1 h2, hb, mov]
end LK


set_option maxHeartbeats 4000000
namespace LK
open PySem L2 G
theorem wp_cut {b : MS} {ρ : G.Loc} {S : Sto} {P : Fl × G.Loc → Sto → Prop} (h : wp (b ρ S) fun r S' => r.1 = .nx ∧ P (.nx, r.2.map (fgt S.length)) (S'.take S.length)) : wp (mCut b ρ S) P := by
  obtain ⟨⟨f, ρ'⟩, S', e, h1, h2⟩ := h
  simp only at h1
  subst h1
  unfold mCut
  rw [e]
  exact wp_ok.mpr h2
theorem same_refl {S : Sto} {n : Nat} {a : PyData} (h : Sm n a) (hn : n ≤ 5) : f_law_same 6 [.p a, .p a] S = .ok (.p (.bool true)) S := by
  rw [same_eq h h.la (by omega) (by omega) (by omega), (sameD_iff a a h.la.1).mpr rfl]
theorem sm_tp {n : Nat} (o : List Int) (h : o.length ≤ 1000) : Sm (n + 1) (tp o) := by
  unfold tp Sm
  refine ⟨by rw [List.length_map]; omega, fun x hx => ?_⟩
  obtain ⟨i, _, rfl⟩ := List.mem_map.mp hx
  cases n <;> (unfold Sm; trivial)
theorem wholes_ints : ∀ ns : List Int, wholes (ns.map PyData.int) = some ns
  | [] => rfl
  | n :: ns => by simp [wholes, wholes_ints ns]
theorem count_ints (t : Int) : ∀ ts : List Int, (ts.map PyData.int).countP (fun z => PyData.eqv z (.int t)) = ts.count t
  | [] => rfl
  | x :: ts => by
    rw [List.map_cons, List.countP_cons, List.count_cons, count_ints t ts]
    congr 1
theorem plain_ints : ∀ ts : List Int, PyData.plainAll (ts.map PyData.int) = true
  | [] => rfl
  | x :: ts => by
    show ((PyData.int x).plain && PyData.plainAll (ts.map PyData.int)) = true
    rw [plain_ints ts]; rfl
theorem gCount_ints {S : Sto} {t : Int} {ts : List Int} : gCount (.p (.list (ts.map PyData.int))) [.p (.int t)] S = .ok (.p (.int (ts.count t : Int))) S := by
  have h : ((lay (.list (ts.map PyData.int)) && lay (.int t)) && (PyData.plainAll (ts.map PyData.int) && (PyData.int t).plain)) = true := by
    rw [(La.list (La.ints (n := 0) ts)).lay (by omega), (La.int (n := 0) t).lay (by omega), plain_ints]
    rfl
  simp only [gCount, seqOf, datOf, h, if_true, count_ints]
theorem sm_due (ts : List (Int × Nat)) (h : ts.length ≤ 1000) : Sm 2 (.list (dueD ts)) := by
  unfold Sm
  refine ⟨by unfold dueD; rw [List.length_map]; omega, fun x hx => ?_⟩
  obtain ⟨t, _, rfl⟩ := List.mem_map.mp hx
  unfold Sm
  refine ⟨by simp, fun y hy => ?_⟩
  simp only [List.mem_cons, List.not_mem_nil, or_false] at hy
  rcases hy with rfl | rfl <;> (unfold Sm; trivial)
theorem callF_p {fn : Fn} {na : MA} {ρ : G.Loc} {S S1 : Sto} {xs : List PyData} {x : PyData} (h1 : na ρ S = .ok (xs.map .p) S1) (h2 : fn (xs.map .p) [] = .ok (.p x) []) : mCallF fn na ρ S = .ok (.p x) S1 := by
  have hp : ∀ xs : List PyData, pures (xs.map .p) = some xs := fun xs => by
    induction xs with
    | nil => rfl
    | cons x xs ih => show (pures (xs.map .p)).map (x :: ·) = _; rw [ih]; rfl
  unfold mCallF
  rw [h1]
  simp only [Res.bind, hp, h2]
theorem callF_r {fn : Fn} {na : MA} {ρ : G.Loc} {S S1 : Sto} {xs ys : List PyData} (h1 : na ρ S = .ok (xs.map .p) S1) (h2 : fn (xs.map .p) [] = .ok (.r 0) [some (.lst ys)]) : mCallF fn na ρ S = .ok (.r S1.length) (S1 ++ [some (.lst ys)]) := by
  have hp : ∀ xs : List PyData, pures (xs.map .p) = some xs := fun xs => by
    induction xs with
    | nil => rfl
    | cons x xs ih => show (pures (xs.map .p)).map (x :: ·) = _; rw [ih]; rfl
  unfold mCallF
  rw [h1]
  simp only [Res.bind, hp, h2]
theorem lot_wp {n : Nat} (h1 : 1 ≤ n) (h6 : n ≤ 6) {ps : List (Int × Int)} {o : Option Ob} {P : Fl × G.Loc → Sto → Prop} {d6 d7 d8 d9 d10 d11 d12 : Option D} {x0 x1 : PyData} {e : List (Int × Int) × List (List Int)} (hf : (byL n).find? (fun e => decide (e.1 = ps)) = some e)
    (q : ∀ d6 d7 d8 d9 d10 d11 d12, P (.nx, [some (.p x0), some (.p x1), some (.r 0), some (.p (.int n)), some (.p (.dict ((byL n).map encE))), some (.p (lotD ps)), d6, d7, d8, d9, d10, d11, d12, none, none]) [o]) :
    wp (mCut b_law_1 [some (.p x0), some (.p x1), some (.r 0), some (.p (.int n)), some (.p (.dict ((byL n).map encE))), some (.p (lotD ps)), d6, d7, d8, d9, d10, d11, d12, none, none] [o]) P := by
  have he := List.mem_of_find?_eq_some hf
  have hps : e.1 = ps := by simpa using List.find?_some hf
  obtain ⟨hrun, hpos, h60⟩ := tab_ok h1 h6 e he
  obtain ⟨r1, r2, r3⟩ := run_e hrun
  rw [hps] at r1 r2 r3
  have htop := top_in h1 e he
  obtain ⟨hd, os, eos⟩ : ∃ hd os, e.2 = hd :: os := by
    cases h : e.2 with
    | nil => rw [h] at hpos; exact absurd hpos (Nat.lt_irrefl 0)
    | cons a b => exact ⟨a, b, rfl⟩
  apply wp_cut
  unfold b_law_1
  apply wp_seq
  intro k1 hk1 _ _ _
  have hlk : lookP ((byL n).map encE) (lotD ps) = some (.list (e.2.map tp)) := by rw [look_lot, hf]; rfl
  have hko := kOk_lot (byL n) ps
  simp only [wp_asg, m2, mVar, wp_bind, wp_ok, List.getElem?_cons_succ, List.getElem?_cons_zero, gDGet, dctOf, hko, if_true, hlk, wp_gN, List.set_cons_succ, List.set_cons_zero]
  apply hk1
  apply wp_seq
  intro k2 hk2 _ _ _
  have c1 : mCallF f_how_many (mCons (mVar 3) (mCons (mVar 5) mNil)) [some (.p x0), some (.p x1), some (.r 0), some (.p (.int n)), some (.p (.dict ((byL n).map encE))), some (.p (lotD ps)), d6, some (.p (.list (e.2.map tp))), d8, d9, d10, d11, d12, none, none] [o] = .ok (.p (.int (e.2.length : Int))) [o] := callF_p (xs := [.int n, lotD ps]) rfl r1
  have c2 : mCallF f_first_order (mCons (mVar 3) (mCons (mVar 5) mNil)) [some (.p x0), some (.p x1), some (.r 0), some (.p (.int n)), some (.p (.dict ((byL n).map encE))), some (.p (lotD ps)), d6, some (.p (.list (e.2.map tp))), d8, d9, d10, d11, d12, none, none] [o] = .ok (.p (tp (e.2.headD []))) [o] := callF_p (xs := [.int n, lotD ps]) rfl r2
  have hat : atI (e.2.map tp) 0 = some (tp (e.2.headD [])) := by
    rw [eos]
    unfold atI ixN
    simp
  have hol : hd.length ≤ 1000 := by
    have hq : ∀ e ∈ byL n, ∀ o ∈ e.2, o.length = n := fold_from (R := fun o => o.length = n) (itO n n) [] (fun e he => nomatch he) fun o ho => (itO_row n n o ho).1
    have := hq e he hd (by rw [eos]; exact List.mem_cons_self ..)
    omega
  have hsm : Sm 2 (.list [.int (e.2.length : Int), tp (e.2.headD [])]) := by
    unfold Sm
    refine ⟨by simp, fun x hx => ?_⟩
    simp only [List.mem_cons, List.not_mem_nil, or_false] at hx
    rcases hx with rfl | rfl
    · unfold Sm; trivial
    · rw [eos]; exact sm_tp (n := 0) hd hol
  have hgl : ∀ S, gLen [.p (.list (e.2.map tp))] S = .ok (.p (.int (e.2.length : Int))) S := fun S => by simp only [gLen, gSeq, seqOf, List.length_map]
  have a1 : (mCons (mP (mLst (mCons (mCallF f_how_many (mCons (mVar 3) (mCons (mVar 5) mNil))) (mCons (mCallF f_first_order (mCons (mVar 3) (mCons (mVar 5) mNil))) mNil)))) (mCons (mP (mLst (mCons (mCB gLen (mCons (mVar 7) mNil)) (mCons (m2 gIx (mVar 7) (mC (.int 0))) mNil)))) mNil)) [some (.p x0), some (.p x1), some (.r 0), some (.p (.int n)), some (.p (.dict ((byL n).map encE))), some (.p (lotD ps)), d6, some (.p (.list (e.2.map tp))), d8, d9, d10, d11, d12, none, none] [o] = .ok [.p (.list [.int (e.2.length : Int), tp (e.2.headD [])]), .p (.list [.int (e.2.length : Int), tp (e.2.headD [])])] [o] := by
    have p1 : (mP (mLst (mCons (mCallF f_how_many (mCons (mVar 3) (mCons (mVar 5) mNil))) (mCons (mCallF f_first_order (mCons (mVar 3) (mCons (mVar 5) mNil))) mNil)))) [some (.p x0), some (.p x1), some (.r 0), some (.p (.int n)), some (.p (.dict ((byL n).map encE))), some (.p (lotD ps)), d6, some (.p (.list (e.2.map tp))), d8, d9, d10, d11, d12, none, none] [o] = .ok (.p (.list [.int (e.2.length : Int), tp (e.2.headD [])])) [o] := by
      have m1 : (mCons (mCallF f_how_many (mCons (mVar 3) (mCons (mVar 5) mNil))) (mCons (mCallF f_first_order (mCons (mVar 3) (mCons (mVar 5) mNil))) mNil)) [some (.p x0), some (.p x1), some (.r 0), some (.p (.int n)), some (.p (.dict ((byL n).map encE))), some (.p (lotD ps)), d6, some (.p (.list (e.2.map tp))), d8, d9, d10, d11, d12, none, none] [o] = .ok [.p (.int (e.2.length : Int)), .p (tp (e.2.headD []))] [o] := by
        rw [mCons, c1]
        simp only [Res.bind]
        rw [mCons, c2]
        rfl
      unfold mP mLst
      rw [m1]
      rfl
    have p2 : (mP (mLst (mCons (mCB gLen (mCons (mVar 7) mNil)) (mCons (m2 gIx (mVar 7) (mC (.int 0))) mNil)))) [some (.p x0), some (.p x1), some (.r 0), some (.p (.int n)), some (.p (.dict ((byL n).map encE))), some (.p (lotD ps)), d6, some (.p (.list (e.2.map tp))), d8, d9, d10, d11, d12, none, none] [o] = .ok (.p (.list [.int (e.2.length : Int), tp (e.2.headD [])])) [o] := by
      simp only [mP, mLst, mCons, mCB, mVar, mNil, m2, mC, Res.bind, List.getElem?_cons_succ, List.getElem?_cons_zero, hgl, gIx, seqOf, hat, pures, Option.map_some, Option.map, List.length_cons, List.length_nil, Nat.reduceAdd, Nat.reduceLeDiff, if_true]
    rw [mCons, p1]
    simp only [Res.bind]
    rw [mCons, p2]
    rfl
  have hs2 := same_refl (S := [o]) hsm (by omega)
  rw [wp_mif]
  simp only [mNot, mTest, mCall, wp_bind, a1, wp_ok, wp_nox, hs2, toB, Bool.not_true, Bool.false_eq_true, if_false, wp_next]
  apply hk2
  apply wp_seq
  intro k3 hk3 _ _ _
  have hel : (e.2.map tp).length ≤ 1000000 := by rw [List.length_map]; omega
  have hlc : (mP (mLc (mItems (mVar 7)) (gN 13) mYes (mTix (mVar 13) (mVar 3)) [13])) [some (.p x0), some (.p x1), some (.r 0), some (.p (.int n)), some (.p (.dict ((byL n).map encE))), some (.p (lotD ps)), d6, some (.p (.list (e.2.map tp))), d8, d9, d10, d11, d12, none, none] [o] = .ok (.p (.list ((topsI n e.2).map PyData.int))) [o] := by
    have := lc_map (g := gN 13) (tt := mYes) (te := mTix (mVar 13) (mVar 3)) (ρ := [some (.p x0), some (.p x1), some (.r 0), some (.p (.int n)), some (.p (.dict ((byL n).map encE))), some (.p (lotD ps)), d6, some (.p (.list (e.2.map tp))), d8, d9, d10, d11, d12, none, none]) (S := [o]) (t := fun _ => true) (v := fun od : List Int => PyData.int (od.idxOf (n : Int) : Int)) tp e.2 fun od ho => ⟨_, rfl, rfl, fun _ => by
      have hm := htop od ho
      simp only [mTix, mVar, List.set_cons_succ, List.set_cons_zero, List.getElem?_cons_succ, List.getElem?_cons_zero, Res.bind, tp, wholes_ints, hm, if_true]⟩
    rw [List.filter_eq_self.mpr fun _ _ => rfl] at this
    simp only [mP, mLc, mItems, mVar, Res.bind, List.getElem?_cons_succ, List.getElem?_cons_zero, hel, if_true, wipeL, List.set_cons_succ, List.set_cons_zero, this]
    simp only [topsI, List.map_map]
    rfl
  rw [wp_asg, hlc, wp_ok, wp_gN]
  apply hk3
  simp only [List.set_cons_succ, List.set_cons_zero]
  apply wp_seq
  intro k4 hk4 _ _ _
  have htl : (topsI n e.2).length ≤ 60 := by unfold topsI; rw [List.length_map]; exact h60
  have hsl : ((sdI (topsI n e.2)).map PyData.int).length ≤ 1000000 := by
    have := sdI_len (topsI n e.2)
    rw [List.length_map]; omega
  have hlc2 : (mP (mLc (mItems (m1 gSortSet (mVar 8))) (gN 14) mYes (mTup (mCons (mVar 14) (mCons (mMth gCount (mVar 8) (mCons (mVar 14) mNil)) mNil))) [14])) [some (.p x0), some (.p x1), some (.r 0), some (.p (.int n)), some (.p (.dict ((byL n).map encE))), some (.p (lotD ps)), d6, some (.p (.list (e.2.map tp))), some (.p (.list ((topsI n e.2).map PyData.int))), d9, d10, d11, d12, none, none] [o] = .ok (.p (.list (dueD (cntT n e.2)))) [o] := by
    have := lc_map (g := gN 14) (tt := mYes) (te := mTup (mCons (mVar 14) (mCons (mMth gCount (mVar 8) (mCons (mVar 14) mNil)) mNil))) (ρ := [some (.p x0), some (.p x1), some (.r 0), some (.p (.int n)), some (.p (.dict ((byL n).map encE))), some (.p (lotD ps)), d6, some (.p (.list (e.2.map tp))), some (.p (.list ((topsI n e.2).map PyData.int))), d9, d10, d11, d12, none, none]) (S := [o]) (t := fun _ => true) (v := fun t : Int => PyData.tuple [.int t, .int ((topsI n e.2).count t : Int)]) PyData.int (sdI (topsI n e.2)) fun t ht => ⟨_, rfl, rfl, fun _ => by
      simp only [mTup, mCons, mVar, mMth, mNil, List.set_cons_succ, List.set_cons_zero, List.getElem?_cons_succ, List.getElem?_cons_zero, Res.bind, isLst, seqOf, if_true, gCount_ints, pures, Option.map_some, Option.map, List.length_cons, List.length_nil, Nat.reduceAdd, Nat.reduceLeDiff]⟩
    rw [List.filter_eq_self.mpr fun _ _ => rfl] at this
    simp only [mP, mLc, mItems, m1, mVar, Res.bind, List.getElem?_cons_succ, List.getElem?_cons_zero, gSortSet, wholes_ints, htl, hsl, if_true, wipeL, List.set_cons_succ, List.set_cons_zero, this]
    simp only [dueD, cntT, List.map_map]
    rfl
  rw [wp_asg, hlc2, wp_ok, wp_gN]
  apply hk4
  simp only [List.set_cons_succ, List.set_cons_zero]
  apply wp_seq
  intro k5 hk5 _ _ _
  have c3 : mCallF f_highest (mCons (mVar 3) (mCons (mVar 5) mNil)) [some (.p x0), some (.p x1), some (.r 0), some (.p (.int n)), some (.p (.dict ((byL n).map encE))), some (.p (lotD ps)), d6, some (.p (.list (e.2.map tp))), some (.p (.list ((topsI n e.2).map PyData.int))), some (.p (.list (dueD (cntT n e.2)))), d10, d11, d12, none, none] [o] = .ok (.r 1) [o, some (.lst (dueD (cntT n e.2)))] := callF_r (S1 := [o]) (xs := [.int n, lotD ps]) rfl r3
  rw [wp_asg, c3, wp_ok, wp_gN]
  apply hk5
  simp only [List.set_cons_succ, List.set_cons_zero]
  apply wp_seq
  intro k6 hk6 _ _ _
  have hcl : (cntT n e.2).length ≤ 1000 := by
    have := sdI_len (topsI n e.2)
    unfold cntT
    rw [List.length_map]; omega
  have hs3 := same_refl (S := []) (sm_due (cntT n e.2) hcl) (by omega)
  have c4 : mCallB (f_law_same 6) (mCons (mVar 10) (mCons (mVar 9) mNil)) [some (.p x0), some (.p x1), some (.r 0), some (.p (.int n)), some (.p (.dict ((byL n).map encE))), some (.p (lotD ps)), d6, some (.p (.list (e.2.map tp))), some (.p (.list ((topsI n e.2).map PyData.int))), some (.p (.list (dueD (cntT n e.2)))), some (.r 1), d11, d12, none, none] [o, some (.lst (dueD (cntT n e.2)))] = .ok (.p (.bool true)) [o, some (.lst (dueD (cntT n e.2)))] := by
    have hpk : peeks [o, some (.lst (dueD (cntT n e.2)))] [.r 1, .p (.list (dueD (cntT n e.2)))] = some [.list (dueD (cntT n e.2)), .list (dueD (cntT n e.2))] := rfl
    simp only [mCallB, mCons, mVar, mNil, Res.bind, List.getElem?_cons_succ, List.getElem?_cons_zero, hpk, List.map_cons, List.map_nil, hs3]
  rw [wp_mif]
  simp only [mNot, mTest, wp_bind, c4, wp_ok, toB, Bool.not_true, Bool.false_eq_true, if_false, wp_next]
  apply hk6
  have hdl : (dueD (cntT n e.2)).length ≤ 1000000 := by unfold dueD; rw [List.length_map]; omega
  simp only [wp_drop, mMth, mVar, mCons, mC, mNil, wp_bind, wp_ok, List.getElem?_cons_succ, List.getElem?_cons_zero, isLst, seqOf, if_true]
  simp only [gApp, gPut, pures, Option.map_some, Option.map, List.getElem?_cons_succ, List.getElem?_cons_zero, hdl, if_true, wp_ok, List.set_cons_succ, List.set_cons_zero]
  exact ⟨trivial, q _ _ _ _ _ _ _⟩
end LK


set_option maxHeartbeats 4000000
namespace LK
open PySem L2 G
/-! ### the keys, sorted -/
def keyD (n : Nat) : List PyData := ((byL n).map (·.1)).map lotD
theorem mem_sortP {x : PyData} {xs : List PyData} : x ∈ sortP xs ↔ x ∈ xs := by
  rw [sortP_eq]
  exact (List.mergeSort_perm _ _).mem_iff
theorem len_sortP (xs : List PyData) : (sortP xs).length = xs.length := by
  rw [sortP_eq]
  exact (List.mergeSort_perm _ _).length_eq
theorem key_srt {n : Nat} (h1 : 1 ≤ n) (h6 : n ≤ 6) : srtOk (keyD n) = true := by
  by_cases h : n = 1
  · subst h
    decide +kernel
  · refine srt_lots (by rw [List.length_map]; have := byL_len h1 h6; omega) fun ps hps e => ?_
    subst e
    have := (key_lot hps).2
    unfold barsL apartL at this
    rw [List.isEmpty_iff] at this
    have h0 := (List.append_eq_nil_iff.mp (List.append_eq_nil_iff.mp this).1).1
    rw [List.map_eq_nil_iff, List.filter_eq_nil_iff] at h0
    exact h0 0 (mem_ran.mpr (by omega)) rfl
theorem sorted_by {S : Sto} {n : Nat} (h1 : 1 ≤ n) (h6 : n ≤ 6) : gSortedD [.p (.dict ((byL n).map encE))] S = .ok (sortP (keyD n)) S := by
  have hmk : ((byL n).map encE).map (·.1) = keyD n := by
    unfold keyD
    rw [List.map_map, List.map_map]; rfl
  have htk : (((byL n).map encE).all fun p => (tk p.1).isSome) = true := by
    rw [List.all_map, List.all_eq_true]
    intro e _
    exact tk_lot e.1
  have hem : ((byL n).map encE).isEmpty = false := by
    have := byL_len h1 h6
    cases h : byL n with
    | nil => rw [h] at this; simp at this
    | cons _ _ => rfl
  simp only [gSortedD, dctOf, hem, htk, hmk, key_srt h1 h6, Bool.not_false, Bool.and_self, if_true]
theorem key_form {n : Nat} : ∃ ks : List (List (Int × Int)), sortP (keyD n) = ks.map lotD ∧ ks.length = (byL n).length ∧ ∀ ps ∈ ks, ps ∈ (byL n).map (·.1) := by
  have key : ∀ xs : List PyData, (∀ x ∈ xs, ∃ ps, ps ∈ (byL n).map (·.1) ∧ x = lotD ps) → ∃ ks : List (List (Int × Int)), xs = ks.map lotD ∧ ∀ ps ∈ ks, ps ∈ (byL n).map (·.1) := by
    intro xs
    induction xs with
    | nil => intro _; exact ⟨[], rfl, fun _ h => nomatch h⟩
    | cons x xs ih =>
      intro h
      obtain ⟨ps, hp, rfl⟩ := h x (List.mem_cons_self ..)
      obtain ⟨ks, rfl, hk⟩ := ih fun y hy => h y (List.mem_cons_of_mem _ hy)
      refine ⟨ps :: ks, rfl, fun q hq => ?_⟩
      rcases List.mem_cons.mp hq with rfl | hq
      · exact hp
      · exact hk q hq
  obtain ⟨ks, e, hk⟩ := key (sortP (keyD n)) fun x hx => by
    obtain ⟨ps, hp, e⟩ := List.mem_map.mp (mem_sortP.mp hx)
    exact ⟨ps, hp, e.symm⟩
  refine ⟨ks, e, ?_, hk⟩
  have := congrArg List.length e
  rw [len_sortP, List.length_map] at this
  unfold keyD at this
  rw [List.length_map, List.length_map] at this
  exact this.symm
theorem find_key {n : Nat} {ps : List (Int × Int)} (h : ps ∈ (byL n).map (·.1)) : ∃ e, (byL n).find? (fun e => decide (e.1 = ps)) = some e := by
  obtain ⟨e, he, rfl⟩ := List.mem_map.mp h
  cases hf : (byL n).find? (fun e' => decide (e'.1 = e.1)) with
  | some e' => exact ⟨e', rfl⟩
  | none =>
    rw [List.find?_eq_none] at hf
    exact absurd (decide_eq_true rfl) (hf e he)
theorem key_len {n : Nat} (h6 : n ≤ 6) {ps : List (Int × Int)} (h : Lot n ps) : ps.length ≤ 144 := Nat.le_trans h.subl.length_le (len_pairs (by omega))
/-! ### a lot with a pair more, or fewer -/
theorem turn_wp {n k : Nat} (h1 : 1 ≤ n) (h6 : n ≤ 6) {o : Option Ob} {P : Fl × G.Loc → Sto → Prop} {d5 d6 d7 d8 d9 d10 d11 d12 : Option D} {x0 x1 : PyData} (hd : Dk [o] 0 k) (hk : k < 900000)
    (q : ∀ d5 d6 d7 d8 d9 d10 d11 d12 o, Dk [o] 0 (k + 4) → P (.nx, [some (.p x0), some (.p x1), some (.r 0), some (.p (.int n)), some (.p (.dict ((byL n).map encE))), d5, d6, d7, d8, d9, d10, d11, d12, none, none]) [o]) :
    wp (mCut b_law_2 [some (.p x0), some (.p x1), some (.r 0), some (.p (.int n)), some (.p (.dict ((byL n).map encE))), d5, d6, d7, d8, d9, d10, d11, d12, none, none] [o]) P := by
  apply wp_cut
  unfold b_law_2
  apply wp_seq
  intro k1 hk1 _ _ _
  obtain ⟨ks, ek, hkl, hkm⟩ := key_form (n := n)
  have hbl := byL_len h1 h6
  have hsb := fun S => sorted_by (S := S) h1 h6
  rw [ek] at hsb
  simp only [wp_asg, mCall, mCons, mVar, mP, mCL, mNil, wp_bind, wp_ok, wp_nox, List.getElem?_cons_succ, List.getElem?_cons_zero, hsb]
  refine one_wp hd (by omega) (by
    intro e
    rw [List.map_eq_nil_iff] at e
    rw [e] at hkl
    simp at hkl
    omega) (by rw [List.length_map, hkl]; omega) fun x o1 hx hd1 => ?_
  obtain ⟨ps, hp, rfl⟩ := List.mem_map.mp hx
  have hlot := (key_lot (hkm ps hp)).1
  have hpl := key_len h6 hlot
  simp only [List.set_cons_zero] at hd1 ⊢
  show wp (f_law_bent [.r 0, .p (.int n), .p (.tuple (ps.map pr))] [o1]) _
  refine bent_wp hd1 (by omega) hlot (by omega) (by omega) (by omega) fun qs o2 hq hql hd2 => ?_
  simp only [List.set_cons_zero] at hd2 ⊢
  simp only [wp_gN, List.set_cons_succ, List.set_cons_zero]
  apply hk1
  have hkey := key_iff h1 h6 hq
  have hko := kOk_lot (byL n) qs
  have elot : PyData.tuple (qs.map pr) = lotD qs := rfl
  rw [elot]
  apply wp_seq
  intro k2 hk2 _ _ _
  simp only [wp_asg, m2, mVar, wp_bind, wp_ok, List.getElem?_cons_succ, List.getElem?_cons_zero, gDIn, dctOf, hko, if_true, Bool.false_eq_true, if_false, hkey, wp_gN, List.set_cons_succ, List.set_cons_zero]
  apply hk2
  apply wp_seq
  intro k3 hk3 _ _ _
  have gb : ∀ (a b : Bool) S, gEq (.p (.bool a)) (.p (.bool b)) S = .ok (.p (.bool (a == b))) S := fun _ _ _ => rfl
  have gn : ∀ S, gIs false (.p .none) (.p .none) S = .ok (.p (.bool true)) S := fun _ => rfl
  have gt : ∀ (os : List Int) S, gIs false (.p (tp os)) (.p .none) S = .ok (.p (.bool false)) S := fun _ _ => rfl
  have si : ∀ (i : Int) S, f_law_same 6 [.p (.int i), .p (.int i)] S = .ok (.p (.bool true)) S := fun i S => same_refl (n := 0) (by unfold Sm; trivial) (by omega)
  cases hb : (barsL n qs).isEmpty with
  | true =>
    rw [hb, look_some_iff, decide_eq_true_eq] at hkey
    obtain ⟨e, hf⟩ := find_key hkey
    have he := List.mem_of_find?_eq_some hf
    have hps : e.1 = qs := by simpa using List.find?_some hf
    obtain ⟨hrun, hpos, h60⟩ := tab_ok h1 h6 e he
    obtain ⟨r1, r2, r3⟩ := run_e hrun
    rw [hps] at r1 r2 r3
    have hlk : lookP ((byL n).map encE) (lotD qs) = some (.list (e.2.map tp)) := by rw [look_lot, hf]; rfl
    have hgl : ∀ S, gLen [.p (.list (e.2.map tp))] S = .ok (.p (.int (e.2.length : Int))) S := fun S => by simp only [gLen, gSeq, seqOf, List.length_map]
    have c1 := callF_p (fn := f_how_many) (na := mCons (mVar 3) (mCons (mVar 11) mNil)) (ρ := [some (.p x0), some (.p x1), some (.r 0), some (.p (.int n)), some (.p (.dict ((byL n).map encE))), d5, d6, d7, d8, d9, d10, some (.p (lotD qs)), some (.p (.bool true)), none, none]) (S := [o2]) (S1 := [o2]) (xs := [.int n, lotD qs]) rfl r1
    have c2 := callF_p (fn := f_first_order) (na := mCons (mVar 3) (mCons (mVar 11) mNil)) (ρ := [some (.p x0), some (.p x1), some (.r 0), some (.p (.int n)), some (.p (.dict ((byL n).map encE))), d5, d6, d7, d8, d9, d10, some (.p (lotD qs)), some (.p (.bool true)), none, none]) (S := [o2]) (S1 := [o2]) (xs := [.int n, lotD qs]) rfl r2
    have c3 := callF_r (fn := f_highest) (na := mCons (mVar 3) (mCons (mVar 11) mNil)) (ρ := [some (.p x0), some (.p x1), some (.r 0), some (.p (.int n)), some (.p (.dict ((byL n).map encE))), d5, d6, d7, d8, d9, d10, some (.p (lotD qs)), some (.p (.bool true)), none, none]) (S := [o2]) (S1 := [o2]) (xs := [.int n, lotD qs]) rfl r3
    rw [wp_mif]
    have a1 : (mCons (mCallF f_how_many (mCons (mVar 3) (mCons (mVar 11) mNil))) (mCons (mIfE (mTest (mVar 12)) (mCB gLen (mCons (m2 gDGet (mVar 4) (mVar 11)) mNil)) (mC (.int 0))) mNil)) [some (.p x0), some (.p x1), some (.r 0), some (.p (.int n)), some (.p (.dict ((byL n).map encE))), d5, d6, d7, d8, d9, d10, some (.p (lotD qs)), some (.p (.bool true)), none, none] [o2] = .ok [.p (.int (e.2.length : Int)), .p (.int (e.2.length : Int))] [o2] := by
      rw [mCons, c1]
      simp only [Res.bind, mCons, mIfE, mTest, mVar, mCB, m2, mNil, List.getElem?_cons_succ, List.getElem?_cons_zero, toB, if_true, gDGet, dctOf, hko, hlk, hgl]
    simp only [mNot, mTest, mCall, wp_bind, a1, wp_ok, wp_nox, si, toB, Bool.not_true, Bool.false_eq_true, if_false, wp_next]
    apply hk3
    have hcl : (cntT n e.2).length ≤ 1000 := by
      have h := sdI_len (topsI n e.2)
      have h' : (topsI n e.2).length = e.2.length := List.length_map ..
      unfold cntT
      rw [List.length_map]
      omega
    have hne : gEq (.r 1) (.p (.list [])) [o2, some (.lst (dueD (cntT n e.2)))] = .ok (.p (.bool false)) [o2, some (.lst (dueD (cntT n e.2)))] := by
      have hl : lay2 (.list (dueD (cntT n e.2))) (.list []) = true := by
        unfold lay2
        have h : La 2 (.list (dueD (cntT n e.2))) := (sm_due (cntT n e.2) hcl).la
        rw [h.lay (by omega), (La.list (n := 0) (xs := []) fun _ h => nomatch h).lay (by omega)]
        rfl
      have hnn : (dueD (cntT n e.2)).isEmpty = false := by
        cases hd2 : dueD (cntT n e.2) with
        | cons _ _ => rfl
        | nil =>
          exfalso
          unfold dueD cntT at hd2
          rw [List.map_eq_nil_iff, List.map_eq_nil_iff] at hd2
          cases h : e.2 with
          | nil => rw [h] at hpos; exact absurd hpos (Nat.lt_irrefl 0)
          | cons a b =>
            have : ((a.idxOf (n : Int) : Nat) : Int) ∈ sdI (topsI n e.2) := by
              rw [sdI_mem, h]
              exact List.mem_cons_self ..
            rw [hd2] at this
            cases this
      simp only [gEq, g2, datOf, List.getElem?_cons_succ, List.getElem?_cons_zero, hl, okB, if_true, eqv_nil, hnn]
    rw [wp_mif]
    simp only [mOr, mTest, m2, mC, mVar, mP, mLst, mNil, wp_bind, c2, wp_ok, gt, List.getElem?_cons_succ, List.getElem?_cons_zero, gb, toB]
    simp only [Bool.false_beq, Bool.not_true, Bool.false_eq_true, if_false, mTest, m2, wp_bind, c3, wp_ok, pures, List.length_nil, Nat.zero_le, if_true, List.length_cons, List.length_singleton, List.cons_append, List.nil_append, Nat.reduceAdd, hne, gb, toB, mVar, List.getElem?_cons_succ, List.getElem?_cons_zero, wp_next]
    exact ⟨trivial, q _ _ _ _ _ _ _ _ o2 (hd2.mono (by omega))⟩
  | false =>
    obtain ⟨r1, r2, r3⟩ := none_e hq hql (by omega) (by omega) hb
    have c1 := callF_p (fn := f_how_many) (na := mCons (mVar 3) (mCons (mVar 11) mNil)) (ρ := [some (.p x0), some (.p x1), some (.r 0), some (.p (.int n)), some (.p (.dict ((byL n).map encE))), d5, d6, d7, d8, d9, d10, some (.p (lotD qs)), some (.p (.bool false)), none, none]) (S := [o2]) (S1 := [o2]) (xs := [.int n, lotD qs]) rfl r1
    have c2 := callF_p (fn := f_first_order) (na := mCons (mVar 3) (mCons (mVar 11) mNil)) (ρ := [some (.p x0), some (.p x1), some (.r 0), some (.p (.int n)), some (.p (.dict ((byL n).map encE))), d5, d6, d7, d8, d9, d10, some (.p (lotD qs)), some (.p (.bool false)), none, none]) (S := [o2]) (S1 := [o2]) (xs := [.int n, lotD qs]) rfl r2
    have c3 := callF_r (fn := f_highest) (na := mCons (mVar 3) (mCons (mVar 11) mNil)) (ρ := [some (.p x0), some (.p x1), some (.r 0), some (.p (.int n)), some (.p (.dict ((byL n).map encE))), d5, d6, d7, d8, d9, d10, some (.p (lotD qs)), some (.p (.bool false)), none, none]) (S := [o2]) (S1 := [o2]) (xs := [.int n, lotD qs]) rfl r3
    rw [wp_mif]
    have a1 : (mCons (mCallF f_how_many (mCons (mVar 3) (mCons (mVar 11) mNil))) (mCons (mIfE (mTest (mVar 12)) (mCB gLen (mCons (m2 gDGet (mVar 4) (mVar 11)) mNil)) (mC (.int 0))) mNil)) [some (.p x0), some (.p x1), some (.r 0), some (.p (.int n)), some (.p (.dict ((byL n).map encE))), d5, d6, d7, d8, d9, d10, some (.p (lotD qs)), some (.p (.bool false)), none, none] [o2] = .ok [.p (.int 0), .p (.int 0)] [o2] := by
      rw [mCons, c1]
      simp only [Res.bind, mCons, mIfE, mTest, mVar, mNil, mC, List.getElem?_cons_succ, List.getElem?_cons_zero, toB, Bool.false_eq_true, if_false]
    simp only [mNot, mTest, mCall, wp_bind, a1, wp_ok, wp_nox, si, toB, Bool.not_true, Bool.false_eq_true, if_false, wp_next]
    apply hk3
    have hne : gEq (.r 1) (.p (.list [])) [o2, some (.lst [])] = .ok (.p (.bool true)) [o2, some (.lst [])] := rfl
    rw [wp_mif]
    simp only [mOr, mTest, m2, mC, mVar, mP, mLst, mNil, wp_bind, c2, wp_ok, gn, List.getElem?_cons_succ, List.getElem?_cons_zero, gb, toB]
    simp only [Bool.true_beq, Bool.false_eq_true, if_false, mTest, m2, wp_bind, c3, wp_ok, pures, List.length_nil, Nat.zero_le, if_true, List.length_cons, List.length_singleton, List.cons_append, List.nil_append, Nat.reduceAdd, hne, gb, toB, mVar, List.getElem?_cons_succ, List.getElem?_cons_zero, wp_next]
    exact ⟨trivial, q _ _ _ _ _ _ _ _ o2 (hd2.mono (by omega))⟩
end LK


set_option maxHeartbeats 4000000
namespace LK
open PySem L2 G
theorem cell_wp {c : Int} {x0 : PyData} {P : Fl × G.Loc → Sto → Prop} {d2 d3 d4 d5 d6 d7 d8 d9 d10 d11 d12 : Option D}
    (q : ∀ d2 d3 d4 d5 d6 d7 d8 d9 d10 d11 d12, P (.nx, [some (.p x0), some (.p (.int c)), d2, d3, d4, d5, d6, d7, d8, d9, d10, d11, d12, none, none]) []) :
    wp (mCut b_law_3 [some (.p x0), some (.p (.int c)), d2, d3, d4, d5, d6, d7, d8, d9, d10, d11, d12, none, none] []) P := by
  apply wp_cut
  unfold b_law_3
  apply wp_seq
  intro k1 hk1 _ _ _
  obtain ⟨o, e, hd⟩ := deck_eq (S := []) (c := c) (t := 4) (k := 4) (by omega) (by omega)
  have e : f_law_deck [.p (.int c), .p (.int 4)] [] = .ok (.r 0) [o] := e
  have hd : Dk [o] 0 4 := hd
  simp only [wp_asg, mCall, mCons, mVar, mC, mNil, wp_bind, wp_ok, wp_nox, List.getElem?_cons_succ, List.getElem?_cons_zero, e, wp_gN, List.set_cons_succ, List.set_cons_zero]
  apply hk1
  apply wp_seq
  intro k2 hk2 _ _ _
  simp only [wp_asg, m2, mCall, mCons, mVar, mC, mNil, wp_bind, wp_ok, wp_nox, List.getElem?_cons_succ, List.getElem?_cons_zero]
  refine pick_wp hd (by omega) (n := 6) (by omega) (by omega) fun v o1 v0 v1 hd1 => ?_
  simp only [gAdd, wp_ok, wp_gN, List.set_cons_succ, List.set_cons_zero] at hd1 ⊢
  apply hk2
  obtain ⟨n, hn⟩ : ∃ n : Nat, 1 + v = (n : Int) := ⟨(1 + v).toNat, by omega⟩
  rw [hn]
  have n1 : 1 ≤ n := by omega
  have n6 : n ≤ 6 := by omega
  apply wp_seq
  intro k3 hk3 _ _ _
  have hb := fun S => by_lots_eq (S := S) (n := n) (by omega)
  simp only [wp_asg, mCall, mCons, mVar, mNil, wp_bind, wp_ok, wp_nox, List.getElem?_cons_succ, List.getElem?_cons_zero, hb, wp_gN, List.set_cons_succ, List.set_cons_zero]
  apply hk3
  apply wp_seq
  intro k4 hk4 _ _ _
  obtain ⟨ks, ek, hkl, hkm⟩ := key_form (n := n)
  have hsb := fun S => sorted_by (S := S) n1 n6
  rw [ek] at hsb
  rw [wp_for]
  simp only [mItems, mP, mCL, mCons, mVar, mNil, wp_bind, wp_ok, List.getElem?_cons_succ, List.getElem?_cons_zero, hsb]
  refine wp_loop (fun r ρ S => ∃ (ls : List (List (Int × Int))) (d5 d6 d7 d8 d9 d10 d11 d12 : Option D), r = ls.map lotD ∧ (∀ ps ∈ ls, ps ∈ (byL n).map (·.1)) ∧ ρ = [some (.p x0), some (.p (.int c)), some (.r 0), some (.p (.int n)), some (.p (.dict ((byL n).map encE))), d5, d6, d7, d8, d9, d10, d11, d12, none, none] ∧ S = [o1]) _ ?_ ?_ ?_
  · exact ⟨ks, _, _, _, _, _, _, _, _, rfl, hkm, rfl, rfl⟩
  · rintro x r ρ S ⟨ls, d5, d6, d7, d8, d9, d10, d11, d12, e, hl, rfl, rfl⟩ k5 hk5
    cases ls with
    | nil => cases e
    | cons ps ls =>
      cases e
      obtain ⟨en, hf⟩ := find_key (hl ps (List.mem_cons_self ..))
      rw [wp_gN]
      simp only [List.set_cons_succ, List.set_cons_zero]
      refine lot_wp n1 n6 hf fun d6 d7 d8 d9 d10 d11 d12 => ?_
      apply hk5
      exact ⟨ls, _, _, _, _, _, _, _, _, rfl, fun p hp => hl p (List.mem_cons_of_mem _ hp), rfl, rfl⟩
  rintro ρ S ⟨ls, d5, d6, d7, d8, d9, d10, d11, d12, e, hl, rfl, rfl⟩
  apply hk4
  rw [wp_for]
  simp only [mRng1, mCons, mC, mNil, wp_bind, wp_ok, inB_of (i := 6) (by omega) (by omega), if_true]
  refine wp_loop (fun r ρ S => ∃ (o : Option Ob) (d5 d6 d7 d8 d9 d10 d11 d12 : Option D), r.length ≤ 6 ∧ Dk [o] 0 (100 - 4 * r.length) ∧ ρ = [some (.p x0), some (.p (.int c)), some (.r 0), some (.p (.int n)), some (.p (.dict ((byL n).map encE))), d5, d6, d7, d8, d9, d10, d11, d12, none, none] ∧ S = [o]) _ ?_ ?_ ?_
  · exact ⟨o1, _, _, _, _, _, _, _, _, by rw [rangeP_length]; decide, hd1.mono (by rw [rangeP_length]; decide), rfl, rfl⟩
  · rintro x r ρ S ⟨o, d5, d6, d7, d8, d9, d10, d11, d12, hr, hd, rfl, rfl⟩ k6 hk6
    rw [List.length_cons] at hr hd
    rw [wp_gN]
    simp only [List.set_cons_succ, List.set_cons_zero]
    refine turn_wp n1 n6 hd (by omega) fun d5 d6 d7 d8 d9 d10 d11 d12 o' hd' => ?_
    apply hk6
    exact ⟨o', _, _, _, _, _, _, _, _, by omega, hd'.mono (by omega), rfl, rfl⟩
  rintro ρ S ⟨o, d5, d6, d7, d8, d9, d10, d11, d12, hr, hd, rfl, rfl⟩
  exact ⟨rfl, q _ _ _ _ _ _ _ _ _ _ _⟩
def lot4 : List (Int × Int) := [(0, 1), (1, 2)]
def lot2 : List (Int × Int) := [(0, 1), (0, 2), (1, 2)]
theorem how4 : f_how_many [.p (.int 3), .p (lotD lot4)] [] = .ok (.p (.int 4)) [] := by kernel_rfl
theorem how2 : f_how_many [.p (.int 3), .p (lotD lot2)] [] = .ok (.p (.int 2)) [] := by kernel_rfl
theorem law_true : ∀ ns : List Int, ns.length ≤ 63 → ∃ S, f_law [.p (.list (ns.map PyData.int))] [] = .ok (.p (.bool true)) S := by
  intro ns hl
  suffices h : wp (f_law [.p (.list (ns.map PyData.int))] []) (fun d _ => d = .p (.bool true)) by
    obtain ⟨d, S, e, rfl⟩ := h
    exact ⟨S, e⟩
  unfold f_law
  rw [wp_nox]
  apply wp_fn
  unfold b_law
  simp only [startL, List.map_cons, List.map_nil, List.length_cons, List.length_nil, List.cons_append, List.nil_append, List.replicate]
  apply wp_seq
  intro k1 hk1 _ _ _
  rw [wp_for]
  have hadd : ∀ S, gAdd (.p (.list [.int 0])) (.p (.list (ns.map PyData.int))) S = .ok (.p (.list ((0 :: ns).map PyData.int))) S := fun S => by
    have : [PyData.int 0].length + (ns.map PyData.int).length ≤ 1000000 := by simp; omega
    simp only [gAdd, seqOf, this, if_true]
    rfl
  simp only [mItems, mSl, m2, mP, mLst, mCons, mC, mNil, mVar, mPart, wp_bind, wp_ok, List.getElem?_cons_zero, pures, Option.map_some, Option.map]
  rw [if_pos (by simp), wp_ok, hadd, wp_ok]
  simp only [gSl, seqOf, wp_ok, cutP_ints]
  refine wp_loop (fun r ρ S => ∃ (cs : List Int) (d1 d2 d3 d4 d5 d6 d7 d8 d9 d10 d11 d12 : Option D), r = cs.map PyData.int ∧ ρ = [some (.p (.list (ns.map PyData.int))), d1, d2, d3, d4, d5, d6, d7, d8, d9, d10, d11, d12, none, none] ∧ S = []) _ ?_ ?_ ?_
  · exact ⟨_, _, _, _, _, _, _, _, _, _, _, _, _, rfl, rfl, rfl⟩
  · rintro x r ρ S ⟨cs, d1, d2, d3, d4, d5, d6, d7, d8, d9, d10, d11, d12, e, rfl, rfl⟩ k2 hk2
    cases cs with
    | nil => cases e
    | cons c cs =>
      cases e
      rw [wp_gN]
      simp only [List.set_cons_succ, List.set_cons_zero]
      refine cell_wp fun d2 d3 d4 d5 d6 d7 d8 d9 d10 d11 d12 => ?_
      apply hk2
      exact ⟨cs, _, _, _, _, _, _, _, _, _, _, _, _, rfl, rfl, rfl⟩
  rintro ρ S ⟨cs, d1, d2, d3, d4, d5, d6, d7, d8, d9, d10, d11, d12, e, rfl, rfl⟩
  apply hk1
  have t4 : ∀ ρ, (mCons (mC (.int 3)) (mCons (mTup (mCons (mTup (mCons (mC (.int 0)) (mCons (mC (.int 1)) mNil))) (mCons (mTup (mCons (mC (.int 1)) (mCons (mC (.int 2)) mNil))) mNil))) mNil)) ρ ([] : Sto) = .ok ([PyData.int 3, lotD lot4].map .p) [] := fun ρ => rfl
  have t2 : ∀ ρ, (mCons (mC (.int 3)) (mCons (mTup (mCons (mTup (mCons (mC (.int 0)) (mCons (mC (.int 1)) mNil))) (mCons (mTup (mCons (mC (.int 0)) (mCons (mC (.int 2)) mNil))) (mCons (mTup (mCons (mC (.int 1)) (mCons (mC (.int 2)) mNil))) mNil)))) mNil)) ρ ([] : Sto) = .ok ([PyData.int 3, lotD lot2].map .p) [] := fun ρ => rfl
  have c4 := fun ρ => callF_p (t4 ρ) how4
  have c2 := fun ρ => callF_p (t2 ρ) how2
  have e4 : ∀ S, gEq (.p (.int 4)) (.p (.int 4)) S = .ok (.p (.bool true)) S := fun S => rfl
  have e2 : ∀ S, gEq (.p (.int 2)) (.p (.int 2)) S = .ok (.p (.bool true)) S := fun S => rfl
  rw [wp_ret]
  unfold mAndV
  rw [wp_bind]
  unfold m2
  rw [wp_bind, c4, wp_ok, wp_bind]
  simp only [mC, wp_ok, e4, wp_bind, toB, if_true]
  rw [c2, wp_ok]
  simp only [wp_bind, mC, wp_ok, e2]
end LK


open PySem PySem.W PyProof.Rows in
set_option maxRecDepth 100000 in
set_option maxHeartbeats 0 in
theorem PySem.Challenge.cw_roofsights_k04_whole_orders_with_just_th_holds : PySem.Challenge.rw_roofsights_k04_whole_orders_with_just_th.Holds := by
  w_on; o_law; k_head; (case hw => w_witness2)
  k_fill
  refine G.walk_end (k := 17) (x := "script") (l := PySem.Challenge.rw_roofsights_k04_whole_orders_with_just_th) rfl rfl ⟨rfl, by decide, by decide⟩ (fun w => ?nl) (fun w h Y => PySem.W.kIn_of Y) ?F
  case nl => kernel_rfl
  case F =>
    intro w mg fa h KX GG hmg
    have D_is_from := G.defAt_mk (x := "is_from") (nm := "is_from") (ps := ["thing", "low", "high"]) (st := LK.st_is_from) KX GG (by k_is) (by k_is) (by k_is) (by k_is) (fun _ _ _ _ _ _ us hl => match us, hl with | [_, _, _], _ => rfl)
    have D_is_rising := G.defAt_mk (x := "is_rising") (nm := "is_rising") (ps := ["things"]) (st := LK.st_is_rising) KX GG (by k_is) (by k_is) (by k_is) (by k_is) (fun _ _ _ _ _ _ us hl => match us, hl with | [_], _ => rfl)
    have D_is_lot := G.defAt_mk (x := "is_lot") (nm := "is_lot") (ps := ["many", "thing"]) (st := LK.st_is_lot) KX GG (by k_is) (by k_is) (by k_is) (by k_is) (fun _ _ _ _ _ _ us hl => match us, hl with | [_, _], _ => rfl)
    have D_need_many := G.defAt_mk (x := "need_many") (nm := "need_many") (ps := ["many"]) (st := LK.st_need_many) KX GG (by k_is) (by k_is) (by k_is) (by k_is) (fun _ _ _ _ _ _ us hl => match us, hl with | [_], _ => rfl)
    have D_need_lot := G.defAt_mk (x := "need_lot") (nm := "need_lot") (ps := ["many", "lot"]) (st := LK.st_need_lot) KX GG (by k_is) (by k_is) (by k_is) (by k_is) (fun _ _ _ _ _ _ us hl => match us, hl with | [_, _], _ => rfl)
    have D_all_bars := G.defAt_mk (x := "all_bars") (nm := "all_bars") (ps := ["many", "lot"]) (st := LK.st_all_bars) KX GG (by k_is) (by k_is) (by k_is) (by k_is) (fun _ _ _ _ _ _ us hl => match us, hl with | [_, _], _ => rfl)
    have D_is_sound := G.defAt_mk (x := "is_sound") (nm := "is_sound") (ps := ["many", "lot"]) (st := LK.st_is_sound) KX GG (by k_is) (by k_is) (by k_is) (by k_is) (fun _ _ _ _ _ _ us hl => match us, hl with | [_, _], _ => rfl)
    have D_amid := G.defAt_mk (x := "amid") (nm := "amid") (ps := ["lot", "low", "high"]) (st := LK.st_amid) KX GG (by k_is) (by k_is) (by k_is) (by k_is) (fun _ _ _ _ _ _ us hl => match us, hl with | [_, _, _], _ => rfl)
    have D_outer := G.defAt_mk (x := "outer") (nm := "outer") (ps := ["many", "lot"]) (st := LK.st_outer) KX GG (by k_is) (by k_is) (by k_is) (by k_is) (fun _ _ _ _ _ _ us hl => match us, hl with | [_, _], _ => rfl)
    have D_under := G.defAt_mk (x := "under") (nm := "under") (ps := ["lot", "low", "high", "above", "found"]) (st := LK.st_under) KX GG (by k_is) (by k_is) (by k_is) (by k_is) (fun _ _ _ _ _ _ us hl => match us, hl with | [_, _, _, _, _], _ => rfl)
    have D_tree_of := G.defAt_mk (x := "tree_of") (nm := "tree_of") (ps := ["many", "lot", "top"]) (st := LK.st_tree_of) KX GG (by k_is) (by k_is) (by k_is) (by k_is) (fun _ _ _ _ _ _ us hl => match us, hl with | [_, _, _], _ => rfl)
    have D_above_all := G.defAt_mk (x := "above_all") (nm := "above_all") (ps := ["tree", "house"]) (st := LK.st_above_all) KX GG (by k_is) (by k_is) (by k_is) (by k_is) (fun _ _ _ _ _ _ us hl => match us, hl with | [_, _], _ => rfl)
    have D_orders_by := G.defAt_mk (x := "orders_by") (nm := "orders_by") (ps := ["many", "tree"]) (st := LK.st_orders_by) KX GG (by k_is) (by k_is) (by k_is) (by k_is) (fun _ _ _ _ _ _ us hl => match us, hl with | [_, _], _ => rfl)
    have D_tops := G.defAt_mk (x := "tops") (nm := "tops") (ps := ["many", "lot"]) (st := LK.st_tops) KX GG (by k_is) (by k_is) (by k_is) (by k_is) (fun _ _ _ _ _ _ us hl => match us, hl with | [_, _], _ => rfl)
    have D_first_by := G.defAt_mk (x := "first_by") (nm := "first_by") (ps := ["many", "tree"]) (st := LK.st_first_by) KX GG (by k_is) (by k_is) (by k_is) (by k_is) (fun _ _ _ _ _ _ us hl => match us, hl with | [_, _], _ => rfl)
    have D_how_many := G.defAt_mk (x := "how_many") (nm := "how_many") (ps := ["many", "lot"]) (st := LK.st_how_many) KX GG (by k_is) (by k_is) (by k_is) (by k_is) (fun _ _ _ _ _ _ us hl => match us, hl with | [_, _], _ => rfl)
    have D_first_order := G.defAt_mk (x := "first_order") (nm := "first_order") (ps := ["many", "lot"]) (st := LK.st_first_order) KX GG (by k_is) (by k_is) (by k_is) (by k_is) (fun _ _ _ _ _ _ us hl => match us, hl with | [_, _], _ => rfl)
    have D_highest := G.defAt_mk (x := "highest") (nm := "highest") (ps := ["many", "lot"]) (st := LK.st_highest) KX GG (by k_is) (by k_is) (by k_is) (by k_is) (fun _ _ _ _ _ _ us hl => match us, hl with | [_, _], _ => rfl)
    have D_law_deck := G.defAt_mk (x := "_law_deck") (nm := "_law_deck") (ps := ["cell", "turn"]) (st := LK.st_law_deck) KX GG (by k_is) (by k_is) (by k_is) (by k_is) (fun _ _ _ _ _ _ us hl => match us, hl with | [_, _], _ => rfl)
    have D_law_pick := G.defAt_mk (x := "_law_pick") (nm := "_law_pick") (ps := ["deck", "size"]) (st := LK.st_law_pick) KX GG (by k_is) (by k_is) (by k_is) (by k_is) (fun _ _ _ _ _ _ us hl => match us, hl with | [_, _], _ => rfl)
    have D_law_one := G.defAt_mk (x := "_law_one") (nm := "_law_one") (ps := ["deck", "some"]) (st := LK.st_law_one) KX GG (by k_is) (by k_is) (by k_is) (by k_is) (fun _ _ _ _ _ _ us hl => match us, hl with | [_, _], _ => rfl)
    have D_law_sort := G.defAt_mk (x := "_law_sort") (nm := "_law_sort") (ps := ["thing"]) (st := LK.st_law_sort) KX GG (by k_is) (by k_is) (by k_is) (by k_is) (fun _ _ _ _ _ _ us hl => match us, hl with | [_], _ => rfl)
    have D_law_same := G.defAt_mk (x := "_law_same") (nm := "_law_same") (ps := ["told", "due"]) (st := LK.st_law_same) KX GG (by k_is) (by k_is) (by k_is) (by k_is) (fun _ _ _ _ _ _ us hl => match us, hl with | [_, _], _ => rfl)
    have D_law_seen := G.defAt_mk (x := "_law_seen") (nm := "_law_seen") (ps := ["heights_so"]) (st := LK.st_law_seen) KX GG (by k_is) (by k_is) (by k_is) (by k_is) (fun _ _ _ _ _ _ us hl => match us, hl with | [_], _ => rfl)
    have D_law_pairs := G.defAt_mk (x := "_law_pairs") (nm := "_law_pairs") (ps := ["many"]) (st := LK.st_law_pairs) KX GG (by k_is) (by k_is) (by k_is) (by k_is) (fun _ _ _ _ _ _ us hl => match us, hl with | [_], _ => rfl)
    have D_law_bent := G.defAt_mk (x := "_law_bent") (nm := "_law_bent") (ps := ["deck", "many", "lot"]) (st := LK.st_law_bent) KX GG (by k_is) (by k_is) (by k_is) (by k_is) (fun _ _ _ _ _ _ us hl => match us, hl with | [_, _, _], _ => rfl)
    have D_law_orders := G.defAt_mk (x := "_law_orders") (nm := "_law_orders") (ps := ["many"]) (st := LK.st_law_orders) KX GG (by k_is) (by k_is) (by k_is) (by k_is) (fun _ _ _ _ _ _ us hl => match us, hl with | [_], _ => rfl)
    have D_law_by_lots := G.defAt_mk (x := "_law_by_lots") (nm := "_law_by_lots") (ps := ["many"]) (st := LK.st_law_by_lots) KX GG (by k_is) (by k_is) (by k_is) (by k_is) (fun _ _ _ _ _ _ us hl => match us, hl with | [_], _ => rfl)
    have B : LK.Bt mg := ⟨PySem.W.mg_none_of KX GG (by k_is), PySem.W.mg_none_of KX GG (by k_is), PySem.W.mg_none_of KX GG (by k_is), PySem.W.mg_none_of KX GG (by k_is), PySem.W.mg_none_of KX GG (by k_is), PySem.W.mg_none_of KX GG (by k_is), PySem.W.mg_none_of KX GG (by k_is), PySem.W.mg_none_of KX GG (by k_is), PySem.W.mg_none_of KX GG (by k_is), PySem.W.mg_none_of KX GG (by k_is), PySem.W.mg_none_of KX GG (by k_is), PySem.W.mg_none_of KX GG (by k_is), PySem.W.mg_none_of KX GG (by k_is), PySem.W.mg_none_of KX GG (by k_is), PySem.W.mg_none_of KX GG (by k_is), PySem.W.mg_none_of KX GG (by k_is), ⟨_, PySem.W.mg_of KX GG (by k_is)⟩⟩
    have key := G.law_key (st := LK.st_law) KX GG hmg (by k_is) (by k_is) (by k_is) (by k_is)
    obtain ⟨oc, kV, dc, pm, cd, ct, od, an, sl, _, l4, c4, k4⟩ := key
    exact ⟨_, fun s v => .of_eq rfl, fun base _ _ => G.law_end (LK.all_ok B D_is_from D_is_rising D_is_lot D_need_many D_need_lot D_all_bars D_is_sound D_amid D_outer D_under D_tree_of D_above_all D_orders_by D_tops D_first_by D_how_many D_first_order D_highest D_law_deck D_law_pick D_law_one D_law_sort D_law_same D_law_seen D_law_pairs D_law_bent D_law_orders D_law_by_lots (L2.fun_mk (st := LK.st_law) l4 c4 k4)) LK.law_true⟩

