import PyProof.Rows.All
import Wide.All
import OpenK.AllK
import Wide.FinOn
import HandS.ForMost
import HandS.ForExc
import HandS.TupAny
import HandS.TupLe
import HandS.TupMul
import HandS.IsInst
import HandS.Flow
import HandS.Deep
import HandS.Zip
import HandS.Iter
import HandS.Style
import KE.SortData
import KE.DataMinMax
import PySem.Challenge.RW_pagehouse_k89_things_that_snap
set_option Elab.async false
set_option linter.all false
set_option maxRecDepth 100000
set_option maxHeartbeats 4000000
/-! PdCore: Python values as trees, a store of mutable objects, how they lie in the abstract heap; the judgements. -/
namespace PD
open PySem PySem.Spec PyProof.Rows L2

/-- a value: tuples are trees; what can change stands in the store -/
inductive D where
  | non | bl (b : Bool) | int (i : Int) | str (x : Str) | tup (ds : List D) | cl (ds : List D) | fz (ds : List D) | ref (i : Nat)

mutual
def D.beq : D → D → Bool
  | .non, .non => true
  | .bl a, .bl b => a == b
  | .int a, .int b => a == b
  | .str a, .str b => a == b
  | .tup a, .tup b => D.beqL a b
  | .cl a, .cl b => D.beqL a b
  | .fz a, .fz b => D.beqL a b
  | .ref a, .ref b => a == b
  | _, _ => false
def D.beqL : List D → List D → Bool
  | [], [] => true
  | a :: r, b :: s => D.beq a b && D.beqL r s
  | _, _ => false
end
mutual
theorem D.of_beq : ∀ (a b : D), D.beq a b = true → a = b
  | .non, b, h => by cases b <;> simp_all [D.beq]
  | .bl x, b, h => by cases b <;> simp_all [D.beq]
  | .int x, b, h => by cases b <;> simp_all [D.beq]
  | .str x, b, h => by cases b <;> simp_all [D.beq]
  | .tup x, b, h => by
    cases b with
    | tup y => rw [D.of_beqL x y (by simpa [D.beq] using h)]
    | _ => simp [D.beq] at h
  | .cl x, b, h => by
    cases b with
    | cl y => rw [D.of_beqL x y (by simpa [D.beq] using h)]
    | _ => simp [D.beq] at h
  | .fz x, b, h => by
    cases b with
    | fz y => rw [D.of_beqL x y (by simpa [D.beq] using h)]
    | _ => simp [D.beq] at h
  | .ref x, b, h => by cases b <;> simp_all [D.beq]
theorem D.of_beqL : ∀ (a b : List D), D.beqL a b = true → a = b
  | [], [], _ => rfl
  | [], _ :: _, h => by simp [D.beqL] at h
  | _ :: _, [], h => by simp [D.beqL] at h
  | x :: r, y :: s, h => by
    rw [D.beqL, Bool.and_eq_true] at h
    rw [D.of_beq x y h.1, D.of_beqL r s h.2]
end
mutual
theorem D.beq_self : ∀ (a : D), D.beq a a = true
  | .non => rfl
  | .bl x => by simp [D.beq]
  | .int x => by simp [D.beq]
  | .str x => by simp [D.beq]
  | .tup x => by rw [D.beq]; exact D.beqL_self x
  | .cl x => by rw [D.beq]; exact D.beqL_self x
  | .fz x => by rw [D.beq]; exact D.beqL_self x
  | .ref x => by simp [D.beq]
theorem D.beqL_self : ∀ (a : List D), D.beqL a a = true
  | [] => rfl
  | x :: r => by rw [D.beqL, D.beq_self x, D.beqL_self r]; rfl
end
instance : DecidableEq D := fun a b =>
  if h : D.beq a b = true then isTrue (D.of_beq a b h) else isFalse fun e => h (by rw [e]; exact D.beq_self b)
instance : Inhabited D := ⟨.non⟩

/-- what can change -/
inductive O where
  | lst (ds : List D) | dic (kvs : List (Key × D)) | dit (kvs : List (List Key × D)) | ins (c : Nat) (fs : List (Str × D))
  deriving DecidableEq
abbrev Store := List O
abbrev DEnv := List (Option D)
abbrev St := L2.St

/-! ### how it lies -/
/-- a list that never changes -/
def SqF (K : PySem.W.Frag) (H : Hp) (a : Addr) (xs : List V) : Prop :=
  (∃ o, H a = some (.frz o (.lst xs))) ∨
    ∃ (o : Obj) (its : Array Value) (n : Nat), K.lookup a = some o ∧ o.cls = .type "list" ∧ o.dict = none ∧ o.data = .seq its n ∧ its.size ≤ sizeLine ∧ Vals xs its.toList
theorem SqF.l {K : PySem.W.Frag} {H : Hp} {a : Addr} {xs : List V} (h : SqF K H a xs) : SqL K H a xs := by
  rcases h with ⟨o, h⟩ | h
  · exact .inl (.inr ⟨o, h⟩)
  · exact .inr h
mutual
def Rel (K : PySem.W.Frag) (H : Hp) (ρ : List Addr) : D → V → Prop
  | .non, v => v = .non
  | .bl b, v => v = .bl b
  | .int i, v => v = .int i
  | .str x, v => v = .str x
  | .tup ds, v => ∃ a vs, v = .ref a ∧ SqT K H a vs ∧ RelL K H ρ ds vs
  | .cl ds, v => ∃ a vs, v = .ref a ∧ (H a = some (.lst vs) ∧ a ∉ ρ) ∧ RelL K H ρ ds vs
  | .fz ds, v => ∃ a vs, v = .ref a ∧ SqF K H a vs ∧ RelL K H ρ ds vs
  | .ref i, v => ∃ a, v = .ref a ∧ ρ[i]? = some a
def RelL (K : PySem.W.Frag) (H : Hp) (ρ : List Addr) : List D → List V → Prop
  | [], vs => vs = []
  | d :: ds, vs => ∃ v r, vs = v :: r ∧ Rel K H ρ d v ∧ RelL K H ρ ds r
end

/-- what never changes is kept, and the lists that stand outside of the store -/
structure Le (H : Hp) (ρ : List Addr) (H' : Hp) (ρ' : List Addr) : Prop where
  tups : ∀ a xs, H a = some (.tup xs) → H' a = some (.tup xs)
  frzs : ∀ a o u, H a = some (.frz o u) → H' a = some (.frz o u)
  pre : ρ <+: ρ'
  keep : ∀ a vs, H a = some (.lst vs) → a ∉ ρ → H' a = some (.lst vs) ∧ a ∉ ρ'
theorem Le.refl (H : Hp) (ρ : List Addr) : Le H ρ H ρ := ⟨fun _ _ h => h, fun _ _ _ h => h, List.prefix_refl _, fun _ _ h n => ⟨h, n⟩⟩
theorem Le.trans {H H1 H2 : Hp} {ρ ρ1 ρ2 : List Addr} (a : Le H ρ H1 ρ1) (b : Le H1 ρ1 H2 ρ2) : Le H ρ H2 ρ2 :=
  ⟨fun p xs h => b.tups p xs (a.tups p xs h), fun p o u h => b.frzs p o u (a.frzs p o u h), a.pre.trans b.pre, fun p vs h n => let ⟨h1, n1⟩ := a.keep p vs h n; b.keep p vs h1 n1⟩
theorem Le.new {H : Hp} {ρ : List Addr} {p : Addr} {o : HO} (h : H p = none) : Le H ρ (upd H p o) ρ :=
  ⟨fun a xs e => by rw [upd_ne (ne_of_none e h)]; exact e, fun a o u e => by rw [upd_ne (ne_of_none e h)]; exact e, List.prefix_refl _, fun a vs e n => ⟨by rw [upd_ne (ne_of_none e h)]; exact e, n⟩⟩
theorem Le.push {H : Hp} {ρ : List Addr} {p : Addr} {o : HO} (h : H p = none) : Le H ρ (upd H p o) (ρ ++ [p]) :=
  ⟨fun a xs e => by rw [upd_ne (ne_of_none e h)]; exact e, fun a o u e => by rw [upd_ne (ne_of_none e h)]; exact e, List.prefix_append _ _, fun a vs e n => by
    have na : a ≠ p := ne_of_none e h
    exact ⟨by rw [upd_ne na]; exact e, by simp [n, na]⟩⟩
theorem Le.upd {H : Hp} {ρ : List Addr} {p : Addr} {o u : HO} (hm : p ∈ ρ) (h : H p = some u) (ht : ∀ xs, u ≠ .tup xs) (hf : ∀ o w, u ≠ .frz o w) : Le H ρ (upd H p o) ρ :=
  ⟨fun a xs e => by
    rw [upd_ne]
    · exact e
    · intro z; rw [z, h] at e; exact ht xs (Option.some.inj e),
   fun a o' w e => by
    rw [upd_ne]
    · exact e
    · intro z; rw [z, h] at e; exact hf o' w (Option.some.inj e),
   List.prefix_refl _, fun a vs e n => ⟨by rw [upd_ne (fun (z : a = p) => n (by rw [z]; exact hm))]; exact e, n⟩⟩
theorem Le.sqt {K : PySem.W.Frag} {H H' : Hp} {ρ ρ' : List Addr} (x : Le H ρ H' ρ') {a : Addr} {vs : List V} (h : SqT K H a vs) : SqT K H' a vs := by
  rcases h with (h | ⟨o, h⟩) | h
  · exact .inl (.inl (x.tups _ _ h))
  · exact .inl (.inr ⟨o, x.frzs _ _ _ h⟩)
  · exact .inr h
theorem Le.sqf {K : PySem.W.Frag} {H H' : Hp} {ρ ρ' : List Addr} (x : Le H ρ H' ρ') {a : Addr} {vs : List V} (h : SqF K H a vs) : SqF K H' a vs := by
  rcases h with ⟨o, h⟩ | h
  · exact .inl ⟨o, x.frzs _ _ _ h⟩
  · exact .inr h

section
variable {K : PySem.W.Frag} {H H' : Hp} {ρ ρ' : List Addr}
mutual
theorem Rel.mono (x : Le H ρ H' ρ') : ∀ {d : D} {v : V}, Rel K H ρ d v → Rel K H' ρ' d v
  | .non, _, h => h
  | .bl _, _, h => h
  | .int _, _, h => h
  | .str _, _, h => h
  | .tup _, _, h => by
    obtain ⟨a, vs, e, s, r⟩ := h
    exact ⟨a, vs, e, x.sqt s, RelL.mono x r⟩
  | .cl _, _, h => by
    obtain ⟨a, vs, e, ⟨s, n⟩, r⟩ := h
    exact ⟨a, vs, e, x.keep a vs s n, RelL.mono x r⟩
  | .fz _, _, h => by
    obtain ⟨a, vs, e, s, r⟩ := h
    exact ⟨a, vs, e, x.sqf s, RelL.mono x r⟩
  | .ref i, _, h => by
    obtain ⟨a, e, q⟩ := h
    refine ⟨a, e, ?_⟩
    obtain ⟨t, rfl⟩ := x.pre
    rw [List.getElem?_append_left (List.getElem?_eq_some_iff.mp q).1]
    exact q
theorem RelL.mono (x : Le H ρ H' ρ') : ∀ {ds : List D} {vs : List V}, RelL K H ρ ds vs → RelL K H' ρ' ds vs
  | [], _, h => h
  | _ :: _, _, h => by
    obtain ⟨v, r, e, s, t⟩ := h
    exact ⟨v, r, e, Rel.mono x s, RelL.mono x t⟩
end
theorem RelL.length : ∀ {ds : List D} {vs : List V}, RelL K H ρ ds vs → vs.length = ds.length
  | [], _, h => by cases h; rfl
  | _ :: _, _, h => by
    obtain ⟨v, r, e, _, t⟩ := h
    subst e
    rw [List.length_cons, List.length_cons, t.length]
theorem RelL.get : ∀ {ds : List D} {vs : List V} {i : Nat} {d : D}, RelL K H ρ ds vs → ds[i]? = some d → ∃ v, vs[i]? = some v ∧ Rel K H ρ d v
  | [], _, _, _, _, e => by simp at e
  | _ :: _, _, 0, d, h, e => by
    obtain ⟨v, r, rfl, s, _⟩ := h
    simp at e; subst e
    exact ⟨v, rfl, s⟩
  | _ :: _, _, i + 1, d, h, e => by
    obtain ⟨v, r, rfl, _, t⟩ := h
    obtain ⟨w, h1, h2⟩ := RelL.get (i := i) (d := d) t (by simpa using e)
    exact ⟨w, by simpa using h1, h2⟩
theorem RelL.get' {ds : List D} {vs : List V} {i : Nat} {v : V} (h : RelL K H ρ ds vs) (e : vs[i]? = some v) : ∃ d, ds[i]? = some d ∧ Rel K H ρ d v := by
  have hi : i < vs.length := (List.getElem?_eq_some_iff.mp e).1
  rw [h.length] at hi
  obtain ⟨w, h1, h2⟩ := h.get (List.getElem?_eq_getElem hi)
  rw [e] at h1; cases h1
  exact ⟨_, List.getElem?_eq_getElem hi, h2⟩
theorem RelL.append : ∀ {ds es : List D} {vs ws : List V}, RelL K H ρ ds vs → RelL K H ρ es ws → RelL K H ρ (ds ++ es) (vs ++ ws)
  | [], _, _, _, h, k => by cases h; exact k
  | _ :: _, _, _, _, h, k => by
    obtain ⟨v, r, rfl, s, t⟩ := h
    exact ⟨v, r ++ _, rfl, s, RelL.append t k⟩
theorem RelL.cons {d : D} {ds : List D} {v : V} {vs : List V} (h : Rel K H ρ d v) (t : RelL K H ρ ds vs) : RelL K H ρ (d :: ds) (v :: vs) := ⟨v, vs, rfl, h, t⟩
theorem RelL.nil : RelL K H ρ [] [] := rfl
theorem RelL.one {d : D} {v : V} (h : Rel K H ρ d v) : RelL K H ρ [d] [v] := .cons h .nil
theorem RelL.set : ∀ {ds : List D} {vs : List V} {d : D} {v : V} (i : Nat), RelL K H ρ ds vs → Rel K H ρ d v → RelL K H ρ (ds.set i d) (vs.set i v)
  | [], _, _, _, _, h, _ => by cases h; exact rfl
  | _ :: _, _, _, _, 0, h, q => by
    obtain ⟨v, r, rfl, _, t⟩ := h
    exact ⟨_, r, rfl, q, t⟩
  | _ :: _, _, _, _, i + 1, h, q => by
    obtain ⟨v, r, rfl, s, t⟩ := h
    exact ⟨v, _, rfl, s, RelL.set i t q⟩
theorem RelL.take : ∀ {ds : List D} {vs : List V} (n : Nat), RelL K H ρ ds vs → RelL K H ρ (ds.take n) (vs.take n)
  | _, _, 0, _ => rfl
  | [], _, _ + 1, h => by cases h; exact rfl
  | _ :: _, _, n + 1, h => by
    obtain ⟨v, r, rfl, s, t⟩ := h
    exact ⟨v, _, rfl, s, RelL.take n t⟩
theorem RelL.drop : ∀ {ds : List D} {vs : List V} (n : Nat), RelL K H ρ ds vs → RelL K H ρ (ds.drop n) (vs.drop n)
  | _, _, 0, h => h
  | [], _, _ + 1, h => by cases h; exact rfl
  | _ :: _, _, n + 1, h => by
    obtain ⟨v, r, rfl, s, t⟩ := h
    exact RelL.drop n t
theorem RelL.eraseIdx {ds : List D} {vs : List V} (i : Nat) (h : RelL K H ρ ds vs) : RelL K H ρ (ds.eraseIdx i) (vs.eraseIdx i) := by
  rw [List.eraseIdx_eq_take_drop_succ, List.eraseIdx_eq_take_drop_succ]
  exact (h.take _).append (h.drop _)
theorem RelL.reverse : ∀ {ds : List D} {vs : List V}, RelL K H ρ ds vs → RelL K H ρ ds.reverse vs.reverse
  | [], _, h => by cases h; exact rfl
  | _ :: _, _, h => by
    obtain ⟨v, r, rfl, s, t⟩ := h
    rw [List.reverse_cons, List.reverse_cons]
    exact t.reverse.append (.one s)
theorem RelL.mem {ds : List D} {vs : List V} {d : D} (h : RelL K H ρ ds vs) (m : d ∈ ds) : ∃ v ∈ vs, Rel K H ρ d v := by
  obtain ⟨i, hi, e⟩ := List.mem_iff_getElem.mp m
  obtain ⟨v, h1, h2⟩ := h.get (i := i) (d := d) (by rw [List.getElem?_eq_getElem hi, e])
  exact ⟨v, List.mem_of_getElem? h1, h2⟩
theorem RelL.mk : ∀ {ds : List D} {vs : List V}, vs.length = ds.length → (∀ (i : Nat) (d : D) (v : V), ds[i]? = some d → vs[i]? = some v → Rel K H ρ d v) → RelL K H ρ ds vs
  | [], vs, hl, _ => by
    rw [List.length_nil] at hl
    exact List.length_eq_zero_iff.mp hl
  | d :: ds, [], hl, _ => by simp at hl
  | d :: ds, v :: vs, hl, h => ⟨v, vs, rfl, h 0 d v rfl rfl, RelL.mk (by simpa using hl) fun i d v e1 e2 => h (i + 1) d v (by simpa using e1) (by simpa using e2)⟩

def RelKV {κ : Type} (K : PySem.W.Frag) (H : Hp) (ρ : List Addr) : List (κ × D) → List (κ × V) → Prop := Paired fun p q => p.1 = q.1 ∧ Rel K H ρ p.2 q.2
theorem RelKV.mono {κ : Type} (x : Le H ρ H' ρ') {l : List (κ × D)} {m : List (κ × V)} (h : RelKV K H ρ l m) : RelKV K H' ρ' l m :=
  Paired.mapP h fun _ _ z => ⟨z.1, z.2.mono x⟩
def ORel (K : PySem.W.Frag) (H : Hp) (ρ : List Addr) (a : Addr) : O → Prop
  | .lst ds => ∃ vs, H a = some (.lst vs) ∧ RelL K H ρ ds vs
  | .dic kvs => ∃ vs, H a = some (.dK vs) ∧ RelKV K H ρ kvs vs
  | .dit kvs => ∃ vs, H a = some (.dT vs) ∧ RelKV K H ρ kvs vs
  | .ins c fs => ∃ dx vs, H a = some (.ins c dx vs) ∧ RelKV K H ρ fs vs
/-- the object at a is kept as it lies -/
theorem ORel.mono (x : Le H ρ H' ρ') {a : Addr} (e : H' a = H a) : ∀ {o : O}, ORel K H ρ a o → ORel K H' ρ' a o
  | .lst _, ⟨vs, h, r⟩ => ⟨vs, e.trans h, r.mono x⟩
  | .dic _, ⟨vs, h, r⟩ => ⟨vs, e.trans h, r.mono x⟩
  | .dit _, ⟨vs, h, r⟩ => ⟨vs, e.trans h, r.mono x⟩
  | .ins _ _, ⟨dx, vs, h, r⟩ => ⟨dx, vs, e.trans h, r.mono x⟩
theorem ORel.there {a : Addr} : ∀ {o : O}, ORel K H ρ a o → ∃ u, H a = some u ∧ (∀ xs, u ≠ .tup xs) ∧ (∀ o w, u ≠ .frz o w)
  | .lst _, ⟨_, h, _⟩ => ⟨_, h, (fun _ z => nomatch z), (fun _ _ z => nomatch z)⟩
  | .dic _, ⟨_, h, _⟩ => ⟨_, h, (fun _ z => nomatch z), (fun _ _ z => nomatch z)⟩
  | .dit _, ⟨_, h, _⟩ => ⟨_, h, (fun _ z => nomatch z), (fun _ _ z => nomatch z)⟩
  | .ins _ _, ⟨_, _, h, _⟩ => ⟨_, h, (fun _ z => nomatch z), (fun _ _ z => nomatch z)⟩

structure RelS (K : PySem.W.Frag) (H : Hp) (ρ : List Addr) (S : Store) : Prop where
  len : ρ.length = S.length
  nd : ρ.Nodup
  «at» : ∀ (i : Nat) (o : O) (a : Addr), S[i]? = some o → ρ[i]? = some a → ORel K H ρ a o
theorem RelS.get {S : Store} (h : RelS K H ρ S) {i : Nat} {o : O} (e : S[i]? = some o) : ∃ a, ρ[i]? = some a ∧ ORel K H ρ a o := by
  have hi : i < ρ.length := by rw [h.len]; exact (List.getElem?_eq_some_iff.mp e).1
  exact ⟨_, List.getElem?_eq_getElem hi, h.at i o _ e (List.getElem?_eq_getElem hi)⟩
/-- a new thing that is not of the store -/
theorem RelS.new {S : Store} (h : RelS K H ρ S) {p : Addr} {o : HO} (n : H p = none) : RelS K (upd H p o) ρ S :=
  ⟨h.len, h.nd, fun i ob a e1 e2 => by
    have q := h.at i ob a e1 e2
    obtain ⟨u, hu, _⟩ := q.there
    exact q.mono (Le.new n) (upd_ne (ne_of_none hu n))⟩
/-- a new thing of the store -/
theorem RelS.push {S : Store} (h : RelS K H ρ S) {p : Addr} {o : HO} {ob : O} (n : H p = none) (r : ORel K (upd H p o) (ρ ++ [p]) p ob) : RelS K (upd H p o) (ρ ++ [p]) (S ++ [ob]) := by
  have hnew : ∀ (i : Nat) (a : Addr), ρ[i]? = some a → ∃ o, S[i]? = some o := fun i a e => by
    have hi : i < S.length := by rw [← h.len]; exact (List.getElem?_eq_some_iff.mp e).1
    exact ⟨_, List.getElem?_eq_getElem hi⟩
  refine ⟨by simp [h.len], ?_, fun i oi a e1 e2 => ?_⟩
  · rw [List.nodup_append]
    refine ⟨h.nd, by simp, fun a ha b hb => ?_⟩
    have hb : b = p := by simpa using hb
    obtain ⟨i, hi, e⟩ := List.mem_iff_getElem.mp ha
    have e' : ρ[i]? = some a := by rw [List.getElem?_eq_getElem hi, e]
    obtain ⟨oi, ho⟩ := hnew i a e'
    obtain ⟨u, hu, _⟩ := (h.at i oi a ho e').there
    rw [hb]
    exact ne_of_none hu n
  · by_cases hi : i < S.length
    · rw [List.getElem?_append_left hi] at e1
      rw [List.getElem?_append_left (by rw [h.len]; exact hi)] at e2
      have q := h.at i oi a e1 e2
      obtain ⟨u, hu, _⟩ := q.there
      exact q.mono (Le.push n) (upd_ne (ne_of_none hu n))
    · have hi' : i = S.length := by
        have := (List.getElem?_eq_some_iff.mp e1).1
        simp at this
        omega
      subst hi'
      rw [List.getElem?_append_right (Nat.le_refl _), Nat.sub_self] at e1
      rw [List.getElem?_append_right (by rw [h.len]; exact Nat.le_refl _), h.len, Nat.sub_self] at e2
      simp at e1 e2
      subst e1; subst e2
      exact r
/-- a thing of the store is written -/
theorem RelS.set {S : Store} (h : RelS K H ρ S) {i : Nat} {a : Addr} {ob : O} {o : HO} {u : O} (hu : S[i]? = some u) (e : ρ[i]? = some a) (r : ORel K (upd H a o) ρ a ob) : RelS K (upd H a o) ρ (S.set i ob) ∧ Le H ρ (upd H a o) ρ := by
  obtain ⟨x, hx, ht, hf⟩ := (h.at i u a hu e).there
  have le : Le H ρ (upd H a o) ρ := Le.upd (List.mem_of_getElem? e) hx ht hf
  refine ⟨⟨by rw [List.length_set]; exact h.len, h.nd, fun j oj b e1 e2 => ?_⟩, le⟩
  by_cases hj : j = i
  · subst hj
    rw [List.getElem?_set_self (List.getElem?_eq_some_iff.mp hu).1] at e1
    rw [e] at e2
    cases e1; cases e2
    exact r
  · rw [List.getElem?_set_ne (Ne.symm hj)] at e1
    have hb : b ≠ a := fun z => by
      subst z
      obtain ⟨h1, e1'⟩ := List.getElem?_eq_some_iff.mp e
      obtain ⟨h2, e2'⟩ := List.getElem?_eq_some_iff.mp e2
      exact hj ((List.getElem_inj h.nd).mp (e2'.trans e1'.symm))
    exact (h.at j oj b e1 e2).mono le (upd_ne hb)
theorem RelS.keep {S : Store} (h : RelS K H ρ S) (x : Le H ρ H' ρ) (k : ∀ a ∈ ρ, H' a = H a) : RelS K H' ρ S :=
  ⟨h.len, h.nd, fun i o a e1 e2 => (h.at i o a e1 e2).mono x (k a (List.mem_of_getElem? e2))⟩

mutual
def D.lo (n : Nat) : D → Bool
  | .ref i => decide (i < n)
  | .tup ds => D.loL n ds
  | .cl ds => D.loL n ds
  | .fz ds => D.loL n ds
  | _ => true
def D.loL (n : Nat) : List D → Bool
  | [] => true
  | d :: ds => D.lo n d && D.loL n ds
end
def O.lo (n : Nat) : O → Bool
  | .lst ds => D.loL n ds
  | .dic kvs => kvs.all fun p => p.2.lo n
  | .dit kvs => kvs.all fun p => p.2.lo n
  | .ins _ fs => fs.all fun p => p.2.lo n
mutual
theorem Rel.take (n : Nat) : ∀ {d : D} {v : V}, d.lo n = true → Rel K H ρ d v → Rel K H (ρ.take n) d v
  | .non, _, _, h => h
  | .bl _, _, _, h => h
  | .int _, _, _, h => h
  | .str _, _, _, h => h
  | .tup _, _, b, h => by
    obtain ⟨a, vs, e, s, r⟩ := h
    exact ⟨a, vs, e, s, RelL.takeP n b r⟩
  | .cl _, _, b, h => by
    obtain ⟨a, vs, e, ⟨s, m⟩, r⟩ := h
    exact ⟨a, vs, e, ⟨s, fun z => m (List.mem_of_mem_take z)⟩, RelL.takeP n b r⟩
  | .fz _, _, b, h => by
    obtain ⟨a, vs, e, s, r⟩ := h
    exact ⟨a, vs, e, s, RelL.takeP n b r⟩
  | .ref i, _, b, h => by
    obtain ⟨a, e, q⟩ := h
    refine ⟨a, e, ?_⟩
    have hi : i < n := of_decide_eq_true b
    rw [List.getElem?_take_of_lt hi]
    exact q
theorem RelL.takeP (n : Nat) : ∀ {ds : List D} {vs : List V}, D.loL n ds = true → RelL K H ρ ds vs → RelL K H (ρ.take n) ds vs
  | [], _, _, h => h
  | _ :: _, _, b, h => by
    obtain ⟨v, r, e, s, t⟩ := h
    rw [D.loL, Bool.and_eq_true] at b
    exact ⟨v, r, e, Rel.take n b.1 s, RelL.takeP n b.2 t⟩
end
theorem RelKV.take {κ : Type} (n : Nat) {l : List (κ × D)} {m : List (κ × V)} (b : (l.all fun p => p.2.lo n) = true) (h : RelKV K H ρ l m) : RelKV K H (ρ.take n) l m := by
  induction h with
  | nil => exact .nil
  | cons r t ih =>
    rw [List.all_cons, Bool.and_eq_true] at b
    exact .cons ⟨r.1, r.2.take n b.1⟩ (ih b.2)
theorem ORel.take (n : Nat) {a : Addr} : ∀ {o : O}, o.lo n = true → ORel K H ρ a o → ORel K H (ρ.take n) a o
  | .lst _, b, ⟨vs, h, r⟩ => ⟨vs, h, r.takeP n b⟩
  | .dic _, b, ⟨vs, h, r⟩ => ⟨vs, h, r.take n b⟩
  | .dit _, b, ⟨vs, h, r⟩ => ⟨vs, h, r.take n b⟩
  | .ins _ _, b, ⟨dx, vs, h, r⟩ => ⟨dx, vs, h, r.take n b⟩
/-- the things of the store behind n are forgotten: those ahead are as they were (in S, at ρ0), or speak of none behind -/
theorem RelS.take {S0 S : Store} {ρ0 : List Addr} (h : RelS K H ρ S) (hp : ρ0 <+: ρ) (hl : ρ0.length = S0.length) (hk : ∀ (i : Nat) (o : O), S0[i]? = some o → ∃ o' : O, S[i]? = some o' ∧ o'.lo S0.length = true) :
    RelS K H ρ0 (S.take S0.length) := by
  have e0 : ρ.take S0.length = ρ0 := by
    obtain ⟨t, rfl⟩ := hp
    rw [← hl, List.take_left]
  have hlen : S0.length ≤ S.length := by
    rw [← hl, ← h.len]
    exact hp.length_le
  refine ⟨by rw [List.length_take, hl]; omega, ?_, fun i o a e1 e2 => ?_⟩
  · rw [← e0]
    exact h.nd.sublist (List.take_sublist _ _)
  · have hi : i < S0.length := by
      have := (List.getElem?_eq_some_iff.mp e2).1
      omega
    rw [List.getElem?_take_of_lt hi] at e1
    obtain ⟨o', h1, h2⟩ := hk i _ (List.getElem?_eq_getElem hi)
    rw [e1] at h1
    cases h1
    rw [← e0] at e2 ⊢
    have e2' : ρ[i]? = some a := by rwa [List.getElem?_take_of_lt hi] at e2
    exact (h.at i o a e1 e2').take _ h2

def RelE (K : PySem.W.Frag) (H : Hp) (ρ : List Addr) (env : DEnv) (σ : St) : Prop :=
  env.length = σ.length ∧ ∀ (i : Nat) (d : D), env[i]? = some (some d) → ∃ v, σ[i]? = some (some v) ∧ Rel K H ρ d v
theorem RelE.mono (x : Le H ρ H' ρ') {env : DEnv} {σ : St} (h : RelE K H ρ env σ) : RelE K H' ρ' env σ :=
  ⟨h.1, fun i d e => let ⟨v, a, b⟩ := h.2 i d e; ⟨v, a, b.mono x⟩⟩
theorem RelE.set {env : DEnv} {σ : St} (h : RelE K H ρ env σ) (i : Nat) {d : D} {v : V} (r : Rel K H ρ d v) : RelE K H ρ (env.set i (some d)) (σ.set i (some v)) := by
  refine ⟨by simp [h.1], fun j e q => ?_⟩
  by_cases hj : j = i
  · subst hj
    have hlt : j < env.length := by
      have := (List.getElem?_eq_some_iff.mp q).1
      simpa using this
    rw [List.getElem?_set_self hlt] at q
    cases q
    exact ⟨v, by rw [List.getElem?_set_self (by rw [← h.1]; exact hlt)], r⟩
  · rw [List.getElem?_set_ne (Ne.symm hj)] at q
    obtain ⟨w, a, b⟩ := h.2 j e q
    exact ⟨w, by rw [List.getElem?_set_ne (Ne.symm hj)]; exact a, b⟩
end

/-! ### judgements -/
abbrev ME := DEnv → Store → Option (D × Store)
abbrev MA := DEnv → Store → Option (List D × Store)
abbrev MT := DEnv → Store → Option (Bool × Store)
/-- what a statement comes to -/
inductive Out where
  | nx (env : DEnv) (S : Store) | rt (d : D) (S : Store) | bk (env : DEnv) (S : Store) | ct (env : DEnv) (S : Store)
abbrev MS := DEnv → Store → Option Out

/-- how all lies together -/
structure Lie (K : PySem.W.Frag) (σ : St) (H : Hp) (ρ : List Addr) (env : DEnv) (S : Store) : Prop where
  e : RelE K H ρ env σ
  s : RelS K H ρ S
/-- what is behind lies over what was -/
structure Go (K : PySem.W.Frag) (H : Hp) (ρ : List Addr) (H' : Hp) (ρ' : List Addr) (S' : Store) : Prop where
  le : Le H ρ H' ρ'
  s : RelS K H' ρ' S'
theorem Go.trans {K : PySem.W.Frag} {H H1 H2 : Hp} {ρ ρ1 ρ2 : List Addr} {S1 S2 : Store} (a : Go K H ρ H1 ρ1 S1) (b : Go K H1 ρ1 H2 ρ2 S2) : Go K H ρ H2 ρ2 S2 := ⟨a.le.trans b.le, b.s⟩
theorem Lie.go {K : PySem.W.Frag} {σ : St} {H : Hp} {ρ : List Addr} {env : DEnv} {S : Store} (x : Lie K σ H ρ env S) : Go K H ρ H ρ S := ⟨.refl _ _, x.s⟩
theorem Lie.next {K : PySem.W.Frag} {σ : St} {H H' : Hp} {ρ ρ' : List Addr} {env : DEnv} {S S' : Store} (x : Lie K σ H ρ env S) (g : Go K H ρ H' ρ' S') : Lie K σ H' ρ' env S' := ⟨x.e.mono g.le, g.s⟩

def tM (K : PySem.W.Frag) (m : ME) : TE := fun σ H Q => ∃ ρ env S d S', Lie K σ H ρ env S ∧ m env S = some (d, S') ∧ ∀ v H' ρ', Go K H ρ H' ρ' S' → Rel K H' ρ' d v → Q v H'
def tMA (K : PySem.W.Frag) (m : MA) : TA := fun σ H Q => ∃ ρ env S ds S', Lie K σ H ρ env S ∧ m env S = some (ds, S') ∧ ∀ vs H' ρ', Go K H ρ H' ρ' S' → RelL K H' ρ' ds vs → Q vs H'
def tMT (K : PySem.W.Frag) (m : MT) : TT := fun σ H Q => ∃ ρ env S b S', Lie K σ H ρ env S ∧ m env S = some (b, S') ∧ ∀ H' ρ', Go K H ρ H' ρ' S' → Q b H'
def OutQ (K : PySem.W.Frag) (D : Ends) (H : Hp) (ρ : List Addr) : Out → Prop
  | .nx env' S' => ∀ σ' H' ρ', Go K H ρ H' ρ' S' → RelE K H' ρ' env' σ' → D.nx σ' H'
  | .rt d S' => ∀ v H' ρ', Go K H ρ H' ρ' S' → Rel K H' ρ' d v → D.rt v H'
  | .bk env' S' => ∀ σ' H' ρ', Go K H ρ H' ρ' S' → RelE K H' ρ' env' σ' → D.bk σ' H'
  | .ct env' S' => ∀ σ' H' ρ', Go K H ρ H' ρ' S' → RelE K H' ρ' env' σ' → D.ct σ' H'
def tMS (K : PySem.W.Frag) (m : MS) : TS := fun D σ H => ∃ ρ env S o, Lie K σ H ρ env S ∧ m env S = some o ∧ OutQ K D H ρ o

abbrev PM (X : Cx) (e : Expr) (m : ME) : Prop := PE X e (tM X.K m)
abbrev PMA (X : Cx) (es : List Expr) (m : MA) : Prop := PA X es (tMA X.K m)
abbrev PMT (X : Cx) (e : Expr) (m : MT) : Prop := PT X e (tMT X.K m)
abbrev PMW (X : Cx) (e : Expr) (m : MT) : Prop := PW X e (tMT X.K m)
abbrev PMS (X : Cx) (st : Stmt) (m : MS) : Prop := PS X st (tMS X.K m)
abbrev PMB (X : Cx) (st : List Stmt) (m : MS) : Prop := PSs X st (tMS X.K m)

/-- another reading of the same expression -/
theorem PEi {X : Cx} {e : Expr} {t t' : TE} (h : PE X e t) (i : ∀ σ H Q, t' σ H Q → t σ H Q) : PE X e t' := ⟨fun pins s σ H Q I q => h.run pins s σ H Q I (i σ H Q q)⟩
theorem PTi {X : Cx} {e : Expr} {t t' : TT} (h : PT X e t) (i : ∀ σ H Q, t' σ H Q → t σ H Q) : PT X e t' := ⟨fun pins s σ H Q I q => h.run pins s σ H Q I (i σ H Q q)⟩
theorem PWi {X : Cx} {e : Expr} {t t' : TT} (h : PW X e t) (i : ∀ σ H Q, t' σ H Q → t σ H Q) : PW X e t' := ⟨fun wh pins s σ H Q I q => h.run wh pins s σ H Q I (i σ H Q q)⟩
theorem PAi {X : Cx} {e : List Expr} {t t' : TA} (h : PA X e t) (i : ∀ σ H Q, t' σ H Q → t σ H Q) : PA X e t' := ⟨fun pos pins s σ H Q I q => h.run pos pins s σ H Q I (i σ H Q q)⟩
theorem PSi {X : Cx} {e : Stmt} {t t' : TS} (h : PS X e t) (i : ∀ D σ H, t' D σ H → t D σ H) : PS X e t' := ⟨fun pins s σ H D I q => h.run pins s σ H D I (i D σ H q)⟩
theorem PSsi {X : Cx} {e : List Stmt} {t t' : TS} (h : PSs X e t) (i : ∀ D σ H, t' D σ H → t D σ H) : PSs X e t' := ⟨fun pins s σ H D I q => h.run pins s σ H D I (i D σ H q)⟩

/-- the reading in a known place -/
theorem tM_at {K : PySem.W.Frag} {m : ME} {σ : St} {H : Hp} {Q : VK} {ρ : List Addr} {env : DEnv} {S : Store} {d : D} {S' : Store} (L : Lie K σ H ρ env S) (e : m env S = some (d, S'))
    (h : ∀ v H' ρ', Go K H ρ H' ρ' S' → Rel K H' ρ' d v → Q v H') : tM K m σ H Q := ⟨ρ, env, S, d, S', L, e, h⟩
theorem tMA_at {K : PySem.W.Frag} {m : MA} {σ : St} {H : Hp} {Q : List V → Hp → Prop} {ρ : List Addr} {env : DEnv} {S : Store} {d : List D} {S' : Store} (L : Lie K σ H ρ env S) (e : m env S = some (d, S'))
    (h : ∀ v H' ρ', Go K H ρ H' ρ' S' → RelL K H' ρ' d v → Q v H') : tMA K m σ H Q := ⟨ρ, env, S, d, S', L, e, h⟩
theorem tMT_at {K : PySem.W.Frag} {m : MT} {σ : St} {H : Hp} {Q : Bool → Hp → Prop} {ρ : List Addr} {env : DEnv} {S : Store} {d : Bool} {S' : Store} (L : Lie K σ H ρ env S) (e : m env S = some (d, S'))
    (h : ∀ H' ρ', Go K H ρ H' ρ' S' → Q d H') : tMT K m σ H Q := ⟨ρ, env, S, d, S', L, e, h⟩
theorem tMS_at {K : PySem.W.Frag} {m : MS} {σ : St} {H : Hp} {D : Ends} {ρ : List Addr} {env : DEnv} {S : Store} {o : Out} (L : Lie K σ H ρ env S) (e : m env S = some o)
    (h : OutQ K D H ρ o) : tMS K m D σ H := ⟨ρ, env, S, o, L, e, h⟩
theorem OutQ.go {K : PySem.W.Frag} {D : Ends} {H H' : Hp} {ρ ρ' : List Addr} {S' : Store} (g : Go K H ρ H' ρ' S') : ∀ {o : Out}, OutQ K D H ρ o → OutQ K D H' ρ' o
  | .nx _ _, q => fun σ2 H2 ρ2 g2 r => q σ2 H2 ρ2 (g.trans g2) r
  | .rt _ _, q => fun v2 H2 ρ2 g2 r => q v2 H2 ρ2 (g.trans g2) r
  | .bk _ _, q => fun σ2 H2 ρ2 g2 r => q σ2 H2 ρ2 (g.trans g2) r
  | .ct _ _, q => fun σ2 H2 ρ2 g2 r => q σ2 H2 ρ2 (g.trans g2) r
end PD

set_option Elab.async false
set_option linter.all false
set_option maxRecDepth 100000
set_option maxHeartbeats 4000000
/-! PdExpr: names, constants, operators, comparisons, truth, displays, subscripts. -/
namespace PD
open PySem PySem.Spec PyProof.Rows L2

/-! ### scalars that lie -/
section
variable {K : PySem.W.Frag} {H : Hp} {ρ : List Addr}
theorem rel_bl (b : Bool) : Rel K H ρ (.bl b) (.bl b) := by rw [Rel]
theorem rel_int (i : Int) : Rel K H ρ (.int i) (.int i) := by rw [Rel]
theorem rel_str (x : Str) : Rel K H ρ (.str x) (.str x) := by rw [Rel]
theorem rel_non : Rel K H ρ .non .non := by rw [Rel]
theorem Rel.of_bl {b : Bool} {v : V} (h : Rel K H ρ (.bl b) v) : v = .bl b := by rwa [Rel] at h
theorem Rel.of_int {b : Int} {v : V} (h : Rel K H ρ (.int b) v) : v = .int b := by rwa [Rel] at h
theorem Rel.of_str {b : Str} {v : V} (h : Rel K H ρ (.str b) v) : v = .str b := by rwa [Rel] at h
theorem Rel.of_non {v : V} (h : Rel K H ρ .non v) : v = .non := by rwa [Rel] at h
theorem Rel.of_tup {ds : List D} {v : V} (h : Rel K H ρ (.tup ds) v) : ∃ a vs, v = .ref a ∧ SqT K H a vs ∧ RelL K H ρ ds vs := by rwa [Rel] at h
theorem Rel.of_cl {ds : List D} {v : V} (h : Rel K H ρ (.cl ds) v) : ∃ a vs, v = .ref a ∧ (H a = some (.lst vs) ∧ a ∉ ρ) ∧ RelL K H ρ ds vs := by rwa [Rel] at h
theorem Rel.of_fz {ds : List D} {v : V} (h : Rel K H ρ (.fz ds) v) : ∃ a vs, v = .ref a ∧ SqF K H a vs ∧ RelL K H ρ ds vs := by rwa [Rel] at h
theorem Rel.of_ref {i : Nat} {v : V} (h : Rel K H ρ (.ref i) v) : ∃ a, v = .ref a ∧ ρ[i]? = some a := by rwa [Rel] at h
theorem rel_tup {ds : List D} {a : Addr} {vs : List V} (h : SqT K H a vs) (r : RelL K H ρ ds vs) : Rel K H ρ (.tup ds) (.ref a) := by rw [Rel]; exact ⟨a, vs, rfl, h, r⟩
theorem rel_cl {ds : List D} {a : Addr} {vs : List V} (h : H a = some (.lst vs) ∧ a ∉ ρ) (r : RelL K H ρ ds vs) : Rel K H ρ (.cl ds) (.ref a) := by rw [Rel]; exact ⟨a, vs, rfl, h, r⟩
theorem rel_ref {i : Nat} {a : Addr} (h : ρ[i]? = some a) : Rel K H ρ (.ref i) (.ref a) := by rw [Rel]; exact ⟨a, rfl, h⟩
/-- what may be read of a list that does not change -/
theorem clSq {a : Addr} {vs : List V} (h : H a = some (.lst vs) ∧ a ∉ ρ) : SqL K H a vs := SqL.of h.1
/-- a list of the store -/
theorem RelS.lst {S : Store} (h : RelS K H ρ S) {i : Nat} {ds : List D} {v : V} (e : S[i]? = some (.lst ds)) (r : Rel K H ρ (.ref i) v) : ∃ a vs, v = .ref a ∧ ρ[i]? = some a ∧ H a = some (.lst vs) ∧ RelL K H ρ ds vs := by
  obtain ⟨a, rfl, q⟩ := r.of_ref
  obtain ⟨vs, h1, h2⟩ := h.at i _ a e q
  exact ⟨a, vs, rfl, q, h1, h2⟩
end

/-! ### names and constants -/
def mVar (i : Nat) : ME := fun env S => match env[i]? with
  | some (some d) => some (d, S)
  | _ => none
def mC (d : D) : ME := fun _ S => some (d, S)
section
variable {X : Cx} {pos : Pos}
theorem pm_var (i : Nat) {x : Str} {pos : Pos} (hN : X.N[i]? = some x := by rfl) (hv : Vis X.env.scope x := by first | exact Or.inl rfl | exact Or.inr (Or.inl rfl) | exact Or.inr (Or.inr rfl)) (hd : (x == ("__debug__" : Str)) = false := by decide)
    (hcd : (x == ("__classdict__" : Str)) = false := by decide) : PM X (.Name x pos) (mVar i) := PEi (pe_var hN hv hd hcd) fun σ H Q h => by
  obtain ⟨ρ, env, S, d, S', L, e, q⟩ := h
  unfold mVar at e
  split at e
  · rename_i d' h1
    cases e
    obtain ⟨v, h2, r⟩ := L.e.2 i _ h1
    exact ⟨v, h2, q v H ρ L.go r⟩
  · cases e
theorem PM.const {e : Expr} {v : V} {d : D} (h : PE X e (tC v)) (r : ∀ H ρ, Rel X.K H ρ d v) : PM X e (mC d) := PEi h fun σ H Q ⟨ρ, env, S, d', S', L, e, q⟩ => by
  cases e
  exact q v H ρ L.go (r H ρ)
theorem pm_int {i j pos} : PM X (.Constant (.int i) j pos) (mC (.int i)) := PM.const pe_int fun _ _ => rel_int i
theorem pm_bl {b j pos} : PM X (.Constant (.bool b) j pos) (mC (.bl b)) := PM.const pe_bl fun _ _ => rel_bl b
theorem pm_non {j pos} : PM X (.Constant .none j pos) (mC .non) := PM.const pe_non fun _ _ => rel_non
theorem pm_str {x j pos} : PM X (.Constant (.str x) j pos) (mC (.str x)) := PM.const pe_str fun _ _ => rel_str x
/-- a text or a number of the module's top -/
theorem pm_gstr {x : Str} {z : Str} {t : Tok} {pos : Pos} (hg : Gl X x) (hm : X.mg x = some (.str z t)) (hd : (x == ("__debug__" : Str)) = false := by decide) : PM X (.Name x pos) (mC (.str z)) :=
  PM.const (v := .str z) (pe_glob hg hm ⟨t, rfl⟩ hd) fun _ _ => rel_str z
theorem pm_gint {x : Str} {z : Int} {t : Tok} {pos : Pos} (hg : Gl X x) (hm : X.mg x = some (.int z t)) (hd : (x == ("__debug__" : Str)) = false := by decide) : PM X (.Name x pos) (mC (.int z)) :=
  PM.const (v := .int z) (pe_glob hg hm ⟨t, rfl⟩ hd) fun _ _ => rel_int z
end

/-! ### operators -/
abbrev F2 := D → D → Store → Option (D × Store)
abbrev F1 := D → Store → Option (D × Store)
def rD (K : PySem.W.Frag) (f : F2) : R2 := fun x y H Q => ∃ ρ S a b d S', RelS K H ρ S ∧ Rel K H ρ a x ∧ Rel K H ρ b y ∧ f a b S = some (d, S') ∧ ∀ v H' ρ', Go K H ρ H' ρ' S' → Rel K H' ρ' d v → Q v H'
def OpD (X : Cx) (f : Value → Value → Sem Value) (g : F2) : Prop := OpR X f (rD X.K g)
def rD1 (K : PySem.W.Frag) (f : F1) : V → Hp → VK → Prop := fun x H Q => ∃ ρ S a d S', RelS K H ρ S ∧ Rel K H ρ a x ∧ f a S = some (d, S') ∧ ∀ v H' ρ', Go K H ρ H' ρ' S' → Rel K H' ρ' d v → Q v H'
def m2 (f : F2) (a b : ME) : ME := fun env S => (a env S).bind fun p => (b env p.2).bind fun q => f p.1 q.1 q.2
def m1 (f : F1) (a : ME) : ME := fun env S => (a env S).bind fun p => f p.1 p.2
theorem bind_some {α β : Type} {x : Option α} {f : α → Option β} {b : β} (h : x.bind f = some b) : ∃ a, x = some a ∧ f a = some b := by
  cases x with
  | none => cases h
  | some a => exact ⟨a, rfl, h⟩
theorem map_some {α β : Type} {x : Option α} {f : α → β} {b : β} (h : x.map f = some b) : ∃ a, x = some a ∧ f a = b := by
  cases x with
  | none => cases h
  | some a => exact ⟨a, rfl, Option.some.inj h⟩
/-- two values in a row -/
theorem tM2 {K : PySem.W.Frag} {f : F2} {ma mb : ME} {r : R2} (i : ∀ x y H Q, rD K f x y H Q → r x y H Q) (σ : St) (H : Hp) (Q : VK) (h : tM K (m2 f ma mb) σ H Q) : tOp r (tM K ma) (tM K mb) σ H Q := by
  obtain ⟨ρ, env, S, d, S', L, e, q⟩ := h
  obtain ⟨⟨a, S1⟩, e1, e⟩ := bind_some e
  obtain ⟨⟨b, S2⟩, e2, e⟩ := bind_some e
  refine tM_at L e1 fun x H1 ρ1 g1 r1 => tM_at (L.next g1) e2 fun y H2 ρ2 g2 r2 => i _ _ _ _ ?_
  exact ⟨ρ2, S2, a, b, d, S', g2.s, r1.mono g2.le, r2, e, fun v H3 ρ3 g3 r3 => q v H3 ρ3 ((g1.trans g2).trans g3) r3⟩
theorem tM1 {K : PySem.W.Frag} {f : F1} {ma : ME} {r : V → Hp → VK → Prop} (i : ∀ x H Q, rD1 K f x H Q → r x H Q) (σ : St) (H : Hp) (Q : VK) (h : tM K (m1 f ma) σ H Q) : tUn r (tM K ma) σ H Q := by
  obtain ⟨ρ, env, S, d, S', L, e, q⟩ := h
  obtain ⟨⟨a, S1⟩, e1, e⟩ := bind_some e
  refine tM_at L e1 fun x H1 ρ1 g1 r1 => i _ _ _ ?_
  exact ⟨ρ1, S1, a, d, S', g1.s, r1, e, fun v H3 ρ3 g3 r3 => q v H3 ρ3 (g1.trans g3) r3⟩
theorem OpR.imp {X : Cx} {f : Value → Value → Sem Value} {r r' : R2} (h : OpR X f r) (i : ∀ x y H Q, r' x y H Q → r x y H Q) : OpR X f r' := fun pins s σ H x y v u Q I rx ry q => h pins s σ H x y v u Q I rx ry (i _ _ _ _ q)
/-- new things -/
theorem Go.tup {K : PySem.W.Frag} {H : Hp} {ρ : List Addr} {S : Store} (s : RelS K H ρ S) {p : Addr} {o : HO} (n : H p = none) : Go K H ρ (upd H p o) ρ S := ⟨Le.new n, s.new n⟩
theorem Go.refl {K : PySem.W.Frag} {H : Hp} {ρ : List Addr} {S : Store} (s : RelS K H ρ S) : Go K H ρ H ρ S := ⟨.refl _ _, s⟩
theorem newTup {K : PySem.W.Frag} {H : Hp} {ρ : List Addr} {S : Store} (s : RelS K H ρ S) {ds : List D} {vs : List V} (r : RelL K H ρ ds vs) {p : Addr} (n : H p = none) :
    Go K H ρ (upd H p (.tup vs)) ρ S ∧ Rel K (upd H p (.tup vs)) ρ (.tup ds) (.ref p) :=
  ⟨Go.tup s n, rel_tup (.inl (.inl upd_same)) (r.mono (Le.new n))⟩
theorem newLst {K : PySem.W.Frag} {H : Hp} {ρ : List Addr} {S : Store} (s : RelS K H ρ S) {ds : List D} {vs : List V} (r : RelL K H ρ ds vs) {p : Addr} (n : H p = none) :
    Go K H ρ (upd H p (.lst vs)) (ρ ++ [p]) (S ++ [.lst ds]) ∧ Rel K (upd H p (.lst vs)) (ρ ++ [p]) (.ref S.length) (.ref p) := by
  refine ⟨⟨Le.push n, s.push n ⟨vs, upd_same, r.mono (Le.push n)⟩⟩, rel_ref ?_⟩
  rw [List.getElem?_append_right (by rw [s.len]; exact Nat.le_refl _), s.len, Nat.sub_self]
  rfl

/-- both lists -/
def lstOf (d : D) (S : Store) : Option (List D) := match d with
  | .ref i => match S[i]? with
    | some (.lst ds) => some ds
    | _ => none
  | .cl ds => some ds
  | _ => none
theorem lst_ofH {K : PySem.W.Frag} {H : Hp} {ρ : List Addr} {S : Store} (s : RelS K H ρ S) {d : D} {ds : List D} {v : V} (e : lstOf d S = some ds) (r : Rel K H ρ d v) : ∃ p vs, v = .ref p ∧ H p = some (.lst vs) ∧ RelL K H ρ ds vs := by
  unfold lstOf at e
  split at e
  · split at e
    · rename_i hS
      cases e
      obtain ⟨p, vs, rfl, _, h1, r1⟩ := s.lst hS r
      exact ⟨p, vs, rfl, h1, r1⟩
    · cases e
  · cases e
    obtain ⟨p, vs, rfl, h1, r1⟩ := r.of_cl
    exact ⟨p, vs, rfl, h1.1, r1⟩
  · cases e
theorem notin_of {K : PySem.W.Frag} {H : Hp} {ρ : List Addr} {S : Store} (s : RelS K H ρ S) {p : Addr} (n : H p = none) : p ∉ ρ := fun h => by
  obtain ⟨i, hi, e⟩ := List.mem_iff_getElem.mp h
  have hS : i < S.length := by rw [← s.len]; exact hi
  obtain ⟨u, hu, _⟩ := (s.at i _ p (List.getElem?_eq_getElem hS) (by rw [List.getElem?_eq_getElem hi, e])).there
  rw [n] at hu; cases hu
def fAdd : F2 := fun a b S => match a, b with
  | .int i, .int j => some (.int (i + j), S)
  | .str x, .str y => if x.length + y.length ≤ sizeLine then some (.str (x ++ y), S) else none
  | .tup x, .tup y => if x.length + y.length ≤ sizeLine then some (.tup (x ++ y), S) else none
  | .int i, .bl k => some (.int (i + b2i k), S)
  | a, b => (lstOf a S).bind fun x => (lstOf b S).bind fun y => if x.length + y.length ≤ sizeLine then some (.ref S.length, S ++ [.lst (x ++ y)]) else none
/-- a sum of lists that nobody keeps -/
def fAddT : F2 := fun a b S => match lstOf a S, lstOf b S with
  | some x, some y => if x.length + y.length ≤ sizeLine then some (.cl (x ++ y), S) else none
  | _, _ => fAdd a b S
def fSub : F2 := fun a b S => match a, b with
  | .int i, .int j => some (.int (i - j), S)
  | _, _ => none
def smallF (i : Int) : Bool := decide (-(2 ^ 64) < i ∧ i < 2 ^ 64)
def fMul : F2 := fun a b S => match a, b with
  | .int i, .int j => if smallF i || smallF j then some (.int (i * j), S) else none
  | _, _ => none
def fDiv : F2 := fun a b S => match a, b with
  | .int i, .int j => if decide (0 < j ∧ j < 1073741824) then some (.int (i / j), S) else none
  | _, _ => none
def fMod : F2 := fun a b S => match a, b with
  | .int i, .int j => if decide (0 < j) then some (.int (i % j), S) else none
  | _, _ => none
def fPow : F2 := fun a b S => match a, b with
  | .int i, .int j => if decide (0 ≤ j ∧ j ≤ 1000000 ∧ i.natAbs < 2 ^ 64) then some (.int (i ^ j.toNat), S) else none
  | _, _ => none
section
variable {X : Cx}
theorem od_add : OpD X (binaryOp .Add) fAdd := by
  refine OpR.imp (op_add.or (op_add_str.or (op_catA.or (op_add_ib.or op_cat)))) fun x y H Q h => ?_
  obtain ⟨ρ, S, a, b, d, S', s, ra, rb, e, q⟩ := h
  unfold fAdd at e
  split at e
  · cases e; cases ra.of_int; cases rb.of_int
    exact .inl ⟨_, _, rfl, rfl, q _ _ _ (.refl s) (rel_int _)⟩
  · rename_i z w
    split at e
    · cases e; cases ra.of_str; cases rb.of_str
      exact .inr (.inl ⟨_, _, rfl, rfl, by assumption, q _ _ _ (.refl s) (rel_str _)⟩)
    · cases e
  · rename_i z w
    split at e
    · rename_i hl
      cases e
      obtain ⟨p, vs, rfl, h1, r1⟩ := ra.of_tup
      obtain ⟨p', vs', rfl, h2, r2⟩ := rb.of_tup
      have l1 := r1.length
      have l2 := r2.length
      refine .inr (.inr (.inl ⟨p, p', vs, vs', rfl, rfl, h1, h2, by omega, fun e => ?_, fun _ e => ?_, fun _ _ p n => ?_⟩))
      · subst e
        have : z = [] := List.length_eq_zero_iff.mp (by simpa using l1.symm)
        subst this
        exact q _ _ _ (.refl s) (by simpa using rb)
      · subst e
        have : w = [] := List.length_eq_zero_iff.mp (by simpa using l2.symm)
        subst this
        exact q _ _ _ (.refl s) (by simpa using ra)
      · obtain ⟨g, r⟩ := newTup s (r1.append r2) n
        exact q _ _ _ g r
    · cases e
  · cases e; cases ra.of_int; cases rb.of_bl
    exact .inr (.inr (.inr (.inl ⟨_, _, rfl, rfl, q _ _ _ (.refl s) (rel_int _)⟩)))
  · obtain ⟨z, h1, e⟩ := bind_some e
    obtain ⟨w, h2, e⟩ := bind_some e
    split at e
    · rename_i hl
      cases e
      obtain ⟨p, vs, rfl, e1, r1⟩ := lst_ofH s h1 ra
      obtain ⟨p', vs', rfl, e2, r2⟩ := lst_ofH s h2 rb
      have l1 := r1.length
      have l2 := r2.length
      refine .inr (.inr (.inr (.inr ⟨p, p', vs, vs', rfl, rfl, e1, e2, by omega, fun p n => ?_⟩)))
      obtain ⟨g, r⟩ := newLst s (r1.append r2) n
      exact q _ _ _ g r
    · cases e
theorem od_addT : OpD X (binaryOp .Add) fAddT := by
  refine OpR.imp (op_cat.or od_add) fun x y H Q h => ?_
  obtain ⟨ρ, S, a, b, d, S', s, ra, rb, e, q⟩ := h
  unfold fAddT at e
  split at e
  · rename_i h1 h2
    split at e
    · rename_i hl
      cases e
      obtain ⟨p, vs, rfl, e1, r1⟩ := lst_ofH s h1 ra
      obtain ⟨p', vs', rfl, e2, r2⟩ := lst_ofH s h2 rb
      have l1 := r1.length
      have l2 := r2.length
      refine .inl ⟨p, p', vs, vs', rfl, rfl, e1, e2, by omega, fun p n => ?_⟩
      have g2 : Go X.K H ρ (upd H p (.lst (vs ++ vs'))) ρ S := Go.tup s n
      exact q _ _ _ g2 (rel_cl ⟨upd_same, notin_of s n⟩ ((r1.append r2).mono g2.le))
    · cases e
  · exact .inr ⟨ρ, S, a, b, d, S', s, ra, rb, e, q⟩
theorem od_sub : OpD X (binaryOp .Sub) fSub := by
  refine OpR.imp op_sub fun x y H Q h => ?_
  obtain ⟨ρ, S, a, b, d, S', s, ra, rb, e, q⟩ := h
  unfold fSub at e
  split at e
  · cases e; cases ra.of_int; cases rb.of_int
    exact ⟨_, _, rfl, rfl, q _ _ _ (.refl s) (rel_int _)⟩
  · cases e
theorem od_mul : OpD X (binaryOp .Mult) fMul := by
  refine OpR.imp op_mul fun x y H Q h => ?_
  obtain ⟨ρ, S, a, b, d, S', s, ra, rb, e, q⟩ := h
  unfold fMul at e
  split at e
  · split at e
    · rename_i hc
      cases e; cases ra.of_int; cases rb.of_int
      refine ⟨_, _, rfl, rfl, ?_, q _ _ _ (.refl s) (rel_int _)⟩
      rcases Bool.or_eq_true_iff.mp hc with h | h
      · exact .inl (of_decide_eq_true h)
      · exact .inr (of_decide_eq_true h)
    · cases e
  · cases e
theorem od_div : OpD X (binaryOp .FloorDiv) fDiv := by
  refine OpR.imp op_fdiv fun x y H Q h => ?_
  obtain ⟨ρ, S, a, b, d, S', s, ra, rb, e, q⟩ := h
  unfold fDiv at e
  split at e
  · split at e
    · rename_i hc
      cases e; cases ra.of_int; cases rb.of_int
      have hc := of_decide_eq_true hc
      exact ⟨_, _, rfl, rfl, hc, q _ _ _ (.refl s) (rel_int _)⟩
    · cases e
  · cases e
theorem od_mod : OpD X (binaryOp .Mod) fMod := by
  refine OpR.imp op_mod fun x y H Q h => ?_
  obtain ⟨ρ, S, a, b, d, S', s, ra, rb, e, q⟩ := h
  unfold fMod at e
  split at e
  · split at e
    · rename_i hc
      cases e; cases ra.of_int; cases rb.of_int
      have hc := of_decide_eq_true hc
      exact ⟨_, _, rfl, rfl, hc, q _ _ _ (.refl s) (rel_int _)⟩
    · cases e
  · cases e
theorem od_pow : OpD X (binaryOp .Pow) fPow := by
  refine OpR.imp op_pow fun x y H Q h => ?_
  obtain ⟨ρ, S, a, b, d, S', s, ra, rb, e, q⟩ := h
  unfold fPow at e
  split at e
  · split at e
    · rename_i hc
      cases e; cases ra.of_int; cases rb.of_int
      have hc := of_decide_eq_true hc
      exact ⟨_, _, rfl, rfl, hc, q _ _ _ (.refl s) (rel_int _)⟩
    · cases e
  · cases e
theorem pm_op {op : Operator} {f : F2} {a b : Expr} {ma mb : ME} {pos : Pos} (ho : OpD X (binaryOp op) f) (ha : PM X a ma) (hb : PM X b mb) : PM X (.BinOp a op b pos) (m2 f ma mb) :=
  PEi (pe_op ho ha hb) fun σ H Q h => tM2 (fun _ _ _ _ q => q) σ H Q h
def fNeg : F1 := fun a S => match a with
  | .int i => some (.int (-i), S)
  | _ => none
theorem pm_neg {a : Expr} {ma : ME} {pos : Pos} (ha : PM X a ma) : PM X (.UnaryOp .USub a pos) (m1 fNeg ma) := by
  refine PEi (pe_un un_neg ha) fun σ H Q h => tM1 (fun x H Q q => ?_) σ H Q h
  obtain ⟨ρ, S, a, d, S', s, ra, e, q⟩ := q
  unfold fNeg at e
  split at e
  · cases e; cases ra.of_int
    exact ⟨_, rfl, q _ _ _ (.refl s) (rel_int _)⟩
  · cases e
end

/-! ### equality of trees -/
mutual
def eqD : D → D → Bool
  | .non, .non => true
  | .bl a, .bl b => a == b
  | .bl a, .int j => (if a then 1 else 0) == j
  | .int i, .bl b => i == (if b then 1 else 0)
  | .int i, .int j => i == j
  | .str x, .str y => x == y
  | .cl xs, .cl ys => eqDL xs ys
  | .tup xs, .tup ys => eqDL xs ys
  | _, _ => false
def eqDL : List D → List D → Bool
  | [], [] => true
  | x :: xs, y :: ys => eqD x y && eqDL xs ys
  | _, _ => false
end
mutual
/-- no reference, at most n deep, texts of signs -/
def okD : Nat → D → Bool
  | _, .non | _, .bl _ | _, .int _ => true
  | _, .str x => PyData.strOk x
  | 0, .tup _ => false
  | n + 1, .tup ds => okDL n ds
  | 0, .cl _ => false
  | n + 1, .cl ds => okDL n ds
  | _, .fz _ => false
  | _, .ref _ => false
def okDL : Nat → List D → Bool
  | _, [] => true
  | n, d :: ds => okD n d && okDL n ds
end
mutual
def pyD : D → PyData
  | .non => .none | .bl b => .bool b | .int i => .int i | .str x => .str x | .tup ds => .tuple (pyDL ds) | .cl ds => .list (pyDL ds) | .fz _ => .none | .ref _ => .none
def pyDL : List D → List PyData
  | [] => []
  | d :: ds => pyD d :: pyDL ds
end
mutual
theorem eqD_py : ∀ (n : Nat) (a b : D), okD n a = true → okD n b = true → PyData.eqv (pyD a) (pyD b) = eqD a b
  | n, .non, b, _, hb => by cases b <;> (first | (cases n <;> simp [okD] at hb; done) | simp [pyD, PyData.eqv, eqD])
  | n, .bl x, b, _, hb => by cases b <;> (first | (cases n <;> simp [okD] at hb; done) | simp [pyD, PyData.eqv, eqD])
  | n, .int x, b, _, hb => by cases b <;> (first | (cases n <;> simp [okD] at hb; done) | simp [pyD, PyData.eqv, eqD])
  | n, .str x, b, _, hb => by cases b <;> (first | (cases n <;> simp [okD] at hb; done) | simp [pyD, PyData.eqv, eqD])
  | 0, .tup x, b, ha, _ => by simp [okD] at ha
  | n + 1, .tup x, b, ha, hb => by
    cases b with
    | tup y =>
      have := eqD_pyL n x y (by simpa [okD] using ha) (by simpa [okD] using hb)
      simpa [pyD, PyData.eqv, eqD] using this
    | ref i => simp [okD] at hb
    | fz i => simp [okD] at hb
    | _ => simp [pyD, PyData.eqv, eqD]
  | 0, .cl x, b, ha, _ => by simp [okD] at ha
  | n + 1, .cl x, b, ha, hb => by
    cases b with
    | cl y =>
      have := eqD_pyL n x y (by simpa [okD] using ha) (by simpa [okD] using hb)
      simpa [pyD, PyData.eqv, eqD] using this
    | ref i => simp [okD] at hb
    | fz i => simp [okD] at hb
    | _ => simp [pyD, PyData.eqv, eqD]
  | n, .ref i, b, ha, _ => by cases n <;> simp [okD] at ha
  | n, .fz i, b, ha, _ => by cases n <;> simp [okD] at ha
theorem eqD_pyL : ∀ (n : Nat) (a b : List D), okDL n a = true → okDL n b = true → PyData.eqvAll (pyDL a) (pyDL b) = eqDL a b
  | n, [], b, _, _ => by cases b <;> simp [pyDL, PyData.eqvAll, eqDL]
  | n, x :: xs, b, ha, hb => by
    cases b with
    | nil => simp [pyDL, PyData.eqvAll, eqDL]
    | cons y ys =>
      rw [okDL, Bool.and_eq_true] at ha hb
      simp [pyDL, PyData.eqvAll, eqDL, eqD_py n x y ha.1 hb.1, eqD_pyL n xs ys ha.2 hb.2]
end
mutual
theorem okD_lay : ∀ (n : Nat) (a : D), okD n a = true → (pyD a).canLay0 = true ∧ (pyD a).depth ≤ n
  | n, .non, _ => by simp [pyD, PyData.canLay0, PyData.depth]
  | n, .bl x, _ => by simp [pyD, PyData.canLay0, PyData.depth]
  | n, .int x, _ => by simp [pyD, PyData.canLay0, PyData.depth]
  | n, .str x, h => by
    have h : PyData.strOk x = true := by cases n <;> simpa [okD] using h
    simp [pyD, PyData.canLay0, PyData.depth, h]
  | 0, .tup x, h => by simp [okD] at h
  | n + 1, .tup x, h => by
    have := okD_layL n x (by simpa [okD] using h)
    simp only [pyD, PyData.canLay0, PyData.depth]
    exact ⟨this.1, by omega⟩
  | 0, .cl x, h => by simp [okD] at h
  | n + 1, .cl x, h => by
    have := okD_layL n x (by simpa [okD] using h)
    simp only [pyD, PyData.canLay0, PyData.depth]
    exact ⟨this.1, by omega⟩
  | n, .ref i, h => by cases n <;> simp [okD] at h
  | n, .fz i, h => by cases n <;> simp [okD] at h
theorem okD_layL : ∀ (n : Nat) (a : List D), okDL n a = true → PyData.canLayAll0 (pyDL a) = true ∧ PyData.depthAll (pyDL a) ≤ n
  | n, [], _ => by simp [pyDL, PyData.canLayAll0, PyData.depthAll]
  | n, x :: xs, h => by
    rw [okDL, Bool.and_eq_true] at h
    have h1 := okD_lay n x h.1
    have h2 := okD_layL n xs h.2
    simp only [pyDL, PyData.canLayAll0, PyData.depthAll, h1.1, h2.1, Bool.and_self]
    exact ⟨trivial, by omega⟩
end
theorem okD_shaped {a : D} (h : okD 64 a = true) : SeqAt.shaped (pyD a) = true := by
  obtain ⟨h1, h2⟩ := okD_lay 64 a h
  show ((pyD a).canLay0 && decide ((pyD a).depth ≤ 64)) = true
  rw [h1, decide_eq_true h2]; rfl
section
variable {K : PySem.W.Frag} {H : Hp} {ρ : List Addr}
mutual
theorem dp_of : ∀ (n : Nat) (d : D) (v : V), okD n d = true → Rel K H ρ d v → Dp K H v (pyD d)
  | _, .non, v, _, r => by cases r.of_non; simp only [pyD]; exact .non
  | _, .bl x, v, _, r => by cases r.of_bl; simp only [pyD]; exact .bl _
  | _, .int x, v, _, r => by cases r.of_int; simp only [pyD]; exact .int _
  | _, .str x, v, _, r => by cases r.of_str; simp only [pyD]; exact .str _
  | 0, .tup x, v, h, _ => by simp [okD] at h
  | n + 1, .tup x, v, h, r => by
    obtain ⟨a, vs, rfl, h1, h2⟩ := r.of_tup
    simp only [pyD]
    exact .tup h1 (dp_ofL n x vs (by simpa [okD] using h) h2)
  | 0, .cl x, v, h, _ => by simp [okD] at h
  | n + 1, .cl x, v, h, r => by
    obtain ⟨a, vs, rfl, h1, h2⟩ := r.of_cl
    simp only [pyD]
    exact .lst (clSq h1) (dp_ofL n x vs (by simpa [okD] using h) h2)
  | n, .ref i, v, h, _ => by cases n <;> simp [okD] at h
  | n, .fz i, v, h, _ => by cases n <;> simp [okD] at h
theorem dp_ofL : ∀ (n : Nat) (d : List D) (v : List V), okDL n d = true → RelL K H ρ d v → DpAll K H v (pyDL d)
  | _, [], v, _, r => by cases r; simp only [pyDL]; exact .nil
  | n, x :: xs, v, h, r => by
    obtain ⟨v, vs, rfl, r1, r2⟩ := r
    rw [okDL, Bool.and_eq_true] at h
    simp only [pyDL]
    exact .cons (dp_of n x v h.1 r1) (dp_ofL n xs vs h.2 r2)
end
end

/-! ### comparisons -/
abbrev C2 := D → D → Store → Option Bool
def rC (K : PySem.W.Frag) (f : C2) : R2 := fun x y H Q => ∃ ρ S a b k, RelS K H ρ S ∧ Rel K H ρ a x ∧ Rel K H ρ b y ∧ f a b S = some k ∧ Q (.bl k) H
def CmD (X : Cx) (op : CmpOp) (f : C2) : Prop := OpR X (compareOp op) (rC X.K f)
def mCmp (f : C2) (a b : ME) : MT := fun env S => (a env S).bind fun p => (b env p.2).bind fun q => (f p.1 q.1 q.2).map fun k => (k, q.2)
def mBl (t : MT) : ME := fun env S => (t env S).map fun p => (.bl p.1, p.2)
/-- the values of lists as they are -/
def norm (d : D) (S : Store) : Option D := match d with
  | .ref i => match S[i]? with
    | some (.lst ds) => some (.cl ds)
    | _ => none
  | d => some d
/-- scalars -/
def scalD : D → D → Bool
  | .non, .non => true | .non, .int _ => true | .int _, .non => true | .non, .bl _ => true | .bl _, .non => true | .non, .str _ => true | .str _, .non => true
  | .int _, .int _ => true | .bl _, .bl _ => true | .str _, .str _ => true
  | .int _, .str _ => true | .str _, .int _ => true | .bl _, .str _ => true | .str _, .bl _ => true
  | _, _ => false
def cEq : C2 := fun a b S => if scalD a b then some (eqD a b) else (norm a S).bind fun x => (norm b S).bind fun y => if okD 64 x && okD 64 y then some (eqD x y) else none
def cNe : C2 := fun a b S => (cEq a b S).map (!·)
theorem dp_norm {K : PySem.W.Frag} {H : Hp} {ρ : List Addr} {S : Store} (s : RelS K H ρ S) {a x : D} {v : V} (e : norm a S = some x) (h : okD 64 x = true) (r : Rel K H ρ a v) : Dp K H v (pyD x) := by
  unfold norm at e
  split at e
  · split at e
    · rename_i ds hS
      cases e
      obtain ⟨p, vs, rfl, _, h1, h2⟩ := s.lst hS r
      simp only [pyD]
      exact .lst (SqL.of h1) (dp_ofL 63 ds vs (by simpa [okD] using h) h2)
    · cases e
  · cases e
    exact dp_of 64 _ v h r
theorem cEq_cases {K : PySem.W.Frag} {H : Hp} {ρ : List Addr} {S : Store} (s : RelS K H ρ S) {a b : D} {x y : V} {k : Bool} (ra : Rel K H ρ a x) (rb : Rel K H ρ b y) (e : cEq a b S = some k) :
    (scal x y = true ∧ k = decide (x = y)) ∨ ∃ d e, Dp K H x d ∧ Dp K H y e ∧ SeqAt.shaped d = true ∧ SeqAt.shaped e = true ∧ k = PyData.eqv d e := by
  unfold cEq at e
  split at e
  · rename_i hs
    cases e
    left
    cases a <;> cases b <;> (first | (simp [scalD] at hs; done) | skip) <;>
      (first | cases ra.of_non | cases ra.of_int | cases ra.of_bl | cases ra.of_str) <;>
      (first | cases rb.of_non | cases rb.of_int | cases rb.of_bl | cases rb.of_str) <;>
      (refine ⟨rfl, ?_⟩) <;> (simp [eqD]; try rw [Bool.beq_eq_decide_eq])
  · obtain ⟨x', e1, e⟩ := bind_some e
    obtain ⟨y', e2, e⟩ := bind_some e
    split at e
    · rename_i h
      cases e
      rw [Bool.and_eq_true] at h
      exact .inr ⟨pyD x', pyD y', dp_norm s e1 h.1 ra, dp_norm s e2 h.2 rb, okD_shaped h.1, okD_shaped h.2, (eqD_py 64 _ _ h.1 h.2).symm⟩
    · cases e
section
variable {X : Cx}
theorem cd_eq (hu : X.A.units + 64 < cLine) : CmD X .Eq cEq := by
  refine OpR.imp (op_eq.or (op_eqD hu)) fun x y H Q h => ?_
  obtain ⟨ρ, S, a, b, k, s, ra, rb, e, q⟩ := h
  rcases cEq_cases s ra rb e with ⟨h, rfl⟩ | ⟨d, d', h1, h2, h3, h4, rfl⟩
  · exact .inl ⟨h, q⟩
  · exact .inr ⟨d, d', h1, h2, h3, h4, q⟩
theorem cd_ne (hu : X.A.units + 64 < cLine) : CmD X .NotEq cNe := by
  refine OpR.imp (op_ne.or (op_neD hu)) fun x y H Q h => ?_
  obtain ⟨ρ, S, a, b, k, s, ra, rb, e, q⟩ := h
  obtain ⟨k', e1, rfl⟩ := map_some e
  rcases cEq_cases s ra rb e1 with ⟨h, rfl⟩ | ⟨d, d', h1, h2, h3, h4, rfl⟩
  · exact .inl ⟨h, q⟩
  · exact .inr ⟨d, d', h1, h2, h3, h4, q⟩
def cInt (p : Int → Int → Bool) (z : Str → Str → Bool) : C2 := fun a b _ => match a, b with
  | .int i, .int j => some (p i j)
  | .str x, .str y => some (z x y)
  | _, _ => none
abbrev cLt : C2 := cInt (fun i j => decide (i < j)) fun x y => decide (x.cps.toList < y.cps.toList)
abbrev cLe : C2 := cInt (fun i j => decide (i ≤ j)) fun x y => !decide (y.cps.toList < x.cps.toList)
abbrev cGt : C2 := cInt (fun i j => decide (j < i)) fun x y => decide (y.cps.toList < x.cps.toList)
abbrev cGe : C2 := cInt (fun i j => decide (j ≤ i)) fun x y => !decide (x.cps.toList < y.cps.toList)
theorem cd_int {op : CmpOp} {p : Int → Int → Bool} {z : Str → Str → Bool} (h1 : OpR X (compareOp op) (rI0 fun i j => .bl (p i j)))
    (h2 : OpR X (compareOp op) (fun x y H Q => ∃ i j, x = .str i ∧ y = .str j ∧ Q (.bl (z i j)) H)) : CmD X op (cInt p z) := by
  refine OpR.imp (h1.or h2) fun x y H Q h => ?_
  obtain ⟨ρ, S, a, b, k, s, ra, rb, e, q⟩ := h
  unfold cInt at e
  split at e
  · cases e; cases ra.of_int; cases rb.of_int
    exact .inl ⟨_, _, rfl, rfl, q⟩
  · cases e; cases ra.of_str; cases rb.of_str
    exact .inr ⟨_, _, rfl, rfl, q⟩
  · cases e
theorem cd_lt : CmD X .Lt cLt := cd_int op_lt op_lt_str
theorem cd_le : CmD X .LtE cLe := cd_int op_le op_le_str
theorem cd_gt : CmD X .Gt cGt := cd_int op_gt op_gt_str
theorem cd_ge : CmD X .GtE cGe := cd_int op_ge op_ge_str
/-- is, of None and of truth values -/
def cIs : C2 := fun a b _ => match a, b with
  | a, .non => some (decide (a = .non))
  | .bl a, .bl b => some (decide (a = b))
  | _, _ => none
def cIsNot : C2 := fun a b S => (cIs a b S).map (!·)
theorem Rel.non_iff {K : PySem.W.Frag} {H : Hp} {ρ : List Addr} {d : D} {v : V} (r : Rel K H ρ d v) : (v = .non) ↔ (d = .non) := by
  cases d with
  | non => cases r.of_non; simp
  | bl _ => cases r.of_bl; simp
  | int _ => cases r.of_int; simp
  | str _ => cases r.of_str; simp
  | tup _ => obtain ⟨_, _, rfl, _⟩ := r.of_tup; simp
  | cl _ => obtain ⟨_, _, rfl, _⟩ := r.of_cl; simp
  | fz _ => obtain ⟨_, _, rfl, _⟩ := r.of_fz; simp
  | ref _ => obtain ⟨_, rfl, _⟩ := r.of_ref; simp
theorem cd_is : CmD X .Is cIs := by
  refine OpR.imp (op_isN.or op_is_bl) fun x y H Q h => ?_
  obtain ⟨ρ, S, a, b, k, s, ra, rb, e, q⟩ := h
  unfold cIs at e
  split at e
  · cases e; cases rb.of_non
    refine .inl ⟨rfl, ?_⟩
    rw [show decide (x = .non) = decide (a = .non) from decide_eq_decide.mpr ra.non_iff]
    exact q
  · cases e; cases ra.of_bl; cases rb.of_bl
    exact .inr ⟨_, _, rfl, rfl, q⟩
  · cases e
theorem cd_isnot : CmD X .IsNot cIsNot := by
  refine OpR.imp (op_notN.or op_isnot_bl) fun x y H Q h => ?_
  obtain ⟨ρ, S, a, b, k, s, ra, rb, e, q⟩ := h
  obtain ⟨k', e1, rfl⟩ := map_some e
  clear e
  unfold cIs at e1
  split at e1
  · cases e1; cases rb.of_non
    refine .inl ⟨rfl, ?_⟩
    rw [show decide (x = .non) = decide (a = .non) from decide_eq_decide.mpr ra.non_iff]
    exact q
  · cases e1; cases ra.of_bl; cases rb.of_bl
    exact .inr ⟨_, _, rfl, rfl, q⟩
  · cases e1
/-- in: a text within a text; something among flat items -/
def flatD : D → Bool
  | .non => true | .bl _ => true | .int _ => true | .str _ => true | _ => false
def cIn : C2 := fun a b S => match b with
  | .str y => match a with
    | .str x => some (!(Builtin.Str.occurrences y x 0 y.length 1).isEmpty)
    | _ => none
  | .tup ds => if flatD a && ds.all flatD then some (ds.any fun z => eqD z a) else none
  | .cl ds => if okD 63 a && okDL 63 ds then some (ds.any fun z => eqD z a) else none
  | .ref i => match S[i]? with
    | some (.lst ds) => if okD 63 a && okDL 63 ds then some (ds.any fun z => eqD z a) else none
    | _ => none
  | _ => none
def cNotIn : C2 := fun a b S => (cIn a b S).map (!·)
theorem flat_rel {K : PySem.W.Frag} {H : Hp} {ρ : List Addr} {d : D} {v : V} (f : flatD d = true) (r : Rel K H ρ d v) : flatV v = true := by
  cases d <;> (first | (simp [flatD] at f; done) | skip) <;> (first | cases r.of_non | cases r.of_int | cases r.of_bl | cases r.of_str) <;> rfl
theorem eqV_rel {K : PySem.W.Frag} {H : Hp} {ρ : List Addr} {d e : D} {v w : V} (f : flatD d = true) (g : flatD e = true) (r : Rel K H ρ d v) (q : Rel K H ρ e w) : eqV v w = eqD d e := by
  cases d <;> (first | (simp [flatD] at f; done) | skip) <;> cases e <;> (first | (simp [flatD] at g; done) | skip) <;>
    (first | cases r.of_non | cases r.of_int | cases r.of_bl | cases r.of_str) <;> (first | cases q.of_non | cases q.of_int | cases q.of_bl | cases q.of_str) <;> simp [eqV, eqD]
theorem flat_all {K : PySem.W.Frag} {H : Hp} {ρ : List Addr} {a : D} {x : V} (fa : flatD a = true) (ra : Rel K H ρ a x) : ∀ {ds : List D} {vs : List V}, ds.all flatD = true → RelL K H ρ ds vs → vs.all flatV = true ∧ inV x vs = ds.any fun z => eqD z a
  | [], _, _, r => by cases r; exact ⟨rfl, rfl⟩
  | d :: ds, _, f, r => by
    obtain ⟨v, vs, rfl, r1, r2⟩ := r
    rw [List.all_cons, Bool.and_eq_true] at f
    obtain ⟨h1, h2⟩ := flat_all fa ra f.2 r2
    refine ⟨by rw [List.all_cons, flat_rel f.1 r1, h1]; rfl, ?_⟩
    unfold inV at h2 ⊢
    rw [List.any_cons, List.any_cons, h2, eqV_rel f.1 fa r1 ra]
theorem any_py (n : Nat) {a : D} (ha : okD n a = true) : ∀ {ds : List D}, okDL n ds = true → ((pyDL ds).any fun z => PyData.eqv z (pyD a)) = ds.any fun z => eqD z a
  | [], _ => by simp [pyDL]
  | d :: ds, h => by
    rw [okDL, Bool.and_eq_true] at h
    simp [pyDL, any_py n ha h.2, eqD_py n d a h.1 ha]
theorem okD_mono : ∀ (n : Nat) (d : D), okD n d = true → okD (n + 1) d = true := by
  have key : ∀ n, (∀ d, okD n d = true → okD (n + 1) d = true) → ∀ ds, okDL n ds = true → okDL (n + 1) ds = true := by
    intro n h ds
    induction ds with
    | nil => intro _; rfl
    | cons d ds ih =>
      intro q
      rw [okDL, Bool.and_eq_true] at q ⊢
      exact ⟨h d q.1, ih q.2⟩
  intro n
  induction n with
  | zero => intro d h; cases d <;> simp_all [okD]
  | succ n ih =>
    intro d h
    cases d with
    | tup ds => rw [okD] at h ⊢; exact key n ih ds h
    | cl ds => rw [okD] at h ⊢; exact key n ih ds h
    | _ => simp_all [okD]
theorem okD_up {m n : Nat} (h : m ≤ n) {d : D} (q : okD m d = true) : okD n d = true := by
  induction h with
  | refl => exact q
  | step _ ih => exact okD_mono _ d ih
theorem cIn_cases {K : PySem.W.Frag} {H : Hp} {ρ : List Addr} {S : Store} (s : RelS K H ρ S) {a b : D} {x y : V} {k : Bool} (ra : Rel K H ρ a x) (rb : Rel K H ρ b y) (e : cIn a b S = some k) :
    (∃ i j, x = .str i ∧ y = .str j ∧ k = !(Builtin.Str.occurrences j i 0 j.length 1).isEmpty) ∨
    (∃ p xs, y = .ref p ∧ (SqL K H p xs ∨ SqT K H p xs) ∧ flatV x = true ∧ xs.all flatV = true ∧ k = inV x xs) ∨
    ∃ d ds, Dp K H x d ∧ Dp K H y (.list ds) ∧ SeqAt.shaped d = true ∧ SeqAt.shaped (.list ds) = true ∧ k = ds.any fun z => PyData.eqv z d := by
  unfold cIn at e
  split at e
  · split at e
    · cases e; cases ra.of_str; cases rb.of_str
      exact .inl ⟨_, _, rfl, rfl, rfl⟩
    · cases e
  · split at e
    · rename_i h
      cases e
      rw [Bool.and_eq_true] at h
      obtain ⟨p, vs, rfl, h1, r1⟩ := rb.of_tup
      obtain ⟨h3, h4⟩ := flat_all h.1 ra h.2 r1
      exact .inr (.inl ⟨p, vs, rfl, .inr h1, flat_rel h.1 ra, h3, h4.symm⟩)
    · cases e
  · rename_i ds
    split at e
    · rename_i h
      cases e
      rw [Bool.and_eq_true] at h
      have h2 : okD 64 (.cl ds) = true := by rw [okD]; exact h.2
      refine .inr (.inr ⟨pyD a, pyDL ds, dp_of 63 a x h.1 ra, ?_, okD_shaped (okD_mono _ _ h.1), ?_, (any_py 63 h.1 h.2).symm⟩)
      · have := dp_of 64 _ y h2 rb
        rwa [pyD] at this
      · have := okD_shaped h2
        rwa [pyD] at this
    · cases e
  · split at e
    · rename_i ds hS
      split at e
      · rename_i h
        cases e
        rw [Bool.and_eq_true] at h
        have h2 : okD 64 (.cl ds) = true := by rw [okD]; exact h.2
        obtain ⟨p, vs, rfl, _, h1, r1⟩ := s.lst hS rb
        refine .inr (.inr ⟨pyD a, pyDL ds, dp_of 63 a x h.1 ra, .lst (SqL.of h1) (dp_ofL 63 ds vs h.2 r1), okD_shaped (okD_mono _ _ h.1), ?_, (any_py 63 h.1 h.2).symm⟩)
        have := okD_shaped h2
        rwa [pyD] at this
      · cases e
    · cases e
  · cases e
theorem cd_in (hu : X.A.units + 65 < cLine) : CmD X .In cIn := by
  refine OpR.imp (op_in_str.or (op_in_seq.or (op_inD hu))) fun x y H Q h => ?_
  obtain ⟨ρ, S, a, b, k, s, ra, rb, e, q⟩ := h
  rcases cIn_cases s ra rb e with ⟨i, j, h1, h2, rfl⟩ | ⟨p, xs, h1, h2, h3, h4, rfl⟩ | ⟨d, ds, h1, h2, h3, h4, rfl⟩
  · exact .inl ⟨i, j, h1, h2, q⟩
  · exact .inr (.inl ⟨p, xs, h1, h2, h3, h4, q⟩)
  · exact .inr (.inr ⟨d, ds, h1, h2, h3, h4, q⟩)
theorem cd_notin (hu : X.A.units + 65 < cLine) : CmD X .NotIn cNotIn := by
  refine OpR.imp (op_notin_str.or (op_notIn_seq.or (op_notInD hu))) fun x y H Q h => ?_
  obtain ⟨ρ, S, a, b, k, s, ra, rb, e, q⟩ := h
  obtain ⟨k', e1, rfl⟩ := map_some e
  rcases cIn_cases s ra rb e1 with ⟨i, j, h1, h2, rfl⟩ | ⟨p, xs, h1, h2, h3, h4, rfl⟩ | ⟨d, ds, h1, h2, h3, h4, rfl⟩
  · exact .inl ⟨i, j, h1, h2, q⟩
  · exact .inr (.inl ⟨p, xs, h1, h2, h3, h4, q⟩)
  · exact .inr (.inr ⟨d, ds, h1, h2, h3, h4, q⟩)
variable {a b : Expr} {ma mb : ME} {pos : Pos}
theorem tCmp {K : PySem.W.Frag} {f : C2} {σ : St} {H : Hp} {Q : VK} {ρ : List Addr} {env : DEnv} {S : Store} {k : Bool} {S' : Store} (L : Lie K σ H ρ env S) (e : mCmp f ma mb env S = some (k, S'))
    (q : ∀ H' ρ', Go K H ρ H' ρ' S' → Q (.bl k) H') : tOp (rC K f) (tM K ma) (tM K mb) σ H Q := by
  obtain ⟨⟨x, S1⟩, e1, e⟩ := bind_some e
  obtain ⟨⟨y, S2⟩, e2, e⟩ := bind_some e
  obtain ⟨k', e3, e⟩ := map_some e
  cases e
  refine tM_at L e1 fun x H1 ρ1 g1 r1 => tM_at (L.next g1) e2 fun y H2 ρ2 g2 r2 => ?_
  exact ⟨ρ2, S2, _, _, _, g2.s, r1.mono g2.le, r2, e3, q _ _ (g1.trans g2)⟩
/-- a comparison as a value; hm: by nomark _, or for in, not in by rfl -/
theorem pm_cmp {op : CmpOp} {f : C2} (ho : CmD X op f) (ha : PM X a ma) (hb : PM X b mb) (hm : behindInMarks op b = false) : PM X (.Compare a [op] [b] pos) (mBl (mCmp f ma mb)) :=
  PEi (pe_cmpR ho ha hb hm) fun σ H Q ⟨ρ, env, S, d, S', L, e, q⟩ => by
    obtain ⟨⟨k, S1⟩, e1, e⟩ := map_some e
    cases e
    exact tCmp L e1 fun H' ρ' g => q _ _ _ g (rel_bl _)
theorem pt_mcmp {op : CmpOp} {f : C2} (ho : CmD X op f) (ha : PM X a ma) (hb : PM X b mb) (hm : behindInMarks op b = false) : PMT X (.Compare a [op] [b] pos) (mCmp f ma mb) :=
  PTi (pt_cmpR ho ha hb hm) fun σ H Q ⟨ρ, env, S, k, S', L, e, q⟩ => tCmp (Q := fun x H' => ∃ k, x = .bl k ∧ Q k H') L e fun H' ρ' g => ⟨k, rfl, q _ _ g⟩
end

/-! ### truth, and, or, not -/
def truD (d : D) (S : Store) : Option Bool := match d with
  | .non => some false
  | .bl b => some b
  | .int i => some (i != 0)
  | .str x => if x.length ≤ sizeLine then some ((x.length : Int) != 0) else none
  | .tup ds => some (!ds.isEmpty)
  | .cl ds => some (!ds.isEmpty)
  | .fz _ => none
  | .ref i => match S[i]? with
    | some (.lst ds) => some (!ds.isEmpty)
    | some (.dic kvs) => some (!kvs.isEmpty)
    | _ => none
theorem RelL.empty {K : PySem.W.Frag} {H : Hp} {ρ : List Addr} {ds : List D} {vs : List V} (r : RelL K H ρ ds vs) : (!ds.isEmpty) = !vs.isEmpty := by
  cases ds with
  | nil => cases r; rfl
  | cons _ _ => obtain ⟨_, _, rfl, _⟩ := r; rfl
theorem tru_rel {K : PySem.W.Frag} {H : Hp} {ρ : List Addr} {S : Store} (s : RelS K H ρ S) {d : D} {v : V} {k : Bool} (r : Rel K H ρ d v) (e : truD d S = some k) : TruV K v H k := by
  unfold truD at e
  split at e
  · cases e; cases r.of_non; rfl
  · cases e; cases r.of_bl; rfl
  · cases e; cases r.of_int; rfl
  · split at e
    · cases e; cases r.of_str; exact ⟨by assumption, rfl⟩
    · cases e
  · cases e
    obtain ⟨p, vs, rfl, h1, r1⟩ := r.of_tup
    exact .inr (.inl ⟨vs, h1, r1.empty⟩)
  · cases e
    obtain ⟨p, vs, rfl, h1, r1⟩ := r.of_cl
    exact .inl ⟨vs, clSq h1, r1.empty⟩
  · cases e
  · split at e
    · rename_i hS
      cases e
      obtain ⟨p, vs, rfl, _, h1, r1⟩ := s.lst hS r
      exact .inl ⟨vs, SqL.of h1, r1.empty⟩
    · rename_i kvs hS
      cases e
      obtain ⟨p, rfl, q⟩ := r.of_ref
      obtain ⟨vs, h1, h2⟩ := s.at _ _ p hS q
      refine .inr (.inr ⟨vs, h1, ?_⟩)
      cases h2 <;> rfl
    · cases e
def mTru (a : ME) : MT := fun env S => (a env S).bind fun p => (truD p.1 p.2).map fun k => (k, p.2)
def mAnd (t u : MT) : MT := fun env S => (t env S).bind fun p => if p.1 then u env p.2 else some (false, p.2)
def mOr (t u : MT) : MT := fun env S => (t env S).bind fun p => if p.1 then some (true, p.2) else u env p.2
def mNot (t : MT) : MT := fun env S => (t env S).map fun p => (!p.1, p.2)
def mIf (t : MT) (a b : ME) : ME := fun env S => (t env S).bind fun p => if p.1 then a env p.2 else b env p.2
/-- x and y, x or y as values -/
def mAndV (a b : ME) : ME := fun env S => (a env S).bind fun p => (truD p.1 p.2).bind fun k => if k then b env p.2 else some p
def mOrV (a b : ME) : ME := fun env S => (a env S).bind fun p => (truD p.1 p.2).bind fun k => if k then some p else b env p.2
section
variable {X : Cx} {a b : Expr} {rest : List Expr} {ma mb : ME} {ta tb : MT} {pos : Pos}
theorem pt_tru (ha : PM X a ma) (he : ∀ whole, isTrue a X.env whole = (do let v ← whole; standAt a.pos; holding [v] (truthy v))) : PMT X a (mTru ma) :=
  PTi (pt_truth ha he) fun σ H Q ⟨ρ, env, S, k, S', L, e, q⟩ => by
    obtain ⟨⟨x, S1⟩, e1, e⟩ := bind_some e
    obtain ⟨k', e2, e⟩ := map_some e
    cases e
    exact tM_at L e1 fun v H1 ρ1 g1 r1 => ⟨_, tru_rel g1.s r1 e2, q _ _ g1⟩
theorem pw_mand1 (ha : PMT X a ta) : PMW X (.BoolOp .And [a] pos) ta := pw_and1 ha
theorem pw_mor1 (ha : PMT X a ta) : PMW X (.BoolOp .Or [a] pos) ta := pw_or1 ha
theorem pw_mand (ha : PMT X a ta) (hb : PMW X (.BoolOp .And (b :: rest) pos) tb) : PMW X (.BoolOp .And (a :: b :: rest) pos) (mAnd ta tb) :=
  PWi (pw_and ha hb) fun σ H Q ⟨ρ, env, S, k, S', L, e, q⟩ => by
    obtain ⟨⟨x, S1⟩, e1, e⟩ := bind_some e
    refine tMT_at L e1 fun H1 ρ1 g1 => ?_
    cases x with
    | true => exact iteT (tMT_at (L.next g1) e fun H2 ρ2 g2 => q _ _ (g1.trans g2))
    | false => cases e; exact iteF (q _ _ g1)
theorem pw_mor (ha : PMT X a ta) (hb : PMW X (.BoolOp .Or (b :: rest) pos) tb) : PMW X (.BoolOp .Or (a :: b :: rest) pos) (mOr ta tb) :=
  PWi (pw_or ha hb) fun σ H Q ⟨ρ, env, S, k, S', L, e, q⟩ => by
    obtain ⟨⟨x, S1⟩, e1, e⟩ := bind_some e
    refine tMT_at L e1 fun H1 ρ1 g1 => ?_
    cases x with
    | true => cases e; exact iteT (q _ _ g1)
    | false => exact iteF (tMT_at (L.next g1) e fun H2 ρ2 g2 => q _ _ (g1.trans g2))
theorem pt_mnot (ha : PMT X a ta) : PMT X (.UnaryOp .Not a pos) (mNot ta) :=
  PTi (pt_not ha) fun σ H Q ⟨ρ, env, S, k, S', L, e, q⟩ => by
    obtain ⟨⟨x, S1⟩, e1, e⟩ := map_some e
    cases e
    exact tMT_at L e1 fun H1 ρ1 g1 => q _ _ g1
theorem pt_w {e : Expr} {t : MT} (h : PMW X e t) : PMT X e t := h.pt
theorem pm_if {c : Expr} {tc : MT} (hc : PMT X c tc) (ha : PM X a ma) (hb : PM X b mb) : PM X (.IfExp c a b pos) (mIf tc ma mb) :=
  PEi (pe_ifExp hc ha hb) fun σ H Q ⟨ρ, env, S, k, S', L, e, q⟩ => by
    obtain ⟨⟨x, S1⟩, e1, e⟩ := bind_some e
    refine tMT_at L e1 fun H1 ρ1 g1 => ?_
    cases x with
    | true => exact iteT (tM_at (L.next g1) e fun v H2 ρ2 g2 r => q _ _ _ (g1.trans g2) r)
    | false => exact iteF (tM_at (L.next g1) e fun v H2 ρ2 g2 r => q _ _ _ (g1.trans g2) r)
theorem pm_one {op} (h : PM X a ma) : PM X (.BoolOp op [a] pos) ma := pe_one h
theorem pm_and (ha : PM X a ma) (hb : PM X (.BoolOp .And (b :: rest) pos) mb) : PM X (.BoolOp .And (a :: b :: rest) pos) (mAndV ma mb) :=
  PEi (pe_andT ha hb) fun σ H Q ⟨ρ, env, S, k, S', L, e, q⟩ => by
    obtain ⟨⟨x, S1⟩, e1, e⟩ := bind_some e
    obtain ⟨c, e2, e⟩ := bind_some e
    refine tM_at L e1 fun v H1 ρ1 g1 r1 => ⟨c, tru_rel g1.s r1 e2, ?_⟩
    cases c with
    | true => exact iteT (tM_at (L.next g1) e fun v H2 ρ2 g2 r => q _ _ _ (g1.trans g2) r)
    | false => cases e; exact iteF (q _ _ _ g1 r1)
theorem pm_or (ha : PM X a ma) (hb : PM X (.BoolOp .Or (b :: rest) pos) mb) : PM X (.BoolOp .Or (a :: b :: rest) pos) (mOrV ma mb) :=
  PEi (pe_orT ha hb) fun σ H Q ⟨ρ, env, S, k, S', L, e, q⟩ => by
    obtain ⟨⟨x, S1⟩, e1, e⟩ := bind_some e
    obtain ⟨c, e2, e⟩ := bind_some e
    refine tM_at L e1 fun v H1 ρ1 g1 r1 => ⟨c, tru_rel g1.s r1 e2, ?_⟩
    cases c with
    | true => cases e; exact iteT (q _ _ _ g1 r1)
    | false => exact iteF (tM_at (L.next g1) e fun v H2 ρ2 g2 r => q _ _ _ (g1.trans g2) r)
end
end PD

set_option Elab.async false
set_option linter.all false
set_option maxRecDepth 100000
set_option maxHeartbeats 4000000
/-! PdSeq: argument lists, displays, subscripts, slices, built-ins by name, methods of lists. -/
namespace PD
open PySem PySem.Spec PyProof.Rows L2

/-! ### argument lists, displays -/
def mNil : MA := fun _ S => some ([], S)
def mCons (a : ME) (r : MA) : MA := fun env S => (a env S).bind fun p => (r env p.2).map fun q => (p.1 :: q.1, q.2)
def okLen (n : Nat) : Bool := decide (n ≤ sizeLine)
def mTup (a : MA) : ME := fun env S => (a env S).bind fun p => if okLen p.1.length then some (.tup p.1, p.2) else none
/-- a new list that nobody keeps; one that is kept -/
def mTmp (a : MA) : ME := fun env S => (a env S).map fun p => (.cl p.1, p.2)
def mNew (a : MA) : ME := fun env S => (a env S).map fun p => (.ref p.2.length, p.2 ++ [.lst p.1])
def mLst (a : MA) : MA := fun env S => (a env S).bind fun p => if okLen p.1.length then some p else none
def tMN (K : PySem.W.Frag) (m : MA) : TE := fun σ H Q => ∃ ρ env S ds S', Lie K σ H ρ env S ∧ m env S = some (ds, S') ∧ ∀ vs H1 ρ1, Go K H ρ H1 ρ1 S' → RelL K H1 ρ1 ds vs → ∀ p, H1 p = none → Q (.ref p) (upd H1 p (.lst vs))
/-- an expression that makes a new list -/
abbrev PMN (X : Cx) (e : Expr) (m : MA) : Prop := PE X e (tMN X.K m)
section
variable {X : Cx} {e : Expr} {es : List Expr} {m : ME} {ma : MA} {pos : Pos}
theorem pa_mnil : PMA X [] mNil := PAi pa_nil fun σ H Q ⟨ρ, env, S, ds, S', L, e, q⟩ => by
  cases e
  exact q [] H ρ L.go RelL.nil
theorem pa_mcons (ha : PM X e m) (hr : PMA X es ma) (hs : starEach (e :: es) X.env = (false, eval e X.env) :: starEach es X.env := by rfl) : PMA X (e :: es) (mCons m ma) :=
  PAi (pa_cons ha hr hs) fun σ H Q ⟨ρ, env, S, ds, S', L, e, q⟩ => by
    obtain ⟨⟨x, S1⟩, e1, e⟩ := bind_some e
    obtain ⟨⟨xs, S2⟩, e2, e⟩ := map_some e
    cases e
    refine tM_at L e1 fun v H1 ρ1 g1 r1 => tMA_at (L.next g1) e2 fun vs H2 ρ2 g2 r2 => ?_
    exact q _ _ _ (g1.trans g2) (.cons (r1.mono g2.le) r2)
theorem pm_tup {k} (h : PMA X es ma) : PM X (.Tuple es k pos) (mTup ma) :=
  PEi (pe_tup h) fun σ H Q ⟨ρ, env, S, d, S', L, e, q⟩ => by
    obtain ⟨⟨xs, S1⟩, e1, e⟩ := bind_some e
    split at e
    · rename_i hl
      cases e
      refine tMA_at L e1 fun vs H1 ρ1 g1 r1 => ⟨by rw [r1.length]; exact of_decide_eq_true hl, fun p n => ?_⟩
      obtain ⟨g2, r2⟩ := newTup g1.s r1 n
      exact q _ _ _ (g1.trans g2) r2
    · cases e
theorem pn_lst (h : PMA X es ma) : PMN X (.List es pos) (mLst ma) :=
  PEi (pe_lst h) fun σ H Q ⟨ρ, env, S, d, S', L, e, q⟩ => by
    obtain ⟨⟨xs, S1⟩, e1, e⟩ := bind_some e
    split at e
    · rename_i hl
      cases e
      refine tMA_at L e1 fun vs H1 ρ1 g1 r1 => ⟨by rw [r1.length]; exact of_decide_eq_true hl, fun p n => q _ _ _ g1 r1 p n⟩
    · cases e
theorem pm_new (h : PMN X e ma) : PM X e (mNew ma) := PEi h fun σ H Q ⟨ρ, env, S, d, S', L, e, q⟩ => by
  obtain ⟨⟨xs, S1⟩, e1, e⟩ := map_some e
  cases e
  refine ⟨ρ, env, S, xs, S1, L, e1, fun vs H1 ρ1 g1 r1 p n => ?_⟩
  obtain ⟨g2, r2⟩ := newLst g1.s r1 n
  exact q _ _ _ (g1.trans g2) r2
theorem pm_tmp (h : PMN X e ma) : PM X e (mTmp ma) := PEi h fun σ H Q ⟨ρ, env, S, d, S', L, e, q⟩ => by
  obtain ⟨⟨xs, S1⟩, e1, e⟩ := map_some e
  cases e
  refine ⟨ρ, env, S, xs, S1, L, e1, fun vs H1 ρ1 g1 r1 p n => ?_⟩
  have g2 : Go X.K H1 ρ1 (upd H1 p (.lst vs)) ρ1 S1 := Go.tup g1.s n
  exact q _ _ _ (g1.trans g2) (rel_cl ⟨upd_same, notin_of g1.s n⟩ (r1.mono g2.le))
end

/-! ### subscripts -/
theorem ixN_lt {n j : Nat} {i : Int} (h : ixN n i = some j) : j < n := (ixN_seq h).2.1
theorem RelL.atI {K : PySem.W.Frag} {H : Hp} {ρ : List Addr} {ds : List D} {vs : List V} {i : Int} {d : D} (r : RelL K H ρ ds vs) (e : atI ds i = some d) : ∃ v, L2.atI vs i = some v ∧ Rel K H ρ d v := by
  unfold L2.atI at e ⊢
  obtain ⟨j, e1, e2⟩ := bind_some e
  obtain ⟨v, h1, h2⟩ := r.get e2
  exact ⟨v, by rw [r.length, e1]; exact h1, h2⟩
/-- a key of a dict -/
def keyD : D → Option Key
  | .int i => some (.inl i)
  | .str x => some (.inr x)
  | _ => none
def getKV {κ : Type} [DecidableEq κ] (kvs : List (κ × D)) (k : κ) : Option D := match kvs with
  | [] => none
  | (a, d) :: r => if a = k then some d else getKV r k
def fIx : F2 := fun a b S => match b with
  | .int i => match a with
    | .tup ds => (atI ds i).map fun d => (d, S)
    | .cl ds => (atI ds i).map fun d => (d, S)
    | .fz ds => (atI ds i).map fun d => (d, S)
    | .str z => if z.length ≤ sizeLine then (atI z.cps.toList i).map fun c => (.str ⟨#[c]⟩, S) else none
    | .ref j => match S[j]? with
      | some (.lst ds) => (atI ds i).map fun d => (d, S)
      | _ => none
    | _ => none
  | _ => none
section
variable {X : Cx} {a b : Expr} {ma mb : ME} {pos : Pos}
theorem IxR.imp {r r' : R2} (h : IxR X r) (i : ∀ x y H Q, r' x y H Q → r x y H Q) : IxR X r' := fun value slice pins s σ H x y v u Q I rx ry q hs => h value slice pins s σ H x y v u Q I rx ry (i _ _ _ _ q) hs
theorem ix_d : IxR X (rD X.K fIx) := by
  refine IxR.imp ix_seq fun x y H Q h => ?_
  obtain ⟨ρ, S, a, b, d, S', s, ra, rb, e, q⟩ := h
  unfold fIx at e
  split at e
  · rename_i i
    cases rb.of_int
    split at e
    · obtain ⟨d', e1, e2⟩ := map_some e
      cases e2
      obtain ⟨p, vs, rfl, h1, r1⟩ := ra.of_tup
      obtain ⟨v, h2, r2⟩ := r1.atI e1
      exact .inr (.inl ⟨p, vs, i, v, rfl, rfl, h1, h2, q _ _ _ (.refl s) r2⟩)
    · obtain ⟨d', e1, e2⟩ := map_some e
      cases e2
      obtain ⟨p, vs, rfl, h1, r1⟩ := ra.of_cl
      obtain ⟨v, h2, r2⟩ := r1.atI e1
      exact .inl ⟨p, vs, i, v, rfl, rfl, clSq h1, h2, q _ _ _ (.refl s) r2⟩
    · obtain ⟨d', e1, e2⟩ := map_some e
      cases e2
      obtain ⟨p, vs, rfl, h1, r1⟩ := ra.of_fz
      obtain ⟨v, h2, r2⟩ := r1.atI e1
      exact .inl ⟨p, vs, i, v, rfl, rfl, h1.l, h2, q _ _ _ (.refl s) r2⟩
    · split at e
      · obtain ⟨d', e1, e2⟩ := map_some e
        cases e2
        cases ra.of_str
        exact .inr (.inr ⟨_, i, _, rfl, rfl, by assumption, e1, q _ _ _ (.refl s) (rel_str _)⟩)
      · cases e
    · split at e
      · rename_i hS
        obtain ⟨d', e1, e2⟩ := map_some e
        cases e2
        obtain ⟨p, vs, rfl, _, h1, r1⟩ := s.lst hS ra
        obtain ⟨v, h2, r2⟩ := r1.atI e1
        exact .inl ⟨p, vs, i, v, rfl, rfl, SqL.of h1, h2, q _ _ _ (.refl s) r2⟩
      · cases e
    · cases e
  · cases e
theorem pm_ix (ha : PM X a ma) (hb : PM X b mb) (hs : PlainIx b) : PM X (.Subscript a b pos) (m2 fIx ma mb) := PEi (pe_ix ix_d ha hb hs) fun σ H Q h => tM2 (fun _ _ _ _ q => q) σ H Q h
end

/-! ### slices -/
def cutD {α : Type} (xs : List α) (lo hi : Option Int) : List α := (xs.drop (HT.sIx xs.length 0 lo)).take (HT.sIx xs.length xs.length hi - HT.sIx xs.length 0 lo)
theorem cut_rel {K : PySem.W.Frag} {H : Hp} {ρ : List Addr} {ds : List D} {vs : List V} {lo hi : Option Int} (r : RelL K H ρ ds vs) : RelL K H ρ (cutD ds lo hi) (cutV vs lo hi) := by
  unfold cutD cutV
  rw [r.length]
  exact (r.drop _).take _
abbrev MO := DEnv → Store → Option (Option Int × Store)
def mNoPart : MO := fun _ S => some (none, S)
def mPart (a : ME) : MO := fun env S => (a env S).bind fun p => match p.1 with
  | .int i => some (some i, p.2)
  | _ => none
def tMO (K : PySem.W.Frag) (m : MO) : TO := fun σ H Q => ∃ ρ env S o S', Lie K σ H ρ env S ∧ m env S = some (o, S') ∧ ∀ H' ρ', Go K H ρ H' ρ' S' → Q o H'
abbrev PMO (X : Cx) (e : Option Expr) (m : MO) : Prop := PO X e (tMO X.K m)
def fCut (d : D) (lo hi : Option Int) (S : Store) : Option D := match d with
  | .tup ds => some (.tup (cutD ds lo hi))
  | .str z => if z.length ≤ sizeLine then some (.str (cutS z lo hi)) else none
  | _ => none
def fCutL (d : D) (lo hi : Option Int) (S : Store) : Option (List D) := (lstOf d S).map fun ds => cutD ds lo hi
def mCut (a : ME) (l u : MO) : ME := fun env S => (a env S).bind fun p => (l env p.2).bind fun q => (u env q.2).bind fun r => (fCut p.1 q.1 r.1 r.2).map fun d => (d, r.2)
/-- of a list: a new list -/
def mCutL (a : ME) (l u : MO) : MA := fun env S => (a env S).bind fun p => (l env p.2).bind fun q => (u env q.2).bind fun r => (fCutL p.1 q.1 r.1 r.2).map fun d => (d, r.2)
theorem lst_of {K : PySem.W.Frag} {H : Hp} {ρ : List Addr} {S : Store} (s : RelS K H ρ S) {d : D} {ds : List D} {v : V} (e : lstOf d S = some ds) (r : Rel K H ρ d v) : ∃ p vs, v = .ref p ∧ SqL K H p vs ∧ RelL K H ρ ds vs := by
  unfold lstOf at e
  split at e
  · split at e
    · rename_i hS
      cases e
      obtain ⟨p, vs, rfl, _, h1, r1⟩ := s.lst hS r
      exact ⟨p, vs, rfl, SqL.of h1, r1⟩
    · cases e
  · cases e
    obtain ⟨p, vs, rfl, h1, r1⟩ := r.of_cl
    exact ⟨p, vs, rfl, clSq h1, r1⟩
  · cases e
section
variable {X : Cx} {a : Expr} {o lo hi : Option Expr} {ma : ME} {l u : MO} {pos p2 : Pos}
theorem POi {t t' : TO} (h : PO X o t) (i : ∀ σ H Q, t' σ H Q → t σ H Q) : PO X o t' := ⟨fun pins s σ H Q I q => h.run pins s σ H Q I (i σ H Q q)⟩
theorem po_mnone : PMO X none mNoPart := POi po_none fun σ H Q ⟨ρ, env, S, o, S', L, e, q⟩ => by
  cases e
  exact q H ρ L.go
theorem po_msome (h : PM X a ma) : PMO X (some a) (mPart ma) := POi (po_some h) fun σ H Q ⟨ρ, env, S, o, S', L, e, q⟩ => by
  obtain ⟨⟨x, S1⟩, e1, e⟩ := bind_some e
  split at e
  · rename_i i hx
    cases e
    cases hx
    exact tM_at L e1 fun v H1 ρ1 g1 r1 => ⟨i, r1.of_int, q _ _ g1⟩
  · cases e
theorem pm_cut (ha : PM X a ma) (hl : PMO X lo l) (hu : PMO X hi u) : PM X (.Subscript a (.Slice lo hi none p2) pos) (mCut ma l u) :=
  PEi (pe_slice (sl_tupA.or sl_str) ha hl hu) fun σ H Q ⟨ρ, env, S, d, S', L, e, q⟩ => by
    obtain ⟨⟨x, S1⟩, e1, e⟩ := bind_some e
    obtain ⟨⟨i, S2⟩, e2, e⟩ := bind_some e
    obtain ⟨⟨j, S3⟩, e3, e⟩ := bind_some e
    obtain ⟨d', e4, e⟩ := map_some e
    cases e
    refine tM_at L e1 fun v H1 ρ1 g1 r1 => ⟨ρ1, env, S1, i, S2, L.next g1, e2, fun H2 ρ2 g2 => ⟨ρ2, env, S2, j, S3, (L.next g1).next g2, e3, fun H3 ρ3 g3 => ?_⟩⟩
    have g := (g1.trans g2).trans g3
    have r3 : Rel X.K H3 ρ3 x v := r1.mono (g2.le.trans g3.le)
    clear e1 r1
    dsimp only at e4
    unfold fCut at e4
    split at e4
    · cases e4
      obtain ⟨p, vs, rfl, h1, r4⟩ := r3.of_tup
      refine .inl ⟨p, vs, rfl, h1, fun ⟨w1, w2⟩ => ?_, fun _ p n => ?_⟩
      · refine q _ _ _ g ?_
        have ew : ∀ ds : List D, vs.length = ds.length → cutD ds i j = ds := fun ds hl => by
          unfold cutD
          rw [← hl, w1, w2, List.drop_zero, Nat.sub_zero, hl, List.take_length]
        rw [ew _ r4.length]
        exact r3
      · obtain ⟨g4, r5⟩ := newTup g3.s (cut_rel (lo := i) (hi := j) r4) n
        exact q _ _ _ (g.trans g4) r5
    · split at e4
      · cases e4
        cases r3.of_str
        exact .inr ⟨_, rfl, by assumption, q _ _ _ g (rel_str _)⟩
      · cases e4
    · cases e4
theorem pn_cut (ha : PM X a ma) (hl : PMO X lo l) (hu : PMO X hi u) : PMN X (.Subscript a (.Slice lo hi none p2) pos) (mCutL ma l u) :=
  PEi (pe_slice sl_list ha hl hu) fun σ H Q ⟨ρ, env, S, d, S', L, e, q⟩ => by
    obtain ⟨⟨x, S1⟩, e1, e⟩ := bind_some e
    obtain ⟨⟨i, S2⟩, e2, e⟩ := bind_some e
    obtain ⟨⟨j, S3⟩, e3, e⟩ := bind_some e
    obtain ⟨d', e4, e⟩ := map_some e
    cases e
    refine tM_at L e1 fun v H1 ρ1 g1 r1 => ⟨ρ1, env, S1, i, S2, L.next g1, e2, fun H2 ρ2 g2 => ⟨ρ2, env, S2, j, S3, (L.next g1).next g2, e3, fun H3 ρ3 g3 => ?_⟩⟩
    have g := (g1.trans g2).trans g3
    have r3 : Rel X.K H3 ρ3 x v := r1.mono (g2.le.trans g3.le)
    dsimp only at e4
    unfold fCutL at e4
    obtain ⟨ds0, e5, rfl⟩ := map_some e4
    obtain ⟨p, vs, rfl, h1, r4⟩ := lst_of g3.s e5 r3
    exact ⟨p, vs, rfl, h1, fun p n => q _ _ _ g (cut_rel r4) p n⟩
end

/-! ### built-ins by name -/
abbrev FL := List D → Store → Option (D × Store)
abbrev FN := List D → Store → Option (List D)
def rCl (K : PySem.W.Frag) (f : FL) : List V → Hp → VK → Prop := fun xs H Q => ∃ ρ S ds d S', RelS K H ρ S ∧ RelL K H ρ ds xs ∧ f ds S = some (d, S') ∧ ∀ v H' ρ', Go K H ρ H' ρ' S' → Rel K H' ρ' d v → Q v H'
def rCn (K : PySem.W.Frag) (f : FN) : List V → Hp → VK → Prop := fun xs H Q => ∃ ρ S ds es, RelS K H ρ S ∧ RelL K H ρ ds xs ∧ f ds S = some es ∧ ∀ vs, RelL K H ρ es vs → ∀ p, H p = none → Q (.ref p) (upd H p (.lst vs))
def CallD (X : Cx) (fv : Value) (f : FL) : Prop := CallR X fv (rCl X.K f)
/-- .. that give a new list -/
def CallN (X : Cx) (fv : Value) (f : FN) : Prop := CallR X fv (rCn X.K f)
def mCall (f : FL) (a : MA) : ME := fun env S => (a env S).bind fun p => f p.1 p.2
def mCallN (f : FN) (a : MA) : MA := fun env S => (a env S).bind fun p => (f p.1 p.2).map fun ds => (ds, p.2)
theorem CallR.imp {X : Cx} {f : Value} {r r' : List V → Hp → VK → Prop} (h : CallR X f r) (i : ∀ xs H Q, r' xs H Q → r xs H Q) : CallR X f r' := fun pins s σ H xs us Q I rs q => h pins s σ H xs us Q I rs (i _ _ _ q)
theorem tCallD {K : PySem.W.Frag} {f : FL} {ma : MA} (σ : St) (H : Hp) (Q : VK) (h : tM K (mCall f ma) σ H Q) : tCB (rCl K f) (tMA K ma) σ H Q := by
  obtain ⟨ρ, env, S, d, S', L, e, q⟩ := h
  obtain ⟨⟨xs, S1⟩, e1, e⟩ := bind_some e
  exact tMA_at L e1 fun vs H1 ρ1 g1 r1 => ⟨ρ1, S1, xs, d, S', g1.s, r1, e, fun v H2 ρ2 g2 r2 => q v H2 ρ2 (g1.trans g2) r2⟩
theorem tCallN {K : PySem.W.Frag} {f : FN} {ma : MA} (σ : St) (H : Hp) (Q : VK) (h : tMN K (mCallN f ma) σ H Q) : tCB (rCn K f) (tMA K ma) σ H Q := by
  obtain ⟨ρ, env, S, d, S', L, e, q⟩ := h
  obtain ⟨⟨xs, S1⟩, e1, e⟩ := bind_some e
  obtain ⟨ds, e2, e⟩ := map_some e
  cases e
  exact tMA_at L e1 fun vs H1 ρ1 g1 r1 => ⟨ρ1, S1, xs, _, g1.s, r1, e2, fun vs2 r2 p n => q vs2 H1 ρ1 g1 r2 p n⟩
section
variable {X : Cx} {x : Str} {p pos : Pos} {e : Expr} {es : List Expr} {ma : MA} {id T : String} {f : FL} {fn : FN}
theorem pm_callB (hc : CallD X (.builtin id) f) (hg : Gl X x) (hm : X.mg x = none) (hv : bootBuiltins x = some (.builtin id)) (ha : PMA X (e :: es) ma) (hn : x ≠ "__name__" := by decide) (hdb : (x == ("__debug__" : Str)) = false := by decide)
    (he : starEach (e :: es) X.env = (false, eval e X.env) :: starEach es X.env := by rfl) (hpl : (backTo pos (starEach es X.env)).any (·.1) = false := by rfl) : PM X (.Call (.Name x p) (e :: es) [] pos) (mCall f ma) :=
  PEi (pe_callB hc hg hm hv ha hn hdb he hpl) tCallD
theorem pm_callT (hc : CallD X (.type T) f) (hg : Gl X x) (hm : X.mg x = none) (hv : bootBuiltins x = some (.type T)) (ha : PMA X (e :: es) ma) (hn : x ≠ "__name__" := by decide) (hdb : (x == ("__debug__" : Str)) = false := by decide)
    (he : starEach (e :: es) X.env = (false, eval e X.env) :: starEach es X.env := by rfl) (hpl : (backTo pos (starEach es X.env)).any (·.1) = false := by rfl) : PM X (.Call (.Name x p) (e :: es) [] pos) (mCall f ma) :=
  PEi (pe_callTy hc hg hm hv ha hn hdb he hpl) tCallD
theorem pn_callB (hc : CallN X (.builtin id) fn) (hg : Gl X x) (hm : X.mg x = none) (hv : bootBuiltins x = some (.builtin id)) (ha : PMA X (e :: es) ma) (hn : x ≠ "__name__" := by decide) (hdb : (x == ("__debug__" : Str)) = false := by decide)
    (he : starEach (e :: es) X.env = (false, eval e X.env) :: starEach es X.env := by rfl) (hpl : (backTo pos (starEach es X.env)).any (·.1) = false := by rfl) : PMN X (.Call (.Name x p) (e :: es) [] pos) (mCallN fn ma) :=
  PEi (pe_callB hc hg hm hv ha hn hdb he hpl) tCallN
theorem pn_callT (hc : CallN X (.type T) fn) (hg : Gl X x) (hm : X.mg x = none) (hv : bootBuiltins x = some (.type T)) (ha : PMA X (e :: es) ma) (hn : x ≠ "__name__" := by decide) (hdb : (x == ("__debug__" : Str)) = false := by decide)
    (he : starEach (e :: es) X.env = (false, eval e X.env) :: starEach es X.env := by rfl) (hpl : (backTo pos (starEach es X.env)).any (·.1) = false := by rfl) : PMN X (.Call (.Name x p) (e :: es) [] pos) (mCallN fn ma) :=
  PEi (pe_callTy hc hg hm hv ha hn hdb he hpl) tCallN

/-! #### len, tuple, list, int, abs, str, min, max of two -/
def fLen : FL := fun ds S => match ds with
  | [.str z] => if z.length ≤ sizeLine then some (.int z.length, S) else none
  | [.tup xs] => some (.int xs.length, S)
  | [.cl xs] => some (.int xs.length, S)
  | [.fz xs] => some (.int xs.length, S)
  | [.ref i] => match S[i]? with
    | some (.lst xs) => some (.int xs.length, S)
    | _ => none
  | _ => none
theorem relL1 {K : PySem.W.Frag} {H : Hp} {ρ : List Addr} {d : D} {vs : List V} (r : RelL K H ρ [d] vs) : ∃ v, vs = [v] ∧ Rel K H ρ d v := by
  obtain ⟨v, w, rfl, r1, r2⟩ := r
  cases r2
  exact ⟨v, rfl, r1⟩
theorem relL2 {K : PySem.W.Frag} {H : Hp} {ρ : List Addr} {d e : D} {vs : List V} (r : RelL K H ρ [d, e] vs) : ∃ v u, vs = [v, u] ∧ Rel K H ρ d v ∧ Rel K H ρ e u := by
  obtain ⟨v, w, rfl, r1, r2⟩ := r
  obtain ⟨u, rfl, r3⟩ := relL1 r2
  exact ⟨v, u, rfl, r1, r3⟩
theorem relL3 {K : PySem.W.Frag} {H : Hp} {ρ : List Addr} {d e f : D} {vs : List V} (r : RelL K H ρ [d, e, f] vs) : ∃ v u w, vs = [v, u, w] ∧ Rel K H ρ d v ∧ Rel K H ρ e u ∧ Rel K H ρ f w := by
  obtain ⟨v, w, rfl, r1, r2⟩ := r
  obtain ⟨u, z, rfl, r3, r4⟩ := relL2 r2
  exact ⟨v, u, z, rfl, r1, r3, r4⟩
theorem call_mlen : CallD X (.builtin "len") fLen := by
  refine CallR.imp call_len fun xs H Q h => ?_
  obtain ⟨ρ, S, ds, d, S', s, r, e, q⟩ := h
  unfold fLen at e
  split at e
  · split at e
    · cases e
      obtain ⟨v, rfl, r1⟩ := relL1 r
      cases r1.of_str
      exact ⟨_, _, rfl, ⟨by assumption, rfl⟩, q _ _ _ (.refl s) (rel_int _)⟩
    · cases e
  · cases e
    obtain ⟨v, rfl, r1⟩ := relL1 r
    obtain ⟨p, vs, rfl, h1, r2⟩ := r1.of_tup
    exact ⟨_, _, rfl, .inr ⟨vs, h1, rfl⟩, q _ _ _ (.refl s) (by rw [r2.length]; exact rel_int _)⟩
  · cases e
    obtain ⟨v, rfl, r1⟩ := relL1 r
    obtain ⟨p, vs, rfl, h1, r2⟩ := r1.of_cl
    exact ⟨_, _, rfl, .inl ⟨vs, clSq h1, rfl⟩, q _ _ _ (.refl s) (by rw [r2.length]; exact rel_int _)⟩
  · cases e
    obtain ⟨v, rfl, r1⟩ := relL1 r
    obtain ⟨p, vs, rfl, h1, r2⟩ := r1.of_fz
    exact ⟨_, _, rfl, .inl ⟨vs, h1.l, rfl⟩, q _ _ _ (.refl s) (by rw [r2.length]; exact rel_int _)⟩
  · split at e
    · rename_i hS
      cases e
      obtain ⟨v, rfl, r1⟩ := relL1 r
      obtain ⟨p, vs, rfl, _, h1, r2⟩ := s.lst hS r1
      exact ⟨_, _, rfl, .inl ⟨vs, SqL.of h1, rfl⟩, q _ _ _ (.refl s) (by rw [r2.length]; exact rel_int _)⟩
    · cases e
  · cases e
/-- the items of a list or tuple -/
def seqOf (d : D) (S : Store) : Option (List D) := match d with
  | .tup ds => some ds
  | d => lstOf d S
theorem seq_of {K : PySem.W.Frag} {H : Hp} {ρ : List Addr} {S : Store} (s : RelS K H ρ S) {d : D} {ds : List D} {v : V} (e : seqOf d S = some ds) (r : Rel K H ρ d v) : ∃ p vs, v = .ref p ∧ (SqL K H p vs ∨ SqT K H p vs) ∧ RelL K H ρ ds vs := by
  unfold seqOf at e
  split at e
  · cases e
    obtain ⟨p, vs, rfl, h1, r1⟩ := r.of_tup
    exact ⟨p, vs, rfl, .inr h1, r1⟩
  · obtain ⟨p, vs, rfl, h1, r1⟩ := lst_of s e r
    exact ⟨p, vs, rfl, .inl h1, r1⟩
def fTuple : FL := fun ds S => match ds with
  | [d] => (seqOf d S).map fun xs => (.tup xs, S)
  | _ => none
theorem call_mtuple : CallD X (.type "tuple") fTuple := by
  refine CallR.imp call_tuple_of fun xs H Q h => ?_
  obtain ⟨ρ, S, ds, d, S', s, r, e, q⟩ := h
  unfold fTuple at e
  split at e
  · obtain ⟨ys, e1, e2⟩ := map_some e
    cases e2
    obtain ⟨v, rfl, r1⟩ := relL1 r
    unfold seqOf at e1
    split at e1
    · cases e1
      obtain ⟨p, vs, rfl, h1, r2⟩ := r1.of_tup
      exact ⟨p, vs, rfl, .inr ⟨h1, q _ _ _ (.refl s) r1⟩⟩
    · obtain ⟨p, vs, rfl, h1, r2⟩ := lst_of s e1 r1
      refine ⟨p, vs, rfl, .inl ⟨h1, fun l n => ?_⟩⟩
      obtain ⟨g, r3⟩ := newTup s r2 n
      exact q _ _ _ g r3
  · cases e
def fList : FN := fun ds S => match ds with
  | [d] => seqOf d S
  | _ => none
theorem call_mlist : CallN X (.type "list") fList := by
  refine CallR.imp call_list_of fun xs H Q h => ?_
  obtain ⟨ρ, S, ds, es, s, r, e, q⟩ := h
  unfold fList at e
  split at e
  · obtain ⟨v, rfl, r1⟩ := relL1 r
    obtain ⟨p, vs, rfl, h1, r2⟩ := seq_of s e r1
    exact ⟨p, vs, rfl, h1, fun l n => q _ r2 l n⟩
  · cases e
def fInt : FL := fun ds S => match ds with
  | [.int i] => some (.int i, S)
  | [.bl b] => some (.int (if b then 1 else 0), S)
  | _ => none
theorem call_mint : CallD X (.type "int") fInt := by
  refine CallR.imp call_int1 fun xs H Q h => ?_
  obtain ⟨ρ, S, ds, d, S', s, r, e, q⟩ := h
  unfold fInt at e
  split at e
  · cases e
    obtain ⟨v, rfl, r1⟩ := relL1 r
    cases r1.of_int
    exact .inl ⟨_, rfl, q _ _ _ (.refl s) (rel_int _)⟩
  · cases e
    obtain ⟨v, rfl, r1⟩ := relL1 r
    cases r1.of_bl
    exact .inr ⟨_, rfl, q _ _ _ (.refl s) (rel_int _)⟩
  · cases e
def fAbs : FL := fun ds S => match ds with
  | [.int i] => some (.int (if i < 0 then -i else i), S)
  | _ => none
theorem call_mabs : CallD X (.builtin "abs") fAbs := by
  refine CallR.imp call_abs fun xs H Q h => ?_
  obtain ⟨ρ, S, ds, d, S', s, r, e, q⟩ := h
  unfold fAbs at e
  split at e
  · cases e
    obtain ⟨v, rfl, r1⟩ := relL1 r
    cases r1.of_int
    exact ⟨_, rfl, q _ _ _ (.refl s) (rel_int _)⟩
  · cases e
def fStr : FL := fun ds S => match ds with
  | [.int i] => if i.natAbs.log2 < 1920 then some (.str (toString i), S) else none
  | _ => none
theorem call_mstr : CallD X (.type "str") fStr := by
  refine CallR.imp call_str_int fun xs H Q h => ?_
  obtain ⟨ρ, S, ds, d, S', s, r, e, q⟩ := h
  unfold fStr at e
  split at e
  · split at e
    · cases e
      obtain ⟨v, rfl, r1⟩ := relL1 r
      cases r1.of_int
      exact ⟨_, rfl, by assumption, q _ _ _ (.refl s) (rel_str _)⟩
    · cases e
  · cases e
/-- the greatest, the least of ints -/
def maxI : Int → List Int → Int
  | m, [] => m
  | m, x :: r => maxI (if x > m then x else m) r
def minI : Int → List Int → Int
  | m, [] => m
  | m, x :: r => minI (if x < m then x else m) r
def intsOf : List D → Option (List Int)
  | [] => some []
  | .int i :: r => (intsOf r).map fun l => i :: l
  | _ :: _ => none
theorem ints_rel {K : PySem.W.Frag} {H : Hp} {ρ : List Addr} : ∀ {ds : List D} {ns : List Int} {vs : List V}, intsOf ds = some ns → RelL K H ρ ds vs → vs = ns.map V.int
  | [], _, _, e, r => by cases e; cases r; rfl
  | d :: ds, ns, _, e, r => by
    obtain ⟨v, vs, rfl, r1, r2⟩ := r
    cases d <;> (first | (simp [intsOf] at e; done) | skip)
    obtain ⟨l, e1, rfl⟩ := map_some e
    cases r1.of_int
    rw [ints_rel e1 r2]; rfl
theorem intsOf_map (ns : List Int) : intsOf (ns.map .int) = some ns := by
  induction ns with
  | nil => rfl
  | cons n ns ih => simp [intsOf, ih]
theorem maxI_ge (m : Int) (l : List Int) : m ≤ maxI m l ∧ (∀ y ∈ l, y ≤ maxI m l) ∧ (maxI m l = m ∨ maxI m l ∈ l) := by
  induction l generalizing m with
  | nil => exact ⟨Int.le_refl _, (fun y h => nomatch h), .inl rfl⟩
  | cons x r ih =>
    obtain ⟨h1, h2, h3⟩ := ih (if x > m then x else m)
    unfold maxI
    by_cases hx : x > m
    · rw [if_pos hx] at h1 h2 h3 ⊢
      refine ⟨by omega, fun y hy => ?_, ?_⟩
      · rcases List.mem_cons.mp hy with rfl | hy
        · exact h1
        · exact h2 y hy
      · rcases h3 with h3 | h3
        · exact .inr (by rw [h3]; exact List.mem_cons_self)
        · exact .inr (List.mem_cons_of_mem _ h3)
    · rw [if_neg hx] at h1 h2 h3 ⊢
      refine ⟨h1, fun y hy => ?_, ?_⟩
      · rcases List.mem_cons.mp hy with rfl | hy
        · omega
        · exact h2 y hy
      · rcases h3 with h3 | h3
        · exact .inl h3
        · exact .inr (List.mem_cons_of_mem _ h3)
theorem minI_le (m : Int) (l : List Int) : minI m l ≤ m ∧ (∀ y ∈ l, minI m l ≤ y) ∧ (minI m l = m ∨ minI m l ∈ l) := by
  induction l generalizing m with
  | nil => exact ⟨Int.le_refl _, (fun y h => nomatch h), .inl rfl⟩
  | cons x r ih =>
    obtain ⟨h1, h2, h3⟩ := ih (if x < m then x else m)
    unfold minI
    by_cases hx : x < m
    · rw [if_pos hx] at h1 h2 h3 ⊢
      refine ⟨by omega, fun y hy => ?_, ?_⟩
      · rcases List.mem_cons.mp hy with rfl | hy
        · exact h1
        · exact h2 y hy
      · rcases h3 with h3 | h3
        · exact .inr (by rw [h3]; exact List.mem_cons_self)
        · exact .inr (List.mem_cons_of_mem _ h3)
    · rw [if_neg hx] at h1 h2 h3 ⊢
      refine ⟨h1, fun y hy => ?_, ?_⟩
      · rcases List.mem_cons.mp hy with rfl | hy
        · omega
        · exact h2 y hy
      · rcases h3 with h3 | h3
        · exact .inl h3
        · exact .inr (List.mem_cons_of_mem _ h3)
/-- max(a, b); max of a list of ints -/
def fMax : FL := fun ds S => match ds with
  | [.int i, .int j] => some (.int (if j > i then j else i), S)
  | [d] => (lstOf d S).bind fun xs => (intsOf xs).bind fun ns => match ns with
    | n :: r => some (.int (maxI n r), S)
    | [] => none
  | _ => none
def fMin : FL := fun ds S => match ds with
  | [.int i, .int j] => some (.int (if j < i then j else i), S)
  | [d] => (lstOf d S).bind fun xs => (intsOf xs).bind fun ns => match ns with
    | n :: r => some (.int (minI n r), S)
    | [] => none
  | _ => none
theorem call_mmax (hc : X.calm = true) : CallD X (.builtin "max") fMax := by
  refine CallR.imp ((call_max2 hc).or (cr_max hc)) fun xs H Q h => ?_
  obtain ⟨ρ, S, ds, d, S', s, r, e, q⟩ := h
  unfold fMax at e
  split at e
  · cases e
    obtain ⟨v, u, rfl, r1, r2⟩ := relL2 r
    cases r1.of_int; cases r2.of_int
    exact .inl ⟨_, _, rfl, q _ _ _ (.refl s) (rel_int _)⟩
  · obtain ⟨ys, e1, e⟩ := bind_some e
    obtain ⟨ns, e2, e⟩ := bind_some e
    split at e
    · rename_i n l
      cases e
      obtain ⟨v, rfl, r1⟩ := relL1 r
      obtain ⟨p, vs, rfl, h1, r2⟩ := lst_of s e1 r1
      have hv := ints_rel e2 r2
      subst hv
      refine .inr ⟨p, n :: l, rfl, h1, Nat.succ_pos _, fun m hm hle => ?_⟩
      obtain ⟨g1, g2, g3⟩ := maxI_ge n l
      have : maxI n l = m := by
        have a1 : m ≤ maxI n l := by
          rcases List.mem_cons.mp hm with rfl | hm
          · exact g1
          · exact g2 m hm
        have a2 : maxI n l ≤ m := by
          rcases g3 with g3 | g3
          · rw [g3]; exact hle n List.mem_cons_self
          · exact hle _ (List.mem_cons_of_mem _ g3)
        omega
      subst this
      exact q _ _ _ (.refl s) (rel_int _)
    · cases e
  · cases e
theorem call_mmin (hc : X.calm = true) : CallD X (.builtin "min") fMin := by
  refine CallR.imp ((call_min2 hc).or (cr_min hc)) fun xs H Q h => ?_
  obtain ⟨ρ, S, ds, d, S', s, r, e, q⟩ := h
  unfold fMin at e
  split at e
  · cases e
    obtain ⟨v, u, rfl, r1, r2⟩ := relL2 r
    cases r1.of_int; cases r2.of_int
    exact .inl ⟨_, _, rfl, q _ _ _ (.refl s) (rel_int _)⟩
  · obtain ⟨ys, e1, e⟩ := bind_some e
    obtain ⟨ns, e2, e⟩ := bind_some e
    split at e
    · rename_i n l
      cases e
      obtain ⟨v, rfl, r1⟩ := relL1 r
      obtain ⟨p, vs, rfl, h1, r2⟩ := lst_of s e1 r1
      have hv := ints_rel e2 r2
      subst hv
      refine .inr ⟨p, n :: l, rfl, h1, Nat.succ_pos _, fun m hm hle => ?_⟩
      obtain ⟨g1, g2, g3⟩ := minI_le n l
      have : minI n l = m := by
        have a1 : minI n l ≤ m := by
          rcases List.mem_cons.mp hm with rfl | hm
          · exact g1
          · exact g2 m hm
        have a2 : m ≤ minI n l := by
          rcases g3 with g3 | g3
          · rw [g3]; exact hle n List.mem_cons_self
          · exact hle _ (List.mem_cons_of_mem _ g3)
        omega
      subst this
      exact q _ _ _ (.refl s) (rel_int _)
    · cases e
  · cases e
def fSum : FL := fun ds S => match ds with
  | [d] => (lstOf d S).bind fun xs => (intsOf xs).map fun ns => (.int ns.sum, S)
  | _ => none
theorem call_msum (hc : X.calm = true) : CallD X (.builtin "sum") fSum := by
  refine CallR.imp (cr_sum hc) fun xs H Q h => ?_
  obtain ⟨ρ, S, ds, d, S', s, r, e, q⟩ := h
  unfold fSum at e
  split at e
  · obtain ⟨ys, e1, e⟩ := bind_some e
    obtain ⟨ns, e2, e⟩ := map_some e
    cases e
    obtain ⟨v, rfl, r1⟩ := relL1 r
    obtain ⟨p, vs, rfl, h1, r2⟩ := lst_of s e1 r1
    have hv := ints_rel e2 r2
    subst hv
    exact ⟨p, ns, rfl, h1, q _ _ _ (.refl s) (rel_int _)⟩
  · cases e
end

/-! ### isinstance(e, T) -/
/-- the name of a value's type -/
def tyD (d : D) (S : Store) : Option String := match d with
  | .non => some "NoneType" | .bl _ => some "bool" | .int _ => some "int" | .str _ => some "str" | .tup _ => some "tuple" | .cl _ => some "list" | .fz _ => none
  | .ref i => match S[i]? with
    | some (.lst _) => some "list"
    | some (.dic _) => some "dict"
    | some (.dit _) => some "dict"
    | _ => none
theorem sqt_ty {K : PySem.W.Frag} {H : Hp} {a : Addr} {vs : List V} (h : SqT K H a vs) : TyX K H (.ref a) (.type "tuple") := by
  rcases h with (h | ⟨o, h⟩) | ⟨o, _, _, hk, hc, _⟩
  · exact .base (.tup h)
  · exact .fTuple h
  · exact .kTuple hk hc
theorem ty_rel {K : PySem.W.Frag} {H : Hp} {ρ : List Addr} {S : Store} (s : RelS K H ρ S) {d : D} {v : V} {T : String} (e : tyD d S = some T) (r : Rel K H ρ d v) : TyX K H v (.type T) := by
  unfold tyD at e
  split at e
  · cases e; cases r.of_non; exact .base .non
  · cases e; cases r.of_bl; exact .base (.bl _)
  · cases e; cases r.of_int; exact .base (.int _)
  · cases e; cases r.of_str; exact .base (.str _)
  · cases e; obtain ⟨p, vs, rfl, h1, _⟩ := r.of_tup; exact sqt_ty h1
  · cases e; obtain ⟨p, vs, rfl, h1, _⟩ := r.of_cl; exact .base (.lst h1.1)
  · cases e
  · split at e
    · rename_i hS
      cases e
      obtain ⟨p, vs, rfl, _, h1, _⟩ := s.lst hS r
      exact .base (.lst h1)
    · rename_i hS
      cases e
      obtain ⟨p, rfl, q⟩ := r.of_ref
      obtain ⟨vs, h1, _⟩ := s.at _ _ p hS q
      exact .base (.dK h1)
    · rename_i hS
      cases e
      obtain ⟨p, rfl, q⟩ := r.of_ref
      obtain ⟨vs, h1, _⟩ := s.at _ _ p hS q
      exact .base (.dT h1)
    · cases e
/-- isinstance by the names of types: of the ones that are met here only bool lies within another one -/
def isiB (a b : String) : Bool := a == b || (a == "bool" && b == "int")
def names7 : List String := ["NoneType", "bool", "int", "str", "tuple", "list", "dict"]
theorem isi_kit : ∀ a ∈ names7, ∀ b ∈ names7, kitB a b = some (isiB a b) := by decide +kernel
theorem ty_mem {d : D} {S : Store} {T : String} (e : tyD d S = some T) : T ∈ names7 := by
  unfold tyD at e
  split at e
  · cases e; decide
  · cases e; decide
  · cases e; decide
  · cases e; decide
  · cases e; decide
  · cases e; decide
  · cases e
  · split at e
    · cases e; decide
    · cases e; decide
    · cases e; decide
    · cases e
def mIsi (T : String) (a : ME) : ME := fun env S => (a env S).bind fun p => (tyD p.1 p.2).map fun t => (.bl (isiB t T), p.2)
section
variable {X : Cx}
theorem pm_isi {T : String} {y : Str} {a : Expr} {ma : ME} {p p2 pos : Pos} (hT : T ∈ names7) (hg : Gl X "isinstance") (hm : X.mg "isinstance" = none) (ha : PM X a ma) (hgT : Gl X y) (hmT : X.mg y = none) (hv : bootBuiltins y = some (.type T)) (hn : y ≠ "__name__" := by decide) (hd : (y == ("__debug__" : Str)) = false := by decide)
    (hs2 : starEach [.Name y p2] X.env = (false, eval (.Name y p2) X.env) :: starEach [] X.env := by rfl)
    (hs : starEach (a :: [.Name y p2]) X.env = (false, eval a X.env) :: starEach [.Name y p2] X.env := by rfl) (hpl : (backTo pos (starEach [.Name y p2] X.env)).any (·.1) = false := by rfl) :
    PM X (.Call (.Name "isinstance" p) [a, .Name y p2] [] pos) (mIsi T ma) :=
  PEi (pe_callB call_isi hg hm (by decide +kernel) (pa_cons ha (pa_cons (pe_bltn (v := .ty T) hgT hmT hv rfl hn hd) pa_nil hs2) hs) (by decide) (by decide) hs hpl) fun σ H Q ⟨ρ, env, S, d, S', L, e, q⟩ => by
    obtain ⟨⟨x, S1⟩, e1, e⟩ := bind_some e
    obtain ⟨t, e2, e⟩ := map_some e
    cases e
    refine tM_at L e1 fun v H1 ρ1 g1 r1 => ?_
    exact ⟨v, .ty T, .type t, .type T, isiB t T, rfl, .ty T, ty_rel g1.s e2 r1, kit_ty (isi_kit t (ty_mem e2) T hT), q _ _ _ g1 (rel_bl _)⟩
end

/-! ### methods of lists and texts -/
def rMt (K : PySem.W.Frag) (f : D → FL) : V → List V → Hp → VK → Prop := fun x xs H Q => ∃ ρ S a ds d S', RelS K H ρ S ∧ Rel K H ρ a x ∧ RelL K H ρ ds xs ∧ f a ds S = some (d, S') ∧ ∀ v H' ρ', Go K H ρ H' ρ' S' → Rel K H' ρ' d v → Q v H'
def MtD (X : Cx) (id : String) (f : D → FL) : Prop := MtR X id (rMt X.K f)
/-- T: the type that the receiver must have -/
def mMeth (T : String) (f : D → FL) (o : ME) (a : MA) : ME := fun env S => (o env S).bind fun p => if tyD p.1 p.2 = some T then (a env p.2).bind fun q => f p.1 q.1 q.2 else none
theorem MtR.imp {X : Cx} {id : String} {r r' : V → List V → Hp → VK → Prop} (h : MtR X id r) (i : ∀ x xs H Q, r' x xs H Q → r x xs H Q) : MtR X id r' := fun pins s σ H x xs v us Q I rx rs q => h pins s σ H x xs v us Q I rx rs (i _ _ _ _ q)
theorem tyV_of {K : PySem.W.Frag} {H : Hp} {ρ : List Addr} {S : Store} (s : RelS K H ρ S) {d : D} {v : V} {T : String} (hT : T = "str" ∨ T = "list" ∨ T = "dict") (e : tyD d S = some T) (r : Rel K H ρ d v) : tyV K T v H := by
  unfold tyD at e
  split at e
  · cases e; rcases hT with h | h | h <;> exact absurd h (by decide)
  · cases e; rcases hT with h | h | h <;> exact absurd h (by decide)
  · cases e; rcases hT with h | h | h <;> exact absurd h (by decide)
  · cases e; cases r.of_str; rfl
  · cases e; rcases hT with h | h | h <;> exact absurd h (by decide)
  · cases e; obtain ⟨p, vs, rfl, h1, _⟩ := r.of_cl; exact .inl ⟨rfl, vs, clSq h1⟩
  · cases e
  · split at e
    · rename_i hS
      cases e
      obtain ⟨p, vs, rfl, _, h1, _⟩ := s.lst hS r
      exact .inl ⟨rfl, vs, SqL.of h1⟩
    · rename_i hS
      cases e
      obtain ⟨p, rfl, q⟩ := r.of_ref
      obtain ⟨vs, h1, _⟩ := s.at _ _ p hS q
      exact .inr (.inr (.inl ⟨rfl, .inl ⟨vs, h1⟩⟩))
    · rename_i hS
      cases e
      obtain ⟨p, rfl, q⟩ := r.of_ref
      obtain ⟨vs, h1, _⟩ := s.at _ _ p hS q
      exact .inr (.inr (.inl ⟨rfl, .inr ⟨vs, h1⟩⟩))
    · cases e
section
variable {X : Cx} {o e : Expr} {es : List Expr} {mo : ME} {ma : MA} {name : Str} {apos cpos : Pos} {T id : String} {f : D → FL}
theorem pm_meth0 (hT : T = "str" ∨ T = "list" ∨ T = "dict") (pa : PlainAttrs T) (slot : Slot T name id) (hty : typeOf (.builtin id) = pure (.type "method_descriptor")) (hm : MtD X id f) (ho : PM X o mo)
    (hbase : attributeBase o name X.env (eval o X.env) = eval o X.env := by rfl) (hline : (apos.endLine == cpos.line) = true := by rfl) : PM X (.Call (.Attribute o name apos) [] [] cpos) (mMeth T f mo mNil) :=
  PEi (pe_bm0 pa slot hty hm ho hbase hline) fun σ H Q ⟨ρ, env, S, d, S', L, e, q⟩ => by
    obtain ⟨⟨x, S1⟩, e1, e⟩ := bind_some e
    split at e
    · rename_i ht
      refine tM_at L e1 fun v H1 ρ1 g1 r1 => ⟨tyV_of g1.s hT ht r1, ρ1, S1, x, [], d, S', g1.s, r1, RelL.nil, e, fun v H2 ρ2 g2 r2 => q v H2 ρ2 (g1.trans g2) r2⟩
    · cases e
theorem pm_meth (hT : T = "str" ∨ T = "list" ∨ T = "dict") (pa : PlainAttrs T) (slot : Slot T name id) (hty : typeOf (.builtin id) = pure (.type "method_descriptor")) (hm : MtD X id f) (ho : PM X o mo) (ha : PMA X (e :: es) ma)
    (hbase : attributeBase o name X.env (eval o X.env) = eval o X.env := by rfl)
    (hfew : ((backTo cpos (starEach (e :: es) X.env)).all (fun x => !x.1) && (backToKw cpos (keywordEach [] X.env)).all (fun x => x.1.isSome)
      && decide ((e :: es).length + ([] : List Keyword).length + (if ([] : List Keyword).isEmpty then 0 else 1) < 30)) = true := by rfl)
    (hline : (apos.endLine == cpos.line) = true := by rfl) (hs : starEach (e :: es) X.env = (false, eval e X.env) :: starEach es X.env := by rfl) (hplain : (backTo cpos (starEach es X.env)).any (·.1) = false := by rfl) :
    PM X (.Call (.Attribute o name apos) (e :: es) [] cpos) (mMeth T f mo ma) :=
  PEi (pe_bm pa slot hty hm ho ha hbase hfew hline hs hplain) fun σ H Q ⟨ρ, env, S, d, S', L, e, q⟩ => by
    obtain ⟨⟨x, S1⟩, e1, e⟩ := bind_some e
    split at e
    · rename_i ht
      obtain ⟨⟨xs, S2⟩, e2, e⟩ := bind_some e
      refine tM_at L e1 fun v H1 ρ1 g1 r1 => ⟨tyV_of g1.s hT ht r1, ?_⟩
      refine tMA_at (L.next g1) e2 fun vs H2 ρ2 g2 r2 => ⟨ρ2, S2, x, xs, d, S', g2.s, r1.mono g2.le, r2, e, fun v H3 ρ3 g3 r3 => q v H3 ρ3 ((g1.trans g2).trans g3) r3⟩
    · cases e
/-- a list of the store is written -/
theorem setLst {K : PySem.W.Frag} {H : Hp} {ρ : List Addr} {S : Store} (s : RelS K H ρ S) {i : Nat} {a : Addr} {u : O} {ds : List D} {vs : List V} (hu : S[i]? = some u) (e : ρ[i]? = some a) (r : RelL K H ρ ds vs) (hx : Le H ρ (upd H a (.lst vs)) ρ) :
    Go K H ρ (upd H a (.lst vs)) ρ (S.set i (.lst ds)) := by
  obtain ⟨s', le⟩ := s.set (o := .lst vs) (ob := .lst ds) hu e ⟨vs, upd_same, r.mono hx⟩
  exact ⟨le, s'⟩
theorem lstLe {K : PySem.W.Frag} {H : Hp} {ρ : List Addr} {S : Store} (s : RelS K H ρ S) {i : Nat} {a : Addr} {u : O} {o : HO} (hu : S[i]? = some u) (e : ρ[i]? = some a) : Le H ρ (upd H a o) ρ := by
  obtain ⟨x, hx, ht, hf⟩ := (s.at i u a hu e).there
  exact Le.upd (List.mem_of_getElem? e) hx ht hf
def fAppend : D → FL := fun o ds S => match o, ds with
  | .ref i, [d] => match S[i]? with
    | some (.lst xs) => if xs.length < sizeLine then some (.non, S.set i (.lst (xs ++ [d]))) else none
    | _ => none
  | _, _ => none
theorem mt_mappend : MtD X "list.append" fAppend := by
  refine MtR.imp mt_append fun x xs H Q h => ?_
  obtain ⟨ρ, S, a, ds, d, S', s, ra, rl, e, q⟩ := h
  unfold fAppend at e
  split at e
  · split at e
    · rename_i hS
      split at e
      · rename_i hl
        cases e
        obtain ⟨v, rfl, r1⟩ := relL1 rl
        obtain ⟨p, vs, rfl, h0, h1, r2⟩ := s.lst hS ra
        have g := setLst s hS h0 (r2.append (.one r1)) (lstLe s hS h0)
        exact ⟨p, vs, v, rfl, rfl, h1, by rw [r2.length]; exact hl, q _ _ _ g rel_non⟩
      · cases e
    · cases e
  · cases e
def fExtend : D → FL := fun o ds S => match o, ds with
  | .ref i, [.ref j] => match S[i]?, S[j]? with
    | some (.lst xs), some (.lst ys) => if xs.length + ys.length ≤ sizeLine then some (.non, S.set i (.lst (xs ++ ys))) else none
    | _, _ => none
  | _, _ => none
theorem mt_mextend : MtD X "list.extend" fExtend := by
  refine MtR.imp mt_extend fun x xs H Q h => ?_
  obtain ⟨ρ, S, a, ds, d, S', s, ra, rl, e, q⟩ := h
  unfold fExtend at e
  split at e
  · split at e
    · rename_i hS hS2
      split at e
      · rename_i hl
        cases e
        obtain ⟨v, rfl, r1⟩ := relL1 rl
        obtain ⟨p, vs, rfl, h0, h1, r2⟩ := s.lst hS ra
        obtain ⟨p', vs', rfl, h0', h1', r2'⟩ := s.lst hS2 r1
        have g := setLst s hS h0 (r2.append r2') (lstLe s hS h0)
        exact ⟨p, p', vs, vs', rfl, rfl, h1, h1', by rw [r2.length, r2'.length]; exact hl, q _ _ _ g rel_non⟩
      · cases e
    · cases e
  · cases e
def fPop : D → FL := fun o ds S => match o, ds with
  | .ref i, [] => match S[i]? with
    | some (.lst xs) => match xs[xs.length - 1]? with
      | some d => some (d, S.set i (.lst xs.dropLast))
      | none => none
    | _ => none
  | .ref i, [.int k] => match S[i]? with
    | some (.lst xs) => if decide (-(2 ^ 63) ≤ k ∧ k < 2 ^ 63) then match seqIndex? k xs.length with
      | some j => match xs[j]? with
        | some d => some (d, S.set i (.lst (xs.eraseIdx j)))
        | none => none
      | none => none
      else none
    | _ => none
  | _, _ => none
theorem dropLast_rel {K : PySem.W.Frag} {H : Hp} {ρ : List Addr} {ds : List D} {vs : List V} (r : RelL K H ρ ds vs) : RelL K H ρ ds.dropLast vs.dropLast := by
  rw [List.dropLast_eq_take, List.dropLast_eq_take, r.length]
  exact r.take _
theorem mt_mpop : MtD X "list.pop" fPop := by
  refine MtR.imp (MtR.or mt_pop mt_popAt) fun x xs H Q h => ?_
  obtain ⟨ρ, S, a, ds, d, S', s, ra, rl, e, q⟩ := h
  unfold fPop at e
  split at e
  · split at e
    · rename_i hS
      split at e
      · rename_i hx
        cases e
        cases rl
        obtain ⟨p, vs, rfl, h0, h1, r2⟩ := s.lst hS ra
        obtain ⟨v, h2, r3⟩ := r2.get hx
        have le := lstLe (o := .lst vs.dropLast) s hS h0
        have g := setLst s hS h0 (dropLast_rel r2) le
        exact .inl ⟨p, vs, v, rfl, rfl, h1, by rw [r2.length]; exact h2, q _ _ _ g (r3.mono le)⟩
      · cases e
    · cases e
  · split at e
    · rename_i hS
      split at e
      · rename_i hk
        obtain ⟨k1, k2⟩ := of_decide_eq_true hk
        split at e
        · rename_i j hj
          split at e
          · rename_i hx
            cases e
            obtain ⟨v0, rfl, r0⟩ := relL1 rl
            cases r0.of_int
            obtain ⟨p, vs, rfl, h0, h1, r2⟩ := s.lst hS ra
            obtain ⟨v, h2, r3⟩ := r2.get hx
            have le := lstLe (o := .lst (vs.eraseIdx j)) s hS h0
            have g := setLst s hS h0 (r2.eraseIdx j) le
            exact .inr ⟨p, vs, _, j, v, rfl, rfl, h1, k1, k2, by rw [r2.length]; exact hj, h2, q _ _ _ g (r3.mono le)⟩
          · cases e
        · cases e
      · cases e
    · cases e
  · cases e
end
end PD

set_option Elab.async false
set_option linter.all false
set_option maxRecDepth 100000
set_option maxHeartbeats 4000000
/-! PdStmt: targets, statements, loops. -/
namespace PD
open PySem PySem.Spec PyProof.Rows L2

/-! ### targets -/
abbrev MG := D → DEnv → Store → Option (DEnv × Store)
abbrev MGs := List D → DEnv → Store → Option (DEnv × Store)
def tMG (K : PySem.W.Frag) (g : MG) : TG := fun v σ H Q => ∃ ρ env S d env' S', Lie K σ H ρ env S ∧ Rel K H ρ d v ∧ g d env S = some (env', S') ∧ ∀ σ' H' ρ', Go K H ρ H' ρ' S' → RelE K H' ρ' env' σ' → Q σ' H'
def tMGs (K : PySem.W.Frag) (g : MGs) : TGs := fun vs σ H Q => ∃ ρ env S ds env' S', Lie K σ H ρ env S ∧ RelL K H ρ ds vs ∧ g ds env S = some (env', S') ∧ ∀ σ' H' ρ', Go K H ρ H' ρ' S' → RelE K H' ρ' env' σ' → Q σ' H'
abbrev PMG (X : Cx) (tg : Expr) (g : MG) : Prop := PG X tg (tMG X.K g)
abbrev PMGs (X : Cx) (tg : List Expr) (g : MGs) : Prop := PGs X tg (tMGs X.K g)
def mgName (i : Nat) : MG := fun d env S => some (env.set i (some d), S)
def mgNil : MGs := fun ds env S => match ds with
  | [] => some (env, S)
  | _ => none
def mgCons (g : MG) (r : MGs) : MGs := fun ds env S => match ds with
  | d :: ds => (g d env S).bind fun p => r ds p.1 p.2
  | _ => none
def mgTup (n : Nat) (g : MGs) : MG := fun d env S => match d with
  | .tup ds => if ds.length = n then g ds env S else none
  | _ => none
def mgSub (o i : ME) : MG := fun d env S => (o env S).bind fun p => (i env p.2).bind fun q => match p.1, q.1 with
  | .ref j, .int k => match q.2[j]? with
    | some (.lst xs) => (ixN xs.length k).map fun m => (env, q.2.set j (.lst (xs.set m d)))
    | _ => none
  | _, _ => none
section
variable {X : Cx} {pos : Pos}
theorem PGi {e : Expr} {t t' : TG} (h : PG X e t) (i : ∀ v σ H Q, t' v σ H Q → t v σ H Q) : PG X e t' := ⟨fun pins s σ H v u Q I r q => h.run pins s σ H v u Q I r (i v σ H Q q)⟩
theorem PGsi {e : List Expr} {t t' : TGs} (h : PGs X e t) (i : ∀ v σ H Q, t' v σ H Q → t v σ H Q) : PGs X e t' := ⟨fun pins s σ H v u Q I r q => h.run pins s σ H v u Q I r (i v σ H Q q)⟩
theorem pg_mname {i : Nat} {x : Str} (hN : X.N.Nodup) (hi : X.N[i]? = some x) (hx : Loc X.env.scope x) (hf : X.fn x = true ∨ X.env.scope.names.lookup x = some .local := by first | exact .inl rfl | exact .inr rfl | assumption) : PMG X (.Name x pos) (mgName i) :=
  PGi (pg_name hN hi hx hf) fun v σ H Q ⟨ρ, env, S, d, env', S', L, r, e, q⟩ => by
    cases e
    exact q _ _ _ L.go (L.e.set i r)
theorem pgs_mnil : PMGs X [] mgNil := PGsi pgs_nil fun v σ H Q ⟨ρ, env, S, d, env', S', L, r, e, q⟩ => by
  unfold mgNil at e
  split at e
  · cases e; cases r
    exact ⟨rfl, q _ _ _ L.go L.e⟩
  · cases e
theorem pgs_mcons {e : Expr} {es : List Expr} {g : MG} {r : MGs} (h1 : PMG X e g) (h2 : PMGs X es r)
    (hs : (assignEach (e :: es) X.env).map (·.2) = assign e X.env :: (assignEach es X.env).map (·.2) := by rfl) : PMGs X (e :: es) (mgCons g r) :=
  PGsi (pgs_cons h1 h2 hs) fun v σ H Q ⟨ρ, env, S, d, env', S', L, rr, e, q⟩ => by
    unfold mgCons at e
    split at e
    · obtain ⟨⟨env1, S1⟩, e1, e⟩ := bind_some e
      obtain ⟨v, vs, rfl, r1, r2⟩ := rr
      refine ⟨v, vs, rfl, ρ, env, S, _, env1, S1, L, r1, e1, fun σ1 H1 ρ1 g1 le1 => ?_⟩
      exact ⟨ρ1, env1, S1, _, env', S', ⟨le1, g1.s⟩, r2.mono g1.le, e, fun σ2 H2 ρ2 g2 le2 => q _ _ _ (g1.trans g2) le2⟩
    · cases e
theorem pg_mtup {es : List Expr} {k : Nat} {t : MGs} {n : Nat} (hc : X.calm = true) (h : PMGs X es t)
    (hn : (assignEach es X.env).length = n := by rfl) (hst : (assignEach es X.env).findIdx? (·.1) = none := by rfl) : PMG X (.Tuple es k pos) (mgTup n t) :=
  PGi (pg_tup hc h hn hst) fun v σ H Q ⟨ρ, env, S, d, env', S', L, r, e, q⟩ => by
    unfold mgTup at e
    split at e
    · split at e
      · rename_i hl
        obtain ⟨p, vs, rfl, h1, r1⟩ := r.of_tup
        exact ⟨p, vs, rfl, h1, r1.length.trans hl, ρ, env, S, _, env', S', L, r1, e, q⟩
      · cases e
    · cases e
theorem pg_msub {o i : Expr} {mo mi : ME} (ho : PM X o mo) (hi : PM X i mi)
    (ha : ∀ v, assign (.Subscript o i pos) X.env v = (do
      let ov ← holding [v] (eval o X.env)
      let iv ← holding [v, ov] (eval i X.env)
      standAt pos
      holding [v, ov, iv] (setItem ov iv v)
      release [v, ov, iv] []) := by intro _; rfl) : PMG X (.Subscript o i pos) (mgSub mo mi) :=
  PGi (pg_sub ho hi set_list ha) fun v σ H Q ⟨ρ, env, S, d, env', S', L, r, e, q⟩ => by
    obtain ⟨⟨x, S1⟩, e1, e⟩ := bind_some e
    obtain ⟨⟨y, S2⟩, e2, e⟩ := bind_some e
    refine tM_at L e1 fun u H1 ρ1 g1 r1 => tM_at (L.next g1) e2 fun w H2 ρ2 g2 r2 => ?_
    dsimp only at e
    split at e
    · split at e
      · rename_i hS
        obtain ⟨m, e3, e4⟩ := map_some e
        cases e4
        cases r2.of_int
        have r1' := r1.mono g2.le
        obtain ⟨p, vs, rfl, h0, h1, r3⟩ := g2.s.lst hS r1'
        have g := g1.trans g2
        have g3 := setLst g2.s hS h0 (r3.set m (r.mono g.le)) (lstLe g2.s hS h0)
        exact ⟨p, vs, _, m, rfl, rfl, h1, by rw [r3.length]; exact e3, q _ _ _ (g.trans g3) ((L.e.mono g.le).mono g3.le)⟩
      · cases e
    · cases e
end

/-! ### statements -/
def sPass : MS := fun env S => some (.nx env S)
def sBreak : MS := fun env S => some (.bk env S)
def sCont : MS := fun env S => some (.ct env S)
def sNever : MS := fun _ _ => none
def sSeq (a b : MS) : MS := fun env S => (a env S).bind fun o => match o with
  | .nx env' S' => b env' S'
  | o => some o
def sExpr (m : ME) : MS := fun env S => (m env S).map fun p => .nx env p.2
def sRet (m : ME) : MS := fun env S => (m env S).map fun p => .rt p.1 p.2
def sRetN : MS := fun _ S => some (.rt .non S)
def sIf (t : MT) (a b : MS) : MS := fun env S => (t env S).bind fun p => if p.1 then a env p.2 else b env p.2
def sAsg (m : ME) (g : MG) : MS := fun env S => (m env S).bind fun p => (g p.1 env p.2).map fun q => .nx q.1 q.2
/-- a, b = x, y (both written) -/
def sPar2 (i j : Nat) (a : MA) : MS := fun env S => (a env S).bind fun p => match p.1 with
  | [x, y] => some (.nx ((env.set i (some x)).set j (some y)) p.2)
  | _ => none
def sAug (f : F2) (i : Nat) (m : ME) : MS := fun env S => match env[i]? with
  | some (some x) => (m env S).bind fun p => (f x p.1 p.2).map fun q => .nx (env.set i (some q.1)) q.2
  | _ => none
section
variable {X : Cx} {pos : Pos} {e : Expr} {m : ME} {st : Stmt} {rest : List Stmt} {a b : MS}
theorem ps_mpass : PMS X (.Pass pos) sPass := PSi ps_pass fun D σ H ⟨ρ, env, S, o, L, e, q⟩ => by
  cases e; exact q _ _ _ L.go L.e
theorem ps_mbreak : PMS X (.Break pos) sBreak := PSi ps_break fun D σ H ⟨ρ, env, S, o, L, e, q⟩ => by
  cases e; exact q _ _ _ L.go L.e
theorem ps_mcont : PMS X (.Continue pos) sCont := PSi ps_continue fun D σ H ⟨ρ, env, S, o, L, e, q⟩ => by
  cases e; exact q _ _ _ L.go L.e
theorem ps_mnever : PMS X st sNever := PSi ps_never fun D σ H ⟨ρ, env, S, o, L, e, q⟩ => by cases e
theorem pb_nil : PMB X [] sPass := PSsi pss_nil fun D σ H ⟨ρ, env, S, o, L, e, q⟩ => by
  cases e; exact q _ _ _ L.go L.e
theorem pb_cons (h1 : PMS X st a) (h2 : PMB X rest b) : PMB X (st :: rest) (sSeq a b) := PSsi (pss_cons h1 h2) fun D σ H ⟨ρ, env, S, o, L, e, q⟩ => by
  obtain ⟨o1, e1, e⟩ := bind_some e
  refine tMS_at L e1 ?_
  cases o1 with
  | nx env1 S1 =>
    intro σ1 H1 ρ1 g1 le1
    exact tMS_at ⟨le1, g1.s⟩ e (q.go g1)
  | rt d S1 => cases e; exact q
  | bk env1 S1 => cases e; exact q
  | ct env1 S1 => cases e; exact q
theorem pb_one (h1 : PMS X st a) : PMB X [st] a := PSsi (pss_one h1) fun D σ H h => h
theorem ps_mexpr (he : PM X e m) (hs : swapsWith e none pos.line X.env = pure false := by rfl) : PMS X (.Expr e pos) (sExpr m) := PSi (ps_expr he hs) fun D σ H ⟨ρ, env, S, o, L, e, q⟩ => by
  obtain ⟨⟨d, S1⟩, e1, e2⟩ := map_some e
  cases e2
  exact tM_at L e1 fun v H1 ρ1 g1 r1 => q _ _ _ g1 (L.e.mono g1.le)
theorem ps_mdoc {x j pos pos'} : PMS X (.Expr (.Constant (.str x) j pos) pos') sPass := PSi ps_doc fun D σ H ⟨ρ, env, S, o, L, e, q⟩ => by
  cases e; exact q _ _ _ L.go L.e
theorem ps_mret (he : PM X e m) : PMS X (.Return (some e) pos) (sRet m) := PSi (ps_ret he) fun D σ H ⟨ρ, env, S, o, L, e, q⟩ => by
  obtain ⟨⟨d, S1⟩, e1, e2⟩ := map_some e
  cases e2
  exact tM_at L e1 fun v H1 ρ1 g1 r1 => q _ _ _ g1 r1
theorem ps_mretn : PMS X (.Return none pos) sRetN := PSi ps_retN fun D σ H ⟨ρ, env, S, o, L, e, q⟩ => by
  cases e; exact q _ _ _ L.go rel_non
theorem ps_mif {c : Expr} {x y : List Stmt} {t : MT} (hc : PMT X c t) (ha : PMB X x a) (hb : PMB X y b) : PMS X (.If c x y pos) (sIf t a b) := PSi (ps_if hc ha hb) fun D σ H ⟨ρ, env, S, o, L, e, q⟩ => by
  obtain ⟨⟨k, S1⟩, e1, e⟩ := bind_some e
  refine tMT_at L e1 fun H1 ρ1 g1 => ?_
  cases k with
  | true => exact iteT (tMS_at (L.next g1) e (q.go g1))
  | false => exact iteF (tMS_at (L.next g1) e (q.go g1))
theorem ps_masg {tg : Expr} {g : MG} (he : PM X e m) (hg : PMG X tg g) (hs : swapsWithSole [tg] e pos.line X.env = pure false := by rfl) (hw : swappedStores [tg] e X.env = pure none := by rfl)
    (h1 : (assignEach [tg] X.env).map (·.2) = [assign tg X.env] := by rfl) : PMS X (.Assign [tg] e pos) (sAsg m g) := PSi (ps_asg he hg hs hw h1) fun D σ H ⟨ρ, env, S, o, L, e, q⟩ => by
  obtain ⟨⟨d, S1⟩, e1, e⟩ := bind_some e
  obtain ⟨⟨env2, S2⟩, e2, e3⟩ := map_some e
  cases e3
  refine tM_at L e1 fun v H1 ρ1 g1 r1 => ?_
  exact ⟨ρ1, env, S1, d, env2, S2, L.next g1, r1, e2, fun σ2 H2 ρ2 g2 le2 => q _ _ _ (g1.trans g2) le2⟩
theorem ps_mset {i : Nat} {x : Str} {pos' : Pos} (hN : X.N.Nodup) (hi : X.N[i]? = some x) (hx : Loc X.env.scope x) (he : PM X e m) (hs : swapsWith e (some (.Name x pos')) pos.line X.env = pure false := by rfl) (hf : X.fn x = true ∨ X.env.scope.names.lookup x = some .local := by first | exact .inl rfl | exact .inr rfl | assumption) :
    PMS X (.Assign [.Name x pos'] e pos) (sAsg m (mgName i)) := PSi (ps_set hN hi hx he hs hf) fun D σ H ⟨ρ, env, S, o, L, e, q⟩ => by
  obtain ⟨⟨d, S1⟩, e1, e⟩ := bind_some e
  obtain ⟨⟨env2, S2⟩, e2, e3⟩ := map_some e
  cases e3; cases e2
  exact tM_at L e1 fun v H1 ρ1 g1 r1 => q _ _ _ g1 ((L.e.mono g1.le).set i r1)
theorem ps_mpar2 {i j : Nat} {x y : Str} {e1 e2 : Expr} {ma : MA} {px py pt : Pos} {kt k2 pt2} (hc : X.calm = true) (hN : X.N.Nodup) (hi : X.N[i]? = some x) (hj : X.N[j]? = some y) (hij : i ≠ j)
    (hx : X.env.scope.names.lookup x = some .local) (hy : X.env.scope.names.lookup y = some .local) (ha : PMA X [e1, e2] ma)
    (hw : swappedStores [.Tuple [.Name x px, .Name y py] kt pt] (.Tuple [e1, e2] k2 pt2) X.env = pure (some [x, y]))
    (hs : swapsWithSole [.Tuple [.Name x px, .Name y py] kt pt] (.Tuple [e1, e2] k2 pt2) pos.line X.env = pure false := by rfl) :
    PMS X (.Assign [.Tuple [.Name x px, .Name y py] kt pt] (.Tuple [e1, e2] k2 pt2) pos) (sPar2 i j ma) := PSi (ps_par hc hN hi hj hij hx hy ha hw hs) fun D σ H ⟨ρ, env, S, o, L, e, q⟩ => by
  obtain ⟨⟨ds, S1⟩, e1, e⟩ := bind_some e
  dsimp only at e
  split at e
  · rename_i d1 d2
    cases e
    refine tMA_at L e1 fun vs H1 ρ1 g1 r1 => ?_
    obtain ⟨v, u, rfl, r2, r3⟩ := relL2 r1
    exact ⟨v, u, rfl, q _ _ _ g1 (((L.e.mono g1.le).set i r2).set j r3)⟩
  · cases e
/-- name op= e -/
def IpD (X : Cx) (op : Operator) (f : F2) : Prop := OpR X (inplaceOp op) (rD X.K f)
theorem ps_maug {i : Nat} {x : Str} {op : Operator} {f : F2} {pos' : Pos} (hN : X.N.Nodup) (hi : X.N[i]? = some x) (hx : Loc X.env.scope x) (he : PM X e m) (ho : IpD X op f) (hf : X.fn x = true ∨ X.env.scope.names.lookup x = some .local := by first | exact .inl rfl | exact .inr rfl | assumption) :
    PMS X (.AugAssign (.Name x pos') op e pos) (sAug f i m) := PSi (ps_aug (ti := rD X.K f) hN hi hx he (fun pins s σ H x y v u Q I rx ry q => ho pins s σ H x y v u Q I rx ry q) hf) fun D σ H ⟨ρ, env, S, o, L, e, q⟩ => by
  unfold sAug at e
  split at e
  · rename_i d hd
    obtain ⟨⟨d1, S1⟩, e1, e⟩ := bind_some e
    obtain ⟨⟨d2, S2⟩, e2, e3⟩ := map_some e
    cases e3
    obtain ⟨v, hv, rv⟩ := L.e.2 i d hd
    refine ⟨v, hv, tM_at L e1 fun u H1 ρ1 g1 r1 => ?_⟩
    exact ⟨ρ1, S1, d, d1, d2, S2, g1.s, rv.mono g1.le, r1, e2, fun z H2 ρ2 g2 r2 => q _ _ _ (g1.trans g2) ((L.e.mono (g1.trans g2).le).set i r2)⟩
  · cases e
def fIAdd : F2 := fun a b S => match a, b with
  | .int i, .int j => some (.int (i + j), S)
  | .str x, .str y => if x.length + y.length ≤ sizeLine then some (.str (x ++ y), S) else none
  | _, _ => none
theorem ip_madd : IpD X .Add fIAdd := by
  refine OpR.imp (iop_add.or iop_add_str) fun x y H Q h => ?_
  obtain ⟨ρ, S, a, b, d, S', s, ra, rb, e, q⟩ := h
  unfold fIAdd at e
  split at e
  · cases e; cases ra.of_int; cases rb.of_int
    exact .inl ⟨_, _, rfl, rfl, q _ _ _ (.refl s) (rel_int _)⟩
  · split at e
    · cases e; cases ra.of_str; cases rb.of_str
      exact .inr ⟨_, _, rfl, rfl, by assumption, q _ _ _ (.refl s) (rel_str _)⟩
    · cases e
  · cases e
theorem ip_msub : IpD X .Sub fSub := by
  refine OpR.imp iop_sub fun x y H Q h => ?_
  obtain ⟨ρ, S, a, b, d, S', s, ra, rb, e, q⟩ := h
  unfold fSub at e
  split at e
  · cases e; cases ra.of_int; cases rb.of_int
    exact ⟨_, _, rfl, rfl, q _ _ _ (.refl s) (rel_int _)⟩
  · cases e
end

/-! ### while -/
def whGo (t : MT) (b : MS) : Nat → DEnv → Store → Option Out
  | 0, _, _ => none
  | n + 1, env, S => (t env S).bind fun p => if p.1 then (b env p.2).bind fun o => match o with
    | .nx env' S' => whGo t b n env' S'
    | .ct env' S' => whGo t b n env' S'
    | .bk env' S' => some (.nx env' S')
    | .rt d S' => some (.rt d S')
    else some (.nx env p.2)
/-- turns of a while at most -/
def wTurns : Nat := 1000000
def sWhile (t : MT) (b : MS) : MS := whGo t b wTurns
theorem whGo_mono {t : MT} {b : MS} : ∀ {n m : Nat} {env : DEnv} {S : Store} {o : Out}, n ≤ m → whGo t b n env S = some o → whGo t b m env S = some o
  | 0, _, _, _, _, _, h => by cases h
  | n + 1, 0, _, _, _, h, _ => by omega
  | n + 1, m + 1, env, S, o, h, e => by
    rw [whGo] at e ⊢
    obtain ⟨⟨k, S1⟩, e1, e⟩ := bind_some e
    rw [e1, Option.bind_some]
    dsimp only at e ⊢
    split at e
    · rename_i hk
      rw [if_pos hk]
      obtain ⟨o1, e2, e⟩ := bind_some e
      rw [e2, Option.bind_some]
      cases o1 with
      | nx env1 S2 => exact whGo_mono (by omega) e
      | ct env1 S2 => exact whGo_mono (by omega) e
      | bk _ _ => exact e
      | rt _ _ => exact e
    · rename_i hk
      rw [if_neg hk]
      exact e
section
variable {X : Cx} {pos : Pos}
theorem ps_mwhile {c : Expr} {body : List Stmt} {t : MT} {b : MS} (hp : PassesOwn (model X.prog X.w) X.A X.env X.xe) (hc : PMT X c t) (hb : PMB X body b) : PMS X (.While c body [] pos) (sWhile t b) := by
  refine PSi (ps_while hp hc hb) fun D σ H ⟨ρ, env, S, o, L, e, q⟩ => ?_
  refine ⟨fun n σ1 H1 => ∃ ρ1 env1 S1, Lie X.K σ1 H1 ρ1 env1 S1 ∧ whGo t b n env1 S1 = some o ∧ OutQ X.K D H1 ρ1 o, ⟨wTurns, ρ, env, S, L, e, q⟩, ?_⟩
  rintro n σ1 H1 ⟨ρ1, env1, S1, L1, e1, q1⟩
  cases n with
  | zero => cases e1
  | succ n =>
    rw [whGo] at e1
    obtain ⟨⟨k, S2⟩, e2, e1⟩ := bind_some e1
    refine tMT_at L1 e2 fun H2 ρ2 g2 => ?_
    have L2 := L1.next g2
    cases k with
    | false =>
      cases e1
      exact iteF (q1 _ _ _ g2 (L1.e.mono g2.le))
    | true =>
      refine iteT ?_
      obtain ⟨o1, e3, e1⟩ := bind_some e1
      refine ⟨fun σ3 H3 => ∃ ρ3 env3 S3, Lie X.K σ3 H3 ρ3 env3 S3 ∧ whGo t b n env3 S3 = some o ∧ OutQ X.K D H3 ρ3 o, fun σ3 H3 h => ⟨n, Nat.lt_succ_self n, h⟩, tMS_at L2 e3 ?_⟩
      cases o1 with
      | nx env3 S3 => exact fun σ3 H3 ρ3 g3 le3 => ⟨ρ3, env3, S3, ⟨le3, g3.s⟩, e1, q1.go (g2.trans g3)⟩
      | ct env3 S3 => exact fun σ3 H3 ρ3 g3 le3 => ⟨ρ3, env3, S3, ⟨le3, g3.s⟩, e1, q1.go (g2.trans g3)⟩
      | bk env3 S3 => cases e1; exact fun σ3 H3 ρ3 g3 le3 => q1 _ _ _ (g2.trans g3) le3
      | rt d S3 => cases e1; exact fun v H3 ρ3 g3 r3 => q1 _ _ _ (g2.trans g3) r3
end

/-! ### what is walked -/
abbrev MI := DEnv → Store → Option (List D × List Nat × Store)
/-- the lists of the store that are walked stand as they stood -/
def kept (ds : List Nat) (S0 S : Store) : Bool := ds.all fun i => decide (S[i]? = S0[i]?)
structure Yields (K : PySem.W.Frag) (J : It) (items : List D) (deps : List Nat) (H0 : Hp) (ρ0 : List Addr) (S0 : Store) : Prop where
  go : ∀ (i : Nat) (H : Hp) (ρ : List Addr) (S : Store), Go K H0 ρ0 H ρ S → kept deps S0 S = true → i < items.length → J.go i H
  yld : ∀ (i : Nat) (H : Hp) (ρ : List Addr) (S : Store), Go K H0 ρ0 H ρ S → kept deps S0 S = true → i < items.length → ∀ x H', J.yld i H x H' → ∃ d, items[i]? = some d ∧ Go K H ρ H' ρ S ∧ Rel K H' ρ d x
  stop : ∀ (H : Hp) (ρ : List Addr) (S : Store), Go K H0 ρ0 H ρ S → kept deps S0 S = true → J.stop items.length H
def tMI (K : PySem.W.Frag) (m : MI) : TI := fun σ H R => ∃ ρ env S items deps S', Lie K σ H ρ env S ∧ m env S = some (items, deps, S') ∧ ∀ J H' ρ', Go K H ρ H' ρ' S' → Yields K J items deps H' ρ' S' → R J H'
abbrev PMI (X : Cx) (tg iter : Expr) (m : MI) : Prop := PI X tg iter (tMI X.K m)
theorem PIi {X : Cx} {tg e : Expr} {t t' : TI} (h : PI X tg e t) (i : ∀ σ H R, t' σ H R → t σ H R) : PI X tg e t' := ⟨fun pins s σ H R I q => h.run pins s σ H R I (i σ H R q)⟩
/-- the turns -/
def forGo (deps : List Nat) (g : MG) (b : MS) : List D → DEnv → Store → Option Out
  | [], env, S => some (.nx env S)
  | d :: r, env, S => (g d env S).bind fun p => (b p.1 p.2).bind fun o => match o with
    | .nx env' S' => if kept deps S S' then forGo deps g b r env' S' else none
    | .ct env' S' => if kept deps S S' then forGo deps g b r env' S' else none
    | .bk env' S' => some (.nx env' S')
    | .rt d S' => some (.rt d S')
def sFor (it : MI) (g : MG) (b : MS) : MS := fun env S => (it env S).bind fun p => forGo p.2.1 g b p.1 env p.2.2
theorem kept_refl (ds : List Nat) (S : Store) : kept ds S S = true := by
  unfold kept
  rw [List.all_eq_true]
  intro i _
  exact decide_eq_true rfl
theorem kept_trans {ds : List Nat} {S0 S1 S2 : Store} (h : kept ds S0 S1 = true) (k : kept ds S1 S2 = true) : kept ds S0 S2 = true := by
  unfold kept at h k ⊢
  rw [List.all_eq_true] at h k ⊢
  intro i hi
  exact decide_eq_true ((of_decide_eq_true (k i hi)).trans (of_decide_eq_true (h i hi)))
section
variable {X : Cx} {pos : Pos}
theorem ps_mfor {tg iter : Expr} {body : List Stmt} {it : MI} {g : MG} {b : MS} (hp : PassesOwn (model X.prog X.w) X.A X.env X.xe) (hc : X.calm = true) (hi : PMI X tg iter it) (hg : PMG X tg g) (hb : PMB X body b)
    (hs : ∀ x, foldedSetIterable iter X.env x = pure x := by intro _; rfl) : PMS X (.For tg iter body [] pos) (sFor it g b) := by
  refine PSi (ps_for hp hc hi hg hb hs) fun D σ H ⟨ρ, env, S, o, L, e, q⟩ => ?_
  obtain ⟨⟨items, deps, S1⟩, e1, e⟩ := bind_some e
  refine ⟨ρ, env, S, items, deps, S1, L, e1, fun J H1 ρ1 g1 Y => ?_⟩
  refine ⟨fun i m σ2 H2 => ∃ ρ2 env2 S2, i + m = items.length ∧ Go X.K H1 ρ1 H2 ρ2 S2 ∧ kept deps S1 S2 = true ∧ RelE X.K H2 ρ2 env2 σ2 ∧ forGo deps g b (items.drop i) env2 S2 = some o,
    ⟨items.length, ρ1, env, S1, by omega, .refl g1.s, kept_refl _ _, L.e.mono g1.le, by rw [List.drop_zero]; exact e⟩, ?_⟩
  rintro i m σ2 H2 ⟨ρ2, env2, S2, hl, g2, k2, le2, e2⟩
  have L2 : Lie X.K σ2 H2 ρ2 env2 S2 := ⟨le2, g2.s⟩
  by_cases hi : i < items.length
  · refine .inr ⟨Y.go i H2 ρ2 S2 g2 k2 hi, ?_⟩
    rw [List.drop_eq_getElem_cons hi, forGo] at e2
    obtain ⟨⟨env3, S3⟩, e3, e2⟩ := bind_some e2
    obtain ⟨o1, e4, e2⟩ := bind_some e2
    refine ⟨fun σ5 H5 => ∃ ρ5 env5 S5, Go X.K H1 ρ1 H5 ρ5 S5 ∧ kept deps S1 S5 = true ∧ RelE X.K H5 ρ5 env5 σ5 ∧ forGo deps g b (items.drop (i + 1)) env5 S5 = some o,
      fun σ5 H5 ⟨ρ5, env5, S5, a1, a2, a3, a4⟩ => ⟨m - 1, by omega, ρ5, env5, S5, by omega, a1, a2, a3, a4⟩, fun x H3 y => ?_⟩
    obtain ⟨d, hd, g3, r3⟩ := Y.yld i H2 ρ2 S2 g2 k2 hi x H3 y
    rw [List.getElem?_eq_getElem hi] at hd
    cases hd
    refine ⟨ρ2, env2, S2, _, env3, S3, L2.next g3, r3, e3, fun σ4 H4 ρ4 g4 le4 => ?_⟩
    refine tMS_at ⟨le4, g4.s⟩ e4 ?_
    have g24 := (g2.trans g3).trans g4
    cases o1 with
    | nx env5 S5 =>
      intro σ5 H5 ρ5 g5 le5
      dsimp only at e2
      split at e2
      · rename_i hk
        exact ⟨ρ5, env5, S5, g24.trans g5, kept_trans k2 hk, le5, e2⟩
      · cases e2
    | ct env5 S5 =>
      intro σ5 H5 ρ5 g5 le5
      dsimp only at e2
      split at e2
      · rename_i hk
        exact ⟨ρ5, env5, S5, g24.trans g5, kept_trans k2 hk, le5, e2⟩
      · cases e2
    | bk env5 S5 =>
      intro σ5 H5 ρ5 g5 le5
      cases e2
      exact q _ _ _ (g1.trans (g24.trans g5)) le5
    | rt d S5 =>
      intro v H5 ρ5 g5 r5
      cases e2
      exact q _ _ _ (g1.trans (g24.trans g5)) r5
  · have : i = items.length := by omega
    subst this
    rw [List.drop_length, forGo] at e2
    cases e2
    exact .inl ⟨Y.stop H2 ρ2 S2 g2 k2, q _ _ _ (g1.trans g2) le2⟩

/-! #### lists, tuples, texts; ranges; pairs -/
def signs (z : Str) : List D := z.cps.toList.map fun c => .str ⟨#[c]⟩
def iSeq (m : ME) : MI := fun env S => (m env S).bind fun p => match p.1 with
  | .tup ds => some (ds, [], p.2)
  | .cl ds => some (ds, [], p.2)
  | .str z => some (signs z, [], p.2)
  | .ref i => match p.2[i]? with
    | some (.lst ds) => some (ds, [i], p.2)
    | _ => none
  | _ => none
theorem kept_one {i : Nat} {S0 S : Store} (h : kept [i] S0 S = true) : S[i]? = S0[i]? := by
  simpa [kept] using h
theorem cl_mono {H H' : Hp} {ρ ρ' : List Addr} {a : Addr} {vs : List V} (x : Le H ρ H' ρ') (h : H a = some (.lst vs) ∧ a ∉ ρ) : H' a = some (.lst vs) ∧ a ∉ ρ' := x.keep a vs h.1 h.2
theorem y_tup {K : PySem.W.Frag} {H : Hp} {ρ : List Addr} {S : Store} {a : Addr} {vs : List V} {ds : List D} (h : SqT K H a vs) (r : RelL K H ρ ds vs) : Yields K (Itt K a) ds [] H ρ S where
  go := fun i H' ρ' S' g _ hi => ⟨vs, vs[i]'(by rw [r.length]; exact hi), g.le.sqt h, List.getElem?_eq_getElem _⟩
  yld := fun i H' ρ' S' g _ hi x H2 ⟨e, y⟩ => by
    subst e
    obtain ⟨d, hd, rd⟩ := (r.mono g.le).get' (y vs (g.le.sqt h))
    exact ⟨d, hd, .refl g.s, rd⟩
  stop := fun H' ρ' S' g _ => ⟨vs, g.le.sqt h, Nat.le_of_eq r.length⟩
theorem y_cl {K : PySem.W.Frag} {H : Hp} {ρ : List Addr} {S : Store} {a : Addr} {vs : List V} {ds : List D} (h : H a = some (.lst vs) ∧ a ∉ ρ) (r : RelL K H ρ ds vs) : Yields K (Itl K a) ds [] H ρ S where
  go := fun i H' ρ' S' g _ hi => ⟨vs, vs[i]'(by rw [r.length]; exact hi), clSq (cl_mono g.le h), List.getElem?_eq_getElem _⟩
  yld := fun i H' ρ' S' g _ hi x H2 ⟨e, y⟩ => by
    subst e
    obtain ⟨d, hd, rd⟩ := (r.mono g.le).get' (y vs (clSq (cl_mono g.le h)))
    exact ⟨d, hd, .refl g.s, rd⟩
  stop := fun H' ρ' S' g _ => ⟨vs, clSq (cl_mono g.le h), Nat.le_of_eq r.length⟩
/-- a list of the store, as it stands while it is kept -/
theorem dep_lst {K : PySem.W.Frag} {H H' : Hp} {ρ ρ' : List Addr} {S S' : Store} {i : Nat} {a : Addr} {ds : List D} (e : S[i]? = some (.lst ds)) (q : ρ[i]? = some a) (g : Go K H ρ H' ρ' S') (k : S'[i]? = S[i]?) :
    ∃ vs, SqL K H' a vs ∧ RelL K H' ρ' ds vs := by
  have q' : ρ'[i]? = some a := by
    obtain ⟨t, rfl⟩ := g.le.pre
    rw [List.getElem?_append_left (List.getElem?_eq_some_iff.mp q).1]
    exact q
  obtain ⟨vs, h1, h2⟩ := g.s.at i _ a (k.trans e) q'
  exact ⟨vs, SqL.of h1, h2⟩
theorem y_lst {K : PySem.W.Frag} {H : Hp} {ρ : List Addr} {S : Store} {i : Nat} {a : Addr} {ds : List D} (e : S[i]? = some (.lst ds)) (q : ρ[i]? = some a) : Yields K (Itl K a) ds [i] H ρ S where
  go := fun j H' ρ' S' g k hj => by
    obtain ⟨vs, h1, r⟩ := dep_lst e q g (kept_one k)
    exact ⟨vs, vs[j]'(by rw [r.length]; exact hj), h1, List.getElem?_eq_getElem _⟩
  yld := fun j H' ρ' S' g k hj x H2 ⟨e2, y⟩ => by
    subst e2
    obtain ⟨vs, h1, r⟩ := dep_lst e q g (kept_one k)
    obtain ⟨d, hd, rd⟩ := r.get' (y vs h1)
    exact ⟨d, hd, .refl g.s, rd⟩
  stop := fun H' ρ' S' g k => by
    obtain ⟨vs, h1, r⟩ := dep_lst e q g (kept_one k)
    exact ⟨vs, h1, Nat.le_of_eq r.length⟩
theorem y_str {K : PySem.W.Frag} {H : Hp} {ρ : List Addr} {S : Store} (z : Str) : Yields K (Its z) (signs z) [] H ρ S where
  go := fun i H' ρ' S' g _ hi => by
    have : i < z.cps.size := by simpa [signs] using hi
    exact this
  yld := fun i H' ρ' S' g _ hi x H2 ⟨e, c, hc, ex⟩ => by
    subst e; subst ex
    refine ⟨.str ⟨#[c]⟩, ?_, .refl g.s, rel_str _⟩
    unfold signs
    rw [List.getElem?_map, Array.getElem?_toList, hc]; rfl
  stop := fun H' ρ' S' g _ => by
    show z.cps.size ≤ (signs z).length
    simp [signs]
theorem pi_mseq {tg e : Expr} {m : ME} (he : PM X e m) : PMI X tg e (iSeq m) := by
  refine ⟨fun pins s σ H R I h => ?_⟩
  obtain ⟨ρ, env, S, items, deps, S', L, h1, q⟩ := h
  obtain ⟨⟨d, S1⟩, e1, h1⟩ := bind_some h1
  cases d with
  | tup ds =>
    cases h1
    refine (pi_tup he).run pins s σ H R I (tM_at L e1 fun v H1 ρ1 g1 r1 => ?_)
    obtain ⟨a, vs, rfl, h2, r2⟩ := r1.of_tup
    exact ⟨a, rfl, ⟨vs, h2⟩, q _ _ _ g1 (y_tup h2 r2)⟩
  | cl ds =>
    cases h1
    refine (pi_list he).run pins s σ H R I (tM_at L e1 fun v H1 ρ1 g1 r1 => ?_)
    obtain ⟨a, vs, rfl, h2, r2⟩ := r1.of_cl
    exact ⟨a, rfl, ⟨vs, clSq h2⟩, q _ _ _ g1 (y_cl h2 r2)⟩
  | str z =>
    cases h1
    refine (pi_str he).run pins s σ H R I (tM_at L e1 fun v H1 ρ1 g1 r1 => ?_)
    cases r1.of_str
    exact ⟨z, rfl, q _ _ _ g1 (y_str z)⟩
  | ref i =>
    dsimp only at h1
    split at h1
    · rename_i hS
      cases h1
      refine (pi_list he).run pins s σ H R I (tM_at L e1 fun v H1 ρ1 g1 r1 => ?_)
      obtain ⟨a, vs, rfl, h0, h2, r2⟩ := g1.s.lst hS r1
      exact ⟨a, rfl, ⟨vs, SqL.of h2⟩, q _ _ _ g1 (y_lst hS h0)⟩
    · cases h1
  | _ => cases h1
/-- lo, lo + c, .. (n of them) -/
def ramp (lo c : Int) (n : Nat) : List D := (List.range n).map fun i => .int (lo + (i : Nat) * c)
theorem ramp_len (lo c : Int) (n : Nat) : (ramp lo c n).length = n := by simp [ramp]
def small62 (i : Int) : Bool := decide (-(2 ^ 62) ≤ i ∧ i < 2 ^ 62)
def iRange1 (a : ME) : MI := fun env S => (a env S).bind fun p => match p.1 with
  | .int j => if small62 j then some (ramp 0 1 j.toNat, [], p.2) else none
  | _ => none
def iRange2 (a b : ME) : MI := fun env S => (a env S).bind fun p => (b env p.2).bind fun q => match p.1, q.1 with
  | .int i, .int j => if small62 i && small62 j then some (ramp i 1 (j - i).toNat, [], q.2) else none
  | _, _ => none
def rngOk (i j c : Int) : Bool := decide (c ≠ 0) && decide (c.natAbs < 1073741824) && Builtin.Range.small i j c && decide (0 ≤ Builtin.Range.rangeSize i j c)
def iRange3 (a b c : ME) : MI := fun env S => (a env S).bind fun p => (b env p.2).bind fun q => (c env q.2).bind fun r => match p.1, q.1, r.1 with
  | .int i, .int j, .int k => if rngOk i j k then some (ramp i k (Builtin.Range.rangeSize i j k).toNat, [], r.2) else none
  | _, _, _ => none
theorem ramp_get {lo c : Int} {n i : Nat} (h : i < n) : (ramp lo c n)[i]? = some (.int (lo + (i : Nat) * c)) := by
  unfold ramp
  rw [List.getElem?_map, List.getElem?_range h]; rfl
theorem y_range {K : PySem.W.Frag} {H : Hp} {ρ : List Addr} {S : Store} (lo : Int) (n : Nat) : Yields K (Itr lo n) (ramp lo 1 n) [] H ρ S where
  go := fun i H' ρ' S' g _ hi => by rw [ramp_len] at hi; exact hi
  yld := fun i H' ρ' S' g _ hi x H2 ⟨e, ex⟩ => by
    subst e; subst ex
    rw [ramp_len] at hi
    exact ⟨_, ramp_get hi, .refl g.s, by rw [Int.mul_one]; exact rel_int _⟩
  stop := fun H' ρ' S' g _ => by rw [ramp_len]; exact Nat.le_refl _
theorem y_rangeC {K : PySem.W.Frag} {H : Hp} {ρ : List Addr} {S : Store} (lo c : Int) (n : Nat) : Yields K (Itc lo c n) (ramp lo c n) [] H ρ S where
  go := fun i H' ρ' S' g _ hi => by rw [ramp_len] at hi; exact hi
  yld := fun i H' ρ' S' g _ hi x H2 ⟨e, ex⟩ => by
    subst e; subst ex
    rw [ramp_len] at hi
    exact ⟨_, ramp_get hi, .refl g.s, rel_int _⟩
  stop := fun H' ρ' S' g _ => by rw [ramp_len]; exact Nat.le_refl _
theorem tMA1 {K : PySem.W.Frag} {a : ME} {σ : St} {H : Hp} {ρ : List Addr} {env : DEnv} {S S1 : Store} {d : D} {Q : List V → Hp → Prop} (L : Lie K σ H ρ env S) (e : a env S = some (d, S1)) (q : ∀ v H1 ρ1, Go K H ρ H1 ρ1 S1 → Rel K H1 ρ1 d v → Q [v] H1) : tMA K (mCons a mNil) σ H Q := by
  refine tMA_at (d := [d]) (S' := S1) L ?_ fun vs H1 ρ1 g1 r1 => ?_
  · show ((a env S).bind fun p => (mNil env p.2).map fun q => (p.1 :: q.1, q.2)) = _
    rw [e]; rfl
  · obtain ⟨v, rfl, r⟩ := relL1 r1
    exact q v H1 ρ1 g1 r
theorem tMA2 {K : PySem.W.Frag} {a b : ME} {σ : St} {H : Hp} {ρ : List Addr} {env : DEnv} {S S1 S2 : Store} {d d2 : D} {Q : List V → Hp → Prop} (L : Lie K σ H ρ env S) (e : a env S = some (d, S1)) (e2 : b env S1 = some (d2, S2))
    (q : ∀ v u H1 ρ1, Go K H ρ H1 ρ1 S2 → Rel K H1 ρ1 d v → Rel K H1 ρ1 d2 u → Q [v, u] H1) : tMA K (mCons a (mCons b mNil)) σ H Q := by
  refine tMA_at (d := [d, d2]) (S' := S2) L ?_ fun vs H1 ρ1 g1 r1 => ?_
  · show ((a env S).bind fun p => ((b env p.2).bind fun p => (mNil env p.2).map fun q => (p.1 :: q.1, q.2)).map fun q => (p.1 :: q.1, q.2)) = _
    rw [e, Option.bind_some, e2]; rfl
  · obtain ⟨v, u, rfl, r, r2⟩ := relL2 r1
    exact q v u H1 ρ1 g1 r r2
theorem tMA3 {K : PySem.W.Frag} {a b c : ME} {σ : St} {H : Hp} {ρ : List Addr} {env : DEnv} {S S1 S2 S3 : Store} {d d2 d3 : D} {Q : List V → Hp → Prop} (L : Lie K σ H ρ env S) (e : a env S = some (d, S1)) (e2 : b env S1 = some (d2, S2)) (e3 : c env S2 = some (d3, S3))
    (q : ∀ v u w H1 ρ1, Go K H ρ H1 ρ1 S3 → Rel K H1 ρ1 d v → Rel K H1 ρ1 d2 u → Rel K H1 ρ1 d3 w → Q [v, u, w] H1) : tMA K (mCons a (mCons b (mCons c mNil))) σ H Q := by
  refine tMA_at (d := [d, d2, d3]) (S' := S3) L ?_ fun vs H1 ρ1 g1 r1 => ?_
  · show ((a env S).bind fun p => ((b env p.2).bind fun p => ((c env p.2).bind fun p => (mNil env p.2).map fun q => (p.1 :: q.1, q.2)).map fun q => (p.1 :: q.1, q.2)).map fun q => (p.1 :: q.1, q.2)) = _
    rw [e, Option.bind_some, e2, Option.bind_some, e3]; rfl
  · obtain ⟨v, u, w, rfl, r, r2, r3⟩ := relL3 r1
    exact q v u w H1 ρ1 g1 r r2 r3
theorem pi_mrange1 {tg a : Expr} {m : ME} {p pos : Pos} (hg : Gl X "range") (hm : X.mg "range" = none) (ha : PM X a m) (hs : starEach [a] X.env = (false, eval a X.env) :: starEach [] X.env := by rfl) : PMI X tg (.Call (.Name "range" p) [a] [] pos) (iRange1 m) :=
  PIi (pi_range1 hg hm (pa_mcons ha pa_mnil hs) hs) fun σ H R ⟨ρ, env, S, items, deps, S', L, e, q⟩ => by
    obtain ⟨⟨d, S1⟩, e1, e⟩ := bind_some e
    dsimp only at e
    split at e
    · rename_i j
      split at e
      · rename_i hj
        cases e
        refine tMA1 L e1 fun v H1 ρ1 g1 r1 => ?_
        cases r1.of_int
        obtain ⟨h1, h2⟩ := of_decide_eq_true hj
        exact ⟨j, rfl, h1, h2, q _ _ _ g1 (y_range 0 j.toNat)⟩
      · cases e
    · cases e
theorem pi_mrange2 {tg a b : Expr} {m n : ME} {p pos : Pos} (hg : Gl X "range") (hm : X.mg "range" = none) (ha : PM X a m) (hb : PM X b n)
    (hs2 : starEach [b] X.env = (false, eval b X.env) :: starEach [] X.env := by rfl) (hs : starEach [a, b] X.env = (false, eval a X.env) :: starEach [b] X.env := by rfl) : PMI X tg (.Call (.Name "range" p) [a, b] [] pos) (iRange2 m n) :=
  PIi (pi_range2 hg hm (pa_mcons ha (pa_mcons hb pa_mnil hs2) hs) (hs.trans (by rw [hs2]; rfl)) hs2) fun σ H R ⟨ρ, env, S, items, deps, S', L, e, q⟩ => by
    obtain ⟨⟨d, S1⟩, e1, e⟩ := bind_some e
    obtain ⟨⟨d2, S2⟩, e2, e⟩ := bind_some e
    dsimp only at e
    split at e
    · rename_i i j
      split at e
      · rename_i hj
        cases e
        rw [Bool.and_eq_true] at hj
        refine tMA2 L e1 e2 fun v u H1 ρ1 g1 r1 r2 => ?_
        cases r1.of_int; cases r2.of_int
        obtain ⟨h1, h2⟩ := of_decide_eq_true hj.1
        obtain ⟨h3, h4⟩ := of_decide_eq_true hj.2
        exact ⟨_, _, rfl, ⟨h1, h2, h3, h4⟩, q _ _ _ g1 (y_range _ _)⟩
      · cases e
    · cases e
theorem pi_mrange3 {tg a b c : Expr} {m n o : ME} {p pos : Pos} (hg : Gl X "range") (hm : X.mg "range" = none) (ha : PM X a m) (hb : PM X b n) (hc : PM X c o)
    (hs3 : starEach [c] X.env = (false, eval c X.env) :: starEach [] X.env := by rfl) (hs2 : starEach [b, c] X.env = (false, eval b X.env) :: starEach [c] X.env := by rfl) (hs : starEach [a, b, c] X.env = (false, eval a X.env) :: starEach [b, c] X.env := by rfl)
    (hpl : (backTo pos (starEach [b, c] X.env)).any (·.1) = false := by rfl) : PMI X tg (.Call (.Name "range" p) [a, b, c] [] pos) (iRange3 m n o) :=
  PIi (pi_range3 hg hm (pa_mcons ha (pa_mcons hb (pa_mcons hc pa_mnil hs3) hs2) hs) hs hpl) fun σ H R ⟨ρ, env, S, items, deps, S', L, e, q⟩ => by
    obtain ⟨⟨d, S1⟩, e1, e⟩ := bind_some e
    obtain ⟨⟨d2, S2⟩, e2, e⟩ := bind_some e
    obtain ⟨⟨d3, S3⟩, e3, e⟩ := bind_some e
    dsimp only at e
    split at e
    · rename_i i j k
      split at e
      · rename_i hj
        cases e
        unfold rngOk at hj
        rw [Bool.and_eq_true, Bool.and_eq_true, Bool.and_eq_true] at hj
        obtain ⟨⟨⟨h1, h2⟩, h3⟩, h4⟩ := hj
        refine tMA3 L e1 e2 e3 fun v u w H1 ρ1 g1 r1 r2 r3 => ?_
        cases r1.of_int; cases r2.of_int; cases r3.of_int
        exact ⟨_, _, _, _, rfl, ⟨of_decide_eq_true h1, of_decide_eq_true h2, h3, (Int.toNat_of_nonneg (of_decide_eq_true h4)).symm⟩, q _ _ _ g1 (y_rangeC _ _ _)⟩
      · cases e
    · cases e

/-! #### zip of two lists or two tuples -/
def pairs (xs ys : List D) : List D := List.zipWith (fun x y => .tup [x, y]) xs ys
def iZip (a b : ME) : MI := fun env S => (a env S).bind fun p => (b env p.2).bind fun q => match p.1, q.1 with
  | .tup x, .tup y => some (pairs x y, [], q.2)
  | .cl x, .cl y => some (pairs x y, [], q.2)
  | .ref i, .ref j => match q.2[i]?, q.2[j]? with
    | some (.lst x), some (.lst y) => some (pairs x y, [i, j], q.2)
    | _, _ => none
  | .ref i, .cl y => match q.2[i]? with
    | some (.lst x) => some (pairs x y, [i], q.2)
    | _ => none
  | .cl x, .ref j => match q.2[j]? with
    | some (.lst y) => some (pairs x y, [j], q.2)
    | _ => none
  | _, _ => none
theorem pairs_get {xs ys : List D} {i : Nat} {x y : D} (h1 : xs[i]? = some x) (h2 : ys[i]? = some y) : (pairs xs ys)[i]? = some (.tup [x, y]) := by
  unfold pairs
  rw [List.getElem?_zipWith, h1, h2]
theorem pairs_len (xs ys : List D) : (pairs xs ys).length = min xs.length ys.length := by
  unfold pairs
  rw [List.length_zipWith]
/-- a list that is read as it stands at each turn -/
structure Rds (K : PySem.W.Frag) (a : Addr) (ds : List D) (deps : List Nat) (H0 : Hp) (ρ0 : List Addr) (S0 : Store) : Prop where
  rd : ∀ (H : Hp) (ρ : List Addr) (S : Store), Go K H0 ρ0 H ρ S → kept deps S0 S = true → ∃ vs, SqL K H a vs ∧ RelL K H ρ ds vs
theorem rds_cl {K : PySem.W.Frag} {H : Hp} {ρ : List Addr} {S : Store} {a : Addr} {vs : List V} {ds : List D} {deps : List Nat} (h : H a = some (.lst vs) ∧ a ∉ ρ) (r : RelL K H ρ ds vs) : Rds K a ds deps H ρ S :=
  ⟨fun H' ρ' S' g _ => ⟨vs, clSq (cl_mono g.le h), r.mono g.le⟩⟩
theorem kept_mem {i : Nat} {deps : List Nat} {S0 S : Store} (hi : i ∈ deps) (h : kept deps S0 S = true) : S[i]? = S0[i]? := by
  unfold kept at h
  rw [List.all_eq_true] at h
  exact of_decide_eq_true (h i hi)
theorem rds_lst {K : PySem.W.Frag} {H : Hp} {ρ : List Addr} {S : Store} {i : Nat} {a : Addr} {ds : List D} {deps : List Nat} (hi : i ∈ deps) (e : S[i]? = some (.lst ds)) (q : ρ[i]? = some a) : Rds K a ds deps H ρ S :=
  ⟨fun H' ρ' S' g k => dep_lst e q g (kept_mem hi k)⟩
theorem newPair {K : PySem.W.Frag} {H : Hp} {ρ : List Addr} {S : Store} {d e : D} {x y : V} {T : Addr} (s : RelS K H ρ S) (n : H T = none) (r1 : Rel K H ρ d x) (r2 : Rel K H ρ e y) :
    Go K H ρ (upd H T (.tup [x, y])) ρ S ∧ Rel K (upd H T (.tup [x, y])) ρ (.tup [d, e]) (.ref T) := newTup s (.cons r1 (.one r2)) n
theorem y_zipL {K : PySem.W.Frag} {H : Hp} {ρ : List Addr} {S : Store} {a b : Addr} {xs ys : List D} {deps : List Nat} (r1 : Rds K a xs deps H ρ S) (r2 : Rds K b ys deps H ρ S) : Yields K (Itz K a b) (pairs xs ys) deps H ρ S where
  go := fun i H' ρ' S' g k hi => by
    rw [pairs_len] at hi
    obtain ⟨vs, h1, q1⟩ := r1.rd H' ρ' S' g k
    obtain ⟨ws, h2, q2⟩ := r2.rd H' ρ' S' g k
    have l1 := q1.length
    have l2 := q2.length
    exact ⟨vs, ws, vs[i]'(by omega), ws[i]'(by omega), h1, h2, List.getElem?_eq_getElem _, List.getElem?_eq_getElem _⟩
  yld := fun i H' ρ' S' g k hi v H2 ⟨T, x, y, ev, n, eH, f1, f2⟩ => by
    subst ev; subst eH
    obtain ⟨vs, h1, q1⟩ := r1.rd H' ρ' S' g k
    obtain ⟨ws, h2, q2⟩ := r2.rd H' ρ' S' g k
    obtain ⟨d, hd, rd⟩ := q1.get' (f1 vs h1)
    obtain ⟨d2, hd2, rd2⟩ := q2.get' (f2 ws h2)
    obtain ⟨g2, r⟩ := newPair g.s n rd rd2
    exact ⟨_, pairs_get hd hd2, g2, r⟩
  stop := fun H' ρ' S' g k => by
    obtain ⟨vs, h1, q1⟩ := r1.rd H' ρ' S' g k
    obtain ⟨ws, h2, q2⟩ := r2.rd H' ρ' S' g k
    have l1 := q1.length
    have l2 := q2.length
    rw [pairs_len]
    exact ⟨vs, ws, h1, h2, by omega⟩
theorem y_zipT {K : PySem.W.Frag} {H : Hp} {ρ : List Addr} {S : Store} {a b : Addr} {xs ys : List D} {vs ws : List V} (h1 : SqT K H a vs) (r1 : RelL K H ρ xs vs) (h2 : SqT K H b ws) (r2 : RelL K H ρ ys ws) : Yields K (RZ.ItzT K a b) (pairs xs ys) [] H ρ S where
  go := fun i H' ρ' S' g k hi => by
    rw [pairs_len] at hi
    have l1 := r1.length
    have l2 := r2.length
    exact ⟨vs, ws, vs[i]'(by omega), ws[i]'(by omega), g.le.sqt h1, g.le.sqt h2, List.getElem?_eq_getElem _, List.getElem?_eq_getElem _⟩
  yld := fun i H' ρ' S' g k hi v H2 ⟨T, x, y, ev, n, eH, f1, f2⟩ => by
    subst ev; subst eH
    obtain ⟨d, hd, rd⟩ := (r1.mono g.le).get' (f1 vs (g.le.sqt h1))
    obtain ⟨d2, hd2, rd2⟩ := (r2.mono g.le).get' (f2 ws (g.le.sqt h2))
    obtain ⟨g2, r⟩ := newPair g.s n rd rd2
    exact ⟨_, pairs_get hd hd2, g2, r⟩
  stop := fun H' ρ' S' g k => by
    have l1 := r1.length
    have l2 := r2.length
    rw [pairs_len]
    exact ⟨vs, ws, g.le.sqt h1, g.le.sqt h2, by omega⟩
theorem pi_mzip {e e2 : Expr} {m n : ME} {p pos tpos : Pos} {elts : List Expr} {kk : Nat} (hg : Gl X "zip") (hm : X.mg "zip" = none) (ha : PM X e m) (hb : PM X e2 n)
    (hs2 : starEach [e2] X.env = (false, eval e2 X.env) :: starEach [] X.env := by rfl) (hs : starEach [e, e2] X.env = (false, eval e X.env) :: starEach [e2] X.env := by rfl) (hpl : (backTo pos (starEach [e2] X.env)).any (·.1) = false := by rfl) :
    PMI X (.Tuple elts kk tpos) (.Call (.Name "zip" p) [e, e2] [] pos) (iZip m n) :=
  PIi (RZ.pi_zipA hg hm (pa_mcons ha (pa_mcons hb pa_mnil hs2) hs) hs hpl) fun σ H R ⟨ρ, env, S, items, deps, S', L, h, q⟩ => by
    obtain ⟨⟨d, S1⟩, e1, h⟩ := bind_some h
    obtain ⟨⟨d2, S2⟩, e3, h⟩ := bind_some h
    dsimp only at h
    refine tMA2 L e1 e3 fun v u H1 ρ1 g1 r1 r2 => ?_
    split at h
    · cases h
      obtain ⟨a, vs, rfl, h1, q1⟩ := r1.of_tup
      obtain ⟨b, ws, rfl, h2, q2⟩ := r2.of_tup
      exact ⟨a, b, vs, ws, rfl, .inr ⟨h1, h2, q _ _ _ g1 (y_zipT h1 q1 h2 q2)⟩⟩
    · cases h
      obtain ⟨a, vs, rfl, h1, q1⟩ := r1.of_cl
      obtain ⟨b, ws, rfl, h2, q2⟩ := r2.of_cl
      exact ⟨a, b, vs, ws, rfl, .inl ⟨clSq h1, clSq h2, q _ _ _ g1 (y_zipL (rds_cl h1 q1) (rds_cl h2 q2))⟩⟩
    · split at h
      · rename_i hS hS2
        cases h
        obtain ⟨a, vs, rfl, h0, h1, q1⟩ := g1.s.lst hS r1
        obtain ⟨b, ws, rfl, h0', h2, q2⟩ := g1.s.lst hS2 r2
        exact ⟨a, b, vs, ws, rfl, .inl ⟨SqL.of h1, SqL.of h2, q _ _ _ g1 (y_zipL (rds_lst (by simp) hS h0) (rds_lst (by simp) hS2 h0'))⟩⟩
      · cases h
    · split at h
      · rename_i hS
        cases h
        obtain ⟨a, vs, rfl, h0, h1, q1⟩ := g1.s.lst hS r1
        obtain ⟨b, ws, rfl, h2, q2⟩ := r2.of_cl
        exact ⟨a, b, vs, ws, rfl, .inl ⟨SqL.of h1, clSq h2, q _ _ _ g1 (y_zipL (rds_lst (by simp) hS h0) (rds_cl h2 q2))⟩⟩
      · cases h
    · split at h
      · rename_i hS
        cases h
        obtain ⟨a, vs, rfl, h1, q1⟩ := r1.of_cl
        obtain ⟨b, ws, rfl, h0, h2, q2⟩ := g1.s.lst hS r2
        exact ⟨a, b, vs, ws, rfl, .inl ⟨clSq h1, SqL.of h2, q _ _ _ g1 (y_zipL (rds_cl h1 q1) (rds_lst (by simp) hS h0))⟩⟩
      · cases h
    · cases h
end
end PD

set_option Elab.async false
set_option linter.all false
set_option maxRecDepth 100000
set_option maxHeartbeats 4000000
/-! PdFn: defs and their calls. -/
namespace PD
open PySem PySem.Spec PyProof.Rows L2

section
variable {K : PySem.W.Frag} {H H' : Hp} {ρ ρ' : List Addr}
mutual
theorem Rel.lo : ∀ {d : D} {v : V}, Rel K H ρ d v → d.lo ρ.length = true
  | .non, _, _ => rfl
  | .bl _, _, _ => rfl
  | .int _, _, _ => rfl
  | .str _, _, _ => rfl
  | .tup _, _, h => by
    obtain ⟨a, vs, e, s, r⟩ := h
    exact RelL.lo r
  | .cl _, _, h => by
    obtain ⟨a, vs, e, s, r⟩ := h
    exact RelL.lo r
  | .fz _, _, h => by
    obtain ⟨a, vs, e, s, r⟩ := h
    exact RelL.lo r
  | .ref i, _, h => by
    obtain ⟨a, e, q⟩ := h
    exact decide_eq_true (List.getElem?_eq_some_iff.mp q).1
theorem RelL.lo : ∀ {ds : List D} {vs : List V}, RelL K H ρ ds vs → D.loL ρ.length ds = true
  | [], _, _ => rfl
  | _ :: _, _, h => by
    obtain ⟨v, r, e, s, t⟩ := h
    rw [D.loL, Rel.lo s, RelL.lo t]; rfl
end
theorem RelKV.lo {κ : Type} {l : List (κ × D)} {m : List (κ × V)} (h : RelKV K H ρ l m) : (l.all fun p => p.2.lo ρ.length) = true := by
  induction h with
  | nil => rfl
  | cons r t ih => rw [List.all_cons, r.2.lo, ih]; rfl
theorem ORel.lo {a : Addr} : ∀ {o : O}, ORel K H ρ a o → o.lo ρ.length = true
  | .lst _, ⟨_, _, r⟩ => r.lo
  | .dic _, ⟨_, _, r⟩ => r.lo
  | .dit _, ⟨_, _, r⟩ => r.lo
  | .ins _ _, ⟨_, _, _, r⟩ => r.lo
end
/-- the things of S0 are in S as they were, or speak of none behind n -/
def keepLo (n : Nat) : Store → Store → Bool
  | [], _ => true
  | o :: r, o' :: r' => (decide (o = o') || o'.lo n) && keepLo n r r'
  | _ :: _, [] => false
theorem keepLo_get {n : Nat} : ∀ {S0 S : Store} {i : Nat} {o : O}, keepLo n S0 S = true → S0[i]? = some o → ∃ o', S[i]? = some o' ∧ (o = o' ∨ o'.lo n = true)
  | [], _, _, _, _, e => by simp at e
  | _ :: _, [], _, _, h, _ => by simp [keepLo] at h
  | o :: r, o' :: r', 0, _, h, e => by
    simp at e; subst e
    rw [keepLo, Bool.and_eq_true, Bool.or_eq_true] at h
    exact ⟨o', rfl, h.1.imp of_decide_eq_true id⟩
  | o :: r, o' :: r', i + 1, _, h, e => by
    rw [keepLo, Bool.and_eq_true] at h
    obtain ⟨x, h1, h2⟩ := keepLo_get (i := i) h.2 (by simpa using e)
    exact ⟨x, by simpa using h1, h2⟩
/-- behind a def: what it made and nobody knows is forgotten -/
def trunc (S0 S : Store) (d : D) : Store := if d.lo S0.length && keepLo S0.length S0 S then S.take S0.length else S
theorem trunc_rel {K : PySem.W.Frag} {H H' : Hp} {ρ ρ' : List Addr} {S0 S : Store} {d : D} {v : V} (s : RelS K H ρ S0) (g : Go K H ρ H' ρ' S) (r : Rel K H' ρ' d v) : ∃ ρ2, Go K H ρ H' ρ2 (trunc S0 S d) ∧ Rel K H' ρ2 d v := by
  unfold trunc
  split
  · rename_i h
    rw [Bool.and_eq_true] at h
    have e0 : ρ'.take S0.length = ρ := by
      obtain ⟨t, rfl⟩ := g.le.pre
      rw [← s.len, List.take_left]
    refine ⟨ρ, ⟨⟨g.le.tups, g.le.frzs, List.prefix_refl _, fun a vs e n => ⟨(g.le.keep a vs e n).1, n⟩⟩, ?_⟩, ?_⟩
    · refine g.s.take g.le.pre s.len fun i o e => ?_
      obtain ⟨o', h1, h2⟩ := keepLo_get h.2 e
      refine ⟨o', h1, ?_⟩
      rcases h2 with rfl | h2
      · obtain ⟨a, _, q⟩ := s.get e
        rw [← s.len]
        exact q.lo
      · exact h2
    · rw [← e0]
      exact r.take _ h.1
  · exact ⟨ρ', g, r⟩

/-- a def by its body: np parameters, ns names -/
def runBody (np ns : Nat) (b : MS) : FL := fun ds S => if ds.length = np then
    (b (ds.map some ++ List.replicate (ns - np) none) S).bind fun o => match o with
      | .rt d S' => some (d, trunc S S' d)
      | .nx _ S' => some (.non, trunc S S' .non)
      | _ => none
  else none
def spD (K : PySem.W.Frag) (n : Nat) (φ : FL) : Sp := fun vs H Q _ => ∃ ρ S ds d S', RelS K H ρ S ∧ RelL K H ρ ds vs ∧ ds.length = n ∧ φ ds S = some (d, S') ∧ ∀ v H' ρ', Go K H ρ H' ρ' S' → Rel K H' ρ' d v → Q v H'
/-- the def named x keeps to φ -/
structure FnD (P : Program) (w : World) (K : PySem.W.Frag) (mg : Str → Option Value) (base : Heap) (k : Nat) (x : Str) (ps : List Str) (φ : FL) : Prop where
  ex : ∃ (f : Addr) (fd : FuncData), mg x = some (.ref f) ∧ PySem.W.keepIn K (.ref f) = true ∧ Binds K fd ps [] ∧ FnOk P w K mg base CX0 k f fd ps (spD K ps.length φ)
section
variable {P : Program} {w : World} {K : PySem.W.Frag} {mg : Str → Option Value} {base : Heap}
theorem start_rel {H : Hp} {ρ : List Addr} {N : List Str} {np : Nat} {ds : List D} {vs : List V} (r : RelL K H ρ ds vs) (hl : ds.length = np) : RelE K H ρ (ds.map some ++ List.replicate (N.length - np) none) (L2.start N vs) := by
  have l := r.length
  unfold L2.start
  refine ⟨by simp [l, hl], fun i d e => ?_⟩
  by_cases hi : i < ds.length
  · rw [List.getElem?_append_left (by simpa using hi), List.getElem?_map] at e
    obtain ⟨d', h1, h2⟩ := map_some e
    cases h2
    obtain ⟨v, h3, h4⟩ := r.get h1
    exact ⟨v, by rw [List.getElem?_append_left (by simpa [l] using hi), List.getElem?_map, h3]; rfl, h4⟩
  · rw [List.getElem?_append_right (by simpa using hi), List.getElem?_replicate] at e
    split at e <;> cases e
theorem fnok_of {x qual : Str} {st : Stmt} {f : Addr} {fd : FuncData} {N ps : List Str} {k : Nat} {b : MS} (F : Fun K x qual st f fd) (S : FnScope N ps (defScope st))
    (hbody : ∀ (cdv : Value) (A : Around) (outer : List Env) (s : Shared) (H : Hp) (E : XK), Room k (A.deeper (envOfC qual (defScope st) s.heap.objs.size f cdv)) →
      PMB (cxOf CX0 P w K mg base N qual (defScope st) f cdv A outer s H E).nox (defBody st) b) : FnOk P w K mg base CX0 (k + 1) f fd ps (spD K ps.length (runBody ps.length N.length b)) := by
  refine F.ok S (fun vs H Q E h => ?_) fun cdv A outer s H vs Q E hr h => ?_
  · obtain ⟨ρ, S, ds, d, S', s, r, hl, _⟩ := h
    rw [r.length, hl]
  · refine ⟨_, hbody cdv A outer s H E hr, ?_⟩
    obtain ⟨ρ, S0, ds, d, S', s0, r, hl, e, q⟩ := h
    unfold runBody at e
    rw [if_pos hl] at e
    obtain ⟨o, e1, e2⟩ := bind_some e
    refine ⟨ρ, _, S0, o, ⟨start_rel r hl, s0⟩, e1, ?_⟩
    cases o with
    | rt d1 S1 =>
      cases e2
      intro v H' ρ' g r'
      obtain ⟨ρ2, g2, r2⟩ := trunc_rel s0 g r'
      exact q v H' ρ2 g2 r2
    | nx env1 S1 =>
      cases e2
      intro σ' H' ρ' g le
      obtain ⟨ρ2, g2, r2⟩ := trunc_rel s0 g (rel_non (K := K) (H := H') (ρ := ρ'))
      exact q _ H' ρ2 g2 r2
    | bk _ _ => cases e2
    | ct _ _ => cases e2
theorem fnd_of {x qual : Str} {st : Stmt} {f : Addr} {fd : FuncData} {N ps : List Str} {k : Nat} {b : MS} (F : Fun K x qual st f fd) (hm : mg x = some (.ref f)) (hb : Binds K fd ps []) (S : FnScope N ps (defScope st))
    (hbody : ∀ (cdv : Value) (A : Around) (outer : List Env) (s : Shared) (H : Hp) (E : XK), Room k (A.deeper (envOfC qual (defScope st) s.heap.objs.size f cdv)) →
      PMB (cxOf CX0 P w K mg base N qual (defScope st) f cdv A outer s H E).nox (defBody st) b) : FnD P w K mg base (k + 1) x ps (runBody ps.length N.length b) :=
  ⟨f, fd, hm, F.kp, hb, fnok_of F S hbody⟩
theorem FnD.mono {j k : Nat} {x : Str} {ps : List Str} {φ : FL} (h : FnD P w K mg base j x ps φ) (hk : j ≤ k) : FnD P w K mg base k x ps φ := by
  obtain ⟨f, fd, h1, h2, h3, h4⟩ := h.ex
  exact ⟨f, fd, h1, h2, h3, h4.mono hk⟩
theorem fnd_zero {x qual : Str} {st : Stmt} {f : Addr} {fd : FuncData} {ps : List Str} (F : Fun K x qual st f fd) (hm : mg x = some (.ref f)) (hb : Binds K fd ps []) : FnD P w K mg base 0 x ps (fun _ _ => none) := by
  refine ⟨f, fd, hm, F.kp, hb, ⟨fun vs H Q E h => ?_, fun A outer s H args us vs Q E hr he hbd hv h => ?_⟩⟩
  · obtain ⟨_, _, _, _, _, _, _, _, e, _⟩ := h; cases e
  · obtain ⟨_, _, _, _, _, _, _, _, e, _⟩ := h; cases e
end
/-- a call: n arguments -/
def mFn (n : Nat) (φ : FL) (a : MA) : ME := fun env S => (a env S).bind fun p => if p.1.length = n then φ p.1 p.2 else none
section
variable {X : Cx} {x : Str} {p pos : Pos} {e : Expr} {es : List Expr} {ma : MA} {k : Nat} {ps : List Str} {φ : FL}
theorem tFn {K : PySem.W.Frag} {n : Nat} {φ : FL} {ma : MA} (σ : St) (H : Hp) (Q : VK) (h : tM K (mFn n φ ma) σ H Q) : tCall (spD K n φ) [] E0 (tMA K ma) σ H Q := by
  obtain ⟨ρ, env, S, d, S', L, e, q⟩ := h
  obtain ⟨⟨xs, S1⟩, e1, e⟩ := bind_some e
  dsimp only at e
  split at e
  · rename_i hl
    refine tMA_at L e1 fun vs H1 ρ1 g1 r1 => ?_
    rw [List.append_nil]
    exact ⟨ρ1, S1, xs, d, S', g1.s, r1, hl, e, fun v H2 ρ2 g2 r2 => q v H2 ρ2 (g1.trans g2) r2⟩
  · cases e
theorem pm_fn {n : Nat} (F : FnD X.prog X.w X.K X.mg X.base k x ps φ) (hr : Room k X.A) (hg : Gl X x)
    (ha : PMA X (e :: es) ma) (hn : ps.length = n := by rfl) (hdb : (x == ("__debug__" : Str)) = false := by decide) (he : starEach (e :: es) X.env = (false, eval e X.env) :: starEach es X.env := by rfl) (hpl : (backTo pos (starEach es X.env)).any (·.1) = false := by rfl) :
    PM X (.Call (.Name x p) (e :: es) [] pos) (mFn n φ ma) := by
  subst hn
  obtain ⟨f, fd, h1, h2, h3, h4⟩ := F.ex
  exact PEi (pe_call h4 hr hg h1 h2 h3 .nil pass0 ha hdb he hpl) tFn
theorem pm_fn0 (F : FnD X.prog X.w X.K X.mg X.base k x [] φ) (hr : Room k X.A) (hg : Gl X x) (hdb : (x == ("__debug__" : Str)) = false := by decide) : PM X (.Call (.Name x p) [] [] pos) (mFn 0 φ mNil) := by
  obtain ⟨f, fd, h1, h2, h3, h4⟩ := F.ex
  refine PEi (pe_call0 h4 hr hg h1 h2 h3 .nil pass0 hdb) fun σ H Q h => ?_
  obtain ⟨ρ, env, S, d, S', L, e, q⟩ := h
  exact ⟨ρ, S, [], d, S', L.s, RelL.nil, rfl, e, q⟩
end
end PD

set_option Elab.async false
set_option linter.all false
set_option maxRecDepth 100000
set_option maxHeartbeats 4000000
/-! PdComp: list comprehensions. -/
namespace PD
open PySem PySem.Spec PyProof.Rows L2

/-! ### targets within a block: only the names at vs change -/
def tMGw (K : PySem.W.Frag) (vs : List Nat) (g : MG) : TG := fun v σ H Q => ∃ ρ env S d env' S', Lie K σ H ρ env S ∧ Rel K H ρ d v ∧ g d env S = some (env', S') ∧ ∀ σ' H' ρ', Go K H ρ H' ρ' S' → RelE K H' ρ' env' σ' → wipe σ' vs = wipe σ vs → Q σ' H'
def tMGsw (K : PySem.W.Frag) (vs : List Nat) (g : MGs) : TGs := fun v σ H Q => ∃ ρ env S d env' S', Lie K σ H ρ env S ∧ RelL K H ρ d v ∧ g d env S = some (env', S') ∧ ∀ σ' H' ρ', Go K H ρ H' ρ' S' → RelE K H' ρ' env' σ' → wipe σ' vs = wipe σ vs → Q σ' H'
abbrev PGW (X : Cx) (vs : List Nat) (tg : Expr) (g : MG) : Prop := PG X tg (tMGw X.K vs g)
abbrev PGWs (X : Cx) (vs : List Nat) (tg : List Expr) (g : MGs) : Prop := PGs X tg (tMGsw X.K vs g)
theorem wipe_get {σ : St} : ∀ {vs : List Nat} {j : Nat}, (wipe σ vs)[j]? = if j ∈ vs then σ[j]?.map fun _ => none else σ[j]?
  | [], j => by simp [wipe]
  | v :: vs, j => by
    unfold wipe
    by_cases hj : v = j
    · subst hj
      by_cases hl : v < σ.length
      · rw [List.getElem?_set_self (by rw [wipe_length]; exact hl), if_pos List.mem_cons_self, List.getElem?_eq_getElem hl]; rfl
      · rw [List.getElem?_eq_none (by rw [List.length_set, wipe_length]; omega), if_pos List.mem_cons_self, List.getElem?_eq_none (by omega)]; rfl
    · rw [List.getElem?_set_ne hj, wipe_get]
      have : (j ∈ v :: vs) ↔ j ∈ vs := by
        rw [List.mem_cons]
        exact ⟨fun h => h.resolve_left (fun e => hj e.symm), .inr⟩
      simp only [this]
theorem wipe_set {σ : St} {vs : List Nat} {i : Nat} {x : Option V} (h : i ∈ vs) : wipe (σ.set i x) vs = wipe σ vs := by
  refine List.ext_getElem? fun j => ?_
  rw [wipe_get, wipe_get]
  by_cases hj : j ∈ vs
  · rw [if_pos hj, if_pos hj, List.getElem?_set]
    split
    · subst j
      split
      · rename_i hl
        rw [List.getElem?_eq_getElem hl]; rfl
      · rename_i hl
        rw [List.getElem?_eq_none (by omega)]
    · rfl
  · rw [if_neg hj, if_neg hj, List.getElem?_set_ne]
    intro e; subst e; exact hj h
/-- forget slots -/
def wipeE (env : DEnv) : List Nat → DEnv
  | [] => env
  | v :: vs => (wipeE env vs).set v none
theorem wipeE_some {env : DEnv} {i : Nat} {x : D} : ∀ {vs : List Nat}, (wipeE env vs)[i]? = some (some x) → env[i]? = some (some x) ∧ i ∉ vs
  | [], h => ⟨h, by simp⟩
  | v :: vs, h => by
    unfold wipeE at h
    by_cases hi : v = i
    · subst hi
      by_cases hv : v < (wipeE env vs).length
      · rw [List.getElem?_set_self hv] at h; cases h
      · rw [List.getElem?_eq_none (by simpa using hv)] at h; cases h
    · rw [List.getElem?_set_ne hi] at h
      obtain ⟨h1, h2⟩ := wipeE_some h
      exact ⟨h1, by simp only [List.mem_cons, not_or]; exact ⟨fun e => hi e.symm, h2⟩⟩
theorem wipeE_length (env : DEnv) : ∀ vs : List Nat, (wipeE env vs).length = env.length
  | [] => rfl
  | v :: vs => by unfold wipeE; rw [List.length_set, wipeE_length env vs]
theorem RelE.wipe {K : PySem.W.Frag} {H : Hp} {ρ : List Addr} {env : DEnv} {σ : St} (h : RelE K H ρ env σ) (vs : List Nat) : RelE K H ρ (wipeE env vs) (wipe σ vs) := by
  refine ⟨by rw [wipeE_length, wipe_length]; exact h.1, fun i d e => ?_⟩
  obtain ⟨e1, e2⟩ := wipeE_some e
  obtain ⟨v, h1, h2⟩ := h.2 i d e1
  exact ⟨v, by rw [wipe_get, if_neg e2]; exact h1, h2⟩
section
variable {X : Cx} {pos : Pos} {vs : List Nat}
theorem pgw_name {i : Nat} {x : Str} (hv : i ∈ vs) (hN : X.N.Nodup) (hi : X.N[i]? = some x) (hx : Loc X.env.scope x) (hf : X.fn x = true ∨ X.env.scope.names.lookup x = some .local := by first | exact .inl rfl | exact .inr rfl | assumption) : PGW X vs (.Name x pos) (mgName i) :=
  PGi (pg_name hN hi hx hf) fun v σ H Q ⟨ρ, env, S, d, env', S', L, r, e, q⟩ => by
    cases e
    exact q _ _ _ L.go (L.e.set i r) (wipe_set hv)
theorem pgws_nil : PGWs X vs [] mgNil := PGsi pgs_nil fun v σ H Q ⟨ρ, env, S, d, env', S', L, r, e, q⟩ => by
  unfold mgNil at e
  split at e
  · cases e; cases r
    exact ⟨rfl, q _ _ _ L.go L.e rfl⟩
  · cases e
theorem pgws_cons {e : Expr} {es : List Expr} {g : MG} {r : MGs} (h1 : PGW X vs e g) (h2 : PGWs X vs es r)
    (hs : (assignEach (e :: es) X.env).map (·.2) = assign e X.env :: (assignEach es X.env).map (·.2) := by rfl) : PGWs X vs (e :: es) (mgCons g r) :=
  PGsi (pgs_cons h1 h2 hs) fun v σ H Q ⟨ρ, env, S, d, env', S', L, rr, e, q⟩ => by
    unfold mgCons at e
    split at e
    · obtain ⟨⟨env1, S1⟩, e1, e⟩ := bind_some e
      obtain ⟨v, vs, rfl, r1, r2⟩ := rr
      refine ⟨v, vs, rfl, ρ, env, S, _, env1, S1, L, r1, e1, fun σ1 H1 ρ1 g1 le1 w1 => ?_⟩
      exact ⟨ρ1, env1, S1, _, env', S', ⟨le1, g1.s⟩, r2.mono g1.le, e, fun σ2 H2 ρ2 g2 le2 w2 => q _ _ _ (g1.trans g2) le2 (w2.trans w1)⟩
    · cases e
theorem pgw_tup {es : List Expr} {k : Nat} {t : MGs} {n : Nat} (hc : X.calm = true) (h : PGWs X vs es t)
    (hn : (assignEach es X.env).length = n := by rfl) (hst : (assignEach es X.env).findIdx? (·.1) = none := by rfl) : PGW X vs (.Tuple es k pos) (mgTup n t) :=
  PGi (pg_tup hc h hn hst) fun v σ H Q ⟨ρ, env, S, d, env', S', L, r, e, q⟩ => by
    unfold mgTup at e
    split at e
    · split at e
      · rename_i hl
        obtain ⟨p, vs, rfl, h1, r1⟩ := r.of_tup
        exact ⟨p, vs, rfl, h1, r1.length.trans hl, ρ, env, S, _, env', S', L, r1, e, q⟩
      · cases e
    · cases e
end

/-! ### tests -/
def mYes : MT := fun _ S => some (true, S)
abbrev PMTs (X : Cx) (ifs : List Expr) (t : MT) : Prop := PTs X ifs (tMT X.K t)
section
variable {X : Cx}
theorem pts_mnil : PMTs X [] mYes := ⟨fun pins s σ H Q I h => pts_nil.run pins s σ H Q I (by
  obtain ⟨ρ, env, S, b, S', L, e, q⟩ := h
  cases e
  exact q H ρ L.go)⟩
theorem pts_mone {c : Expr} {t : MT} (h : PMT X c t) : PMTs X [c] t := pts_one h
end

/-! ### the turns -/
/-- an item is put behind the list at n -/
def putAt (n : Nat) (x : D) (S : Store) : Option Store := match S[n]? with
  | some (.lst acc) => if acc.length < sizeLine then some (S.set n (.lst (acc ++ [x]))) else none
  | _ => none
def lcGo (deps : List Nat) (n : Nat) (g : MG) (t : MT) (elt : ME) (env : DEnv) : List D → Store → Option Store
  | [], S => some S
  | d :: r, S => (g d env S).bind fun p => (t p.1 p.2).bind fun q => if q.1 then
      (elt p.1 q.2).bind fun x => (putAt n x.1 x.2).bind fun S' => if kept deps S S' then lcGo deps n g t elt env r S' else none
      else if kept deps S q.2 then lcGo deps n g t elt env r q.2 else none
/-- a new list, kept -/
def mLc (it : MI) (g : MG) (t : MT) (elt : ME) (vs : List Nat) : ME := fun env S => (it env S).bind fun p =>
  if kept p.2.1 p.2.2 (p.2.2 ++ [.lst []]) then (lcGo p.2.1 p.2.2.length g t elt (wipeE env vs) p.1 (p.2.2 ++ [.lst []])).map fun S' => (.ref p.2.2.length, S') else none
/-- what a new list came to, when it is looked at once -/
def tempOf (S1 S' : Store) : Option (D × Store) := match S'[S1.length]? with
  | some (.lst acc) => if D.loL S1.length acc && keepLo S1.length S1 S' then some (.cl acc, S'.take S1.length) else none
  | _ => none
/-- a new list that nobody keeps -/
def mLcT (it : MI) (g : MG) (t : MT) (elt : ME) (vs : List Nat) : ME := fun env S => (it env S).bind fun p =>
  if kept p.2.1 p.2.2 (p.2.2 ++ [.lst []]) then (lcGo p.2.1 p.2.2.length g t elt (wipeE env vs) p.1 (p.2.2 ++ [.lst []])).bind fun S' => tempOf p.2.2 S' else none
theorem pre_get {ρ ρ' : List Addr} {i : Nat} {a : Addr} (h : ρ <+: ρ') (e : ρ[i]? = some a) : ρ'[i]? = some a := by
  obtain ⟨t, rfl⟩ := h
  rw [List.getElem?_append_left (List.getElem?_eq_some_iff.mp e).1]
  exact e
/-- the reading of a comprehension: from the turns -/
theorem lc_read {K : PySem.W.Frag} {it : MI} {g : MG} {t : MT} {elt : ME} {vs : List Nat} {σ : St} {H : Hp} {Q : VK} {ρ : List Addr} {env : DEnv} {S : Store} {items : List D} {deps : List Nat} {S1 S' : Store}
    (L : Lie K σ H ρ env S) (e1 : it env S = some (items, deps, S1)) (hk : kept deps S1 (S1 ++ [.lst []]) = true) (e2 : lcGo deps S1.length g t elt (wipeE env vs) items (S1 ++ [.lst []]) = some S')
    (q : ∀ D H1 ρ1 H' ρ', Go K H ρ H1 ρ1 S1 → H1 D = none → Go K (upd H1 D (.lst [])) (ρ1 ++ [D]) H' ρ' S' → Q (.ref D) H') : tLc (tMI K it) (tMGw K vs g) (tMT K t) (tM K elt) vs σ H Q := by
  refine ⟨ρ, env, S, items, deps, S1, L, e1, fun J H1 ρ1 g1 Y D nD => ?_⟩
  obtain ⟨gD, _⟩ := newLst (ds := []) g1.s (RelL.nil) nD
  refine ⟨fun i m H2 => ∃ ρ2 S2, i + m = items.length ∧ Go K (upd H1 D (.lst [])) (ρ1 ++ [D]) H2 ρ2 S2 ∧ kept deps S1 S2 = true ∧ lcGo deps S1.length g t elt (wipeE env vs) (items.drop i) S2 = some S',
    ⟨items.length, ρ1 ++ [D], S1 ++ [.lst []], by omega, .refl gD.s, hk, by rw [List.drop_zero]; exact e2⟩, ?_⟩
  rintro i m H2 ⟨ρ2, S2, hl, g2, k2, e3⟩
  have g12 := gD.trans g2
  have L2 : Lie K (wipe σ vs) H2 ρ2 (wipeE env vs) S2 := ⟨((L.e.mono g1.le).mono g12.le).wipe vs, g2.s⟩
  by_cases hi : i < items.length
  · refine .inr ⟨Y.go i H2 ρ2 S2 g12 k2 hi, ?_⟩
    rw [List.drop_eq_getElem_cons hi, lcGo] at e3
    obtain ⟨⟨env3, S3⟩, e4, e3⟩ := bind_some e3
    obtain ⟨⟨k, S4⟩, e5, e3⟩ := bind_some e3
    refine ⟨fun H5 => ∃ ρ5 S5, Go K (upd H1 D (.lst [])) (ρ1 ++ [D]) H5 ρ5 S5 ∧ kept deps S1 S5 = true ∧ lcGo deps S1.length g t elt (wipeE env vs) (items.drop (i + 1)) S5 = some S',
      fun H5 ⟨ρ5, S5, a1, a2, a3⟩ => ⟨m - 1, by omega, ρ5, S5, by omega, a1, a2, a3⟩, fun x H3 y => ?_⟩
    obtain ⟨d, hd, g3, r3⟩ := Y.yld i H2 ρ2 S2 g12 k2 hi x H3 y
    rw [List.getElem?_eq_getElem hi] at hd
    cases hd
    refine ⟨ρ2, wipeE env vs, S2, _, env3, S3, L2.next g3, r3, e4, fun σ4 H4 ρ4 g4 le4 w4 => ⟨by
      rw [w4]
      refine List.ext_getElem? fun j => ?_
      rw [wipe_get, wipe_get]
      by_cases hj : j ∈ vs
      · rw [if_pos hj, if_pos hj]
        cases σ[j]? <;> rfl
      · rw [if_neg hj], ?_⟩⟩
    refine tMT_at ⟨le4, g4.s⟩ e5 fun H5 ρ5 g5 => ?_
    have g25 := ((g2.trans g3).trans g4).trans g5
    cases k with
    | false =>
      refine iteF ?_
      dsimp only at e3
      rw [if_neg Bool.false_ne_true] at e3
      split at e3
      · rename_i hk4
        exact ⟨ρ5, S4, g25, kept_trans k2 hk4, e3⟩
      · cases e3
    | true =>
      refine iteT ?_
      dsimp only at e3
      rw [if_pos rfl] at e3
      obtain ⟨⟨x6, S6⟩, e6, e3⟩ := bind_some e3
      obtain ⟨S7, e7, e3⟩ := bind_some e3
      refine tM_at ⟨le4.mono g5.le, g5.s⟩ e6 fun v6 H6 ρ6 g6 r6 => ?_
      have g26 := g25.trans g6
      unfold putAt at e7
      split at e7
      · rename_i acc hacc
        split at e7
        · rename_i hz
          cases e7
          have hD : ρ6[S1.length]? = some D := by
            refine pre_get g26.le.pre ?_
            rw [← g1.s.len, List.getElem?_append_right (Nat.le_refl _), Nat.sub_self]; rfl
          obtain ⟨vs6, h1, h2⟩ := g26.s.at _ _ D hacc hD
          refine ⟨vs6, h1, by rw [h2.length]; exact hz, ?_⟩
          have g7 := setLst g26.s hacc hD (h2.append (.one r6)) (lstLe g26.s hacc hD)
          split at e3
          · rename_i hk7
            exact ⟨ρ6, _, g26.trans g7, kept_trans k2 hk7, e3⟩
          · cases e3
        · cases e7
      · cases e7
  · have : i = items.length := by omega
    subst this
    rw [List.drop_length, lcGo] at e3
    cases e3
    exact .inl ⟨Y.stop H2 ρ2 _ g12 k2, q D H1 ρ1 H2 ρ2 g1 nD g2⟩
/-- the list itself, kept -/
theorem lc_keep {K : PySem.W.Frag} {H H1 H' : Hp} {ρ ρ1 ρ' : List Addr} {S1 S' : Store} {D : Addr} (g1 : Go K H ρ H1 ρ1 S1) (nD : H1 D = none) (g2 : Go K (upd H1 D (.lst [])) (ρ1 ++ [D]) H' ρ' S') :
    Go K H ρ H' ρ' S' ∧ Rel K H' ρ' (.ref S1.length) (.ref D) := by
  obtain ⟨gD, rD⟩ := newLst (ds := []) g1.s (RelL.nil) nD
  exact ⟨(g1.trans gD).trans g2, rD.mono g2.le⟩
/-- .. looked at once -/
theorem lc_temp {K : PySem.W.Frag} {H H1 H' : Hp} {ρ ρ1 ρ' : List Addr} {S1 S' : Store} {D : Addr} {d : PD.D} {S2 : Store} (g1 : Go K H ρ H1 ρ1 S1) (nD : H1 D = none) (g2 : Go K (upd H1 D (.lst [])) (ρ1 ++ [D]) H' ρ' S') (e : tempOf S1 S' = some (d, S2)) :
    Go K H ρ H' ρ1 S2 ∧ Rel K H' ρ1 d (.ref D) := by
  obtain ⟨gD, _⟩ := newLst (ds := []) g1.s (RelL.nil) nD
  have gg := gD.trans g2
  unfold tempOf at e
  split at e
  · rename_i acc hacc
    split at e
    · rename_i h
      cases e
      rw [Bool.and_eq_true] at h
      have e0 : ρ'.take S1.length = ρ1 := by
        obtain ⟨t, rfl⟩ := gg.le.pre
        rw [← g1.s.len, List.take_left]
      have hD : ρ'[S1.length]? = some D := by
        refine pre_get g2.le.pre ?_
        rw [← g1.s.len, List.getElem?_append_right (Nat.le_refl _), Nat.sub_self]; rfl
      obtain ⟨vs, h1, h2⟩ := g2.s.at _ _ D hacc hD
      have nm : D ∉ ρ1 := fun z => by
        obtain ⟨i, hi, ei⟩ := List.mem_iff_getElem.mp z
        have : i = S1.length := by
          have a1 := pre_get gg.le.pre (show ρ1[i]? = some D by rw [List.getElem?_eq_getElem hi, ei])
          obtain ⟨b1, c1⟩ := List.getElem?_eq_some_iff.mp a1
          obtain ⟨b2, c2⟩ := List.getElem?_eq_some_iff.mp hD
          exact (List.getElem_inj g2.s.nd).mp (c1.trans c2.symm)
        rw [← g1.s.len] at this
        omega
      refine ⟨g1.trans ⟨⟨gg.le.tups, gg.le.frzs, List.prefix_refl _, fun a ws e n => ⟨(gg.le.keep a ws e n).1, n⟩⟩, ?_⟩, rel_cl ⟨h1, nm⟩ ?_⟩
      · refine g2.s.take gg.le.pre g1.s.len fun i o e => ?_
        obtain ⟨o', h3, h4⟩ := keepLo_get h.2 e
        refine ⟨o', h3, ?_⟩
        rcases h4 with rfl | h4
        · obtain ⟨a, _, q⟩ := g1.s.get e
          rw [← g1.s.len]
          exact q.lo
        · exact h4
      · rw [← e0]
        exact h2.takeP _ h.1
    · cases e
  · cases e
section
variable {X : Cx}
theorem pm_lc {elt tg iter : Expr} {ifs : List Expr} {scope : Scope} {own : List (Str × Nat)} {pos : Pos} {it : MI} {g : MG} {t : MT} {m : ME} (hc : X.calm = true) (hN : X.N.Nodup) (hi : PMI X tg iter it) (ok : BlkOk X.N X.env.scope scope own)
    (hg : ∀ (s : Shared) (H : Hp) (C : Addr) (cl : List (Str × Addr)) (fp : List Addr), PGW (X.blk s H scope (compEnvC scope cl C X.env) fp) (own.map (·.2)) tg g) (ht : ∀ (s : Shared) (H : Hp) (C : Addr) (cl : List (Str × Addr)) (fp : List Addr), PMTs (X.blk s H scope (compEnvC scope cl C X.env) fp) ifs t)
    (he : ∀ (s : Shared) (H : Hp) (C : Addr) (cl : List (Str × Addr)) (fp : List Addr), PM (X.blk s H scope (compEnvC scope cl C X.env) fp) elt m) (hs : ∀ x, foldedSetIterable iter X.env x = pure x := by intro _; rfl) :
    PM X (.ListComp elt [⟨tg, iter, ifs, 0⟩] scope pos) (mLc it g t m (own.map (·.2))) :=
  PEi (pe_lc hc hN hi ok hg ht he hs) fun σ H Q ⟨ρ, env, S, d, S', L, e, q⟩ => by
    obtain ⟨⟨items, deps, S1⟩, e1, e⟩ := bind_some e
    dsimp only at e
    split at e
    · rename_i hk
      obtain ⟨S2, e2, e⟩ := map_some e
      cases e
      refine lc_read L e1 hk e2 fun D H1 ρ1 H' ρ' g1 nD g2 => ?_
      obtain ⟨g3, r3⟩ := lc_keep g1 nD g2
      exact q _ _ _ g3 r3
    · cases e
theorem pm_lcT {elt tg iter : Expr} {ifs : List Expr} {scope : Scope} {own : List (Str × Nat)} {pos : Pos} {it : MI} {g : MG} {t : MT} {m : ME} (hc : X.calm = true) (hN : X.N.Nodup) (hi : PMI X tg iter it) (ok : BlkOk X.N X.env.scope scope own)
    (hg : ∀ (s : Shared) (H : Hp) (C : Addr) (cl : List (Str × Addr)) (fp : List Addr), PGW (X.blk s H scope (compEnvC scope cl C X.env) fp) (own.map (·.2)) tg g) (ht : ∀ (s : Shared) (H : Hp) (C : Addr) (cl : List (Str × Addr)) (fp : List Addr), PMTs (X.blk s H scope (compEnvC scope cl C X.env) fp) ifs t)
    (he : ∀ (s : Shared) (H : Hp) (C : Addr) (cl : List (Str × Addr)) (fp : List Addr), PM (X.blk s H scope (compEnvC scope cl C X.env) fp) elt m) (hs : ∀ x, foldedSetIterable iter X.env x = pure x := by intro _; rfl) :
    PM X (.ListComp elt [⟨tg, iter, ifs, 0⟩] scope pos) (mLcT it g t m (own.map (·.2))) :=
  PEi (pe_lc hc hN hi ok hg ht he hs) fun σ H Q ⟨ρ, env, S, d, S', L, e, q⟩ => by
    obtain ⟨⟨items, deps, S1⟩, e1, e⟩ := bind_some e
    dsimp only at e
    split at e
    · rename_i hk
      obtain ⟨S2, e2, e⟩ := bind_some e
      refine lc_read L e1 hk e2 fun D H1 ρ1 H' ρ' g1 nD g2 => ?_
      obtain ⟨g3, r3⟩ := lc_temp g1 nD g2 e
      exact q _ _ _ g3 r3
    · cases e
/-- name = [..] on one line -/
theorem ps_mlc {i : Nat} {y : Str} {py : Pos} {elt tg iter : Expr} {ifs : List Expr} {scope : Scope} {own : List (Str × Nat)} {pos spos : Pos} {it : MI} {g : MG} {t : MT} {m : ME} (hc : X.calm = true) (hN : X.N.Nodup) (hy : X.N[i]? = some y) (hyl : X.env.scope.names.lookup y = some .local)
    (hsw : swapsWith (.ListComp elt [⟨tg, iter, ifs, 0⟩] scope pos) (some (.Name y py)) spos.line X.env = pure true) (hi : PMI X tg iter it) (ok : BlkOk X.N X.env.scope scope own)
    (hg : ∀ (s : Shared) (H : Hp) (C : Addr) (cl : List (Str × Addr)) (fp : List Addr), PGW (X.blk s H scope (compEnvC scope cl C X.env) fp) (own.map (·.2)) tg g) (ht : ∀ (s : Shared) (H : Hp) (C : Addr) (cl : List (Str × Addr)) (fp : List Addr), PMTs (X.blk s H scope (compEnvC scope cl C X.env) fp) ifs t)
    (he : ∀ (s : Shared) (H : Hp) (C : Addr) (cl : List (Str × Addr)) (fp : List Addr), PM (X.blk s H scope (compEnvC scope cl C X.env) fp) elt m) (hs : ∀ x, foldedSetIterable iter X.env x = pure x := by intro _; rfl) :
    PMS X (.Assign [.Name y py] (.ListComp elt [⟨tg, iter, ifs, 0⟩] scope pos) spos) (sAsg (mLc it g t m (own.map (·.2))) (mgName i)) :=
  PSi (ps_setLc hc hN hy hyl hsw hi ok hg ht he hs) fun D0 σ H ⟨ρ, env, S, o, L, e, q⟩ => by
    obtain ⟨⟨d, S0⟩, e6, e9⟩ := bind_some e
    obtain ⟨⟨env2, S9⟩, e8, e7⟩ := map_some e9
    cases e7; cases e8
    obtain ⟨⟨items, deps, S1⟩, e1, e5⟩ := bind_some e6
    dsimp only at e5
    split at e5
    · rename_i hk
      obtain ⟨S2, e2, e4⟩ := map_some e5
      cases e4
      refine lc_read L e1 hk e2 fun D H1 ρ1 H' ρ' g1 nD g2 => ?_
      obtain ⟨g3, r3⟩ := lc_keep g1 nD g2
      exact q _ _ _ g3 ((L.e.mono g3.le).set i r3)
    · cases e5
end
end PD

set_option Elab.async false
set_option linter.all false
set_option maxRecDepth 100000
set_option maxHeartbeats 4000000
/-! PdData: order of trees: comparisons of tuples, min, max, sorted. -/
namespace PD
open PySem PySem.Spec PyProof.Rows L2

def ltD (a b : D) : Bool := PySem.W.dataLt (pyD a) (pyD b)
def alkD (a b : D) : Bool := PySem.W.alike (pyD a) (pyD b)
/-- tuples that can be compared -/
def tupsOk (a b : D) : Bool := match a, b with
  | .tup _, .tup _ => okD 63 a && okD 63 b && alkD a b
  | _, _ => false
def cInt2 (c : C2) (f : D → D → Bool) : C2 := fun a b S => if tupsOk a b then some (f a b) else c a b S
abbrev cLtT : C2 := cInt2 cLt fun a b => ltD a b
abbrev cLeT : C2 := cInt2 cLe fun a b => !ltD b a
abbrev cGtT : C2 := cInt2 cGt fun a b => ltD b a
abbrev cGeT : C2 := cInt2 cGe fun a b => !ltD a b
section
variable {X : Cx}
theorem cd_tup {op : CmpOp} {c : C2} {f : D → D → Bool} (h1 : CmD X op c)
    (h2 : ∀ (pins : List (Addr × Obj)) (s : Shared) (a b : D) (v u : Value) (as bs : List Addr) (Q : Value → Shared → Prop) (E : Value → Shared → Prop), Reads s.heap v (pyD a) as → Reads s.heap u (pyD b) bs → PySem.W.alike (pyD a) (pyD b) = true → pyD a ≠ .none → X.A.units + min (pyD a).depth (pyD b).depth < cLine →
      Q (.bool (f a b)) s → wpAny (model X.prog X.w) X.A (compareOp op v u) Q E s) (hu : X.A.units + 64 < cLine) : CmD X op (cInt2 c f) := by
  intro pins s σ H x y v u Q I rx ry h
  obtain ⟨ρ, S, a, b, k, rs, ra, rb, e, q⟩ := h
  unfold cInt2 at e
  split at e
  · rename_i ht
    cases e
    unfold tupsOk at ht
    split at ht
    · rename_i xs ys
      rw [Bool.and_eq_true, Bool.and_eq_true] at ht
      obtain ⟨⟨o1, o2⟩, al⟩ := ht
      obtain ⟨as, r1⟩ := Dp.reads I _ x v (dp_of 63 _ x o1 ra) rx
      obtain ⟨bs, r2⟩ := Dp.reads I _ y u (dp_of 63 _ y o2 rb) ry
      have d1 := (okD_lay 63 _ o1).2
      refine h2 pins s _ _ v u as bs _ _ r1 r2 al (by simp [pyD]) ?_ ⟨.bl _, H, I, rfl, q⟩
      have := Nat.min_le_left (pyD (.tup xs)).depth (pyD (.tup ys)).depth
      omega
    · cases ht
  · exact h1 pins s σ H x y v u Q I rx ry ⟨ρ, S, a, b, k, rs, ra, rb, e, q⟩
theorem cd_ltT (hu : X.A.units + 64 < cLine) : CmD X .Lt cLtT := cd_tup cd_lt (fun pins s a b v u as bs Q E r1 r2 al hn hd hq => PySem.W.lt_data r1 r2 al hn hd hq) hu
theorem cd_leT (hu : X.A.units + 64 < cLine) : CmD X .LtE cLeT := cd_tup cd_le (fun pins s a b v u as bs Q E r1 r2 al hn hd hq => PySem.W.le_data r1 r2 al hn hd hq) hu
theorem cd_gtT (hu : X.A.units + 64 < cLine) : CmD X .Gt cGtT := cd_tup cd_gt (fun pins s a b v u as bs Q E r1 r2 al hn hd hq => PySem.W.gt_data r1 r2 al hn hd hq) hu
theorem cd_geT (hu : X.A.units + 64 < cLine) : CmD X .GtE cGeT := cd_tup cd_ge (fun pins s a b v u as bs Q E r1 r2 al hn hd hq => PySem.W.ge_data r1 r2 al hn hd hq) hu
end

/-! ### min, max of a list or a tuple of alike things -/
def alkAll (ds : List D) : Bool := ds.all fun a => (decide (a ≠ .non)) && ds.all fun b => alkD a b
def leastD (x : D) (xs : List D) : D := xs.foldl (fun a y => if ltD y a then y else a) x
def mostD (x : D) (xs : List D) : D := xs.foldl (fun a y => if ltD a y then y else a) x
theorem pyDL_map : ∀ ds : List D, pyDL ds = ds.map pyD
  | [] => by simp [pyDL]
  | d :: ds => by simp [pyDL, pyDL_map ds]
theorem pyD_getD (ds : List D) (i : Nat) : (pyDL ds).getD i .none = pyD (ds.getD i .non) := by
  rw [pyDL_map, List.getD_eq_getElem?_getD, List.getD_eq_getElem?_getD, List.getElem?_map]
  cases ds[i]? <;> simp [pyD]
theorem okDL_mem {n : Nat} : ∀ {ds : List D} {d : D}, okDL n ds = true → d ∈ ds → okD n d = true
  | [], _, _, m => by simp at m
  | x :: xs, d, h, m => by
    rw [okDL, Bool.and_eq_true] at h
    rcases List.mem_cons.mp m with rfl | m
    · exact h.1
    · exact okDL_mem h.2 m
theorem pyD_none {n : Nat} {d : D} (h : okD n d = true) (hn : d ≠ .non) : pyD d ≠ .none := by
  cases d <;> (first | (cases n <;> simp [okD] at h; done) | (simp at hn; done) | simp [pyD])
theorem alkAll_py {n : Nat} {ds : List D} (ho : okDL n ds = true) (h : alkAll ds = true) : PySem.W.AlikeAll (pyDL ds) := by
  unfold alkAll at h
  rw [List.all_eq_true] at h
  rw [pyDL_map]
  refine ⟨fun x hx y hy => ?_, fun x hx => ?_⟩
  · obtain ⟨a, ha, rfl⟩ := List.mem_map.mp hx
    obtain ⟨b, hb, rfl⟩ := List.mem_map.mp hy
    have := h a ha
    rw [Bool.and_eq_true, List.all_eq_true] at this
    exact this.2 b hb
  · obtain ⟨a, ha, rfl⟩ := List.mem_map.mp hx
    have := h a ha
    rw [Bool.and_eq_true] at this
    exact pyD_none (okDL_mem ho ha) (of_decide_eq_true this.1)
/-- of the items: one that is least, or most -/
def fBest (g : D → List D → D) : F1 := fun d S => (seqOf d S).bind fun ds => match ds with
  | x :: xs => if okDL 62 (x :: xs) && alkAll (x :: xs) then some (g x xs, S) else none
  | [] => none
theorem vals_getI : ∀ {xs : List V} {us : List Value} {i : Nat} {u : Value}, Vals xs us → us[i]? = some u → ∃ x, xs[i]? = some x ∧ RelV x u
  | _, _, i, u, .nil, e => by simp at e
  | _, _, 0, u, .cons r _, e => ⟨_, rfl, by simp at e; rw [← e]; exact r⟩
  | _, _, i + 1, u, .cons _ t, e => by
    obtain ⟨x, h1, h2⟩ := vals_getI (i := i) t (by simpa using e)
    exact ⟨x, by simpa using h1, h2⟩
section
variable {X : Cx}
theorem best_core {op : CmpOp} {id : String} {g : D → List D → D} {f : D → D → Bool} (hc : X.calm = true) (hu : X.A.units + 64 < cLine) {pins : List (Addr × Obj)} {s : Shared} {σ : St} {H : Hp} {ρ : List Addr} {S : Store} {d r : D} {S' : Store} {v : V} {u : Value} {Q : VK}
    (hcmp : ∀ (ds : List D) (us : Array Value) (as : List Addr), ReadsAll s.heap us.toList (pyDL ds) as → PySem.W.AlikeAll (pyDL ds) → X.A.units + 1 + PyData.depthAll (pyDL ds) < cLine →
      PySem.CmpIn X.prog X.w X.A.in1 op s.heap (fun i v => us[i]? = some v) (fun i j => f ((ds).getD i .non) (ds.getD j .non)))
    (hgo : ∀ (bt : Nat → Nat → Bool) (us : Array Value) (Q : Value → Shared → Prop), (∃ fp, (s.heap.IsList fp us ∨ s.heap.IsTuple fp us) ∧ u = .ref fp) → 0 < us.size → PySem.CmpIn X.prog X.w X.A.in1 op s.heap (fun i v => us[i]? = some v) bt →
      (∀ v h' tk, us[argBest bt (us.size - 1)]? = some v → (∀ b o, s.heap.get? b = some o → h'.get? b = some o) → Q v { s with heap := h', toks := tk }) → wpAny (model X.prog X.w) X.A (call (.builtin id) [u]) Q X.xe s)
    (hg : ∀ x xs, g x xs = xs.foldl (fun a y => if f y a then y else a) x)
    (I : Inv X pins σ H s) (rs : RelS X.K H ρ S) (rd : Rel X.K H ρ d v) (rv : RelV v u) (e : fBest g d S = some (r, S')) (q : ∀ v H' ρ', Go X.K H ρ H' ρ' S' → Rel X.K H' ρ' r v → Q v H') :
    wpAny (model X.prog X.w) X.A (call (.builtin id) [u]) (EP X pins σ Q) X.xe s := by
  obtain ⟨ds, e1, e⟩ := bind_some e
  split at e
  · rename_i x xs
    split at e
    · rename_i ho
      cases e
      rw [Bool.and_eq_true] at ho
      have al := alkAll_py ho.1 ho.2
      have dep := (okD_layL 62 _ ho.1).2
      have key : ∀ (p : Addr) (vs : List V) (its : List Value), RelL X.K H ρ (x :: xs) vs → Vals vs its → u = .ref p → (s.heap.IsList p its.toArray ∨ s.heap.IsTuple p its.toArray) → wpAny (model X.prog X.w) X.A (call (.builtin id) [u]) (EP X pins σ Q) X.xe s := by
        intro p vs its rl rvs eu hp
        obtain ⟨as, ra⟩ := Dp.readsAll I _ vs its (dp_ofL 62 _ vs ho.1 rl) rvs
        have hl : its.length = (x :: xs).length := rvs.length.symm.trans rl.length
        refine hgo _ its.toArray _ ⟨p, hp, eu⟩ (by simp [hl]) (hcmp (x :: xs) its.toArray as ra al (by omega)) fun w h' tk hw hk => ?_
        have e1 : its.toArray.size - 1 = xs.length := by simp [hl]
        rw [e1] at hw
        obtain ⟨b1, b2⟩ := PySem.W.argBest_fold f D.non x xs xs.length (Nat.le_refl _)
        rw [List.take_length, ← hg] at b2
        obtain ⟨v2, h3, h4⟩ := vals_getI (i := argBest (fun i j => f ((x :: xs).getD i D.non) ((x :: xs).getD j D.non)) xs.length) rvs (by rw [List.getElem?_toArray] at hw; exact hw)
        obtain ⟨d2, h5, h6⟩ := rl.get' h3
        rw [List.getD_eq_getElem?_getD, h5, Option.getD_some] at b2
        rw [b2] at h6
        exact ⟨v2, H, I.kept hk, h4, q _ _ _ (.refl rs) h6⟩
      unfold seqOf at e1
      split at e1
      · cases e1
        obtain ⟨p, vs, rfl, h1, r1⟩ := rd.of_tup
        obtain ⟨its, rv2, ht, _⟩ := I.tuple h1
        exact key p vs its r1 rv2 (show u = Value.ref p from rv) (.inr ht)
      · obtain ⟨p, vs, rfl, h1, r1⟩ := lst_of rs e1 rd
        obtain ⟨its, rv2, ht, _⟩ := I.list h1
        exact key p vs its r1 rv2 (show u = Value.ref p from rv) (.inl ht.isList)
    · cases e
  · cases e
def fBestL (g : D → List D → D) : FL := fun ds S => match ds with
  | [d] => fBest g d S
  | _ => none
theorem call_leastD (hc : X.calm = true) (hu : X.A.units + 64 < cLine) : CallD X (.builtin "min") (fBestL leastD) := by
  intro pins s σ H xs us Q I r h
  obtain ⟨ρ, S, ds, d, S', rs, rl, e, q⟩ := h
  unfold fBestL at e
  split at e
  · obtain ⟨v, rfl, r1⟩ := relL1 rl
    obtain ⟨u, rfl, ru⟩ := vals1 r
    refine best_core (op := .Lt) (f := ltD) hc hu (fun ds us as ra al hd => ?_) (fun bt us Q2 hx hn hcm hq => ?_) (fun _ _ => rfl) I rs r1 ru e q
    · have := PySem.W.cmpIn_lt (prog := X.prog) (w := X.w) (A := X.A.in1) (s := s) ra al hd
      simpa only [pyD_getD, ltD] using this
    · obtain ⟨fp, hp, rfl⟩ := hx
      rcases hp with hp | hp
      · refine call_min_walkH (PySem.W.iter_listW (A := X.A.in1) (I.ok.hd hc) hp fun s₂ e W st hfp hw hk => ?_)
        refine ⟨_, _, _, _, _, _, _, s.heap, bt, rfl, W, st, hfp, hn, hw, hk, hcm, fun v s' hP m => ?_⟩
        obtain ⟨h', tk, rfl, hk'⟩ := PySem.W.moved_old e rfl m
        exact hq v h' tk hP hk'
      · refine call_min_walkH (PySem.W.iter_tupleW (A := X.A.in1) (I.ok.hd hc) hp fun s₂ e W st hfp hw hk => ?_)
        refine ⟨_, _, _, _, _, _, _, s.heap, bt, rfl, W, st, hfp, hn, hw, hk, hcm, fun v s' hP m => ?_⟩
        obtain ⟨h', tk, rfl, hk'⟩ := PySem.W.moved_old e rfl m
        exact hq v h' tk hP hk'
  · cases e
theorem call_mostD (hc : X.calm = true) (hu : X.A.units + 64 < cLine) : CallD X (.builtin "max") (fBestL mostD) := by
  intro pins s σ H xs us Q I r h
  obtain ⟨ρ, S, ds, d, S', rs, rl, e, q⟩ := h
  unfold fBestL at e
  split at e
  · obtain ⟨v, rfl, r1⟩ := relL1 rl
    obtain ⟨u, rfl, ru⟩ := vals1 r
    refine best_core (op := .Gt) (f := fun y a => ltD a y) hc hu (fun ds us as ra al hd => ?_) (fun bt us Q2 hx hn hcm hq => ?_) (fun _ _ => rfl) I rs r1 ru e q
    · have := PySem.W.cmpIn_gt (prog := X.prog) (w := X.w) (A := X.A.in1) (s := s) ra al hd
      simpa only [pyD_getD, ltD] using this
    · obtain ⟨fp, hp, rfl⟩ := hx
      rcases hp with hp | hp
      · refine call_max_walkH (PySem.W.iter_listW (A := X.A.in1) (I.ok.hd hc) hp fun s₂ e W st hfp hw hk => ?_)
        refine ⟨_, _, _, _, _, _, _, s.heap, bt, rfl, W, st, hfp, hn, hw, hk, hcm, fun v s' hP m => ?_⟩
        obtain ⟨h', tk, rfl, hk'⟩ := PySem.W.moved_old e rfl m
        exact hq v h' tk hP hk'
      · refine call_max_walkH (PySem.W.iter_tupleW (A := X.A.in1) (I.ok.hd hc) hp fun s₂ e W st hfp hw hk => ?_)
        refine ⟨_, _, _, _, _, _, _, s.heap, bt, rfl, W, st, hfp, hn, hw, hk, hcm, fun v s' hP m => ?_⟩
        obtain ⟨h', tk, rfl, hk'⟩ := PySem.W.moved_old e rfl m
        exact hq v h' tk hP hk'
  · cases e
end

/-! ### sorted -/
def leD (a b : D) : Bool := !ltD b a
def sortedD (ds : List D) : List D := ds.mergeSort leD
/-- all tuples that are not empty, or none a tuple -/
def sortable (ds : List D) : Bool := (ds.all fun d => match d with
  | .tup (_ :: _) => true
  | _ => false) || ds.all fun d => match d with
  | .tup _ => false
  | .non => false
  | _ => true
def fSorted : FN := fun ds S => match ds with
  | [d] => (lstOf d S).bind fun xs => if okDL 62 xs && alkAll xs && sortable xs && okLen xs.length then some (sortedD xs) else none
  | _ => none
theorem dataLe_leD : (fun (b c : D × V) => PySem.W.dataLe false (fun b : D × V => pyD b.1) b c) = fun b c => leD b.1 c.1 := by
  funext b c
  rw [PySem.W.dataLe_eq]
  rfl
theorem eachOf : ∀ {ds : List D} {vs : List V} {us : List Value}, ds.length = vs.length → Vals vs us → PySem.W.EachIs (fun u (b : D × V) => L2.RelV b.2 u) us (ds.zip vs)
  | [], _, _, hl, .nil => .nil
  | d :: ds, _, _, hl, .cons r t => .cons r (eachOf (by simpa using hl) t)
theorem zip_fst : ∀ {ds : List D} {vs : List V}, ds.length = vs.length → (ds.zip vs).map (·.1) = ds
  | [], [], _ => rfl
  | d :: ds, v :: vs, h => by simp [zip_fst (ds := ds) (vs := vs) (by simpa using h)]
theorem readsAll_pick {h : Heap} : ∀ {ds : List D} {vs : List V} {us : List Value} {as : List Addr}, ds.length = vs.length → ReadsAll h us (pyDL ds) as → Vals vs us → PySem.W.EachIs (fun u (b : D × V) => ∃ as, Reads h u (pyD b.1) as) us (ds.zip vs)
  | [], _, _, _, hl, r, .nil => .nil
  | d :: ds, _, _, _, hl, r, .cons _ t => by
    simp only [pyDL] at r
    cases r with
    | cons h1 h2 => exact .cons ⟨_, h1⟩ (readsAll_pick (by simpa using hl) h2 t)
theorem each_vals : ∀ {us : List Value} {bs : List (D × V)}, PySem.W.EachIs (fun u (b : D × V) => L2.RelV b.2 u) us bs → Vals (bs.map (·.2)) us
  | _, _, .nil => .nil
  | _, _, .cons h t => .cons h (each_vals t)
theorem relL_zip {K : PySem.W.Frag} {H : Hp} {ρ : List Addr} : ∀ {ds : List D} {vs : List V}, RelL K H ρ ds vs → ∀ b ∈ ds.zip vs, Rel K H ρ b.1 b.2
  | [], _, r, b, m => by simp at m
  | d :: ds, _, r, b, m => by
    obtain ⟨v, w, rfl, r1, r2⟩ := r
    rw [List.zip_cons_cons] at m
    rcases List.mem_cons.mp m with rfl | m
    · exact r1
    · exact relL_zip r2 b m
theorem relL_map {K : PySem.W.Frag} {H : Hp} {ρ : List Addr} : ∀ {bs : List (D × V)}, (∀ b ∈ bs, Rel K H ρ b.1 b.2) → RelL K H ρ (bs.map (·.1)) (bs.map (·.2))
  | [], _ => RelL.nil
  | b :: bs, h => .cons (h b List.mem_cons_self) (relL_map fun c m => h c (List.mem_cons_of_mem _ m))
section
variable {X : Cx}
theorem call_sortedD (hu : X.A.units + 70 < cLine) : CallN X (.builtin "sorted") fSorted := by
  intro pins s σ H xs us Q I r h
  obtain ⟨ρ, S, ds, es, rs, rl, e, q⟩ := h
  unfold fSorted at e
  split at e
  · rename_i d
    obtain ⟨ys, e1, e⟩ := bind_some e
    split at e
    · rename_i ho
      cases e
      simp only [Bool.and_eq_true] at ho
      obtain ⟨⟨⟨ho, hal⟩, hs⟩, hz⟩ := ho
      obtain ⟨v, rfl, r1⟩ := relL1 rl
      obtain ⟨u, rfl, ru⟩ := vals1 r
      obtain ⟨p, vs, rfl, h1, r2⟩ := lst_of rs e1 r1
      obtain rfl : u = Value.ref p := ru
      obtain ⟨its, rv, hl, _⟩ := I.list h1
      obtain ⟨as, ra⟩ := Dp.readsAll I _ vs its (dp_ofL 62 _ vs ho r2) rv
      have hlen : ys.length = vs.length := r2.length.symm
      have al := alkAll_py ho hal
      have dep := (okD_layL 62 _ ho).2
      have em : (ys.zip vs).map (fun b => pyD b.1) = pyDL ys := by
        rw [pyDL_map, ← zip_fst hlen, List.map_map, zip_fst hlen]; rfl
      have hzl : (ys.zip vs).length = ys.length := by simp [hlen]
      refine PySem.W.sorted_data (enc := fun b : D × V => pyD b.1) (R := fun u (b : D × V) => L2.RelV b.2 u) (bs := ys.zip vs) hl.isList (eachOf hlen rv) (readsAll_pick hlen ra rv) (by rw [em]; exact fun x hx y hy => al.1 x hx y hy) ?_ (by rw [hzl]; exact of_decide_eq_true hz) (fun b hb => ?_) fun out ho2 eo => ?_
      · rw [em, pyDL_map]
        unfold sortable at hs
        rcases Bool.or_eq_true_iff.mp hs with hs | hs
        · left
          intro x hx
          obtain ⟨a, ha, rfl⟩ := List.mem_map.mp hx
          have := List.all_eq_true.mp hs a ha
          split at this
          · exact ⟨_, _, by simp [pyD, pyDL]; exact ⟨rfl, rfl⟩⟩
          · cases this
        · right
          intro x hx
          obtain ⟨a, ha, rfl⟩ := List.mem_map.mp hx
          have h2 := List.all_eq_true.mp hs a ha
          have h3 := okDL_mem ho ha
          refine ⟨al.2 _ (by rw [pyDL_map]; exact hx), fun xs e => ?_⟩
          cases a <;> simp [pyD] at e h2
      · have hm : b.1 ∈ ys := by
          rw [← zip_fst hlen]
          exact List.mem_map.mpr ⟨b, hb, rfl⟩
        have := (okD_lay 62 _ (okDL_mem ho hm)).2
        omega
      · obtain ⟨ep, he'⟩ := PyProof.Rows.sortedAll_at s.heap its out.toArray
        have esort : ((ys.zip vs).mergeSort (PySem.W.dataLe false fun b : D × V => pyD b.1)).map (·.1) = sortedD ys := by
          have := List.map_mergeSort (r := PySem.W.dataLe false fun b : D × V => pyD b.1) (s := leD) (f := fun b : D × V => b.1) (l := ys.zip vs) (fun a _ b _ => congrFun (congrFun dataLe_leD a) b)
          rw [this, zip_fst hlen]; rfl
        have hrel := relL_map (fun b hb => relL_zip r2 b ((List.mem_mergeSort (le := PySem.W.dataLe false fun b : D × V => pyD b.1)).mp hb))
        rw [esort] at hrel
        have hlenS : (((ys.zip vs).mergeSort (PySem.W.dataLe false fun b : D × V => pyD b.1)).map (·.2)).length ≤ sizeLine := by
          rw [List.length_map, List.length_mergeSort, hzl]; exact of_decide_eq_true hz
        exact ⟨.ref _, upd H (s.heap.objs.size + 1) (.lst _), I.laid (t' := s.toks) (fun _ _ => PyProof.Rows.sortedAll_old) (Nat.le_succ _) ⟨hlenS, out, ep, each_vals eo, he'⟩, rfl, q _ hrel _ (I.hok.fresh (Nat.le_succ _))⟩
    · cases e
  · cases e
end
end PD

set_option Elab.async false
set_option linter.all false
set_option maxRecDepth 100000
set_option maxHeartbeats 4000000
/-! PdMore: slices of anything, not as a value. -/
namespace PD
open PySem PySem.Spec PyProof.Rows L2

/-- a part of a tuple, a text, or of a list (a new one, kept) -/
def fCutK (d : D) (lo hi : Option Int) (S : Store) : Option (D × Store) := match lstOf d S with
  | some ds => some (.ref S.length, S ++ [.lst (cutD ds lo hi)])
  | none => (fCut d lo hi S).map fun d => (d, S)
/-- .. of a list: a new one that nobody keeps -/
def fCutT (d : D) (lo hi : Option Int) (S : Store) : Option (D × Store) := match lstOf d S with
  | some ds => some (.cl (cutD ds lo hi), S)
  | none => (fCut d lo hi S).map fun d => (d, S)
def mCutG (f : D → Option Int → Option Int → Store → Option (D × Store)) (a : ME) (l u : MO) : ME := fun env S => (a env S).bind fun p => (l env p.2).bind fun q => (u env q.2).bind fun r => f p.1 q.1 r.1 r.2
section
variable {X : Cx} {a : Expr} {lo hi : Option Expr} {ma : ME} {l u : MO} {pos p2 : Pos}
theorem cut_core {K : PySem.W.Frag} {H : Hp} {ρ : List Addr} {S : Store} {x d : D} {v : V} {i j : Option Int} {Q : VK} (s : RelS K H ρ S) (r3 : Rel K H ρ x v) (e4 : fCut x i j S = some d)
    (q : ∀ v H' ρ', Go K H ρ H' ρ' S → Rel K H' ρ' d v → Q v H') : rSlA K v i j H Q ∨ rSlS v i j H Q := by
  unfold fCut at e4
  split at e4
  · cases e4
    obtain ⟨p, vs, rfl, h1, r4⟩ := r3.of_tup
    refine .inl ⟨p, vs, rfl, h1, fun ⟨w1, w2⟩ => ?_, fun _ p n => ?_⟩
    · refine q _ _ _ (.refl s) ?_
      have ew : ∀ ds : List D, vs.length = ds.length → cutD ds i j = ds := fun ds hl => by
        unfold cutD
        rw [← hl, w1, w2, List.drop_zero, Nat.sub_zero, hl, List.take_length]
      rw [ew _ r4.length]
      exact r3
    · obtain ⟨g4, r5⟩ := newTup s (cut_rel (lo := i) (hi := j) r4) n
      exact q _ _ _ g4 r5
  · split at e4
    · cases e4
      cases r3.of_str
      exact .inr ⟨_, rfl, by assumption, q _ _ _ (.refl s) (rel_str _)⟩
    · cases e4
  · cases e4
theorem pm_cutG {f : D → Option Int → Option Int → Store → Option (D × Store)}
    (hf : ∀ (H : Hp) (ρ : List Addr) (S S' : Store) (x d : D) (v : V) (i j : Option Int) (Q : VK), RelS X.K H ρ S → Rel X.K H ρ x v → f x i j S = some (d, S') → (∀ v H' ρ', Go X.K H ρ H' ρ' S' → Rel X.K H' ρ' d v → Q v H') → (rSlA X.K v i j H Q ∨ rSlS v i j H Q) ∨ rSlL X.K v i j H Q)
    (ha : PM X a ma) (hl : PMO X lo l) (hu : PMO X hi u) : PM X (.Subscript a (.Slice lo hi none p2) pos) (mCutG f ma l u) :=
  PEi (pe_slice ((sl_tupA.or sl_str).or sl_list) ha hl hu) fun σ H Q ⟨ρ, env, S, d, S', L, e, q⟩ => by
    obtain ⟨⟨x, S1⟩, e1, e⟩ := bind_some e
    obtain ⟨⟨i, S2⟩, e2, e⟩ := bind_some e
    obtain ⟨⟨j, S3⟩, e3, e⟩ := bind_some e
    refine tM_at L e1 fun v H1 ρ1 g1 r1 => ⟨ρ1, env, S1, i, S2, L.next g1, e2, fun H2 ρ2 g2 => ⟨ρ2, env, S2, j, S3, (L.next g1).next g2, e3, fun H3 ρ3 g3 => ?_⟩⟩
    have g := (g1.trans g2).trans g3
    exact hf H3 ρ3 S3 S' x d v i j _ g3.s (r1.mono (g2.le.trans g3.le)) e fun v H' ρ' g4 r => q v H' ρ' (g.trans g4) r
theorem pm_cutK (ha : PM X a ma) (hl : PMO X lo l) (hu : PMO X hi u) : PM X (.Subscript a (.Slice lo hi none p2) pos) (mCutG fCutK ma l u) :=
  pm_cutG (fun H ρ S S' x d v i j Q s r e q => by
    unfold fCutK at e
    split at e
    · rename_i ds h
      cases e
      obtain ⟨p, vs, rfl, h1, r4⟩ := lst_of s h r
      exact .inr ⟨p, vs, rfl, h1, fun p n => by
        obtain ⟨g, r5⟩ := newLst s (cut_rel (lo := i) (hi := j) r4) n
        exact q _ _ _ g r5⟩
    · obtain ⟨d', e1, e2⟩ := map_some e
      cases e2
      exact .inl (cut_core s r e1 q)) ha hl hu
theorem pm_cutT (ha : PM X a ma) (hl : PMO X lo l) (hu : PMO X hi u) : PM X (.Subscript a (.Slice lo hi none p2) pos) (mCutG fCutT ma l u) :=
  pm_cutG (fun H ρ S S' x d v i j Q s r e q => by
    unfold fCutT at e
    split at e
    · rename_i ds h
      cases e
      obtain ⟨p, vs, rfl, h1, r4⟩ := lst_of s h r
      exact .inr ⟨p, vs, rfl, h1, fun p n => by
        have g2 : Go X.K H ρ (upd H p (.lst (cutV vs i j))) ρ S := Go.tup s n
        exact q _ _ _ g2 (rel_cl ⟨upd_same, notin_of s n⟩ ((cut_rel r4).mono g2.le))⟩
    · obtain ⟨d', e1, e2⟩ := map_some e
      cases e2
      exact .inl (cut_core s r e1 q)) ha hl hu
/-- not x as a value -/
def mNotV (a : ME) : ME := fun env S => (a env S).bind fun p => (truD p.1 p.2).map fun k => (.bl (!k), p.2)
theorem pm_notV (ha : PM X a ma) : PM X (.UnaryOp .Not a pos) (mNotV ma) := PEi (pe_notT ha) fun σ H Q ⟨ρ, env, S, d, S', L, e, q⟩ => by
  obtain ⟨⟨x, S1⟩, e1, e⟩ := bind_some e
  obtain ⟨k, e2, e⟩ := map_some e
  cases e
  exact tM_at L e1 fun v H1 ρ1 g1 r1 => ⟨k, tru_rel g1.s r1 e2, q _ _ _ g1 (rel_bl _)⟩
end

/-- a, b, c = x, y, z (all written) -/
def sPar3 (i j l : Nat) (a : MA) : MS := fun env S => (a env S).bind fun p => match p.1 with
  | [x, y, z] => some (.nx (((env.set i (some x)).set j (some y)).set l (some z)) p.2)
  | _ => none
theorem ps_mpar3 {X : Cx} {i j l : Nat} {x y z : Str} {e1 e2 e3 : Expr} {ma : MA} {px py pz pt pos : Pos} {kt k2 pt2} (hc : X.calm = true) (hN : X.N.Nodup) (hi : X.N[i]? = some x) (hj : X.N[j]? = some y) (hl : X.N[l]? = some z) (hij : i ≠ j) (hil : i ≠ l) (hjl : j ≠ l)
    (hx : X.env.scope.names.lookup x = some .local) (hy : X.env.scope.names.lookup y = some .local) (hz : X.env.scope.names.lookup z = some .local) (ha : PMA X [e1, e2, e3] ma)
    (hw : swappedStores [.Tuple [.Name x px, .Name y py, .Name z pz] kt pt] (.Tuple [e1, e2, e3] k2 pt2) X.env = pure (some [x, y, z]))
    (hs : swapsWithSole [.Tuple [.Name x px, .Name y py, .Name z pz] kt pt] (.Tuple [e1, e2, e3] k2 pt2) pos.line X.env = pure false := by rfl) :
    PMS X (.Assign [.Tuple [.Name x px, .Name y py, .Name z pz] kt pt] (.Tuple [e1, e2, e3] k2 pt2) pos) (sPar3 i j l ma) := PSi (ps_par3 hc hN hi hj hl hij hil hjl hx hy hz ha hw hs) fun D σ H ⟨ρ, env, S, o, L, e, q⟩ => by
  obtain ⟨⟨ds, S1⟩, e1, e⟩ := bind_some e
  dsimp only at e
  split at e
  · rename_i d1 d2 d3
    cases e
    refine tMA_at L e1 fun vs H1 ρ1 g1 r1 => ?_
    obtain ⟨v, u, w, rfl, r2, r3, r4⟩ := relL3 r1
    exact ⟨v, u, w, rfl, q _ _ _ g1 ((((L.e.mono g1.le).set i r2).set j r3).set l r4)⟩
  · cases e

/-! ### names of built-ins -/
theorem bt_len : bootBuiltins "len" = some (.builtin "len") := by decide +kernel
theorem bt_tuple : bootBuiltins "tuple" = some (.type "tuple") := by decide +kernel
theorem bt_int : bootBuiltins "int" = some (.type "int") := by decide +kernel
theorem bt_abs : bootBuiltins "abs" = some (.builtin "abs") := by decide +kernel
theorem bt_str : bootBuiltins "str" = some (.type "str") := by decide +kernel
theorem bt_min : bootBuiltins "min" = some (.builtin "min") := by decide +kernel
theorem bt_max : bootBuiltins "max" = some (.builtin "max") := by decide +kernel
theorem bt_sum : bootBuiltins "sum" = some (.builtin "sum") := by decide +kernel
theorem bt_list : bootBuiltins "list" = some (.type "list") := by decide +kernel
theorem bt_sorted : bootBuiltins "sorted" = some (.builtin "sorted") := by decide +kernel
theorem bt_range : bootBuiltins "range" = some (.type "range") := by decide +kernel
theorem bt_zip : bootBuiltins "zip" = some (.type "zip") := by decide +kernel
theorem bt_isinstance : bootBuiltins "isinstance" = some (.builtin "isinstance") := by decide +kernel
theorem bt_all : bootBuiltins "all" = some (.builtin "all") := by decide +kernel
theorem bt_any : bootBuiltins "any" = some (.builtin "any") := by decide +kernel
theorem bt_bool : bootBuiltins "bool" = some (.type "bool") := by decide +kernel
theorem bt_set : bootBuiltins "set" = some (.type "set") := by decide +kernel
theorem bt_dict : bootBuiltins "dict" = some (.type "dict") := by decide +kernel
theorem bt_enumerate : bootBuiltins "enumerate" = some (.type "enumerate") := by decide +kernel
theorem bt_reversed : bootBuiltins "reversed" = some (.type "reversed") := by decide +kernel
end PD

set_option Elab.async false
set_option linter.all false
set_option maxRecDepth 100000
set_option maxHeartbeats 4000000
/-! PdPlain: reckoning with meanings, in plain Lean. -/
namespace PD
open PySem PySem.Spec PyProof.Rows L2

/-! ### one step at a time (no step by rfl alone: the kernel would try to reckon) -/
@[simp high] theorem ob_some {α β : Type} (a : α) (f : α → Option β) : (some a).bind f = f a := id rfl
@[simp high] theorem ob_none {α β : Type} (f : α → Option β) : (none : Option α).bind f = none := id rfl
@[simp high] theorem om_some {α β : Type} (a : α) (f : α → β) : (some a).map f = some (f a) := id rfl
@[simp high] theorem om_none {α β : Type} (f : α → β) : (none : Option α).map f = none := id rfl
section
variable {env : DEnv} {S : Store}
@[simp] theorem ev_var (i : Nat) : mVar i env S = match env[i]? with
  | some (some d) => some (d, S)
  | _ => none := id rfl
@[simp] theorem ev_C (d : D) : mC d env S = some (d, S) := id rfl
@[simp] theorem ev_2 (f : F2) (a b : ME) : m2 f a b env S = (a env S).bind fun p => (b env p.2).bind fun q => f p.1 q.1 q.2 := id rfl
@[simp] theorem ev_1 (f : F1) (a : ME) : m1 f a env S = (a env S).bind fun p => f p.1 p.2 := id rfl
@[simp] theorem ev_cmp (f : C2) (a b : ME) : mCmp f a b env S = (a env S).bind fun p => (b env p.2).bind fun q => (f p.1 q.1 q.2).map fun k => (k, q.2) := id rfl
@[simp] theorem ev_bl (t : MT) : mBl t env S = (t env S).map fun p => (.bl p.1, p.2) := id rfl
@[simp] theorem ev_tru (a : ME) : mTru a env S = (a env S).bind fun p => (truD p.1 p.2).map fun k => (k, p.2) := id rfl
@[simp] theorem ev_and (t u : MT) : mAnd t u env S = (t env S).bind fun p => if p.1 then u env p.2 else some (false, p.2) := id rfl
@[simp] theorem ev_or (t u : MT) : mOr t u env S = (t env S).bind fun p => if p.1 then some (true, p.2) else u env p.2 := id rfl
@[simp] theorem ev_not (t : MT) : mNot t env S = (t env S).map fun p => (!p.1, p.2) := id rfl
@[simp] theorem ev_notV (a : ME) : mNotV a env S = (a env S).bind fun p => (truD p.1 p.2).map fun k => (.bl (!k), p.2) := id rfl
@[simp] theorem ev_if (t : MT) (a b : ME) : mIf t a b env S = (t env S).bind fun p => if p.1 then a env p.2 else b env p.2 := id rfl
@[simp] theorem ev_andV (a b : ME) : mAndV a b env S = (a env S).bind fun p => (truD p.1 p.2).bind fun k => if k then b env p.2 else some p := id rfl
@[simp] theorem ev_orV (a b : ME) : mOrV a b env S = (a env S).bind fun p => (truD p.1 p.2).bind fun k => if k then some p else b env p.2 := id rfl
@[simp] theorem ev_nil : mNil env S = some ([], S) := id rfl
@[simp] theorem ev_cons (a : ME) (r : MA) : mCons a r env S = (a env S).bind fun p => (r env p.2).map fun q => (p.1 :: q.1, q.2) := id rfl
@[simp] theorem ev_tup (a : MA) : mTup a env S = (a env S).bind fun p => if okLen p.1.length then some (.tup p.1, p.2) else none := id rfl
@[simp] theorem ev_tmp (a : MA) : mTmp a env S = (a env S).map fun p => (.cl p.1, p.2) := id rfl
@[simp] theorem ev_new (a : MA) : mNew a env S = (a env S).map fun p => (.ref p.2.length, p.2 ++ [.lst p.1]) := id rfl
@[simp] theorem ev_lst (a : MA) : mLst a env S = (a env S).bind fun p => if okLen p.1.length then some p else none := id rfl
@[simp] theorem ev_call (f : FL) (a : MA) : mCall f a env S = (a env S).bind fun p => f p.1 p.2 := id rfl
@[simp] theorem ev_callN (f : FN) (a : MA) : mCallN f a env S = (a env S).bind fun p => (f p.1 p.2).map fun ds => (ds, p.2) := id rfl
@[simp] theorem ev_fn (n : Nat) (φ : FL) (a : MA) : mFn n φ a env S = (a env S).bind fun p => if p.1.length = n then φ p.1 p.2 else none := id rfl
@[simp] theorem ev_isi (T : String) (a : ME) : mIsi T a env S = (a env S).bind fun p => (tyD p.1 p.2).map fun t => (.bl (isiB t T), p.2) := id rfl
@[simp] theorem ev_meth (T : String) (f : D → FL) (o : ME) (a : MA) : mMeth T f o a env S = (o env S).bind fun p => if tyD p.1 p.2 = some T then (a env p.2).bind fun q => f p.1 q.1 q.2 else none := id rfl
@[simp] theorem ev_cutG (f : D → Option Int → Option Int → Store → Option (D × Store)) (a : ME) (l u : MO) : mCutG f a l u env S = (a env S).bind fun p => (l env p.2).bind fun q => (u env q.2).bind fun r => f p.1 q.1 r.1 r.2 := id rfl
@[simp] theorem ev_noPart : mNoPart env S = some (none, S) := id rfl
@[simp] theorem ev_part (a : ME) : mPart a env S = (a env S).bind fun p => match p.1 with
  | .int i => some (some i, p.2)
  | _ => none := id rfl
@[simp] theorem ev_yes : mYes env S = some (true, S) := id rfl
@[simp] theorem ev_gName (i : Nat) (d : D) : mgName i d env S = some (env.set i (some d), S) := id rfl
@[simp] theorem ev_gNil (ds : List D) : mgNil ds env S = match ds with
  | [] => some (env, S)
  | _ => none := id rfl
@[simp] theorem ev_gCons (g : MG) (r : MGs) (d : D) (ds : List D) : mgCons g r (d :: ds) env S = (g d env S).bind fun p => r ds p.1 p.2 := id rfl
@[simp] theorem ev_gTup (n : Nat) (g : MGs) (d : D) : mgTup n g d env S = match d with
  | .tup ds => if ds.length = n then g ds env S else none
  | _ => none := id rfl
@[simp] theorem ev_gSub (o i : ME) (d : D) : mgSub o i d env S = (o env S).bind fun p => (i env p.2).bind fun q => match p.1, q.1 with
  | .ref j, .int k => match q.2[j]? with
    | some (.lst xs) => (ixN xs.length k).map fun m => (env, q.2.set j (.lst (xs.set m d)))
    | _ => none
  | _, _ => none := id rfl
@[simp] theorem ev_pass : sPass env S = some (.nx env S) := id rfl
@[simp] theorem ev_break : sBreak env S = some (.bk env S) := id rfl
@[simp] theorem ev_cont : sCont env S = some (.ct env S) := id rfl
@[simp] theorem ev_expr (m : ME) : sExpr m env S = (m env S).map fun p => .nx env p.2 := id rfl
@[simp] theorem ev_ret (m : ME) : sRet m env S = (m env S).map fun p => .rt p.1 p.2 := id rfl
@[simp] theorem ev_retN : sRetN env S = some (.rt .non S) := id rfl
@[simp] theorem ev_sif (t : MT) (a b : MS) : sIf t a b env S = (t env S).bind fun p => if p.1 then a env p.2 else b env p.2 := id rfl
@[simp] theorem ev_asg (m : ME) (g : MG) : sAsg m g env S = (m env S).bind fun p => (g p.1 env p.2).map fun q => .nx q.1 q.2 := id rfl
@[simp] theorem ev_par2 (i j : Nat) (a : MA) : sPar2 i j a env S = (a env S).bind fun p => match p.1 with
  | [x, y] => some (.nx ((env.set i (some x)).set j (some y)) p.2)
  | _ => none := id rfl
@[simp] theorem ev_par3 (i j l : Nat) (a : MA) : sPar3 i j l a env S = (a env S).bind fun p => match p.1 with
  | [x, y, z] => some (.nx (((env.set i (some x)).set j (some y)).set l (some z)) p.2)
  | _ => none := id rfl
@[simp] theorem ev_aug (f : F2) (i : Nat) (m : ME) : sAug f i m env S = match env[i]? with
  | some (some x) => (m env S).bind fun p => (f x p.1 p.2).map fun q => .nx (env.set i (some q.1)) q.2
  | _ => none := id rfl
@[simp] theorem ev_for (it : MI) (g : MG) (b : MS) : sFor it g b env S = (it env S).bind fun p => forGo p.2.1 g b p.1 env p.2.2 := id rfl
@[simp] theorem ev_range1 (a : ME) : iRange1 a env S = (a env S).bind fun p => match p.1 with
  | .int j => if small62 j then some (ramp 0 1 j.toNat, [], p.2) else none
  | _ => none := id rfl
@[simp] theorem ev_range2 (a b : ME) : iRange2 a b env S = (a env S).bind fun p => (b env p.2).bind fun q => match p.1, q.1 with
  | .int i, .int j => if small62 i && small62 j then some (ramp i 1 (j - i).toNat, [], q.2) else none
  | _, _ => none := id rfl
@[simp] theorem ev_iseq (m : ME) : iSeq m env S = (m env S).bind fun p => match p.1 with
  | .tup ds => some (ds, [], p.2)
  | .cl ds => some (ds, [], p.2)
  | .str z => some (signs z, [], p.2)
  | .ref i => match p.2[i]? with
    | some (.lst ds) => some (ds, [i], p.2)
    | _ => none
  | _ => none := id rfl
/-- x comes to y (kept apart from =, so that simp reckons x alone) -/
structure Is {α : Type} (x : Option α) (y : α) : Prop where
  eq : x = some y
theorem Is.mk' {α : Type} {y : α} : Is (some y) y := ⟨rfl⟩
/-- the first statement goes on -/
theorem seq_nx {a b : MS} {env' : DEnv} {S' : Store} {r : Option Out} (h : Is (a env S) (.nx env' S')) (h2 : b env' S' = r) : sSeq a b env S = r := by
  unfold sSeq; rw [h.eq]; exact h2
theorem seq_rt {a b : MS} {d : D} {S' : Store} (h : a env S = some (.rt d S')) : sSeq a b env S = some (.rt d S') := by
  unfold sSeq; rw [h]; rfl
theorem ev_seq (a b : MS) : sSeq a b env S = (a env S).bind fun o => match o with
  | .nx env' S' => b env' S'
  | o => some o := id rfl
@[simp] theorem ev_lcT (it : MI) (g : MG) (t : MT) (elt : ME) (vs : List Nat) : mLcT it g t elt vs env S = (it env S).bind fun p =>
  if kept p.2.1 p.2.2 (p.2.2 ++ [.lst []]) then (lcGo p.2.1 p.2.2.length g t elt (wipeE env vs) p.1 (p.2.2 ++ [.lst []])).bind fun S' => tempOf p.2.2 S' else none := id rfl
@[simp] theorem ev_lc (it : MI) (g : MG) (t : MT) (elt : ME) (vs : List Nat) : mLc it g t elt vs env S = (it env S).bind fun p =>
  if kept p.2.1 p.2.2 (p.2.2 ++ [.lst []]) then (lcGo p.2.1 p.2.2.length g t elt (wipeE env vs) p.1 (p.2.2 ++ [.lst []])).map fun S' => (.ref p.2.2.length, S') else none := id rfl
end
@[simp] theorem forGo_nil {deps : List Nat} {g : MG} {b : MS} {env : DEnv} {S : Store} : forGo deps g b [] env S = some (.nx env S) := id rfl
@[simp] theorem kept_nil (S S' : Store) : kept [] S S' = true := id rfl
theorem kept_same {deps : List Nat} {S S' : Store} (h : ∀ i ∈ deps, S'[i]? = S[i]?) : kept deps S S' = true := by
  unfold kept
  rw [List.all_eq_true]
  exact fun i hi => decide_eq_true (h i hi)
theorem sizeL : (10000000 : Nat) ≤ sizeLine := by rw [sizeLine_eq]; decide
theorem okLen_of {n : Nat} (h : n ≤ 10000000) : okLen n = true := decide_eq_true (Nat.le_trans h sizeL)

/-! ### loops -/
/-- a turn of a for goes on -/
def Turns (g : MG) (b : MS) (deps : List Nat) (d : D) (env : DEnv) (S : Store) (env' : DEnv) (S' : Store) : Prop :=
  ∃ env1 S1, g d env S = some (env1, S1) ∧ (b env1 S1 = some (.nx env' S') ∨ b env1 S1 = some (.ct env' S')) ∧ kept deps S S' = true
theorem for_inv {deps : List Nat} {g : MG} {b : MS} {items : List D} (P : Nat → DEnv → Store → Prop)
    (step : ∀ i d, items[i]? = some d → ∀ env S, P i env S → ∃ env' S', Turns g b deps d env S env' S' ∧ P (i + 1) env' S') :
    ∀ {env : DEnv} {S : Store}, P 0 env S → ∃ env' S', forGo deps g b items env S = some (.nx env' S') ∧ P items.length env' S' := by
  induction items generalizing P with
  | nil => exact fun h => ⟨_, _, rfl, h⟩
  | cons d r ih =>
    intro env S h
    obtain ⟨env1, S1, ⟨env2, S2, e1, e2, e3⟩, p1⟩ := step 0 d rfl env S h
    obtain ⟨env', S', e4, p2⟩ := ih (fun i => P (i + 1)) (fun i d hi env S p => step (i + 1) d (by simpa using hi) env S p) p1
    refine ⟨env', S', ?_, p2⟩
    rw [forGo, e1, Option.bind_some]
    rcases e2 with e2 | e2
    · rw [e2, Option.bind_some]
      dsimp only
      rw [if_pos e3]; exact e4
    · rw [e2, Option.bind_some]
      dsimp only
      rw [if_pos e3]; exact e4
theorem Turns.nx {g : MG} {b : MS} {deps : List Nat} {d : D} {env env1 env' : DEnv} {S S1 S' : Store} (h1 : g d env S = some (env1, S1)) (h2 : Is (b env1 S1) (.nx env' S')) (h3 : kept deps S S' = true) : Turns g b deps d env S env' S' := ⟨env1, S1, h1, .inl h2.eq, h3⟩
/-- the turns of a comprehension, over a front store T that it may change -/
def LcTurn (g : MG) (t : MT) (elt : ME) (deps : List Nat) (env : DEnv) (d : D) (T : Store) (acc : List D) (T' : Store) (acc' : List D) : Prop :=
  ∃ env1 b S1, g d env (T ++ [.lst acc]) = some (env1, T ++ [.lst acc]) ∧ t env1 (T ++ [.lst acc]) = some (b, S1) ∧
    ((b = false ∧ S1 = T' ++ [.lst acc] ∧ acc' = acc) ∨ (b = true ∧ ∃ x, elt env1 S1 = some (x, T' ++ [.lst acc]) ∧ acc' = acc ++ [x])) ∧ T'.length = T.length ∧ ∀ i ∈ deps, T'[i]? = T[i]? ∧ i < T.length
theorem lc_inv {deps : List Nat} {n : Nat} {g : MG} {t : MT} {elt : ME} {env : DEnv} {items : List D} (P : Nat → List D → Store → Prop) (hn : items.length ≤ 1000000)
    (step : ∀ i d, items[i]? = some d → ∀ acc T, P i acc T → T.length = n → acc.length ≤ i → ∃ acc' T', LcTurn g t elt deps env d T acc T' acc' ∧ P (i + 1) acc' T') :
    ∀ {T : Store}, P 0 [] T → T.length = n → ∃ acc T', lcGo deps n g t elt env items (T ++ [.lst []]) = some (T' ++ [.lst acc]) ∧ P items.length acc T' ∧ T'.length = n ∧ acc.length ≤ items.length := by
  have key : ∀ (r : List D) (i : Nat) (acc : List D) (T : Store), items.drop i = r → i ≤ items.length → P i acc T → T.length = n → acc.length ≤ i → ∃ acc' T', lcGo deps n g t elt env r (T ++ [.lst acc]) = some (T' ++ [.lst acc']) ∧ P items.length acc' T' ∧ T'.length = n ∧ acc'.length ≤ items.length := by
    intro r
    induction r with
    | nil =>
      intro i acc T hd hi h hT ha
      have : i = items.length := by
        have := congrArg List.length hd
        rw [List.length_drop] at this
        simp at this
        omega
      subst this
      exact ⟨acc, T, rfl, h, hT, ha⟩
    | cons d r ih =>
      intro i acc T hd hi h hT ha
      have hlt : i < items.length := by
        have := congrArg List.length hd
        rw [List.length_drop] at this
        simp at this
        omega
      have hx : items[i]? = some d := by
        have h2 : (items.drop i)[0]? = some d := by rw [hd]; rfl
        rwa [List.getElem?_drop, Nat.add_zero] at h2
      have hr : items.drop (i + 1) = r := by
        have h2 := congrArg List.tail hd
        rwa [List.tail_drop] at h2
      obtain ⟨acc1, T1, ⟨env1, b, S1, e1, e2, e3, e4, e5⟩, p1⟩ := step i d hx acc T h hT ha
      have hk : ∀ x : O, kept deps (T ++ [.lst acc]) (T1 ++ [x]) = true := fun x => kept_same fun j hj => by
        obtain ⟨h1, h2⟩ := e5 j hj
        rw [List.getElem?_append_left (by rw [e4]; exact h2), List.getElem?_append_left h2, h1]
      have hl : (T1 ++ [O.lst acc])[n]? = some (.lst acc) := by
        rw [List.getElem?_append_right (by omega), show n - T1.length = 0 by omega]; rfl
      rcases e3 with ⟨rfl, rfl, rfl⟩ | ⟨rfl, x, e3, rfl⟩
      · obtain ⟨acc', T', e6, p2⟩ := ih (i + 1) _ T1 hr hlt p1 (by omega) (by omega)
        refine ⟨acc', T', ?_, p2⟩
        rw [lcGo, e1, Option.bind_some]
        dsimp only
        rw [e2, Option.bind_some]
        dsimp only
        rw [if_neg Bool.false_ne_true, if_pos (hk _)]
        exact e6
      · obtain ⟨acc', T', e6, p2⟩ := ih (i + 1) _ T1 hr hlt p1 (by omega) (by rw [List.length_append]; simp; omega)
        refine ⟨acc', T', ?_, p2⟩
        rw [lcGo, e1, Option.bind_some]
        dsimp only
        rw [e2, Option.bind_some]
        dsimp only
        rw [if_pos rfl, e3, Option.bind_some]
        have hp : putAt n x (T1 ++ [.lst acc]) = some (T1 ++ [.lst (acc ++ [x])]) := by
          unfold putAt
          rw [hl]
          dsimp only
          rw [if_pos (by have := sizeL; omega)]
          rw [List.set_append_right _ _ (by omega), show n - T1.length = 0 by omega]; rfl
        dsimp only
        rw [hp, Option.bind_some, if_pos (hk _)]
        exact e6
  intro T h hT
  exact key items 0 [] T (List.drop_zero) (Nat.zero_le _) h hT (Nat.zero_le _)
theorem keepLo_refl (n : Nat) : ∀ S X : Store, keepLo n S (S ++ X) = true
  | [], X => by cases X <;> rfl
  | o :: S, X => by rw [List.cons_append, keepLo, keepLo_refl n S X]; simp
theorem keepLo_refl' (n : Nat) (S : Store) : keepLo n S S = true := by
  have := keepLo_refl n S []
  rwa [List.append_nil] at this
theorem keepLo_append {n : Nat} : ∀ {A A' : Store} (B : Store), A'.length = A.length → keepLo n A A' = true → keepLo n (A ++ B) (A' ++ B) = true
  | [], [], B, _, _ => keepLo_refl' n B
  | a :: A, a' :: A', B, hl, h => by
    rw [keepLo, Bool.and_eq_true] at h
    rw [List.cons_append, List.cons_append, keepLo, Bool.and_eq_true]
    exact ⟨h.1, keepLo_append B (by simpa using hl) h.2⟩
theorem temp_of {T T' : Store} {acc : List D} (hl : T'.length = T.length) (h1 : D.loL T.length acc = true) (h2 : keepLo T.length T T' = true) : tempOf T (T' ++ [.lst acc]) = some (.cl acc, T') := by
  unfold tempOf
  rw [List.getElem?_append_right (by omega), show T.length - T'.length = 0 by omega]
  simp only [List.getElem?_cons_zero]
  have h3 : keepLo T.length T (T' ++ [.lst acc]) = true := by
    have key : ∀ {n : Nat} (A A' X : Store), A'.length = A.length → keepLo n A A' = true → keepLo n A (A' ++ X) = true := by
      intro n A
      induction A with
      | nil => intro A' X _ _; cases (A' ++ X) <;> rfl
      | cons a A ih =>
        intro A' X hl h
        cases A' with
        | nil => cases hl
        | cons a' A' =>
          rw [keepLo, Bool.and_eq_true] at h
          rw [List.cons_append, keepLo, Bool.and_eq_true]
          exact ⟨h.1, ih A' X (by simpa using hl) h.2⟩
    exact key T T' _ hl h2
  rw [h1, h3]
  simp [← hl]
theorem trunc_len {S0 S : Store} {d : D} (h : S.length = S0.length) : trunc S0 S d = S := by
  unfold trunc
  split
  · rw [← h, List.take_length]
  · rfl
theorem trunc_app {S0 X : Store} {d : D} (h : d.lo S0.length = true) : trunc S0 (S0 ++ X) d = S0 := by
  unfold trunc
  rw [h, keepLo_refl]
  simp
theorem trunc_ref {S X : Store} {i : Nat} (h : S.length ≤ i) : trunc S X (.ref i) = X := by
  unfold trunc
  have : (D.ref i).lo S.length = false := by simp [D.lo]; omega
  rw [this]; rfl

/-! ### operators at known shapes -/
section
variable {S : Store}
@[simp] theorem ev_cInt2 (p : Int → Int → Bool) (z : Str → Str → Bool) (f : D → D → Bool) (i j : Int) : cInt2 (cInt p z) f (.int i) (.int j) S = some (p i j) := id rfl
@[simp] theorem ev_cInt2s (p : Int → Int → Bool) (z : Str → Str → Bool) (f : D → D → Bool) (x y : Str) : cInt2 (cInt p z) f (.str x) (.str y) S = some (z x y) := id rfl
@[simp] theorem ev_cEqI (i j : Int) : cEq (.int i) (.int j) S = some (i == j) := by
  unfold cEq scalD eqD; rfl
@[simp] theorem ev_cEqB (i j : Bool) : cEq (.bl i) (.bl j) S = some (i == j) := by
  unfold cEq scalD eqD; rfl
@[simp] theorem ev_cEqS (i j : Str) : cEq (.str i) (.str j) S = some (i == j) := by
  unfold cEq scalD eqD; rfl
@[simp] theorem ev_cEqNI (j : Int) : cEq .non (.int j) S = some false := by
  unfold cEq scalD eqD; rfl
@[simp] theorem ev_cNe (a b : D) : cNe a b S = (cEq a b S).map (!·) := id rfl
@[simp] theorem ev_isN (a : D) : cIs a .non S = some (decide (a = .non)) := by cases a <;> rfl
@[simp] theorem ev_isB (a b : Bool) : cIs (.bl a) (.bl b) S = some (decide (a = b)) := id rfl
@[simp] theorem ev_isNot (a b : D) : cIsNot a b S = (cIs a b S).map (!·) := id rfl
@[simp] theorem ev_fAdd (i j : Int) : fAdd (.int i) (.int j) S = some (.int (i + j), S) := id rfl
@[simp] theorem ev_fAddT (i j : Int) : fAddT (.int i) (.int j) S = some (.int (i + j), S) := id rfl
@[simp] theorem ev_fSub (i j : Int) : fSub (.int i) (.int j) S = some (.int (i - j), S) := id rfl
@[simp] theorem ev_smallF (i : Int) : smallF i = decide (-18446744073709551616 < i ∧ i < 18446744073709551616) := id rfl
@[simp] theorem ev_small62 (i : Int) : small62 i = decide (-4611686018427387904 ≤ i ∧ i < 4611686018427387904) := id rfl
theorem ev_fMul (i j : Int) : fMul (.int i) (.int j) S = if smallF i || smallF j then some (.int (i * j), S) else none := id rfl
@[simp] theorem ev_fMulR (i j : Int) (h : -18446744073709551616 < j ∧ j < 18446744073709551616) : fMul (.int i) (.int j) S = some (.int (i * j), S) := by
  rw [ev_fMul, if_pos]; simp [h]
@[simp] theorem ev_fMulL (i j : Int) (h : -18446744073709551616 < i ∧ i < 18446744073709551616) : fMul (.int i) (.int j) S = some (.int (i * j), S) := by
  rw [ev_fMul, if_pos]; simp [h]
@[simp] theorem ev_fDiv (i j : Int) (h : 0 < j ∧ j < 1073741824) : fDiv (.int i) (.int j) S = some (.int (i / j), S) := by
  show (if decide (0 < j ∧ j < 1073741824) then some (D.int (i / j), S) else none) = _
  rw [if_pos (decide_eq_true h)]
@[simp] theorem ev_fMod (i j : Int) (h : 0 < j) : fMod (.int i) (.int j) S = some (.int (i % j), S) := by
  show (if decide (0 < j) then some (D.int (i % j), S) else none) = _
  rw [if_pos (decide_eq_true h)]
@[simp] theorem ev_fPow18 : fPow (.int 10) (.int 18) S = some (.int 1000000000000000000, S) := id rfl
@[simp] theorem ev_fNeg (i : Int) : fNeg (.int i) S = some (.int (-i), S) := id rfl
@[simp] theorem ev_fInt (i : Int) : fInt [.int i] S = some (.int i, S) := id rfl
@[simp] theorem ev_fAbs (i : Int) : fAbs [.int i] S = some (.int (if i < 0 then -i else i), S) := id rfl
@[simp] theorem ev_lenT (ds : List D) : fLen [.tup ds] S = some (.int ds.length, S) := id rfl
@[simp] theorem ev_lenC (ds : List D) : fLen [.cl ds] S = some (.int ds.length, S) := id rfl
@[simp] theorem ev_lenF (ds : List D) : fLen [.fz ds] S = some (.int ds.length, S) := id rfl
@[simp] theorem ev_lenR (i : Nat) : fLen [.ref i] S = match S[i]? with
  | some (.lst xs) => some (.int xs.length, S)
  | _ => none := id rfl
@[simp] theorem ev_tyN : tyD .non S = some "NoneType" := id rfl
@[simp] theorem ev_tyB (b : Bool) : tyD (.bl b) S = some "bool" := id rfl
@[simp] theorem ev_tyI (b : Int) : tyD (.int b) S = some "int" := id rfl
@[simp] theorem ev_tyS (b : Str) : tyD (.str b) S = some "str" := id rfl
@[simp] theorem ev_tyT (b : List D) : tyD (.tup b) S = some "tuple" := id rfl
@[simp] theorem ev_tyC (b : List D) : tyD (.cl b) S = some "list" := id rfl
@[simp] theorem ev_truB (b : Bool) : truD (.bl b) S = some b := id rfl
@[simp] theorem ev_truI (b : Int) : truD (.int b) S = some (b != 0) := id rfl
@[simp] theorem ev_truN : truD .non S = some false := id rfl
theorem atI_nat' {α : Type} (xs : List α) (i : Nat) : atI xs (i : Int) = xs[i]? := by
  unfold atI ixN
  by_cases h : i < xs.length
  · rw [if_pos (by omega), if_pos (by omega)]; rfl
  · rw [if_pos (by omega), if_neg (by omega), List.getElem?_eq_none (by omega)]; rfl
theorem atI_zero' {α : Type} (xs : List α) : atI xs 0 = xs[0]? := atI_nat' xs 0
theorem atI_one' {α : Type} (xs : List α) : atI xs 1 = xs[1]? := atI_nat' xs 1
theorem atI_lit {α : Type} (xs : List α) (n : Nat) [OfNat Int n] : True := trivial
@[simp] theorem ev_ixT (ds : List D) (i : Int) : fIx (.tup ds) (.int i) S = (atI ds i).map fun d => (d, S) := id rfl
@[simp] theorem ev_ixC (ds : List D) (i : Int) : fIx (.cl ds) (.int i) S = (atI ds i).map fun d => (d, S) := id rfl
@[simp] theorem ev_ixF (ds : List D) (i : Int) : fIx (.fz ds) (.int i) S = (atI ds i).map fun d => (d, S) := id rfl
@[simp] theorem ev_ixR (j : Nat) (i : Int) : fIx (.ref j) (.int i) S = match S[j]? with
  | some (.lst ds) => (atI ds i).map fun d => (d, S)
  | _ => none := id rfl
@[simp] theorem ev_min2 (i j : Int) : fMin [.int i, .int j] S = some (.int (if j < i then j else i), S) := id rfl
@[simp] theorem ev_max2 (i j : Int) : fMax [.int i, .int j] S = some (.int (if i < j then j else i), S) := id rfl
@[simp] theorem ev_tupL (ds : List D) : fTuple [.cl ds] S = some (.tup ds, S) := id rfl
@[simp] theorem ev_tupT (ds : List D) : fTuple [.tup ds] S = some (.tup ds, S) := id rfl
@[simp] theorem ev_tupR (i : Nat) (ds : List D) (h : S[i]? = some (.lst ds)) : fTuple [.ref i] S = some (.tup ds, S) := by
  show (seqOf (.ref i) S).map _ = _
  simp [seqOf, lstOf, h]
end

/-! ### runs: x comes to something that P takes -/
structure Ex {α : Type} (x : Option α) (P : α → Prop) : Prop where
  ex : ∃ y, x = some y ∧ P y
theorem Ex.of {α : Type} {x : Option α} {y : α} {P : α → Prop} (h : Is x y) (p : P y) : Ex x P := ⟨y, h.eq, p⟩
theorem Ex.mk' {α : Type} {y : α} {P : α → Prop} (p : P y) : Ex (some y) P := ⟨y, rfl, p⟩
theorem Ex.imp {α : Type} {x : Option α} {P Q : α → Prop} (h : Ex x P) (i : ∀ y, P y → Q y) : Ex x Q := let ⟨⟨y, e, p⟩⟩ := h; ⟨y, e, i y p⟩
/-- behind a statement -/
def Then (b : MS) (Q : Out → Prop) : Out → Prop
  | .nx env S => Ex (b env S) Q
  | o => Q o
section
variable {env env' : DEnv} {S S' : Store} {Q : Out → Prop}
theorem ex_seq {a b : MS} (h : Is (a env S) (.nx env' S')) (h2 : Ex (b env' S') Q) : Ex (sSeq a b env S) Q := by
  obtain ⟨y, e, p⟩ := h2
  exact ⟨y, seq_nx h e, p⟩
theorem ex_then {a b : MS} (h : Ex (a env S) (Then b Q)) : Ex (sSeq a b env S) Q := by
  obtain ⟨y, e, p⟩ := h
  cases y with
  | nx env1 S1 =>
    obtain ⟨z, e2, q⟩ := p
    exact ⟨z, seq_nx ⟨e⟩ e2, q⟩
  | rt d S1 => exact ⟨_, seq_rt e, p⟩
  | bk env1 S1 => exact ⟨.bk env1 S1, by unfold sSeq; rw [e]; rfl, p⟩
  | ct env1 S1 => exact ⟨.ct env1 S1, by unfold sSeq; rw [e]; rfl, p⟩
theorem ex_if {t : MT} {a b : MS} {k : Bool} (h : Is (t env S) (k, S')) (h2 : Ex ((if k then a else b) env S') Q) : Ex (sIf t a b env S) Q := by
  obtain ⟨y, e, p⟩ := h2
  refine ⟨y, ?_, p⟩
  rw [ev_sif, h.eq]
  cases k <;> exact e
/-- the goal of a turn -/
def Nx (deps : List Nat) (S : Store) (P : DEnv → Store → Prop) : Out → Prop
  | .nx env' S' => kept deps S S' = true ∧ P env' S'
  | .ct env' S' => kept deps S S' = true ∧ P env' S'
  | _ => False
theorem for_ex {deps : List Nat} {g : MG} {b : MS} {items : List D} (P : Nat → DEnv → Store → Prop) (h0 : P 0 env S)
    (step : ∀ i d, items[i]? = some d → ∀ env S, P i env S → ∃ env1 S1, g d env S = some (env1, S1) ∧ Ex (b env1 S1) (Nx deps S (P (i + 1))))
    (fin : ∀ env' S', P items.length env' S' → Q (.nx env' S')) : Ex (forGo deps g b items env S) Q := by
  obtain ⟨env', S', e, p⟩ := for_inv (deps := deps) (g := g) (b := b) (items := items) P (fun i d hi env S p => by
    obtain ⟨env1, S1, e1, ⟨y, e2, q⟩⟩ := step i d hi env S p
    cases y with
    | nx env2 S2 => exact ⟨env2, S2, ⟨env1, S1, e1, .inl e2, q.1⟩, q.2⟩
    | ct env2 S2 => exact ⟨env2, S2, ⟨env1, S1, e1, .inr e2, q.1⟩, q.2⟩
    | rt _ _ => exact q.elim
    | bk _ _ => exact q.elim) h0
  exact ⟨_, e, fin _ _ p⟩
theorem ex_for {it : MI} {g : MG} {b : MS} {items : List D} {deps : List Nat} (h : Is (it env S) (items, deps, S')) (h2 : Ex (forGo deps g b items env S') Q) : Ex (sFor it g b env S) Q := by
  obtain ⟨y, e, p⟩ := h2
  refine ⟨y, ?_, p⟩
  rw [ev_for, h.eq]
  exact e
/-- a turn of an explicit walk -/
theorem ex_turn {deps : List Nat} {g : MG} {b : MS} {d : D} {r : List D} {env1 : DEnv} {S1 : Store} (h : g d env S = some (env1, S1)) (h2 : Ex (b env1 S1) (Nx deps S fun env' S' => Ex (forGo deps g b r env' S') Q)) : Ex (forGo deps g b (d :: r) env S) Q := by
  obtain ⟨y, e, p⟩ := h2
  cases y with
  | nx env2 S2 =>
    obtain ⟨k, ⟨z, e2, q⟩⟩ := p
    refine ⟨z, ?_, q⟩
    rw [forGo, h, Option.bind_some]
    dsimp only
    rw [e, Option.bind_some]
    dsimp only
    rw [if_pos k]; exact e2
  | ct env2 S2 =>
    obtain ⟨k, ⟨z, e2, q⟩⟩ := p
    refine ⟨z, ?_, q⟩
    rw [forGo, h, Option.bind_some]
    dsimp only
    rw [e, Option.bind_some]
    dsimp only
    rw [if_pos k]; exact e2
  | rt _ _ => exact p.elim
  | bk _ _ => exact p.elim
/-- what a def gives -/
theorem run_of {np ns : Nat} {b : MS} {ds : List D} {P : D → Store → Prop} (hl : ds.length = np) (h : Ex (b (ds.map some ++ List.replicate (ns - np) none) S) fun o => match o with
    | .rt d S' => P d (trunc S S' d)
    | .nx _ S' => P .non (trunc S S' .non)
    | _ => False) : ∃ d S', runBody np ns b ds S = some (d, S') ∧ P d S' := by
  obtain ⟨y, e, p⟩ := h
  unfold runBody
  rw [if_pos hl, e, Option.bind_some]
  cases y with
  | nx _ S1 => exact ⟨_, _, rfl, p⟩
  | rt d S1 => exact ⟨_, _, rfl, p⟩
  | bk _ _ => exact p.elim
  | ct _ _ => exact p.elim
/-- .. when the value is known and the store is as it was, but for what is behind -/
theorem run_eq {np ns : Nat} {b : MS} {ds : List D} {d : D} (hl : ds.length = np) (hd : d.lo S.length = true) (h : Ex (b (ds.map some ++ List.replicate (ns - np) none) S) fun o => ∃ X, o = .rt d (S ++ X)) : runBody np ns b ds S = some (d, S) := by
  obtain ⟨y, e, X, rfl⟩ := h
  unfold runBody
  rw [if_pos hl, e, Option.bind_some]
  simp only [trunc_app hd]
end

/-! ### order and rows of numbers -/
def zs (ns : List Int) : List D := ns.map .int
theorem zs_app (ns : List Int) (i : Int) : zs ns ++ [.int i] = zs (ns ++ [i]) := by simp [zs]
theorem pyDL_zs (ns : List Int) : pyDL (zs ns) = ns.map .int := by
  rw [pyDL_map, zs, List.map_map]
  exact List.map_congr_left fun x _ => by simp [pyD]
theorem ltD_rows (xs ys : List Int) : ltD (.tup (zs xs)) (.tup (zs ys)) = decide (xs < ys) := by
  rw [← PySem.W.dataLt_ints]
  unfold ltD
  simp only [pyD, pyDL_zs]
  rfl
theorem ltD_int (i j : Int) : ltD (.int i) (.int j) = decide (i < j) := by
  unfold ltD
  simp only [pyD]
  exact PySem.W.dataLt_int i j
theorem alkD_rows (xs ys : List Int) : alkD (.tup (zs xs)) (.tup (zs ys)) = true := by
  unfold alkD
  simp only [pyD, pyDL_zs, PySem.W.alike]
  exact PySem.W.alike_ints xs ys
theorem alkD_int (i j : Int) : alkD (.int i) (.int j) = true := by
  unfold alkD
  simp [pyD, PySem.W.alike]
theorem okDL_zs (n : Nat) : ∀ xs : List Int, okDL n (zs xs) = true
  | [] => by simp [zs, okDL]
  | x :: xs => by
    show okDL n (.int x :: zs xs) = true
    rw [okDL, okDL_zs n xs]
    simp [okD]
theorem okD_row (n : Nat) (xs : List Int) : okD (n + 1) (.tup (zs xs)) = true := by rw [okD]; exact okDL_zs n xs
theorem tupsOk_rows (xs ys : List Int) : tupsOk (.tup (zs xs)) (.tup (zs ys)) = true := by
  unfold tupsOk
  rw [okD_row, okD_row, alkD_rows]; rfl
def rowsOf (rs : List (List Int)) : List D := rs.map fun r => .tup (zs r)
theorem okDL_rows (n : Nat) : ∀ rs : List (List Int), okDL (n + 1) (rowsOf rs) = true
  | [] => by simp [rowsOf, okDL]
  | x :: xs => by
    show okDL (n + 1) (.tup (zs x) :: rowsOf xs) = true
    rw [okDL, okDL_rows n xs, okD_row]; rfl
theorem alkAll_rows (rs : List (List Int)) : alkAll (rowsOf rs) = true := by
  unfold alkAll rowsOf
  simp [List.all_eq_true, alkD_rows]
theorem alkAll_zs (rs : List Int) : alkAll (zs rs) = true := by
  unfold alkAll zs
  simp [List.all_eq_true, alkD_int]
theorem leastD_rows (r : List Int) (rs : List (List Int)) : leastD (.tup (zs r)) (rowsOf rs) = .tup (zs (rs.foldl (fun a y => if y < a then y else a) r)) := by
  unfold leastD rowsOf
  induction rs generalizing r with
  | nil => rfl
  | cons x xs ih =>
    rw [List.map_cons, List.foldl_cons, List.foldl_cons, ltD_rows]
    by_cases h : x < r
    · rw [if_pos (decide_eq_true h), if_pos h]; exact ih x
    · rw [if_neg (by simpa using h), if_neg h]; exact ih r
theorem mostD_zs (r : Int) (rs : List Int) : mostD (.int r) (zs rs) = .int (rs.foldl max r) := by
  unfold mostD zs
  induction rs generalizing r with
  | nil => rfl
  | cons x xs ih =>
    rw [List.map_cons, List.foldl_cons, List.foldl_cons, ltD_int]
    by_cases h : r < x
    · rw [if_pos (decide_eq_true h), show max r x = x by omega]; exact ih x
    · rw [if_neg (by simpa using h), show max r x = r by omega]; exact ih r
theorem leastD_zs (r : Int) (rs : List Int) : leastD (.int r) (zs rs) = .int (rs.foldl min r) := by
  unfold leastD zs
  induction rs generalizing r with
  | nil => rfl
  | cons x xs ih =>
    rw [List.map_cons, List.foldl_cons, List.foldl_cons, ltD_int]
    by_cases h : x < r
    · rw [if_pos (decide_eq_true h), show min r x = x by omega]; exact ih x
    · rw [if_neg (by simpa using h), show min r x = r by omega]; exact ih r
theorem foldl_max_spec (r : Int) (rs : List Int) : r ≤ rs.foldl max r ∧ (∀ x ∈ rs, x ≤ rs.foldl max r) ∧ (rs.foldl max r = r ∨ rs.foldl max r ∈ rs) := by
  induction rs generalizing r with
  | nil => simp
  | cons x xs ih =>
    rw [List.foldl_cons]
    obtain ⟨h1, h2, h3⟩ := ih (max r x)
    refine ⟨by omega, fun y hy => ?_, ?_⟩
    · rcases List.mem_cons.mp hy with rfl | hy
      · omega
      · exact h2 y hy
    · rcases h3 with h3 | h3
      · rw [h3]
        rcases Int.le_total r x with h | h
        · rw [show max r x = x by omega]; exact .inr List.mem_cons_self
        · exact .inl (by omega)
      · exact .inr (List.mem_cons_of_mem _ h3)
theorem best_rows {S : Store} {d : D} {r : List Int} {rs : List (List Int)} (h : seqOf d S = some (.tup (zs r) :: rowsOf rs)) : fBestL leastD [d] S = some (.tup (zs (rs.foldl (fun a y => if y < a then y else a) r)), S) := by
  unfold fBestL fBest
  simp only [h, ob_some]
  have h1 : okDL 62 (.tup (zs r) :: rowsOf rs) = true := okDL_rows 61 (r :: rs)
  have h2 : alkAll (.tup (zs r) :: rowsOf rs) = true := alkAll_rows (r :: rs)
  rw [h1, h2, leastD_rows]; rfl
theorem best_max {S : Store} {d : D} {r : Int} {rs : List Int} (h : seqOf d S = some (.int r :: zs rs)) : fBestL mostD [d] S = some (.int (rs.foldl max r), S) := by
  unfold fBestL fBest
  simp only [h, ob_some]
  have h1 : okDL 62 (.int r :: zs rs) = true := okDL_zs 62 (r :: rs)
  have h2 : alkAll (.int r :: zs rs) = true := alkAll_zs (r :: rs)
  rw [h1, h2, mostD_zs]; rfl

@[simp] theorem ev_lt2 {S : Store} (a b c d : Int) : cLtT (.tup [.int a, .int b]) (.tup [.int c, .int d]) S = some (decide (a < c ∨ (a = c ∧ b < d))) := by
  show cInt2 cLt (fun a b => ltD a b) (.tup (zs [a, b])) (.tup (zs [c, d])) S = _
  unfold cInt2
  rw [tupsOk_rows, if_pos rfl]
  show some (ltD (.tup (zs [a, b])) (.tup (zs [c, d]))) = _
  rw [ltD_rows]
  congr 1
  exact decide_eq_decide.mpr (by simp [List.cons_lt_cons_iff])
theorem len_cons {α : Type} {r : List α} {n : Nat} (h : r.length = n + 1) : ∃ x t, r = x :: t ∧ t.length = n := by
  cases r with
  | nil => simp at h
  | cons x t => exact ⟨x, t, rfl, by simpa using h⟩
/-- a kept sum of a list of the store and one that nobody keeps -/
@[simp] theorem ev_addRC {S : Store} {i : Nat} {xs ys : List D} (h : S[i]? = some (.lst xs)) (hl : xs.length + ys.length ≤ 10000000) : fAdd (.ref i) (.cl ys) S = some (.ref S.length, S ++ [.lst (xs ++ ys)]) := by
  show ((lstOf (.ref i) S).bind fun x => (lstOf (.cl ys) S).bind fun y => if x.length + y.length ≤ sizeLine then some (D.ref S.length, S ++ [O.lst (x ++ y)]) else none) = _
  simp only [lstOf, h, ob_some]
  rw [if_pos (Nat.le_trans hl sizeL)]

/-! ### stores that grow -/
@[simp] theorem get_off {α : Type} (S X : List α) (i : Nat) : (S ++ X)[S.length + i]? = X[i]? := by
  rw [List.getElem?_append_right (by omega), Nat.add_sub_cancel_left]
@[simp] theorem get_off0 {α : Type} (S X : List α) : (S ++ X)[S.length]? = X[0]? := get_off S X 0
@[simp] theorem set_off {α : Type} (S X : List α) (i : Nat) (v : α) : (S ++ X).set (S.length + i) v = S ++ X.set i v := by
  rw [List.set_append_right _ _ (by omega), Nat.add_sub_cancel_left]
@[simp] theorem set_off0 {α : Type} (S X : List α) (v : α) : (S ++ X).set S.length v = S ++ X.set 0 v := set_off S X 0 v
theorem get_more {α : Type} {S X : List α} {i : Nat} {o : α} (h : S[i]? = some o) : (S ++ X)[i]? = some o := by
  rw [List.getElem?_append_left (List.getElem?_eq_some_iff.mp h).1]; exact h
theorem ev_forCons {deps : List Nat} {g : MG} {b : MS} {d : D} {r : List D} {env : DEnv} {S : Store} : forGo deps g b (d :: r) env S = (g d env S).bind fun p => (b p.1 p.2).bind fun o => match o with
    | .nx env' S' => if kept deps S S' then forGo deps g b r env' S' else none
    | .ct env' S' => if kept deps S S' then forGo deps g b r env' S' else none
    | .bk env' S' => some (.nx env' S')
    | .rt d S' => some (.rt d S') := id rfl
theorem ev_lcNil {deps : List Nat} {n : Nat} {g : MG} {t : MT} {elt : ME} {env : DEnv} {S : Store} : lcGo deps n g t elt env [] S = some S := id rfl
theorem ev_lcCons {deps : List Nat} {n : Nat} {g : MG} {t : MT} {elt : ME} {env : DEnv} {d : D} {r : List D} {S : Store} : lcGo deps n g t elt env (d :: r) S = (g d env S).bind fun p => (t p.1 p.2).bind fun q => if q.1 then
      (elt p.1 q.2).bind fun x => (putAt n x.1 x.2).bind fun S' => if kept deps S S' then lcGo deps n g t elt env r S' else none
      else if kept deps S q.2 then lcGo deps n g t elt env r q.2 else none := id rfl
@[simp] theorem ev_putAt {S : Store} {n : Nat} {x : D} {acc : List D} (h : S[n]? = some (.lst acc)) (hl : acc.length < 10000000) : putAt n x S = some (S.set n (.lst (acc ++ [x]))) := by
  unfold putAt
  rw [h]
  simp only []
  rw [if_pos (by have := sizeL; omega)]
/-- what was made on top of T and is not known -/
theorem temp_pure {T : Store} {acc : List D} (h : D.loL T.length acc = true) : tempOf T (T ++ [.lst acc]) = some (.cl acc, T) := temp_of rfl h (keepLo_refl' _ _)
theorem loL_scal {n : Nat} {ds : List D} (h : ∀ d ∈ ds, d.lo n = true) : D.loL n ds = true := by
  induction ds with
  | nil => rfl
  | cons d ds ih =>
    rw [D.loL, h d List.mem_cons_self, ih fun e m => h e (List.mem_cons_of_mem _ m)]; rfl
end PD

set_option Elab.async false
set_option linter.all false
set_option maxRecDepth 100000
set_option maxHeartbeats 4000000
/-! PdLaw: the defs that the laws share. -/
namespace PD
open PySem PySem.Spec PyProof.Rows L2
def bCell : MS :=
  (sSeq (sIf (mCmp cLtT (mVar 1) (mCall fLen (mCons (mVar 0) mNil))) (sRet (m2 fIx (mVar 0) (mVar 1))) sPass)
  (sRet (mC (.int 0))))
def bDig60 : MS :=
  (sIf (mCmp cGtT (mVar 5) (mC (.int 0))) (sSeq (sExpr (mMeth "list" fAppend (mVar 3) (mCons (m2 fMod (mCall fInt (mCons (mVar 5) mNil)) (mC (.int 1000))) mNil)))
  (sAsg (m2 fDiv (mVar 5) (mC (.int 1000))) (mgName 5))) sPass)
def bDig12 : MS :=
  (sSeq (sAsg (m2 fMod (mCall fInt (mCons (m2 fAddT (m2 fAddT (m2 fMul (mVar 7) (mC (.int 16807))) (m2 fMul (mC (.int 7)) (mVar 6))) (mC (.int 1))) mNil)) (mC (.int 2147483647))) (mgName 7))
  (sExpr (mMeth "list" fAppend (mVar 3) (mCons (m2 fMod (mCall fInt (mCons (m2 fDiv (mVar 7) (mC (.int 997))) mNil)) (mC (.int 1000))) mNil))))
def bDigT : MS :=
  (sIf (mCmp cGeT (mVar 5) (m2 fPow (mC (.int 10)) (mC (.int 18)))) (sFor (iRange1 (mC (.int 60))) (mgName 6) bDig60) (sSeq (sAsg (m2 fMod (mCall fInt (mCons (m2 fAddT (m2 fAddT (m2 fMul (mVar 5) (mC (.int 48271))) (m2 fMul (mVar 4) (mC (.int 69621)))) (mC (.int 11))) mNil)) (mC (.int 2147483647))) (mgName 7))
  (sFor (iRange1 (mC (.int 12))) (mgName 6) bDig12)))
def bDigS : MS :=
  (sSeq (sIf (mCmp cLtT (mVar 5) (mC (.int 0))) (sAsg (m2 fSub (mC (.int 1)) (m2 fMul (mC (.int 2)) (mVar 5))) (mgName 5)) sPass)
  bDigT)
def bDigK (c : FL) : MS :=
  (sSeq (sAsg (mFn 2 c (mCons (mVar 0) (mCons (mVar 4) mNil))) (mgName 5))
  bDigS)
def bDigits (c : FL) : MS :=
  (sSeq (sAsg (mNew (mLst mNil)) (mgName 3))
  (sSeq (sFor (iRange2 (mVar 1) (mVar 2)) (mgName 4) (bDigK c))
  (sRet (mVar 3))))
def bDraw : MS :=
  (sSeq (sAsg (m2 fIx (mVar 0) (mC (.int 1))) (mgName 2))
  (sSeq (sAsg (m2 fAdd (mVar 2) (mC (.int 1))) (mgSub (mVar 0) (mC (.int 1))))
  (sSeq (sIf (mCmp cLtT (mVar 2) (mCall fLen (mCons (m2 fIx (mVar 0) (mC (.int 0))) mNil))) (sRet (m2 fMod (mCall fInt (mCons (m2 fIx (m2 fIx (mVar 0) (mC (.int 0))) (mVar 2)) mNil)) (mVar 1))) sPass)
  (sRet (mC (.int 0))))))
def bSameK (f : FL) : MS :=
  (sIf (mNot (mTru (mFn 2 f (mCons (m2 fIx (mVar 0) (mVar 2)) (mCons (m2 fIx (mVar 1) (mVar 2)) mNil))))) (sRet (mC (.bl false))) sPass)
def bSame (f : FL) : MS :=
  (sSeq (sIf (mTru (mIsi "tuple" (mVar 1))) (sSeq (sIf (mOr (mNot (mTru (mIsi "tuple" (mVar 0)))) (mCmp cNe (mCall fLen (mCons (mVar 0) mNil)) (mCall fLen (mCons (mVar 1) mNil)))) (sRet (mC (.bl false))) sPass)
  (sSeq (sFor (iRange1 (mCall fLen (mCons (mVar 1) mNil))) (mgName 2) (bSameK f))
  (sRet (mC (.bl true))))) sPass)
  (sSeq (sIf (mCmp cIs (mVar 1) (mC .non)) (sRet (mBl (mCmp cIs (mVar 0) (mC .non)))) sPass)
  (sSeq (sIf (mTru (mIsi "bool" (mVar 1))) (sRet (mAndV (mIsi "bool" (mVar 0)) (mBl (mCmp cEq (mVar 0) (mVar 1))))) sPass)
  (sSeq (sIf (mTru (mIsi "int" (mVar 1))) (sRet (mAndV (mIsi "int" (mVar 0)) (mAndV (mNotV (mIsi "bool" (mVar 0))) (mBl (mCmp cEq (mVar 0) (mVar 1)))))) sPass)
  (sRet (mAndV (mIsi "str" (mVar 0)) (mBl (mCmp cEq (mVar 0) (mVar 1)))))))))
def bBox (dg : FL) : MS :=
  (sRet (mNew (mLst (mCons (mFn 3 dg (mCons (mVar 0) (mCons (mVar 1) (mCons (mVar 2) mNil)))) (mCons (mC (.int 0)) (mCons (mC (.int 0)) (mCons (mC (.int 0)) (mCons (mC (.int 0)) (mCons (mNew (mLst mNil)) mNil)))))))))

/-! ### the cell -/
def isScript (sc : D) (ns : List Int) : Prop := sc = .fz (ns.map .int)
def cellV (ns : List Int) (k : Int) : Int := (ns[k.toNat]?).getD 0
theorem cell_eq {ns : List Int} {k : Nat} (hl : ns.length ≤ 1000000) {S : Store} : runBody 2 2 bCell [.fz (ns.map .int), .int k] S = some (.int (cellV ns k), S) := by
  unfold runBody bCell
  by_cases h : k < ns.length
  · have h' : (k : Int) < ns.length := by omega
    simp [ev_seq, fLen, cInt2, tupsOk, cInt, h', fIx, atI_nat', cellV, trunc_len, h]
  · have h' : ¬ (k : Int) < ns.length := by omega
    simp [ev_seq, fLen, cInt2, tupsOk, cInt, h', cellV, trunc_len, List.getElem?_eq_none (show ns.length ≤ k by omega)]

/-! ### the digits -/
theorem get_last {S : Store} {o : O} : (S ++ [o])[S.length]? = some o := by
  rw [List.getElem?_append_right (Nat.le_refl _), Nat.sub_self]; rfl
theorem set_last {S : Store} {o p : O} : (S ++ [o]).set S.length p = S ++ [p] := by
  rw [List.set_append_right _ _ (Nat.le_refl _), Nat.sub_self]; rfl
@[simp] theorem ev_append_last {S : Store} {ds : List D} {d : D} (h : ds.length < 10000000) : fAppend (.ref S.length) [d] (S ++ [.lst ds]) = some (.non, S ++ [.lst (ds ++ [d])]) := by
  unfold fAppend
  simp only [get_last, set_last]
  rw [if_pos (by have := sizeL; omega)]
@[simp] theorem ev_ty_last {S : Store} {ds : List D} : tyD (.ref S.length) (S ++ [.lst ds]) = some "list" := by
  unfold tyD
  simp only [get_last]
theorem dig60 {S : Store} {e0 e1 e2 e4 e6 e7 : Option D} {cell : Int} {ds : List Int} {m : Nat} (hl : ds.length ≤ m) (hm : m ≤ 100000) :
    ∃ cell' ds' e6', forGo [] (mgName 6) bDig60 (ramp 0 1 60) [e0, e1, e2, some (.ref S.length), e4, some (.int cell), e6, e7] (S ++ [.lst (zs ds)]) = some (.nx [e0, e1, e2, some (.ref S.length), e4, some (.int cell'), e6', e7] (S ++ [.lst (zs ds')])) ∧ ds'.length ≤ m + 60 := by
  obtain ⟨env', S', h, cell', ds', e6', rfl, rfl, hh⟩ := for_inv (deps := []) (g := mgName 6) (b := bDig60) (items := ramp 0 1 60)
    (fun i env T => ∃ cell' ds' e6', env = [e0, e1, e2, some (.ref S.length), e4, some (.int cell'), e6', e7] ∧ T = S ++ [.lst (zs ds')] ∧ ds'.length ≤ m + i) (fun i d hi env T ⟨c, ds, e6, h1, h2, h3⟩ => by
      subst h1 h2
      have hi60 : i < 60 := by
        have := (List.getElem?_eq_some_iff.mp hi).1
        rwa [ramp_len] at this
      by_cases hc : 0 < c
      · refine ⟨_, _, .nx rfl (h2 := by
          unfold bDig60
          simp [ev_seq, hc, zs_app, show (zs ds).length < 10000000 by simp [zs]; omega]; exact .mk') rfl, _, _, _, rfl, rfl, ?_⟩
        simp; omega
      · refine ⟨_, _, .nx rfl (h2 := by
          unfold bDig60
          simp [ev_seq, hc]; exact .mk') rfl, _, _, _, rfl, rfl, ?_⟩
        omega) ⟨cell, ds, e6, rfl, rfl, by omega⟩
  exact ⟨cell', ds', e6', h, by rwa [ramp_len] at hh⟩
theorem ramp_at {lo c : Int} {n i : Nat} {d : D} (h : (ramp lo c n)[i]? = some d) : d = .int (lo + (i : Nat) * c) ∧ i < n := by
  have hi : i < n := by
    have := (List.getElem?_eq_some_iff.mp h).1
    rwa [ramp_len] at this
  rw [ramp_get hi] at h
  exact ⟨(Option.some.inj h).symm, hi⟩
theorem dig12 {S : Store} {e0 e1 e2 e4 e5 e6 : Option D} {seed : Int} {ds : List Int} {m : Nat} (hl : ds.length ≤ m) (hm : m ≤ 100000) :
    ∃ seed' ds' e6', forGo [] (mgName 6) bDig12 (ramp 0 1 12) [e0, e1, e2, some (.ref S.length), e4, e5, e6, some (.int seed)] (S ++ [.lst (zs ds)]) = some (.nx [e0, e1, e2, some (.ref S.length), e4, e5, e6', some (.int seed')] (S ++ [.lst (zs ds')])) ∧ ds'.length ≤ m + 60 := by
  obtain ⟨env', S', h, seed', ds', e6', rfl, rfl, hh⟩ := for_inv (deps := []) (g := mgName 6) (b := bDig12) (items := ramp 0 1 12)
    (fun i env T => ∃ seed' ds' e6', env = [e0, e1, e2, some (.ref S.length), e4, e5, e6', some (.int seed')] ∧ T = S ++ [.lst (zs ds')] ∧ ds'.length ≤ m + i) (fun i d hi env T ⟨c, ds, e6, h1, h2, h3⟩ => by
      subst h1 h2
      obtain ⟨rfl, hi12⟩ := ramp_at hi
      refine ⟨_, _, .nx rfl (h2 := by
          unfold bDig12
          simp [ev_seq, zs_app, show (zs ds).length < 10000000 by simp [zs]; omega]; exact .mk') rfl, _, _, _, rfl, rfl, ?_⟩
      simp; omega) ⟨seed, ds, e6, rfl, rfl, by omega⟩
  exact ⟨seed', ds', e6', h, by rw [ramp_len] at hh; omega⟩
theorem digT {S : Store} {e0 e1 e2 e6 e7 : Option D} {k : Nat} {cl : Int} {ds : List Int} {m : Nat} (hl : ds.length ≤ m) (hm : m ≤ 100000) :
    ∃ e4' e5' e6' e7' ds', bDigT [e0, e1, e2, some (.ref S.length), some (.int k), some (.int cl), e6, e7] (S ++ [.lst (zs ds)]) = some (.nx [e0, e1, e2, some (.ref S.length), e4', e5', e6', e7'] (S ++ [.lst (zs ds')])) ∧ ds'.length ≤ m + 60 := by
  unfold bDigT
  by_cases h18 : (1000000000000000000 : Int) ≤ cl
  · obtain ⟨cell', ds', e6', h, hh⟩ := dig60 (S := S) (e0 := e0) (e1 := e1) (e2 := e2) (e4 := some (.int k)) (e6 := e6) (e7 := e7) (cell := cl) hl hm
    refine ⟨_, _, _, _, ds', Eq.trans ?_ h, hh⟩
    simp [h18]
  · obtain ⟨cell', ds', e6', h, hh⟩ := dig12 (S := S) (e0 := e0) (e1 := e1) (e2 := e2) (e4 := some (.int k)) (e6 := e6) (e5 := some (.int cl)) (seed := (cl * 48271 + k * 69621 + 11) % 2147483647) hl hm
    refine ⟨_, _, _, _, ds', Eq.trans ?_ h, hh⟩
    simp [h18, ev_seq]
theorem digS {S : Store} {e0 e1 e2 e6 e7 : Option D} {k : Nat} {cl : Int} {ds : List Int} {m : Nat} (hl : ds.length ≤ m) (hm : m ≤ 100000) :
    ∃ e4' e5' e6' e7' ds', bDigS [e0, e1, e2, some (.ref S.length), some (.int k), some (.int cl), e6, e7] (S ++ [.lst (zs ds)]) = some (.nx [e0, e1, e2, some (.ref S.length), e4', e5', e6', e7'] (S ++ [.lst (zs ds')])) ∧ ds'.length ≤ m + 60 := by
  by_cases h0 : cl < 0
  · obtain ⟨_, _, _, _, ds', h, h2⟩ := digT (S := S) (e0 := e0) (e1 := e1) (e2 := e2) (e6 := e6) (e7 := e7) (k := k) (cl := 1 - 2 * cl) hl hm
    exact ⟨_, _, _, _, ds', seq_nx (by simp [h0]; exact .mk') h, h2⟩
  · obtain ⟨_, _, _, _, ds', h, h2⟩ := digT (S := S) (e0 := e0) (e1 := e1) (e2 := e2) (e6 := e6) (e7 := e7) (k := k) (cl := cl) hl hm
    exact ⟨_, _, _, _, ds', seq_nx (by simp [h0]; exact .mk') h, h2⟩
theorem digits_eq {sc : D} {f : Nat → Int} {c : FL} (hc : ∀ (k : Nat) (T : Store), c [sc, .int k] T = some (.int (f k), T)) {n : Nat} (hn : n ≤ 100) (S : Store) :
    ∃ ds : List Int, runBody 3 8 (bDigits c) [sc, .int 0, .int n] S = some (.ref S.length, S ++ [.lst (zs ds)]) ∧ ds.length ≤ 6000 := by
  obtain ⟨env', S', h, ds', e4, e5, e6, e7, rfl, rfl, hh⟩ := for_inv (deps := []) (g := mgName 4) (b := bDigK c) (items := ramp 0 1 n)
    (fun i env T => ∃ ds' e4 e5 e6 e7, env = [some sc, some (.int 0), some (.int n), some (.ref S.length), e4, e5, e6, e7] ∧ T = S ++ [.lst (zs ds')] ∧ ds'.length ≤ 60 * i) (fun i d hi env T ⟨ds, e4, e5, e6, e7, h1, h2, h3⟩ => by
      subst h1 h2
      obtain ⟨rfl, hi2⟩ := ramp_at hi
      obtain ⟨e4', e5', e6', e7', ds', h, h5⟩ := digS (S := S) (e0 := some sc) (e1 := some (.int 0)) (e2 := some (.int n)) (e6 := e6) (e7 := e7) (k := i) (cl := f i) h3 (by omega)
      exact ⟨_, _, .nx rfl (h2 := ⟨seq_nx (by simp [hc]; exact .mk') h⟩) rfl, ds', e4', e5', e6', e7', rfl, rfl, by omega⟩) ⟨[], none, none, none, none, rfl, rfl, by simp⟩
  refine ⟨ds', ?_, by rw [ramp_len] at hh; omega⟩
  have h' : forGo [] (mgName 4) (bDigK c) (ramp 0 1 n) [some sc, some (.int 0), some (.int n), some (.ref S.length), none, none, none, none] (S ++ [.lst []]) = _ := h
  have h62 : (-4611686018427387904 : Int) ≤ n ∧ (n : Int) < 4611686018427387904 := by omega
  unfold runBody bDigits
  simp [ev_seq, okLen_of, h62, h', trunc_ref]

/-! ### the box and what is drawn of it -/
def bx (ds : List Int) (at' : Nat) : Store := [.lst (zs ds), .lst [], .lst [.ref 0, .int at', .int 0, .int 0, .int 0, .ref 1]]
def dr (ds : List Int) (at' : Nat) (many : Int) : Int := (ds[at']?.getD 0) % many
theorem bx_len (ds : List Int) (a : Nat) : (bx ds a).length = 3 := id rfl
theorem dr_lt {ds : List Int} {a : Nat} {many : Int} (h : 0 < many) : 0 ≤ dr ds a many ∧ dr ds a many < many := ⟨Int.emod_nonneg _ (by omega), Int.emod_lt_of_pos _ h⟩
theorem box_eq {sc : D} {n : Nat} {dg : FL} {ds : List Int} (h : ∀ S : Store, S = [] → dg [sc, .int 0, .int n] S = some (.ref S.length, S ++ [.lst (zs ds)])) :
    runBody 3 3 (bBox dg) [sc, .int 0, .int n] [] = some (.ref 2, bx ds 0) := by
  unfold runBody bBox
  simp [h, okLen_of, trunc_ref, bx]
theorem draw_eq {ds : List Int} {a : Nat} {many : Int} (hm : 0 < many) (G : Store) : runBody 2 3 bDraw [.ref 2, .int many] (bx ds a ++ G) = some (.int (dr ds a many), bx ds (a + 1) ++ G) := by
  unfold runBody bDraw
  by_cases h : a < ds.length
  · have h' : (a : Int) < ds.length := by omega
    have e1 : ∀ h : a < (zs ds).length, (zs ds)[a] = .int ds[a] := fun _ => by simp [zs]
    have e2 : (zs ds).length = ds.length := by simp [zs]
    simp [ev_seq, bx, atI_one', atI_zero', atI_nat', ixN, h', e1, e2, hm, dr, h, trunc_len]
  · have h' : ¬ (a : Int) < ds.length := by omega
    have e2 : (zs ds).length = ds.length := by simp [zs]
    simp [ev_seq, bx, atI_one', atI_zero', atI_nat', ixN, h', e2, hm, dr, trunc_len, List.getElem?_eq_none (show ds.length ≤ a by omega)]

/-! ### sameness -/
mutual
/-- tuples of numbers, texts, truth values, None; at most n deep -/
def treeD : Nat → D → Bool
  | _, .non | _, .bl _ | _, .int _ | _, .str _ => true
  | 0, .tup _ => false
  | n + 1, .tup ds => decide (ds.length ≤ 1000000) && treeDL n ds
  | _, _ => false
def treeDL : Nat → List D → Bool
  | _, [] => true
  | n, d :: ds => treeD n d && treeDL n ds
end
theorem treeDL_at {n : Nat} : ∀ {ds : List D} {i : Nat} {d : D}, treeDL n ds = true → ds[i]? = some d → treeD n d = true
  | [], _, _, _, e => by simp at e
  | x :: xs, 0, d, h, e => by
    simp at e; subst e
    rw [treeDL, Bool.and_eq_true] at h
    exact h.1
  | x :: xs, i + 1, d, h, e => by
    rw [treeDL, Bool.and_eq_true] at h
    exact treeDL_at (i := i) h.2 (by simpa using e)
/-- f tells a tree from itself at depth n -/
def SameAt (n : Nat) (f : FL) : Prop := ∀ d : D, treeD n d = true → ∀ S : Store, f [d, d] S = some (.bl true, S)
theorem isi_tt : isiB "tuple" "tuple" = true := by decide
theorem isi_self (x : String) : isiB x x = true := by simp [isiB]
theorem same_flat {f : FL} {d : D} (h : treeD 0 d = true) (S : Store) : runBody 2 3 (bSame f) [d, d] S = some (.bl true, S) := by
  unfold runBody bSame
  cases d <;> (first | (simp [treeD] at h; done) | skip) <;> simp [ev_seq, isiB, trunc_len]
theorem same_zero {f : FL} : SameAt 0 (runBody 2 3 (bSame f)) := fun d h S => same_flat h S
theorem same_succ {n : Nat} {f : FL} (hf : SameAt n f) : SameAt (n + 1) (runBody 2 3 (bSame f)) := by
  intro d h S
  by_cases h0 : treeD 0 d = true
  · exact same_flat h0 S
  · cases d <;> (first | (simp [treeD] at h0 h; done) | skip)
    rename_i ds
    rw [treeD, Bool.and_eq_true] at h
    have hl := of_decide_eq_true h.1
    obtain ⟨env', S', hgo, e2, rfl, rfl⟩ := for_inv (deps := []) (g := mgName 2) (b := bSameK f) (items := ramp 0 1 ds.length)
      (fun i env T => ∃ e2, env = [some (.tup ds), some (.tup ds), e2] ∧ T = S) (fun i d hi env T ⟨e2, h1, h2⟩ => by
        subst h1 h2
        obtain ⟨rfl, hi2⟩ := ramp_at hi
        have e1 : ds[i]? = some ds[i] := List.getElem?_eq_getElem hi2
        have e3 := hf ds[i] (treeDL_at h.2 e1) T
        refine ⟨_, _, .nx rfl (h2 := by
          unfold bSameK
          simp [atI_nat', e1, e3]; exact .mk') rfl, _, rfl, rfl⟩) ⟨none, rfl, rfl⟩
    unfold runBody bSame
    have h62 : (-4611686018427387904 : Int) ≤ ds.length ∧ (ds.length : Int) < 4611686018427387904 := by omega
    simp [ev_seq, isiB, h62, hgo, trunc_len]
theorem SameAt.mono {m n : Nat} {f : FL} (h : SameAt n f) (hm : ∀ d, treeD m d = true → treeD n d = true) : SameAt m f := fun d hd S => h d (hm d hd) S

/-! ### drawing -/
/-- Φ draws of the box that has ds -/
def Draws (ds : List Int) (f : FL) : Prop := ∀ (a : Nat) (many : Int) (G : Store), 0 < many → f [.ref 2, .int many] (bx ds a ++ G) = some (.int (dr ds a many), bx ds (a + 1) ++ G)
theorem draws_eq (ds : List Int) : Draws ds (runBody 2 3 bDraw) := fun a many G h => draw_eq h G
abbrev mDraw (f : FL) (m : Int) : ME := mFn 2 f (mCons (mVar 1) (mCons (mC (.int m)) mNil))
theorem ex_draw {ds : List Int} {f : FL} (hd : Draws ds f) {a : Nat} {G : Store} {m : Int} (hm : 0 < m) {b : MS} {i : Nat} {e0 : Option D} {env : DEnv} {Q : Out → Prop}
    (h : ∀ v, 0 ≤ v → v < m → Ex (b ((e0 :: some (.ref 2) :: env).set i (some (.int v))) (bx ds (a + 1) ++ G)) Q) : Ex (sSeq (sAsg (mDraw f m) (mgName i)) b (e0 :: some (.ref 2) :: env) (bx ds a ++ G)) Q := by
  obtain ⟨h1, h2⟩ := dr_lt (ds := ds) (a := a) hm
  refine ex_seq ⟨?_⟩ (h (dr ds a m) h1 h2)
  simp [hd a m G hm]
theorem draw_is {ds : List Int} {f : FL} (hd : Draws ds f) {a : Nat} {G : Store} {m : Int} (hm : 0 < m) {e0 : Option D} {env : DEnv} : mDraw f m (e0 :: some (.ref 2) :: env) (bx ds a ++ G) = some (.int (dr ds a m), bx ds (a + 1) ++ G) := by
  simp [hd a m G hm]
/-- a list of what is drawn -/
theorem lc_draws {ds : List Int} {f : FL} (hd : Draws ds f) {a : Nat} {G : Store} {m : Int} (hm : 0 < m) {c : Nat} (hc : c ≤ 1000000) {j : Nat} {e0 : Option D} {env : DEnv} (hj : 2 ≤ j) :
    ∃ vs : List Int, lcGo [] (bx ds a ++ G).length (mgName j) mYes (mDraw f m) (e0 :: some (.ref 2) :: env) (ramp 0 1 c) ((bx ds a ++ G) ++ [.lst []]) = some ((bx ds (a + c) ++ G) ++ [.lst (zs vs)]) ∧ vs.length = c ∧ ∀ v ∈ vs, 0 ≤ v ∧ v < m := by
  obtain ⟨acc, T', h, ⟨vs, rfl, h2, h3, rfl⟩, h4, h5⟩ := lc_inv (deps := []) (n := (bx ds a ++ G).length) (g := mgName j) (t := mYes) (elt := mDraw f m) (env := e0 :: some (.ref 2) :: env) (items := ramp 0 1 c)
    (fun i acc T => ∃ vs : List Int, acc = zs vs ∧ vs.length = i ∧ (∀ v ∈ vs, 0 ≤ v ∧ v < m) ∧ T = bx ds (a + i) ++ G) (by rw [ramp_len]; exact hc) (fun i d hi acc T ⟨vs, h1, h2, h3, h4⟩ hT ha => by
      subst h1 h4
      obtain ⟨rfl, hi2⟩ := ramp_at hi
      have hs : ∃ env', (e0 :: some (D.ref 2) :: env).set j (some (.int (0 + (i : Nat) * 1))) = e0 :: some (.ref 2) :: env' := by
        obtain ⟨j, rfl⟩ : ∃ k, j = k + 2 := ⟨j - 2, by omega⟩
        exact ⟨_, rfl⟩
      obtain ⟨env', he⟩ := hs
      have e : mDraw f m (e0 :: some (.ref 2) :: env') (bx ds (a + i) ++ (G ++ [.lst (zs vs)])) = _ := draw_is hd hm
      rw [← List.append_assoc, ← List.append_assoc] at e
      refine ⟨_, bx ds (a + i + 1) ++ G, ⟨e0 :: some (.ref 2) :: env', true, _, ?_, ?_, .inr ⟨rfl, _, e, rfl⟩, by simp [bx_len], by simp⟩, vs ++ [dr ds (a + i) m], ?_, by simp [h2], ?_, rfl⟩
      · rw [ev_gName, he]
      · rfl
      · rw [zs_app]
      · intro v hv
        rcases List.mem_append.mp hv with hv | hv
        · exact h3 v hv
        · simp at hv
          subst hv
          exact dr_lt hm) ⟨[], rfl, rfl, by simp, rfl⟩ rfl
  rw [ramp_len] at h h2
  exact ⟨vs, h, h2, h3⟩
theorem keepLo_bx {ds : List Int} {a b n : Nat} (hn : 2 ≤ n) (G : Store) : keepLo n (bx ds a ++ G) (bx ds b ++ G) = true := by
  refine keepLo_append G (by simp [bx_len]) ?_
  simp [bx, keepLo, O.lo, D.loL, D.lo]
  right; omega
theorem loL_zs (n : Nat) (vs : List Int) : D.loL n (zs vs) = true := by
  induction vs with
  | nil => rfl
  | cons v vs ih =>
    show (D.lo n (.int v) && D.loL n (zs vs)) = true
    rw [ih]; rfl
theorem temp_draws {ds : List Int} {a b : Nat} {G : Store} {vs : List Int} : tempOf (bx ds a ++ G) ((bx ds b ++ G) ++ [.lst (zs vs)]) = some (.cl (zs vs), bx ds b ++ G) :=
  temp_of (by simp [bx_len]) (loL_zs _ _) (keepLo_bx (by simp [bx_len]; omega) G)

theorem loL_rows (n : Nat) (rs : List (List Int)) : D.loL n (rowsOf rs) = true := loL_scal fun d m => by
  obtain ⟨r, _, rfl⟩ := List.mem_map.mp m
  exact loL_zs n r
/-- if not _law_same(A, B): return False -/
theorem ex_chk {n : Nat} {f : FL} (hf : SameAt n f) {A B : ME} {b r : MS} {env : DEnv} {S S1 S2 : Store} {d : D} {Q : Out → Prop} (hA : Is (A env S) (d, S1)) (hB : Is (B env S1) (d, S2)) (ht : treeD n d = true) (h : Ex (b env S2) Q) :
    Ex (sSeq (sIf (mNot (mTru (mFn 2 f (mCons A (mCons B mNil))))) r sPass) b env S) Q := by
  refine ex_seq ⟨?_⟩ h
  simp [hA.eq, hB.eq, hf d ht]

/-- name = tuple([_law_draw(box, m) for k in range(_law_draw(box, c))]) -/
theorem ex_drawsT {ds : List Int} {f : FL} (hd : Draws ds f) {a : Nat} {G : Store} {m c : Int} (hm : 0 < m) (hc : 0 < c ∧ c ≤ 1000) {b : MS} {i j : Nat} (hj : 2 ≤ j) {e0 : Option D} {env : DEnv} {Q : Out → Prop}
    (h : ∀ (vs : List Int) (a' : Nat), (vs.length : Int) < c → (∀ v ∈ vs, 0 ≤ v ∧ v < m) → Ex (b ((e0 :: some (.ref 2) :: env).set i (some (.tup (zs vs)))) (bx ds a' ++ G)) Q) :
    Ex (sSeq (sAsg (mCall fTuple (mCons (mLcT (iRange1 (mDraw f c)) (mgName j) mYes (mDraw f m) [j]) mNil)) (mgName i)) b (e0 :: some (.ref 2) :: env) (bx ds a ++ G)) Q := by
  obtain ⟨j, rfl⟩ : ∃ k, j = k + 2 := ⟨j - 2, by omega⟩
  obtain ⟨h1, h2⟩ := dr_lt (ds := ds) (a := a) hc.1
  obtain ⟨vs, h3, h4, h5⟩ := lc_draws hd (a := a + 1) (G := G) (m := m) hm (c := (dr ds a c).toNat) (by omega) (j := j + 2) (e0 := e0) (env := env.set j none) (by omega)
  have e1 := draw_is hd (a := a) (G := G) (m := c) hc.1 (e0 := e0) (env := env)
  refine ex_seq ⟨?_⟩ (h vs (a + 1 + (dr ds a c).toNat) (by omega) h5)
  rw [ev_asg, ev_call, ev_cons, ev_lcT, ev_range1, e1]
  simp only [ob_some]
  have e2 : small62 (dr ds a c) = true := by
    rw [ev_small62]; exact decide_eq_true (by omega)
  rw [if_pos e2]
  simp only [ob_some, kept_nil]
  rw [if_pos trivial]
  have e3 : wipeE (e0 :: some (D.ref 2) :: env) [j + 2] = e0 :: some (.ref 2) :: env.set j none := rfl
  rw [e3, h3]
  simp only [ob_some, temp_draws, ev_nil, om_some, ev_tupL, ev_gName]

/-! ### the end -/
theorem script_sq {K : PySem.W.Frag} {H : Hp} {a : Addr} {xs : List V} (hO : Only H) (h : SqL K H a xs) : SqF K H a xs := by
  rcases h with (h | ⟨o, h⟩) | h
  · rcases hO a with z | ⟨o, ys, z⟩
    · rw [h] at z; cases z
    · rw [h] at z; cases z
  · exact .inl ⟨o, h⟩
  · exact .inr h
theorem relL_ints {K : PySem.W.Frag} {H : Hp} {ρ : List Addr} : ∀ ns : List Int, RelL K H ρ (ns.map .int) (ns.map V.int)
  | [] => RelL.nil
  | n :: ns => .cons (rel_int n) (relL_ints ns)
/-- the law's promise from its meaning -/
theorem end_gen {K : PySem.W.Frag} {H : Hp} {a : Addr} {ns : List Int} {φ : FL} (hO : Only H) (hS : SqL K H a (ns.map V.int)) (h : ∃ S', φ [.fz (ns.map .int)] [] = some (.bl true, S')) :
    spD K 1 φ [.ref a] H (fun v _ => v = .bl true) fun _ _ _ => False := by
  obtain ⟨S', e⟩ := h
  refine ⟨[], [], [.fz (ns.map .int)], .bl true, S', ⟨rfl, .nil, fun i o a e1 _ => by simp at e1⟩, .one ?_, rfl, e, fun v H' ρ' g r => r.of_bl⟩
  rw [Rel]
  exact ⟨a, _, rfl, script_sq hO hS, relL_ints ns⟩
end PD

namespace K89
open PySem PySem.Spec PyProof.Rows L2 PD
def topS (i : Nat) : Stmt := PySem.Challenge.pw_pagehouse_k89_things_that_snap.main.body.getD i (.Pass ⟨0, 0, 0, 0⟩)
abbrev s_snapped : Stmt := topS 1
abbrev N_snapped : List Str := ["at", "size", "lines", "near", "best", "line", "own", "far"]
abbrev p_snapped : List Str := ["at", "size", "lines", "near"]
abbrev s_to_grid : Stmt := topS 2
abbrev N_to_grid : List Str := ["at", "step"]
abbrev p_to_grid : List Str := ["at", "step"]
abbrev s_held : Stmt := topS 3
abbrev N_held : List Str := ["at", "size", "low", "high"]
abbrev p_held : List Str := ["at", "size", "low", "high"]
abbrev s_resized : Stmt := topS 4
abbrev N_resized : List Str := ["area", "corner", "by", "least", "left", "top", "width", "height", "right", "low"]
abbrev p_resized : List Str := ["area", "corner", "by", "least"]
abbrev s_fitted : Stmt := topS 5
abbrev N_fitted : List Str := ["width", "height", "room", "tall"]
abbrev p_fitted : List Str := ["width", "height", "room", "tall"]
abbrev s_l_box : Stmt := topS 7
abbrev N_l_box : List Str := ["script", "first", "last"]
abbrev p_l_box : List Str := ["script", "first", "last"]
abbrev s_l_digits : Stmt := topS 8
abbrev N_l_digits : List Str := ["script", "first", "last", "digits", "k", "cell", "turn", "seed"]
abbrev p_l_digits : List Str := ["script", "first", "last"]
abbrev s_l_cell : Stmt := topS 9
abbrev N_l_cell : List Str := ["script", "k"]
abbrev p_l_cell : List Str := ["script", "k"]
abbrev s_l_draw : Stmt := topS 10
abbrev N_l_draw : List Str := ["box", "many", "at"]
abbrev p_l_draw : List Str := ["box", "many"]
abbrev s_l_same : Stmt := topS 11
abbrev N_l_same : List Str := ["actual", "expected", "k"]
abbrev p_l_same : List Str := ["actual", "expected"]
abbrev s_law : Stmt := topS 12
abbrev N_law : List Str := ["script", "box", "turn", "at", "size", "near", "lines", "k", "rows", "line", "marks", "due", "step", "grid", "low", "high", "wish", "area", "by", "least", "corner", "left", "top", "wide", "tall", "width", "height", "room", "deep", "told"]
abbrev p_law : List Str := ["script"]
inductive Ix where
  | snapped
  | to_grid
  | held
  | resized
  | fitted
  | l_box
  | l_digits
  | l_cell
  | l_draw
  | l_same
  | law
/-! ### what the defs mean -/
def L_snapped_1 (Φ : Ix → FL) : MS :=
  (sSeq (sAsg (mCall fAbs (mCons (m2 fSub (mVar 5) (mVar 6)) mNil)) (mgName 7))
  (sIf (mAnd (mCmp cLeT (mVar 7) (mVar 3)) (mOr (mCmp cIs (mVar 4) (mC .non)) (mCmp cLtT (mTup (mCons (mVar 7) (mCons (mVar 5) mNil))) (mCutG fCutT (mVar 4) mNoPart (mPart (mC (.int 2))))))) (sAsg (mTup (mCons (mVar 7) (mCons (mVar 5) (mCons (m2 fSub (m2 fAddT (mVar 0) (mVar 5)) (mVar 6)) mNil)))) (mgName 4)) sPass))
def L_snapped_2 (Φ : Ix → FL) : MS :=
  (sFor (iSeq (mTup (mCons (mVar 0) (mCons (m2 fAdd (mVar 0) (m2 fDiv (mVar 1) (mC (.int 2)))) (mCons (m2 fAdd (mVar 0) (mVar 1)) mNil))))) (mgName 6) (L_snapped_1 Φ))
def b_snapped (Φ : Ix → FL) : MS :=
  (sSeq (sAsg (mC .non) (mgName 4))
  (sSeq (sFor (iSeq (mVar 2)) (mgName 5) (L_snapped_2 Φ))
  (sRet (mIf (mCmp cIs (mVar 4) (mC .non)) (mTup (mCons (mVar 0) (mCons (mC .non) mNil))) (mTup (mCons (m2 fIx (mVar 4) (mC (.int 2))) (mCons (m2 fIx (mVar 4) (mC (.int 1))) mNil)))))))
def b_to_grid (Φ : Ix → FL) : MS :=
  (sRet (m2 fMul (m2 fDiv (m2 fAddT (m2 fMul (mC (.int 2)) (mVar 0)) (mVar 1)) (m2 fMul (mC (.int 2)) (mVar 1))) (mVar 1)))
def b_held (Φ : Ix → FL) : MS :=
  (sRet (mCall fMax (mCons (mVar 2) (mCons (mCall fMin (mCons (mVar 0) (mCons (m2 fSub (mVar 3) (mVar 1)) mNil))) mNil))))
def b_resized (Φ : Ix → FL) : MS :=
  (sSeq (sAsg (mVar 0) (mgTup 4 (mgCons (mgName 4) (mgCons (mgName 5) (mgCons (mgName 6) (mgCons (mgName 7) mgNil))))))
  (sSeq (sPar2 8 9 (mCons (m2 fAdd (mVar 4) (mVar 6)) (mCons (m2 fAdd (mVar 5) (mVar 7)) mNil)))
  (sSeq (sIf (mCmp cIn (mC (.str "w")) (mVar 1)) (sAsg (mCall fMin (mCons (m2 fAddT (mVar 4) (m2 fIx (mVar 2) (mC (.int 0)))) (mCons (m2 fSub (mVar 8) (mVar 3)) mNil))) (mgName 4)) (sAsg (mCall fMax (mCons (m2 fAddT (mVar 8) (m2 fIx (mVar 2) (mC (.int 0)))) (mCons (m2 fAddT (mVar 4) (mVar 3)) mNil))) (mgName 8)))
  (sSeq (sIf (mCmp cIn (mC (.str "n")) (mVar 1)) (sAsg (mCall fMin (mCons (m2 fAddT (mVar 5) (m2 fIx (mVar 2) (mC (.int 1)))) (mCons (m2 fSub (mVar 9) (mVar 3)) mNil))) (mgName 5)) (sAsg (mCall fMax (mCons (m2 fAddT (mVar 9) (m2 fIx (mVar 2) (mC (.int 1)))) (mCons (m2 fAddT (mVar 5) (mVar 3)) mNil))) (mgName 9)))
  (sRet (mTup (mCons (mVar 4) (mCons (mVar 5) (mCons (m2 fSub (mVar 8) (mVar 4)) (mCons (m2 fSub (mVar 9) (mVar 5)) mNil))))))))))
def b_fitted (Φ : Ix → FL) : MS :=
  (sSeq (sIf (mAnd (mCmp cLeT (mVar 0) (mVar 2)) (mCmp cLeT (mVar 1) (mVar 3))) (sRet (mTup (mCons (mVar 0) (mCons (mVar 1) mNil)))) sPass)
  (sSeq (sIf (mCmp cGeT (m2 fMul (mVar 0) (mVar 3)) (m2 fMul (mVar 1) (mVar 2))) (sRet (mTup (mCons (mVar 2) (mCons (m2 fDiv (m2 fMul (mVar 1) (mVar 2)) (mVar 0)) mNil)))) sPass)
  (sRet (mTup (mCons (m2 fDiv (m2 fMul (mVar 0) (mVar 3)) (mVar 1)) (mCons (mVar 3) mNil))))))
def b_l_box (Φ : Ix → FL) : MS :=
  (sRet (mNew (mLst (mCons (mFn 3 (Φ .l_digits) (mCons (mVar 0) (mCons (mVar 1) (mCons (mVar 2) mNil)))) (mCons (mC (.int 0)) (mCons (mC (.int 0)) (mCons (mC (.int 0)) (mCons (mC (.int 0)) (mCons (mNew (mLst mNil)) mNil)))))))))
def b_l_digits (Φ : Ix → FL) : MS :=
  (sSeq (sAsg (mNew (mLst mNil)) (mgName 3))
  (sSeq (sFor (iRange2 (mVar 1) (mVar 2)) (mgName 4) (sSeq (sAsg (mFn 2 (Φ .l_cell) (mCons (mVar 0) (mCons (mVar 4) mNil))) (mgName 5))
  (sSeq (sIf (mCmp cLtT (mVar 5) (mC (.int 0))) (sAsg (m2 fSub (mC (.int 1)) (m2 fMul (mC (.int 2)) (mVar 5))) (mgName 5)) sPass)
  (sIf (mCmp cGeT (mVar 5) (m2 fPow (mC (.int 10)) (mC (.int 18)))) (sFor (iRange1 (mC (.int 60))) (mgName 6) (sIf (mCmp cGtT (mVar 5) (mC (.int 0))) (sSeq (sExpr (mMeth "list" fAppend (mVar 3) (mCons (m2 fMod (mCall fInt (mCons (mVar 5) mNil)) (mC (.int 1000))) mNil)))
  (sAsg (m2 fDiv (mVar 5) (mC (.int 1000))) (mgName 5))) sPass)) (sSeq (sAsg (m2 fMod (mCall fInt (mCons (m2 fAddT (m2 fAddT (m2 fMul (mVar 5) (mC (.int 48271))) (m2 fMul (mVar 4) (mC (.int 69621)))) (mC (.int 11))) mNil)) (mC (.int 2147483647))) (mgName 7))
  (sFor (iRange1 (mC (.int 12))) (mgName 6) (sSeq (sAsg (m2 fMod (mCall fInt (mCons (m2 fAddT (m2 fAddT (m2 fMul (mVar 7) (mC (.int 16807))) (m2 fMul (mC (.int 7)) (mVar 6))) (mC (.int 1))) mNil)) (mC (.int 2147483647))) (mgName 7))
  (sExpr (mMeth "list" fAppend (mVar 3) (mCons (m2 fMod (mCall fInt (mCons (m2 fDiv (mVar 7) (mC (.int 997))) mNil)) (mC (.int 1000))) mNil))))))))))
  (sRet (mVar 3))))
def b_l_cell (Φ : Ix → FL) : MS :=
  (sSeq (sIf (mCmp cLtT (mVar 1) (mCall fLen (mCons (mVar 0) mNil))) (sRet (m2 fIx (mVar 0) (mVar 1))) sPass)
  (sRet (mC (.int 0))))
def b_l_draw (Φ : Ix → FL) : MS :=
  (sSeq (sAsg (m2 fIx (mVar 0) (mC (.int 1))) (mgName 2))
  (sSeq (sAsg (m2 fAdd (mVar 2) (mC (.int 1))) (mgSub (mVar 0) (mC (.int 1))))
  (sSeq (sIf (mCmp cLtT (mVar 2) (mCall fLen (mCons (m2 fIx (mVar 0) (mC (.int 0))) mNil))) (sRet (m2 fMod (mCall fInt (mCons (m2 fIx (m2 fIx (mVar 0) (mC (.int 0))) (mVar 2)) mNil)) (mVar 1))) sPass)
  (sRet (mC (.int 0))))))
def b_l_same (Φ : Ix → FL) : MS :=
  (sSeq (sIf (mTru (mIsi "tuple" (mVar 1))) (sSeq (sIf (mOr (mNot (mTru (mIsi "tuple" (mVar 0)))) (mCmp cNe (mCall fLen (mCons (mVar 0) mNil)) (mCall fLen (mCons (mVar 1) mNil)))) (sRet (mC (.bl false))) sPass)
  (sSeq (sFor (iRange1 (mCall fLen (mCons (mVar 1) mNil))) (mgName 2) (sIf (mNot (mTru (mFn 2 (Φ .l_same) (mCons (m2 fIx (mVar 0) (mVar 2)) (mCons (m2 fIx (mVar 1) (mVar 2)) mNil))))) (sRet (mC (.bl false))) sPass))
  (sRet (mC (.bl true))))) sPass)
  (sSeq (sIf (mCmp cIs (mVar 1) (mC .non)) (sRet (mBl (mCmp cIs (mVar 0) (mC .non)))) sPass)
  (sSeq (sIf (mTru (mIsi "bool" (mVar 1))) (sRet (mAndV (mIsi "bool" (mVar 0)) (mBl (mCmp cEq (mVar 0) (mVar 1))))) sPass)
  (sSeq (sIf (mTru (mIsi "int" (mVar 1))) (sRet (mAndV (mIsi "int" (mVar 0)) (mAndV (mNotV (mIsi "bool" (mVar 0))) (mBl (mCmp cEq (mVar 0) (mVar 1)))))) sPass)
  (sRet (mAndV (mIsi "str" (mVar 0)) (mBl (mCmp cEq (mVar 0) (mVar 1)))))))))
def L_law_1 (Φ : Ix → FL) : MS :=
  (sSeq (sAsg (mNew (mLst (mCons (mVar 3) (mCons (m2 fAdd (mVar 3) (m2 fDiv (mVar 4) (mC (.int 2)))) (mCons (m2 fAdd (mVar 3) (mVar 4)) mNil))))) (mgName 10))
  (sAsg (m2 fAdd (mVar 8) (mLcT (iRange1 (mC (.int 3))) (mgName 7) (mCmp cLeT (mCall fAbs (mCons (m2 fSub (mVar 9) (m2 fIx (mVar 10) (mVar 7))) mNil)) (mVar 5)) (mTup (mCons (mCall fAbs (mCons (m2 fSub (mVar 9) (m2 fIx (mVar 10) (mVar 7))) mNil)) (mCons (mVar 9) (mCons (mVar 7) (mCons (m2 fSub (m2 fAddT (mVar 3) (mVar 9)) (m2 fIx (mVar 10) (mVar 7))) mNil))))) [7])) (mgName 8)))
def L_law_2 (Φ : Ix → FL) : MS :=
  (sSeq (sAsg (mFn 2 (Φ .l_draw) (mCons (mVar 1) (mCons (mC (.int 60)) mNil))) (mgName 3))
  (sSeq (sAsg (mFn 2 (Φ .l_draw) (mCons (mVar 1) (mCons (mC (.int 20)) mNil))) (mgName 4))
  (sSeq (sAsg (mFn 2 (Φ .l_draw) (mCons (mVar 1) (mCons (mC (.int 8)) mNil))) (mgName 5))
  (sSeq (sAsg (mCall fTuple (mCons (mLcT (iRange1 (mFn 2 (Φ .l_draw) (mCons (mVar 1) (mCons (mC (.int 5)) mNil)))) (mgName 7) mYes (mFn 2 (Φ .l_draw) (mCons (mVar 1) (mCons (mC (.int 70)) mNil))) [7]) mNil)) (mgName 6))
  (sSeq (sAsg (mNew (mLst mNil)) (mgName 8))
  (sSeq (sFor (iSeq (mVar 6)) (mgName 9) (L_law_1 Φ))
  (sSeq (sAsg (mTup (mCons (mVar 3) (mCons (mC .non) mNil))) (mgName 11))
  (sSeq (sIf (mCmp cGtT (mCall fLen (mCons (mVar 8) mNil)) (mC (.int 0))) (sAsg (mTup (mCons (m2 fIx (mCall (fBestL leastD) (mCons (mVar 8) mNil)) (mC (.int 3))) (mCons (m2 fIx (mCall (fBestL leastD) (mCons (mVar 8) mNil)) (mC (.int 1))) mNil))) (mgName 11)) sPass)
  (sSeq (sIf (mNot (mTru (mFn 2 (Φ .l_same) (mCons (mFn 4 (Φ .snapped) (mCons (mVar 3) (mCons (mVar 4) (mCons (mVar 6) (mCons (mVar 5) mNil))))) (mCons (mVar 11) mNil))))) (sRet (mC (.bl false))) sPass)
  (sSeq (sAsg (m2 fAdd (mC (.int 1)) (mFn 2 (Φ .l_draw) (mCons (mVar 1) (mCons (mC (.int 9)) mNil)))) (mgName 12))
  (sSeq (sAsg (mLc (iRange1 (mC (.int 70))) (mgName 7) (mCmp cLeT (m2 fMul (mC (.int 2)) (mCall fAbs (mCons (m2 fSub (m2 fMul (mVar 7) (mVar 12)) (mVar 3)) mNil))) (mVar 12)) (m2 fMul (mVar 7) (mVar 12)) [7]) (mgName 13))
  (sSeq (sIf (mNot (mTru (mFn 2 (Φ .l_same) (mCons (mFn 2 (Φ .to_grid) (mCons (mVar 3) (mCons (mVar 12) mNil))) (mCons (mCall (fBestL mostD) (mCons (mVar 13) mNil)) mNil))))) (sRet (mC (.bl false))) sPass)
  (sSeq (sAsg (mFn 2 (Φ .l_draw) (mCons (mVar 1) (mCons (mC (.int 30)) mNil))) (mgName 14))
  (sSeq (sAsg (m2 fAdd (mVar 14) (mFn 2 (Φ .l_draw) (mCons (mVar 1) (mCons (mC (.int 40)) mNil)))) (mgName 15))
  (sSeq (sAsg (mCall fMin (mCons (mVar 3) (mCons (m2 fSub (mVar 15) (mVar 4)) mNil))) (mgName 16))
  (sSeq (sIf (mNot (mTru (mFn 2 (Φ .l_same) (mCons (mFn 4 (Φ .held) (mCons (mVar 3) (mCons (mVar 4) (mCons (mVar 14) (mCons (mVar 15) mNil))))) (mCons (mCall fMax (mCons (mVar 14) (mCons (mVar 16) mNil))) mNil))))) (sRet (mC (.bl false))) sPass)
  (sSeq (sAsg (mTup (mCons (mFn 2 (Φ .l_draw) (mCons (mVar 1) (mCons (mC (.int 20)) mNil))) (mCons (mFn 2 (Φ .l_draw) (mCons (mVar 1) (mCons (mC (.int 20)) mNil))) (mCons (m2 fAdd (mC (.int 5)) (mFn 2 (Φ .l_draw) (mCons (mVar 1) (mCons (mC (.int 20)) mNil)))) (mCons (m2 fAdd (mC (.int 5)) (mFn 2 (Φ .l_draw) (mCons (mVar 1) (mCons (mC (.int 20)) mNil)))) mNil))))) (mgName 17))
  (sSeq (sAsg (mTup (mCons (m2 fSub (mFn 2 (Φ .l_draw) (mCons (mVar 1) (mCons (mC (.int 30)) mNil))) (mC (.int 15))) (mCons (m2 fSub (mFn 2 (Φ .l_draw) (mCons (mVar 1) (mCons (mC (.int 30)) mNil))) (mC (.int 15))) mNil))) (mgName 18))
  (sSeq (sAsg (m2 fAdd (mC (.int 1)) (mFn 2 (Φ .l_draw) (mCons (mVar 1) (mCons (mC (.int 4)) mNil)))) (mgName 19))
  (sSeq (sAsg (m2 fIx (mTmp (mLst (mCons (mC (.str "nw")) (mCons (mC (.str "ne")) (mCons (mC (.str "sw")) (mCons (mC (.str "se")) mNil)))))) (mFn 2 (Φ .l_draw) (mCons (mVar 1) (mCons (mC (.int 4)) mNil)))) (mgName 20))
  (sSeq (sAsg (mVar 17) (mgTup 4 (mgCons (mgName 21) (mgCons (mgName 22) (mgCons (mgName 23) (mgCons (mgName 24) mgNil))))))
  (sSeq (sIf (mCmp cEq (m2 fIx (mVar 20) (mC (.int 1))) (mC (.str "w"))) (sSeq (sAsg (mCall fMax (mCons (mVar 19) (mCons (m2 fSub (mVar 23) (m2 fIx (mVar 18) (mC (.int 0)))) mNil))) (mgName 23))
  (sAsg (m2 fSub (m2 fAddT (m2 fIx (mVar 17) (mC (.int 0))) (m2 fIx (mVar 17) (mC (.int 2)))) (mVar 23)) (mgName 21))) (sAsg (mCall fMax (mCons (mVar 19) (mCons (m2 fAddT (mVar 23) (m2 fIx (mVar 18) (mC (.int 0)))) mNil))) (mgName 23)))
  (sSeq (sIf (mCmp cEq (m2 fIx (mVar 20) (mC (.int 0))) (mC (.str "n"))) (sSeq (sAsg (mCall fMax (mCons (mVar 19) (mCons (m2 fSub (mVar 24) (m2 fIx (mVar 18) (mC (.int 1)))) mNil))) (mgName 24))
  (sAsg (m2 fSub (m2 fAddT (m2 fIx (mVar 17) (mC (.int 1))) (m2 fIx (mVar 17) (mC (.int 3)))) (mVar 24)) (mgName 22))) (sAsg (mCall fMax (mCons (mVar 19) (mCons (m2 fAddT (mVar 24) (m2 fIx (mVar 18) (mC (.int 1)))) mNil))) (mgName 24)))
  (sSeq (sIf (mNot (mTru (mFn 2 (Φ .l_same) (mCons (mFn 4 (Φ .resized) (mCons (mVar 17) (mCons (mVar 20) (mCons (mVar 18) (mCons (mVar 19) mNil))))) (mCons (mTup (mCons (mVar 21) (mCons (mVar 22) (mCons (mVar 23) (mCons (mVar 24) mNil))))) mNil))))) (sRet (mC (.bl false))) sPass)
  (sSeq (sAsg (m2 fAdd (mC (.int 1)) (mFn 2 (Φ .l_draw) (mCons (mVar 1) (mCons (mC (.int 60)) mNil)))) (mgName 25))
  (sSeq (sAsg (m2 fAdd (mC (.int 1)) (mFn 2 (Φ .l_draw) (mCons (mVar 1) (mCons (mC (.int 60)) mNil)))) (mgName 26))
  (sSeq (sAsg (m2 fAdd (mC (.int 1)) (mFn 2 (Φ .l_draw) (mCons (mVar 1) (mCons (mC (.int 40)) mNil)))) (mgName 27))
  (sSeq (sAsg (m2 fAdd (mC (.int 1)) (mFn 2 (Φ .l_draw) (mCons (mVar 1) (mCons (mC (.int 40)) mNil)))) (mgName 28))
  (sSeq (sAsg (mTup (mCons (mVar 25) (mCons (mVar 26) mNil))) (mgName 29))
  (sSeq (sIf (mOr (mCmp cGtT (mVar 25) (mVar 27)) (mCmp cGtT (mVar 26) (mVar 28))) (sIf (mCmp cGeT (m2 fMul (mVar 25) (mVar 28)) (m2 fMul (mVar 26) (mVar 27))) (sAsg (mTup (mCons (mVar 27) (mCons (m2 fDiv (m2 fMul (mVar 26) (mVar 27)) (mVar 25)) mNil))) (mgName 29)) (sAsg (mTup (mCons (m2 fDiv (m2 fMul (mVar 25) (mVar 28)) (mVar 26)) (mCons (mVar 28) mNil))) (mgName 29))) sPass)
  (sSeq (sIf (mNot (mTru (mFn 2 (Φ .l_same) (mCons (mFn 4 (Φ .fitted) (mCons (mVar 25) (mCons (mVar 26) (mCons (mVar 27) (mCons (mVar 28) mNil))))) (mCons (mVar 29) mNil))))) (sRet (mC (.bl false))) sPass)
  (sIf (mOr (mCmp cGtT (m2 fIx (mVar 29) (mC (.int 0))) (mVar 27)) (mCmp cGtT (m2 fIx (mVar 29) (mC (.int 1))) (mVar 28))) (sRet (mC (.bl false))) sPass))))))))))))))))))))))))))))))))
def b_law (Φ : Ix → FL) : MS :=
  (sSeq (sAsg (mFn 3 (Φ .l_box) (mCons (mVar 0) (mCons (mC (.int 0)) (mCons (mC (.int 62)) mNil)))) (mgName 1))
  (sSeq (sFor (iRange1 (mC (.int 2))) (mgName 2) (L_law_2 Φ))
  (sRet (mC (.bl true)))))
def Phi : Nat → Ix → FL
  | 0, _ => fun _ _ => none
  | k + 1, .snapped => runBody 4 8 (b_snapped (Phi k))
  | k + 1, .to_grid => runBody 2 2 (b_to_grid (Phi k))
  | k + 1, .held => runBody 4 4 (b_held (Phi k))
  | k + 1, .resized => runBody 4 10 (b_resized (Phi k))
  | k + 1, .fitted => runBody 4 4 (b_fitted (Phi k))
  | k + 1, .l_box => runBody 3 3 (b_l_box (Phi k))
  | k + 1, .l_digits => runBody 3 8 (b_l_digits (Phi k))
  | k + 1, .l_cell => runBody 2 2 (b_l_cell (Phi k))
  | k + 1, .l_draw => runBody 2 3 (b_l_draw (Phi k))
  | k + 1, .l_same => runBody 2 3 (b_l_same (Phi k))
  | k + 1, .law => runBody 1 30 (b_law (Phi k))


/-! ### the walk -/
theorem sc_snapped : FnScope N_snapped p_snapped (defScope s_snapped) := ⟨rfl, rfl, rfl, by decide +kernel, rfl, by decide +kernel, by decide +kernel⟩
theorem sc_to_grid : FnScope N_to_grid p_to_grid (defScope s_to_grid) := ⟨rfl, rfl, rfl, by decide +kernel, rfl, by decide +kernel, by decide +kernel⟩
theorem sc_held : FnScope N_held p_held (defScope s_held) := ⟨rfl, rfl, rfl, by decide +kernel, rfl, by decide +kernel, by decide +kernel⟩
theorem sc_resized : FnScope N_resized p_resized (defScope s_resized) := ⟨rfl, rfl, rfl, by decide +kernel, rfl, by decide +kernel, by decide +kernel⟩
theorem sc_fitted : FnScope N_fitted p_fitted (defScope s_fitted) := ⟨rfl, rfl, rfl, by decide +kernel, rfl, by decide +kernel, by decide +kernel⟩
theorem sc_l_box : FnScope N_l_box p_l_box (defScope s_l_box) := ⟨rfl, rfl, rfl, by decide +kernel, rfl, by decide +kernel, by decide +kernel⟩
theorem sc_l_digits : FnScope N_l_digits p_l_digits (defScope s_l_digits) := ⟨rfl, rfl, rfl, by decide +kernel, rfl, by decide +kernel, by decide +kernel⟩
theorem sc_l_cell : FnScope N_l_cell p_l_cell (defScope s_l_cell) := ⟨rfl, rfl, rfl, by decide +kernel, rfl, by decide +kernel, by decide +kernel⟩
theorem sc_l_draw : FnScope N_l_draw p_l_draw (defScope s_l_draw) := ⟨rfl, rfl, rfl, by decide +kernel, rfl, by decide +kernel, by decide +kernel⟩
theorem sc_l_same : FnScope N_l_same p_l_same (defScope s_l_same) := ⟨rfl, rfl, rfl, by decide +kernel, rfl, by decide +kernel, by decide +kernel⟩
theorem sc_law : FnScope N_law p_law (defScope s_law) := ⟨rfl, rfl, rfl, by decide +kernel, rfl, by decide +kernel, by decide +kernel⟩
structure Gs (mg : Str → Option Value) : Prop where
  g_abs : mg "abs" = none
  g_bool : mg "bool" = none
  g_int : mg "int" = none
  g_isinstance : mg "isinstance" = none
  g_len : mg "len" = none
  g_max : mg "max" = none
  g_min : mg "min" = none
  g_range : mg "range" = none
  g_str : mg "str" = none
  g_tuple : mg "tuple" = none
structure Ok (P : Program) (w : World) (K : PySem.W.Frag) (mg : Str → Option Value) (base : Heap) (k : Nat) (Φ : Ix → FL) : Prop where
  f_snapped : FnD P w K mg base k "snapped" p_snapped (Φ .snapped)
  f_to_grid : FnD P w K mg base k "to_grid" p_to_grid (Φ .to_grid)
  f_held : FnD P w K mg base k "held" p_held (Φ .held)
  f_resized : FnD P w K mg base k "resized" p_resized (Φ .resized)
  f_fitted : FnD P w K mg base k "fitted" p_fitted (Φ .fitted)
  f_l_box : FnD P w K mg base k "_law_box" p_l_box (Φ .l_box)
  f_l_digits : FnD P w K mg base k "_law_digits" p_l_digits (Φ .l_digits)
  f_l_cell : FnD P w K mg base k "_law_cell" p_l_cell (Φ .l_cell)
  f_l_draw : FnD P w K mg base k "_law_draw" p_l_draw (Φ .l_draw)
  f_l_same : FnD P w K mg base k "_law_same" p_l_same (Φ .l_same)
  f_law : FnD P w K mg base k "law" p_law (Φ .law)
section
variable {P : Program} {w : World} {K : PySem.W.Frag} {mg : Str → Option Value} {base : Heap} {k : Nat} {Φ : Ix → FL}
theorem w_snapped (G : Gs mg) (F : Ok P w K mg base k Φ) {f : Addr} {cdv : Value} {A : Around} {outer : List Env} {s : Shared} {H : Hp} {E : XK} (hr : Room (k + 2) (A.deeper (envOfC "snapped" (defScope s_snapped) s.heap.objs.size f cdv))) :
    PMB (cxOf CX0 P w K mg base N_snapped "snapped" (defScope s_snapped) f cdv A outer s H E).nox (defBody s_snapped) (b_snapped Φ) := by
  have nd : (N_snapped : List Str).Nodup := sc_snapped.nd
  have hr0 : Room k (A.deeper (envOfC "snapped" (defScope s_snapped) s.heap.objs.size f cdv)) := hr.mono (by omega)
  have hu : (A.deeper (envOfC "snapped" (defScope s_snapped) s.heap.objs.size f cdv)).units + 64 < cLine := by have := hr.un; omega
  have hu1 : (A.deeper (envOfC "snapped" (defScope s_snapped) s.heap.objs.size f cdv)).units + 65 < cLine := by have := hr.un; omega
  have hu2 : (A.deeper (envOfC "snapped" (defScope s_snapped) s.heap.objs.size f cdv)).units + 70 < cLine := by have := hr.un; omega
  exact (pb_cons (ps_mset (i := 4) nd rfl (.inl rfl) pm_non)
  (pb_cons (ps_mfor PassesOwn.never rfl (pi_mseq (pm_var 2)) (pg_mname (i := 5) nd rfl (.inl rfl)) (pb_one (ps_mfor PassesOwn.never rfl (pi_mseq (pm_tup (pa_mcons (pm_var 0) (pa_mcons (pm_op od_add (pm_var 0) (pm_op od_div (pm_var 1) pm_int)) (pa_mcons (pm_op od_add (pm_var 0) (pm_var 1)) pa_mnil))))) (pg_mname (i := 6) nd rfl (.inl rfl)) (pb_cons (ps_mset (i := 7) nd rfl (.inl rfl) (pm_callB call_mabs (by rfl) G.g_abs bt_abs (pa_mcons (pm_op od_sub (pm_var 5) (pm_var 6)) pa_mnil)))
  (pb_one (ps_mif (pt_w (pw_mand (pt_mcmp (cd_leT hu) (pm_var 7) (pm_var 3) (nomark _)) (pw_mand1 (pt_w (pw_mor (pt_mcmp cd_is (pm_var 4) pm_non (nomark _)) (pw_mor1 (pt_mcmp (cd_ltT hu) (pm_tup (pa_mcons (pm_var 7) (pa_mcons (pm_var 5) pa_mnil))) (pm_cutT (pm_var 4) po_mnone (po_msome pm_int)) (nomark _)))))))) (pb_one (ps_mset (i := 4) nd rfl (.inl rfl) (pm_tup (pa_mcons (pm_var 7) (pa_mcons (pm_var 5) (pa_mcons (pm_op od_sub (pm_op od_addT (pm_var 0) (pm_var 5)) (pm_var 6)) pa_mnil)))))) pb_nil))))))
  (pb_one (ps_mret (pm_if (pt_mcmp cd_is (pm_var 4) pm_non (nomark _)) (pm_tup (pa_mcons (pm_var 0) (pa_mcons pm_non pa_mnil))) (pm_tup (pa_mcons (pm_ix (pm_var 4) pm_int (fun _ _ => rfl)) (pa_mcons (pm_ix (pm_var 4) pm_int (fun _ _ => rfl)) pa_mnil))))))))
theorem w_to_grid (G : Gs mg) (F : Ok P w K mg base k Φ) {f : Addr} {cdv : Value} {A : Around} {outer : List Env} {s : Shared} {H : Hp} {E : XK} (hr : Room (k + 2) (A.deeper (envOfC "to_grid" (defScope s_to_grid) s.heap.objs.size f cdv))) :
    PMB (cxOf CX0 P w K mg base N_to_grid "to_grid" (defScope s_to_grid) f cdv A outer s H E).nox (defBody s_to_grid) (b_to_grid Φ) := by
  have nd : (N_to_grid : List Str).Nodup := sc_to_grid.nd
  have hr0 : Room k (A.deeper (envOfC "to_grid" (defScope s_to_grid) s.heap.objs.size f cdv)) := hr.mono (by omega)
  have hu : (A.deeper (envOfC "to_grid" (defScope s_to_grid) s.heap.objs.size f cdv)).units + 64 < cLine := by have := hr.un; omega
  have hu1 : (A.deeper (envOfC "to_grid" (defScope s_to_grid) s.heap.objs.size f cdv)).units + 65 < cLine := by have := hr.un; omega
  have hu2 : (A.deeper (envOfC "to_grid" (defScope s_to_grid) s.heap.objs.size f cdv)).units + 70 < cLine := by have := hr.un; omega
  exact (pb_one (ps_mret (pm_op od_mul (pm_op od_div (pm_op od_addT (pm_op od_mul pm_int (pm_var 0)) (pm_var 1)) (pm_op od_mul pm_int (pm_var 1))) (pm_var 1))))
theorem w_held (G : Gs mg) (F : Ok P w K mg base k Φ) {f : Addr} {cdv : Value} {A : Around} {outer : List Env} {s : Shared} {H : Hp} {E : XK} (hr : Room (k + 2) (A.deeper (envOfC "held" (defScope s_held) s.heap.objs.size f cdv))) :
    PMB (cxOf CX0 P w K mg base N_held "held" (defScope s_held) f cdv A outer s H E).nox (defBody s_held) (b_held Φ) := by
  have nd : (N_held : List Str).Nodup := sc_held.nd
  have hr0 : Room k (A.deeper (envOfC "held" (defScope s_held) s.heap.objs.size f cdv)) := hr.mono (by omega)
  have hu : (A.deeper (envOfC "held" (defScope s_held) s.heap.objs.size f cdv)).units + 64 < cLine := by have := hr.un; omega
  have hu1 : (A.deeper (envOfC "held" (defScope s_held) s.heap.objs.size f cdv)).units + 65 < cLine := by have := hr.un; omega
  have hu2 : (A.deeper (envOfC "held" (defScope s_held) s.heap.objs.size f cdv)).units + 70 < cLine := by have := hr.un; omega
  exact (pb_one (ps_mret (pm_callB (call_mmax rfl) (by rfl) G.g_max bt_max (pa_mcons (pm_var 2) (pa_mcons (pm_callB (call_mmin rfl) (by rfl) G.g_min bt_min (pa_mcons (pm_var 0) (pa_mcons (pm_op od_sub (pm_var 3) (pm_var 1)) pa_mnil))) pa_mnil)))))
theorem w_resized (G : Gs mg) (F : Ok P w K mg base k Φ) {f : Addr} {cdv : Value} {A : Around} {outer : List Env} {s : Shared} {H : Hp} {E : XK} (hr : Room (k + 2) (A.deeper (envOfC "resized" (defScope s_resized) s.heap.objs.size f cdv))) :
    PMB (cxOf CX0 P w K mg base N_resized "resized" (defScope s_resized) f cdv A outer s H E).nox (defBody s_resized) (b_resized Φ) := by
  have nd : (N_resized : List Str).Nodup := sc_resized.nd
  have hr0 : Room k (A.deeper (envOfC "resized" (defScope s_resized) s.heap.objs.size f cdv)) := hr.mono (by omega)
  have hu : (A.deeper (envOfC "resized" (defScope s_resized) s.heap.objs.size f cdv)).units + 64 < cLine := by have := hr.un; omega
  have hu1 : (A.deeper (envOfC "resized" (defScope s_resized) s.heap.objs.size f cdv)).units + 65 < cLine := by have := hr.un; omega
  have hu2 : (A.deeper (envOfC "resized" (defScope s_resized) s.heap.objs.size f cdv)).units + 70 < cLine := by have := hr.un; omega
  exact (pb_cons (ps_masg (pm_var 0) (pg_mtup rfl (pgs_mcons (pg_mname (i := 4) nd rfl (.inl rfl)) (pgs_mcons (pg_mname (i := 5) nd rfl (.inl rfl)) (pgs_mcons (pg_mname (i := 6) nd rfl (.inl rfl)) (pgs_mcons (pg_mname (i := 7) nd rfl (.inl rfl)) pgs_mnil))))))
  (pb_cons (ps_mpar2 (i := 8) (j := 9) rfl nd rfl rfl (by decide) rfl rfl (pa_mcons (pm_op od_add (pm_var 4) (pm_var 6)) (pa_mcons (pm_op od_add (pm_var 5) (pm_var 7)) pa_mnil)) (by rfl))
  (pb_cons (ps_mif (pt_mcmp (cd_in hu1) pm_str (pm_var 1) (by rfl)) (pb_one (ps_mset (i := 4) nd rfl (.inl rfl) (pm_callB (call_mmin rfl) (by rfl) G.g_min bt_min (pa_mcons (pm_op od_addT (pm_var 4) (pm_ix (pm_var 2) pm_int (fun _ _ => rfl))) (pa_mcons (pm_op od_sub (pm_var 8) (pm_var 3)) pa_mnil))))) (pb_one (ps_mset (i := 8) nd rfl (.inl rfl) (pm_callB (call_mmax rfl) (by rfl) G.g_max bt_max (pa_mcons (pm_op od_addT (pm_var 8) (pm_ix (pm_var 2) pm_int (fun _ _ => rfl))) (pa_mcons (pm_op od_addT (pm_var 4) (pm_var 3)) pa_mnil))))))
  (pb_cons (ps_mif (pt_mcmp (cd_in hu1) pm_str (pm_var 1) (by rfl)) (pb_one (ps_mset (i := 5) nd rfl (.inl rfl) (pm_callB (call_mmin rfl) (by rfl) G.g_min bt_min (pa_mcons (pm_op od_addT (pm_var 5) (pm_ix (pm_var 2) pm_int (fun _ _ => rfl))) (pa_mcons (pm_op od_sub (pm_var 9) (pm_var 3)) pa_mnil))))) (pb_one (ps_mset (i := 9) nd rfl (.inl rfl) (pm_callB (call_mmax rfl) (by rfl) G.g_max bt_max (pa_mcons (pm_op od_addT (pm_var 9) (pm_ix (pm_var 2) pm_int (fun _ _ => rfl))) (pa_mcons (pm_op od_addT (pm_var 5) (pm_var 3)) pa_mnil))))))
  (pb_one (ps_mret (pm_tup (pa_mcons (pm_var 4) (pa_mcons (pm_var 5) (pa_mcons (pm_op od_sub (pm_var 8) (pm_var 4)) (pa_mcons (pm_op od_sub (pm_var 9) (pm_var 5)) pa_mnil)))))))))))
theorem w_fitted (G : Gs mg) (F : Ok P w K mg base k Φ) {f : Addr} {cdv : Value} {A : Around} {outer : List Env} {s : Shared} {H : Hp} {E : XK} (hr : Room (k + 2) (A.deeper (envOfC "fitted" (defScope s_fitted) s.heap.objs.size f cdv))) :
    PMB (cxOf CX0 P w K mg base N_fitted "fitted" (defScope s_fitted) f cdv A outer s H E).nox (defBody s_fitted) (b_fitted Φ) := by
  have nd : (N_fitted : List Str).Nodup := sc_fitted.nd
  have hr0 : Room k (A.deeper (envOfC "fitted" (defScope s_fitted) s.heap.objs.size f cdv)) := hr.mono (by omega)
  have hu : (A.deeper (envOfC "fitted" (defScope s_fitted) s.heap.objs.size f cdv)).units + 64 < cLine := by have := hr.un; omega
  have hu1 : (A.deeper (envOfC "fitted" (defScope s_fitted) s.heap.objs.size f cdv)).units + 65 < cLine := by have := hr.un; omega
  have hu2 : (A.deeper (envOfC "fitted" (defScope s_fitted) s.heap.objs.size f cdv)).units + 70 < cLine := by have := hr.un; omega
  exact (pb_cons (ps_mif (pt_w (pw_mand (pt_mcmp (cd_leT hu) (pm_var 0) (pm_var 2) (nomark _)) (pw_mand1 (pt_mcmp (cd_leT hu) (pm_var 1) (pm_var 3) (nomark _))))) (pb_one (ps_mret (pm_tup (pa_mcons (pm_var 0) (pa_mcons (pm_var 1) pa_mnil))))) pb_nil)
  (pb_cons (ps_mif (pt_mcmp (cd_geT hu) (pm_op od_mul (pm_var 0) (pm_var 3)) (pm_op od_mul (pm_var 1) (pm_var 2)) (nomark _)) (pb_one (ps_mret (pm_tup (pa_mcons (pm_var 2) (pa_mcons (pm_op od_div (pm_op od_mul (pm_var 1) (pm_var 2)) (pm_var 0)) pa_mnil))))) pb_nil)
  (pb_one (ps_mret (pm_tup (pa_mcons (pm_op od_div (pm_op od_mul (pm_var 0) (pm_var 3)) (pm_var 1)) (pa_mcons (pm_var 3) pa_mnil)))))))
theorem w_l_box (G : Gs mg) (F : Ok P w K mg base k Φ) {f : Addr} {cdv : Value} {A : Around} {outer : List Env} {s : Shared} {H : Hp} {E : XK} (hr : Room (k + 2) (A.deeper (envOfC "_law_box" (defScope s_l_box) s.heap.objs.size f cdv))) :
    PMB (cxOf CX0 P w K mg base N_l_box "_law_box" (defScope s_l_box) f cdv A outer s H E).nox (defBody s_l_box) (b_l_box Φ) := by
  have nd : (N_l_box : List Str).Nodup := sc_l_box.nd
  have hr0 : Room k (A.deeper (envOfC "_law_box" (defScope s_l_box) s.heap.objs.size f cdv)) := hr.mono (by omega)
  have hu : (A.deeper (envOfC "_law_box" (defScope s_l_box) s.heap.objs.size f cdv)).units + 64 < cLine := by have := hr.un; omega
  have hu1 : (A.deeper (envOfC "_law_box" (defScope s_l_box) s.heap.objs.size f cdv)).units + 65 < cLine := by have := hr.un; omega
  have hu2 : (A.deeper (envOfC "_law_box" (defScope s_l_box) s.heap.objs.size f cdv)).units + 70 < cLine := by have := hr.un; omega
  exact (pb_one (ps_mret (pm_new (pn_lst (pa_mcons (pm_fn F.f_l_digits hr0 (by rfl) (pa_mcons (pm_var 0) (pa_mcons (pm_var 1) (pa_mcons (pm_var 2) pa_mnil)))) (pa_mcons pm_int (pa_mcons pm_int (pa_mcons pm_int (pa_mcons pm_int (pa_mcons (pm_new (pn_lst pa_mnil)) pa_mnil))))))))))
theorem w_l_digits (G : Gs mg) (F : Ok P w K mg base k Φ) {f : Addr} {cdv : Value} {A : Around} {outer : List Env} {s : Shared} {H : Hp} {E : XK} (hr : Room (k + 2) (A.deeper (envOfC "_law_digits" (defScope s_l_digits) s.heap.objs.size f cdv))) :
    PMB (cxOf CX0 P w K mg base N_l_digits "_law_digits" (defScope s_l_digits) f cdv A outer s H E).nox (defBody s_l_digits) (b_l_digits Φ) := by
  have nd : (N_l_digits : List Str).Nodup := sc_l_digits.nd
  have hr0 : Room k (A.deeper (envOfC "_law_digits" (defScope s_l_digits) s.heap.objs.size f cdv)) := hr.mono (by omega)
  have hu : (A.deeper (envOfC "_law_digits" (defScope s_l_digits) s.heap.objs.size f cdv)).units + 64 < cLine := by have := hr.un; omega
  have hu1 : (A.deeper (envOfC "_law_digits" (defScope s_l_digits) s.heap.objs.size f cdv)).units + 65 < cLine := by have := hr.un; omega
  have hu2 : (A.deeper (envOfC "_law_digits" (defScope s_l_digits) s.heap.objs.size f cdv)).units + 70 < cLine := by have := hr.un; omega
  exact (pb_cons (ps_mset (i := 3) nd rfl (.inl rfl) (pm_new (pn_lst pa_mnil)))
  (pb_cons (ps_mfor PassesOwn.never rfl (pi_mrange2 (by rfl) G.g_range (pm_var 1) (pm_var 2)) (pg_mname (i := 4) nd rfl (.inl rfl)) (pb_cons (ps_mset (i := 5) nd rfl (.inl rfl) (pm_fn F.f_l_cell hr0 (by rfl) (pa_mcons (pm_var 0) (pa_mcons (pm_var 4) pa_mnil))))
  (pb_cons (ps_mif (pt_mcmp (cd_ltT hu) (pm_var 5) pm_int (nomark _)) (pb_one (ps_mset (i := 5) nd rfl (.inl rfl) (pm_op od_sub pm_int (pm_op od_mul pm_int (pm_var 5))))) pb_nil)
  (pb_one (ps_mif (pt_mcmp (cd_geT hu) (pm_var 5) (pm_op od_pow pm_int pm_int) (nomark _)) (pb_one (ps_mfor PassesOwn.never rfl (pi_mrange1 (by rfl) G.g_range pm_int) (pg_mname (i := 6) nd rfl (.inl rfl)) (pb_one (ps_mif (pt_mcmp (cd_gtT hu) (pm_var 5) pm_int (nomark _)) (pb_cons (ps_mexpr (pm_meth (.inr (.inl rfl)) PySem.F.plainAttrs_list PySem.F.slot_list_append PySem.F.type_list_append mt_mappend (pm_var 3) (pa_mcons (pm_op od_mod (pm_callT call_mint (by rfl) G.g_int bt_int (pa_mcons (pm_var 5) pa_mnil)) pm_int) pa_mnil)))
  (pb_one (ps_mset (i := 5) nd rfl (.inl rfl) (pm_op od_div (pm_var 5) pm_int)))) pb_nil)))) (pb_cons (ps_mset (i := 7) nd rfl (.inl rfl) (pm_op od_mod (pm_callT call_mint (by rfl) G.g_int bt_int (pa_mcons (pm_op od_addT (pm_op od_addT (pm_op od_mul (pm_var 5) pm_int) (pm_op od_mul (pm_var 4) pm_int)) pm_int) pa_mnil)) pm_int))
  (pb_one (ps_mfor PassesOwn.never rfl (pi_mrange1 (by rfl) G.g_range pm_int) (pg_mname (i := 6) nd rfl (.inl rfl)) (pb_cons (ps_mset (i := 7) nd rfl (.inl rfl) (pm_op od_mod (pm_callT call_mint (by rfl) G.g_int bt_int (pa_mcons (pm_op od_addT (pm_op od_addT (pm_op od_mul (pm_var 7) pm_int) (pm_op od_mul pm_int (pm_var 6))) pm_int) pa_mnil)) pm_int))
  (pb_one (ps_mexpr (pm_meth (.inr (.inl rfl)) PySem.F.plainAttrs_list PySem.F.slot_list_append PySem.F.type_list_append mt_mappend (pm_var 3) (pa_mcons (pm_op od_mod (pm_callT call_mint (by rfl) G.g_int bt_int (pa_mcons (pm_op od_div (pm_var 7) pm_int) pa_mnil)) pm_int) pa_mnil)))))))))))))
  (pb_one (ps_mret (pm_var 3)))))
theorem w_l_cell (G : Gs mg) (F : Ok P w K mg base k Φ) {f : Addr} {cdv : Value} {A : Around} {outer : List Env} {s : Shared} {H : Hp} {E : XK} (hr : Room (k + 2) (A.deeper (envOfC "_law_cell" (defScope s_l_cell) s.heap.objs.size f cdv))) :
    PMB (cxOf CX0 P w K mg base N_l_cell "_law_cell" (defScope s_l_cell) f cdv A outer s H E).nox (defBody s_l_cell) (b_l_cell Φ) := by
  have nd : (N_l_cell : List Str).Nodup := sc_l_cell.nd
  have hr0 : Room k (A.deeper (envOfC "_law_cell" (defScope s_l_cell) s.heap.objs.size f cdv)) := hr.mono (by omega)
  have hu : (A.deeper (envOfC "_law_cell" (defScope s_l_cell) s.heap.objs.size f cdv)).units + 64 < cLine := by have := hr.un; omega
  have hu1 : (A.deeper (envOfC "_law_cell" (defScope s_l_cell) s.heap.objs.size f cdv)).units + 65 < cLine := by have := hr.un; omega
  have hu2 : (A.deeper (envOfC "_law_cell" (defScope s_l_cell) s.heap.objs.size f cdv)).units + 70 < cLine := by have := hr.un; omega
  exact (pb_cons (ps_mif (pt_mcmp (cd_ltT hu) (pm_var 1) (pm_callB call_mlen (by rfl) G.g_len bt_len (pa_mcons (pm_var 0) pa_mnil)) (nomark _)) (pb_one (ps_mret (pm_ix (pm_var 0) (pm_var 1) (fun _ _ => rfl)))) pb_nil)
  (pb_one (ps_mret pm_int)))
theorem w_l_draw (G : Gs mg) (F : Ok P w K mg base k Φ) {f : Addr} {cdv : Value} {A : Around} {outer : List Env} {s : Shared} {H : Hp} {E : XK} (hr : Room (k + 2) (A.deeper (envOfC "_law_draw" (defScope s_l_draw) s.heap.objs.size f cdv))) :
    PMB (cxOf CX0 P w K mg base N_l_draw "_law_draw" (defScope s_l_draw) f cdv A outer s H E).nox (defBody s_l_draw) (b_l_draw Φ) := by
  have nd : (N_l_draw : List Str).Nodup := sc_l_draw.nd
  have hr0 : Room k (A.deeper (envOfC "_law_draw" (defScope s_l_draw) s.heap.objs.size f cdv)) := hr.mono (by omega)
  have hu : (A.deeper (envOfC "_law_draw" (defScope s_l_draw) s.heap.objs.size f cdv)).units + 64 < cLine := by have := hr.un; omega
  have hu1 : (A.deeper (envOfC "_law_draw" (defScope s_l_draw) s.heap.objs.size f cdv)).units + 65 < cLine := by have := hr.un; omega
  have hu2 : (A.deeper (envOfC "_law_draw" (defScope s_l_draw) s.heap.objs.size f cdv)).units + 70 < cLine := by have := hr.un; omega
  exact (pb_cons (ps_mset (i := 2) nd rfl (.inl rfl) (pm_ix (pm_var 0) pm_int (fun _ _ => rfl)))
  (pb_cons (ps_masg (pm_op od_add (pm_var 2) pm_int) (pg_msub (pm_var 0) pm_int))
  (pb_cons (ps_mif (pt_mcmp (cd_ltT hu) (pm_var 2) (pm_callB call_mlen (by rfl) G.g_len bt_len (pa_mcons (pm_ix (pm_var 0) pm_int (fun _ _ => rfl)) pa_mnil)) (nomark _)) (pb_one (ps_mret (pm_op od_mod (pm_callT call_mint (by rfl) G.g_int bt_int (pa_mcons (pm_ix (pm_ix (pm_var 0) pm_int (fun _ _ => rfl)) (pm_var 2) (fun _ _ => rfl)) pa_mnil)) (pm_var 1)))) pb_nil)
  (pb_one (ps_mret pm_int)))))
theorem w_l_same (G : Gs mg) (F : Ok P w K mg base k Φ) {f : Addr} {cdv : Value} {A : Around} {outer : List Env} {s : Shared} {H : Hp} {E : XK} (hr : Room (k + 2) (A.deeper (envOfC "_law_same" (defScope s_l_same) s.heap.objs.size f cdv))) :
    PMB (cxOf CX0 P w K mg base N_l_same "_law_same" (defScope s_l_same) f cdv A outer s H E).nox (defBody s_l_same) (b_l_same Φ) := by
  have nd : (N_l_same : List Str).Nodup := sc_l_same.nd
  have hr0 : Room k (A.deeper (envOfC "_law_same" (defScope s_l_same) s.heap.objs.size f cdv)) := hr.mono (by omega)
  have hu : (A.deeper (envOfC "_law_same" (defScope s_l_same) s.heap.objs.size f cdv)).units + 64 < cLine := by have := hr.un; omega
  have hu1 : (A.deeper (envOfC "_law_same" (defScope s_l_same) s.heap.objs.size f cdv)).units + 65 < cLine := by have := hr.un; omega
  have hu2 : (A.deeper (envOfC "_law_same" (defScope s_l_same) s.heap.objs.size f cdv)).units + 70 < cLine := by have := hr.un; omega
  exact (pb_cons (ps_mif (pt_tru (pm_isi (T := "tuple") (by decide) (by rfl) G.g_isinstance (pm_var 1) (by rfl) G.g_tuple bt_tuple) (fun _ => rfl)) (pb_cons (ps_mif (pt_w (pw_mor (pt_mnot (pt_tru (pm_isi (T := "tuple") (by decide) (by rfl) G.g_isinstance (pm_var 0) (by rfl) G.g_tuple bt_tuple) (fun _ => rfl))) (pw_mor1 (pt_mcmp (cd_ne hu) (pm_callB call_mlen (by rfl) G.g_len bt_len (pa_mcons (pm_var 0) pa_mnil)) (pm_callB call_mlen (by rfl) G.g_len bt_len (pa_mcons (pm_var 1) pa_mnil)) (nomark _))))) (pb_one (ps_mret pm_bl)) pb_nil)
  (pb_cons (ps_mfor PassesOwn.never rfl (pi_mrange1 (by rfl) G.g_range (pm_callB call_mlen (by rfl) G.g_len bt_len (pa_mcons (pm_var 1) pa_mnil))) (pg_mname (i := 2) nd rfl (.inl rfl)) (pb_one (ps_mif (pt_mnot (pt_tru (pm_fn F.f_l_same hr0 (by rfl) (pa_mcons (pm_ix (pm_var 0) (pm_var 2) (fun _ _ => rfl)) (pa_mcons (pm_ix (pm_var 1) (pm_var 2) (fun _ _ => rfl)) pa_mnil))) (fun _ => rfl))) (pb_one (ps_mret pm_bl)) pb_nil)))
  (pb_one (ps_mret pm_bl)))) pb_nil)
  (pb_cons (ps_mif (pt_mcmp cd_is (pm_var 1) pm_non (nomark _)) (pb_one (ps_mret (pm_cmp cd_is (pm_var 0) pm_non (nomark _)))) pb_nil)
  (pb_cons (ps_mif (pt_tru (pm_isi (T := "bool") (by decide) (by rfl) G.g_isinstance (pm_var 1) (by rfl) G.g_bool bt_bool) (fun _ => rfl)) (pb_one (ps_mret (pm_and (pm_isi (T := "bool") (by decide) (by rfl) G.g_isinstance (pm_var 0) (by rfl) G.g_bool bt_bool) (pm_one (pm_cmp (cd_eq hu) (pm_var 0) (pm_var 1) (nomark _)))))) pb_nil)
  (pb_cons (ps_mif (pt_tru (pm_isi (T := "int") (by decide) (by rfl) G.g_isinstance (pm_var 1) (by rfl) G.g_int bt_int) (fun _ => rfl)) (pb_one (ps_mret (pm_and (pm_isi (T := "int") (by decide) (by rfl) G.g_isinstance (pm_var 0) (by rfl) G.g_int bt_int) (pm_and (pm_notV (pm_isi (T := "bool") (by decide) (by rfl) G.g_isinstance (pm_var 0) (by rfl) G.g_bool bt_bool)) (pm_one (pm_cmp (cd_eq hu) (pm_var 0) (pm_var 1) (nomark _))))))) pb_nil)
  (pb_one (ps_mret (pm_and (pm_isi (T := "str") (by decide) (by rfl) G.g_isinstance (pm_var 0) (by rfl) G.g_str bt_str) (pm_one (pm_cmp (cd_eq hu) (pm_var 0) (pm_var 1) (nomark _))))))))))
theorem w_law (G : Gs mg) (F : Ok P w K mg base k Φ) {f : Addr} {cdv : Value} {A : Around} {outer : List Env} {s : Shared} {H : Hp} {E : XK} (hr : Room (k + 2) (A.deeper (envOfC "law" (defScope s_law) s.heap.objs.size f cdv))) :
    PMB (cxOf CX0 P w K mg base N_law "law" (defScope s_law) f cdv A outer s H E).nox (defBody s_law) (b_law Φ) := by
  have nd : (N_law : List Str).Nodup := sc_law.nd
  have hr0 : Room k (A.deeper (envOfC "law" (defScope s_law) s.heap.objs.size f cdv)) := hr.mono (by omega)
  have hu : (A.deeper (envOfC "law" (defScope s_law) s.heap.objs.size f cdv)).units + 64 < cLine := by have := hr.un; omega
  have hu1 : (A.deeper (envOfC "law" (defScope s_law) s.heap.objs.size f cdv)).units + 65 < cLine := by have := hr.un; omega
  have hu2 : (A.deeper (envOfC "law" (defScope s_law) s.heap.objs.size f cdv)).units + 70 < cLine := by have := hr.un; omega
  exact (pb_cons (ps_mset (i := 1) nd rfl (.inr rfl) (pm_fn F.f_l_box hr0 (by rfl) (pa_mcons (pm_var 0) (pa_mcons pm_int (pa_mcons pm_int pa_mnil)))))
  (pb_cons (ps_mfor PassesOwn.never rfl (pi_mrange1 (by rfl) G.g_range pm_int) (pg_mname (i := 2) nd rfl (.inl rfl)) (pb_cons (ps_mset (i := 3) nd rfl (.inr rfl) (pm_fn F.f_l_draw hr0 (by rfl) (pa_mcons (pm_var 1) (pa_mcons pm_int pa_mnil))))
  (pb_cons (ps_mset (i := 4) nd rfl (.inl rfl) (pm_fn F.f_l_draw hr0 (by rfl) (pa_mcons (pm_var 1) (pa_mcons pm_int pa_mnil))))
  (pb_cons (ps_mset (i := 5) nd rfl (.inr rfl) (pm_fn F.f_l_draw hr0 (by rfl) (pa_mcons (pm_var 1) (pa_mcons pm_int pa_mnil))))
  (pb_cons (ps_mset (i := 6) nd rfl (.inl rfl) (pm_callT call_mtuple (by rfl) G.g_tuple bt_tuple (pa_mcons (pm_lcT rfl nd (pi_mrange1 (by rfl) G.g_range (pm_fn F.f_l_draw hr0 (by rfl) (pa_mcons (pm_var 1) (pa_mcons pm_int pa_mnil)))) (own := [("k", 7)]) (blkOk_by (by rfl)) (fun s9 H9 C9 cl9 fp9 => (pgw_name (i := 7) (by decide) nd rfl (by first | exact .inl rfl | exact .inr rfl))) (fun s9 H9 C9 cl9 fp9 => pts_mnil) (fun s9 H9 C9 cl9 fp9 => (pm_fn F.f_l_draw hr0 (by rfl) (pa_mcons (pm_var 1) (pa_mcons pm_int pa_mnil))))) pa_mnil)))
  (pb_cons (ps_mset (i := 8) nd rfl (.inl rfl) (pm_new (pn_lst pa_mnil)))
  (pb_cons (ps_mfor PassesOwn.never rfl (pi_mseq (pm_var 6)) (pg_mname (i := 9) nd rfl (.inr rfl)) (pb_cons (ps_mset (i := 10) nd rfl (.inr rfl) (pm_new (pn_lst (pa_mcons (pm_var 3) (pa_mcons (pm_op od_add (pm_var 3) (pm_op od_div (pm_var 4) pm_int)) (pa_mcons (pm_op od_add (pm_var 3) (pm_var 4)) pa_mnil))))))
  (pb_one (ps_mset (i := 8) nd rfl (.inl rfl) (pm_op od_add (pm_var 8) (pm_lcT rfl nd (pi_mrange1 (by rfl) G.g_range pm_int) (own := [("k", 7)]) (blkOk_by (by rfl)) (fun s9 H9 C9 cl9 fp9 => (pgw_name (i := 7) (by decide) nd rfl (by first | exact .inl rfl | exact .inr rfl))) (fun s9 H9 C9 cl9 fp9 => (pts_mone (pt_mcmp (cd_leT hu) (pm_callB call_mabs (by rfl) G.g_abs bt_abs (pa_mcons (pm_op od_sub (pm_var 9) (pm_ix (pm_var 10) (pm_var 7) (fun _ _ => rfl))) pa_mnil)) (pm_var 5) (nomark _)))) (fun s9 H9 C9 cl9 fp9 => (pm_tup (pa_mcons (pm_callB call_mabs (by rfl) G.g_abs bt_abs (pa_mcons (pm_op od_sub (pm_var 9) (pm_ix (pm_var 10) (pm_var 7) (fun _ _ => rfl))) pa_mnil)) (pa_mcons (pm_var 9) (pa_mcons (pm_var 7) (pa_mcons (pm_op od_sub (pm_op od_addT (pm_var 3) (pm_var 9)) (pm_ix (pm_var 10) (pm_var 7) (fun _ _ => rfl))) pa_mnil))))))))))))
  (pb_cons (ps_mset (i := 11) nd rfl (.inl rfl) (pm_tup (pa_mcons (pm_var 3) (pa_mcons pm_non pa_mnil))))
  (pb_cons (ps_mif (pt_mcmp (cd_gtT hu) (pm_callB call_mlen (by rfl) G.g_len bt_len (pa_mcons (pm_var 8) pa_mnil)) pm_int (nomark _)) (pb_one (ps_mset (i := 11) nd rfl (.inl rfl) (pm_tup (pa_mcons (pm_ix (pm_callB (call_leastD rfl hu) (by rfl) G.g_min bt_min (pa_mcons (pm_var 8) pa_mnil)) pm_int (fun _ _ => rfl)) (pa_mcons (pm_ix (pm_callB (call_leastD rfl hu) (by rfl) G.g_min bt_min (pa_mcons (pm_var 8) pa_mnil)) pm_int (fun _ _ => rfl)) pa_mnil))))) pb_nil)
  (pb_cons (ps_mif (pt_mnot (pt_tru (pm_fn F.f_l_same hr0 (by rfl) (pa_mcons (pm_fn F.f_snapped hr0 (by rfl) (pa_mcons (pm_var 3) (pa_mcons (pm_var 4) (pa_mcons (pm_var 6) (pa_mcons (pm_var 5) pa_mnil))))) (pa_mcons (pm_var 11) pa_mnil))) (fun _ => rfl))) (pb_one (ps_mret pm_bl)) pb_nil)
  (pb_cons (ps_mset (i := 12) nd rfl (.inr rfl) (pm_op od_add pm_int (pm_fn F.f_l_draw hr0 (by rfl) (pa_mcons (pm_var 1) (pa_mcons pm_int pa_mnil)))))
  (pb_cons (ps_mlc rfl nd (i := 13) rfl rfl (sw_true rfl rfl rfl rfl) (pi_mrange1 (by rfl) G.g_range pm_int) (own := [("k", 7)]) (blkOk_by (by rfl)) (fun s9 H9 C9 cl9 fp9 => (pgw_name (i := 7) (by decide) nd rfl (by first | exact .inl rfl | exact .inr rfl))) (fun s9 H9 C9 cl9 fp9 => (pts_mone (pt_mcmp (cd_leT hu) (pm_op od_mul pm_int (pm_callB call_mabs (by rfl) G.g_abs bt_abs (pa_mcons (pm_op od_sub (pm_op od_mul (pm_var 7) (pm_var 12)) (pm_var 3)) pa_mnil))) (pm_var 12) (nomark _)))) (fun s9 H9 C9 cl9 fp9 => (pm_op od_mul (pm_var 7) (pm_var 12))))
  (pb_cons (ps_mif (pt_mnot (pt_tru (pm_fn F.f_l_same hr0 (by rfl) (pa_mcons (pm_fn F.f_to_grid hr0 (by rfl) (pa_mcons (pm_var 3) (pa_mcons (pm_var 12) pa_mnil))) (pa_mcons (pm_callB (call_mostD rfl hu) (by rfl) G.g_max bt_max (pa_mcons (pm_var 13) pa_mnil)) pa_mnil))) (fun _ => rfl))) (pb_one (ps_mret pm_bl)) pb_nil)
  (pb_cons (ps_mset (i := 14) nd rfl (.inl rfl) (pm_fn F.f_l_draw hr0 (by rfl) (pa_mcons (pm_var 1) (pa_mcons pm_int pa_mnil))))
  (pb_cons (ps_mset (i := 15) nd rfl (.inl rfl) (pm_op od_add (pm_var 14) (pm_fn F.f_l_draw hr0 (by rfl) (pa_mcons (pm_var 1) (pa_mcons pm_int pa_mnil)))))
  (pb_cons (ps_mset (i := 16) nd rfl (.inl rfl) (pm_callB (call_mmin rfl) (by rfl) G.g_min bt_min (pa_mcons (pm_var 3) (pa_mcons (pm_op od_sub (pm_var 15) (pm_var 4)) pa_mnil))))
  (pb_cons (ps_mif (pt_mnot (pt_tru (pm_fn F.f_l_same hr0 (by rfl) (pa_mcons (pm_fn F.f_held hr0 (by rfl) (pa_mcons (pm_var 3) (pa_mcons (pm_var 4) (pa_mcons (pm_var 14) (pa_mcons (pm_var 15) pa_mnil))))) (pa_mcons (pm_callB (call_mmax rfl) (by rfl) G.g_max bt_max (pa_mcons (pm_var 14) (pa_mcons (pm_var 16) pa_mnil))) pa_mnil))) (fun _ => rfl))) (pb_one (ps_mret pm_bl)) pb_nil)
  (pb_cons (ps_mset (i := 17) nd rfl (.inl rfl) (pm_tup (pa_mcons (pm_fn F.f_l_draw hr0 (by rfl) (pa_mcons (pm_var 1) (pa_mcons pm_int pa_mnil))) (pa_mcons (pm_fn F.f_l_draw hr0 (by rfl) (pa_mcons (pm_var 1) (pa_mcons pm_int pa_mnil))) (pa_mcons (pm_op od_add pm_int (pm_fn F.f_l_draw hr0 (by rfl) (pa_mcons (pm_var 1) (pa_mcons pm_int pa_mnil)))) (pa_mcons (pm_op od_add pm_int (pm_fn F.f_l_draw hr0 (by rfl) (pa_mcons (pm_var 1) (pa_mcons pm_int pa_mnil)))) pa_mnil))))))
  (pb_cons (ps_mset (i := 18) nd rfl (.inl rfl) (pm_tup (pa_mcons (pm_op od_sub (pm_fn F.f_l_draw hr0 (by rfl) (pa_mcons (pm_var 1) (pa_mcons pm_int pa_mnil))) pm_int) (pa_mcons (pm_op od_sub (pm_fn F.f_l_draw hr0 (by rfl) (pa_mcons (pm_var 1) (pa_mcons pm_int pa_mnil))) pm_int) pa_mnil))))
  (pb_cons (ps_mset (i := 19) nd rfl (.inl rfl) (pm_op od_add pm_int (pm_fn F.f_l_draw hr0 (by rfl) (pa_mcons (pm_var 1) (pa_mcons pm_int pa_mnil)))))
  (pb_cons (ps_mset (i := 20) nd rfl (.inl rfl) (pm_ix (pm_tmp (pn_lst (pa_mcons pm_str (pa_mcons pm_str (pa_mcons pm_str (pa_mcons pm_str pa_mnil)))))) (pm_fn F.f_l_draw hr0 (by rfl) (pa_mcons (pm_var 1) (pa_mcons pm_int pa_mnil))) (fun _ _ => rfl)))
  (pb_cons (ps_masg (pm_var 17) (pg_mtup rfl (pgs_mcons (pg_mname (i := 21) nd rfl (.inl rfl)) (pgs_mcons (pg_mname (i := 22) nd rfl (.inl rfl)) (pgs_mcons (pg_mname (i := 23) nd rfl (.inl rfl)) (pgs_mcons (pg_mname (i := 24) nd rfl (.inl rfl)) pgs_mnil))))))
  (pb_cons (ps_mif (pt_mcmp (cd_eq hu) (pm_ix (pm_var 20) pm_int (fun _ _ => rfl)) pm_str (nomark _)) (pb_cons (ps_mset (i := 23) nd rfl (.inl rfl) (pm_callB (call_mmax rfl) (by rfl) G.g_max bt_max (pa_mcons (pm_var 19) (pa_mcons (pm_op od_sub (pm_var 23) (pm_ix (pm_var 18) pm_int (fun _ _ => rfl))) pa_mnil))))
  (pb_one (ps_mset (i := 21) nd rfl (.inl rfl) (pm_op od_sub (pm_op od_addT (pm_ix (pm_var 17) pm_int (fun _ _ => rfl)) (pm_ix (pm_var 17) pm_int (fun _ _ => rfl))) (pm_var 23))))) (pb_one (ps_mset (i := 23) nd rfl (.inl rfl) (pm_callB (call_mmax rfl) (by rfl) G.g_max bt_max (pa_mcons (pm_var 19) (pa_mcons (pm_op od_addT (pm_var 23) (pm_ix (pm_var 18) pm_int (fun _ _ => rfl))) pa_mnil))))))
  (pb_cons (ps_mif (pt_mcmp (cd_eq hu) (pm_ix (pm_var 20) pm_int (fun _ _ => rfl)) pm_str (nomark _)) (pb_cons (ps_mset (i := 24) nd rfl (.inl rfl) (pm_callB (call_mmax rfl) (by rfl) G.g_max bt_max (pa_mcons (pm_var 19) (pa_mcons (pm_op od_sub (pm_var 24) (pm_ix (pm_var 18) pm_int (fun _ _ => rfl))) pa_mnil))))
  (pb_one (ps_mset (i := 22) nd rfl (.inl rfl) (pm_op od_sub (pm_op od_addT (pm_ix (pm_var 17) pm_int (fun _ _ => rfl)) (pm_ix (pm_var 17) pm_int (fun _ _ => rfl))) (pm_var 24))))) (pb_one (ps_mset (i := 24) nd rfl (.inl rfl) (pm_callB (call_mmax rfl) (by rfl) G.g_max bt_max (pa_mcons (pm_var 19) (pa_mcons (pm_op od_addT (pm_var 24) (pm_ix (pm_var 18) pm_int (fun _ _ => rfl))) pa_mnil))))))
  (pb_cons (ps_mif (pt_mnot (pt_tru (pm_fn F.f_l_same hr0 (by rfl) (pa_mcons (pm_fn F.f_resized hr0 (by rfl) (pa_mcons (pm_var 17) (pa_mcons (pm_var 20) (pa_mcons (pm_var 18) (pa_mcons (pm_var 19) pa_mnil))))) (pa_mcons (pm_tup (pa_mcons (pm_var 21) (pa_mcons (pm_var 22) (pa_mcons (pm_var 23) (pa_mcons (pm_var 24) pa_mnil))))) pa_mnil))) (fun _ => rfl))) (pb_one (ps_mret pm_bl)) pb_nil)
  (pb_cons (ps_mset (i := 25) nd rfl (.inl rfl) (pm_op od_add pm_int (pm_fn F.f_l_draw hr0 (by rfl) (pa_mcons (pm_var 1) (pa_mcons pm_int pa_mnil)))))
  (pb_cons (ps_mset (i := 26) nd rfl (.inl rfl) (pm_op od_add pm_int (pm_fn F.f_l_draw hr0 (by rfl) (pa_mcons (pm_var 1) (pa_mcons pm_int pa_mnil)))))
  (pb_cons (ps_mset (i := 27) nd rfl (.inl rfl) (pm_op od_add pm_int (pm_fn F.f_l_draw hr0 (by rfl) (pa_mcons (pm_var 1) (pa_mcons pm_int pa_mnil)))))
  (pb_cons (ps_mset (i := 28) nd rfl (.inl rfl) (pm_op od_add pm_int (pm_fn F.f_l_draw hr0 (by rfl) (pa_mcons (pm_var 1) (pa_mcons pm_int pa_mnil)))))
  (pb_cons (ps_mset (i := 29) nd rfl (.inl rfl) (pm_tup (pa_mcons (pm_var 25) (pa_mcons (pm_var 26) pa_mnil))))
  (pb_cons (ps_mif (pt_w (pw_mor (pt_mcmp (cd_gtT hu) (pm_var 25) (pm_var 27) (nomark _)) (pw_mor1 (pt_mcmp (cd_gtT hu) (pm_var 26) (pm_var 28) (nomark _))))) (pb_one (ps_mif (pt_mcmp (cd_geT hu) (pm_op od_mul (pm_var 25) (pm_var 28)) (pm_op od_mul (pm_var 26) (pm_var 27)) (nomark _)) (pb_one (ps_mset (i := 29) nd rfl (.inl rfl) (pm_tup (pa_mcons (pm_var 27) (pa_mcons (pm_op od_div (pm_op od_mul (pm_var 26) (pm_var 27)) (pm_var 25)) pa_mnil))))) (pb_one (ps_mset (i := 29) nd rfl (.inl rfl) (pm_tup (pa_mcons (pm_op od_div (pm_op od_mul (pm_var 25) (pm_var 28)) (pm_var 26)) (pa_mcons (pm_var 28) pa_mnil))))))) pb_nil)
  (pb_cons (ps_mif (pt_mnot (pt_tru (pm_fn F.f_l_same hr0 (by rfl) (pa_mcons (pm_fn F.f_fitted hr0 (by rfl) (pa_mcons (pm_var 25) (pa_mcons (pm_var 26) (pa_mcons (pm_var 27) (pa_mcons (pm_var 28) pa_mnil))))) (pa_mcons (pm_var 29) pa_mnil))) (fun _ => rfl))) (pb_one (ps_mret pm_bl)) pb_nil)
  (pb_one (ps_mif (pt_w (pw_mor (pt_mcmp (cd_gtT hu) (pm_ix (pm_var 29) pm_int (fun _ _ => rfl)) (pm_var 27) (nomark _)) (pw_mor1 (pt_mcmp (cd_gtT hu) (pm_ix (pm_var 29) pm_int (fun _ _ => rfl)) (pm_var 28) (nomark _))))) (pb_one (ps_mret pm_bl)) pb_nil))))))))))))))))))))))))))))))))))
  (pb_one (ps_mret pm_bl))))
end
section
variable {P : Program} {w : World} {K : PySem.W.Frag} {mg : Str → Option Value} {base : Heap}
theorem okAll (G : Gs mg) {f_snapped : Addr} {fd_snapped : FuncData} {f_to_grid : Addr} {fd_to_grid : FuncData} {f_held : Addr} {fd_held : FuncData} {f_resized : Addr} {fd_resized : FuncData} {f_fitted : Addr} {fd_fitted : FuncData} {f_l_box : Addr} {fd_l_box : FuncData} {f_l_digits : Addr} {fd_l_digits : FuncData} {f_l_cell : Addr} {fd_l_cell : FuncData} {f_l_draw : Addr} {fd_l_draw : FuncData} {f_l_same : Addr} {fd_l_same : FuncData} {f_law : Addr} {fd_law : FuncData}
    (F_snapped : Fun K "snapped" "snapped" s_snapped f_snapped fd_snapped) (m_snapped : mg "snapped" = some (.ref f_snapped)) (b_snapped : Binds K fd_snapped p_snapped [])
    (F_to_grid : Fun K "to_grid" "to_grid" s_to_grid f_to_grid fd_to_grid) (m_to_grid : mg "to_grid" = some (.ref f_to_grid)) (b_to_grid : Binds K fd_to_grid p_to_grid [])
    (F_held : Fun K "held" "held" s_held f_held fd_held) (m_held : mg "held" = some (.ref f_held)) (b_held : Binds K fd_held p_held [])
    (F_resized : Fun K "resized" "resized" s_resized f_resized fd_resized) (m_resized : mg "resized" = some (.ref f_resized)) (b_resized : Binds K fd_resized p_resized [])
    (F_fitted : Fun K "fitted" "fitted" s_fitted f_fitted fd_fitted) (m_fitted : mg "fitted" = some (.ref f_fitted)) (b_fitted : Binds K fd_fitted p_fitted [])
    (F_l_box : Fun K "_law_box" "_law_box" s_l_box f_l_box fd_l_box) (m_l_box : mg "_law_box" = some (.ref f_l_box)) (b_l_box : Binds K fd_l_box p_l_box [])
    (F_l_digits : Fun K "_law_digits" "_law_digits" s_l_digits f_l_digits fd_l_digits) (m_l_digits : mg "_law_digits" = some (.ref f_l_digits)) (b_l_digits : Binds K fd_l_digits p_l_digits [])
    (F_l_cell : Fun K "_law_cell" "_law_cell" s_l_cell f_l_cell fd_l_cell) (m_l_cell : mg "_law_cell" = some (.ref f_l_cell)) (b_l_cell : Binds K fd_l_cell p_l_cell [])
    (F_l_draw : Fun K "_law_draw" "_law_draw" s_l_draw f_l_draw fd_l_draw) (m_l_draw : mg "_law_draw" = some (.ref f_l_draw)) (b_l_draw : Binds K fd_l_draw p_l_draw [])
    (F_l_same : Fun K "_law_same" "_law_same" s_l_same f_l_same fd_l_same) (m_l_same : mg "_law_same" = some (.ref f_l_same)) (b_l_same : Binds K fd_l_same p_l_same [])
    (F_law : Fun K "law" "law" s_law f_law fd_law) (m_law : mg "law" = some (.ref f_law)) (b_law : Binds K fd_law p_law []) :
    ∀ k, Ok P w K mg base (3 * k) (Phi k)
  | 0 => by
    constructor
    · exact fnd_zero F_snapped m_snapped b_snapped
    · exact fnd_zero F_to_grid m_to_grid b_to_grid
    · exact fnd_zero F_held m_held b_held
    · exact fnd_zero F_resized m_resized b_resized
    · exact fnd_zero F_fitted m_fitted b_fitted
    · exact fnd_zero F_l_box m_l_box b_l_box
    · exact fnd_zero F_l_digits m_l_digits b_l_digits
    · exact fnd_zero F_l_cell m_l_cell b_l_cell
    · exact fnd_zero F_l_draw m_l_draw b_l_draw
    · exact fnd_zero F_l_same m_l_same b_l_same
    · exact fnd_zero F_law m_law b_law
  | k + 1 => by
    have ih := okAll G F_snapped m_snapped b_snapped F_to_grid m_to_grid b_to_grid F_held m_held b_held F_resized m_resized b_resized F_fitted m_fitted b_fitted F_l_box m_l_box b_l_box F_l_digits m_l_digits b_l_digits F_l_cell m_l_cell b_l_cell F_l_draw m_l_draw b_l_draw F_l_same m_l_same b_l_same F_law m_law b_law k
    constructor
    · exact fnd_of (k := 3 * k + 2) F_snapped m_snapped b_snapped sc_snapped fun cdv A outer s H E hr => w_snapped G ih hr
    · exact fnd_of (k := 3 * k + 2) F_to_grid m_to_grid b_to_grid sc_to_grid fun cdv A outer s H E hr => w_to_grid G ih hr
    · exact fnd_of (k := 3 * k + 2) F_held m_held b_held sc_held fun cdv A outer s H E hr => w_held G ih hr
    · exact fnd_of (k := 3 * k + 2) F_resized m_resized b_resized sc_resized fun cdv A outer s H E hr => w_resized G ih hr
    · exact fnd_of (k := 3 * k + 2) F_fitted m_fitted b_fitted sc_fitted fun cdv A outer s H E hr => w_fitted G ih hr
    · exact fnd_of (k := 3 * k + 2) F_l_box m_l_box b_l_box sc_l_box fun cdv A outer s H E hr => w_l_box G ih hr
    · exact fnd_of (k := 3 * k + 2) F_l_digits m_l_digits b_l_digits sc_l_digits fun cdv A outer s H E hr => w_l_digits G ih hr
    · exact fnd_of (k := 3 * k + 2) F_l_cell m_l_cell b_l_cell sc_l_cell fun cdv A outer s H E hr => w_l_cell G ih hr
    · exact fnd_of (k := 3 * k + 2) F_l_draw m_l_draw b_l_draw sc_l_draw fun cdv A outer s H E hr => w_l_draw G ih hr
    · exact fnd_of (k := 3 * k + 2) F_l_same m_l_same b_l_same sc_l_same fun cdv A outer s H E hr => w_l_same G ih hr
    · exact fnd_of (k := 3 * k + 2) F_law m_law b_law sc_law fun cdv A outer s H E hr => w_law G ih hr
end
def spL (N : Nat) (K : PySem.W.Frag) : Sp := spD K 1 (Phi (N + 1) .law)
theorem all_mk (N : Nat) {l : PySem.W.OpenLaw} {w : World} {K : PySem.W.Frag} {h : Heap} {mg : Str → Option Value} {fa f0 f1 f2 f3 f4 f5 f6 f7 f8 f9 f10 : Addr} (X : K.In h) (G : h.Ns mainGlobals mg) (hfa : mg "law" = some (.ref fa))
    {od0 an0 od1 an1 od2 an2 od3 an3 od4 an4 od5 an5 od6 an6 od7 an7 od8 an8 od9 an9 od10 an10 : Option Addr} {sl0 sl1 sl2 sl3 sl4 sl5 sl6 sl7 sl8 sl9 sl10 : Array (Option Value)}
    {oc0 kV0 dc0 pm0 cd0 ct0 oc1 kV1 dc1 pm1 cd1 ct1 oc2 kV2 dc2 pm2 cd2 ct2 oc3 kV3 dc3 pm3 cd3 ct3 oc4 kV4 dc4 pm4 cd4 ct4 oc5 kV5 dc5 pm5 cd5 ct5 oc6 kV6 dc6 pm6 cd6 ct6 oc7 kV7 dc7 pm7 cd7 ct7 oc8 kV8 dc8 pm8 cd8 ct8 oc9 kV9 dc9 pm9 cd9 ct9 oc10 kV10 dc10 pm10 cd10 ct10 : Value}
    (a0 : PySem.W.nsIn K mainGlobals "snapped" = some (some (.ref f0))) (l0 : K.lookup f0 = some ⟨oc0, od0, .func (PySem.W.fnOf "snapped" "snapped" (defArgs s_snapped) (defBody s_snapped) (defScope s_snapped) .none kV0 dc0 pm0 an0 cd0 ct0), sl0⟩) (c0 : PySem.W.codeIn K cd0 "snapped" = true) (k0 : PySem.W.keepIn K (.ref f0) = true)
    (a1 : PySem.W.nsIn K mainGlobals "to_grid" = some (some (.ref f1))) (l1 : K.lookup f1 = some ⟨oc1, od1, .func (PySem.W.fnOf "to_grid" "to_grid" (defArgs s_to_grid) (defBody s_to_grid) (defScope s_to_grid) .none kV1 dc1 pm1 an1 cd1 ct1), sl1⟩) (c1 : PySem.W.codeIn K cd1 "to_grid" = true) (k1 : PySem.W.keepIn K (.ref f1) = true)
    (a2 : PySem.W.nsIn K mainGlobals "held" = some (some (.ref f2))) (l2 : K.lookup f2 = some ⟨oc2, od2, .func (PySem.W.fnOf "held" "held" (defArgs s_held) (defBody s_held) (defScope s_held) .none kV2 dc2 pm2 an2 cd2 ct2), sl2⟩) (c2 : PySem.W.codeIn K cd2 "held" = true) (k2 : PySem.W.keepIn K (.ref f2) = true)
    (a3 : PySem.W.nsIn K mainGlobals "resized" = some (some (.ref f3))) (l3 : K.lookup f3 = some ⟨oc3, od3, .func (PySem.W.fnOf "resized" "resized" (defArgs s_resized) (defBody s_resized) (defScope s_resized) .none kV3 dc3 pm3 an3 cd3 ct3), sl3⟩) (c3 : PySem.W.codeIn K cd3 "resized" = true) (k3 : PySem.W.keepIn K (.ref f3) = true)
    (a4 : PySem.W.nsIn K mainGlobals "fitted" = some (some (.ref f4))) (l4 : K.lookup f4 = some ⟨oc4, od4, .func (PySem.W.fnOf "fitted" "fitted" (defArgs s_fitted) (defBody s_fitted) (defScope s_fitted) .none kV4 dc4 pm4 an4 cd4 ct4), sl4⟩) (c4 : PySem.W.codeIn K cd4 "fitted" = true) (k4 : PySem.W.keepIn K (.ref f4) = true)
    (a5 : PySem.W.nsIn K mainGlobals "_law_box" = some (some (.ref f5))) (l5 : K.lookup f5 = some ⟨oc5, od5, .func (PySem.W.fnOf "_law_box" "_law_box" (defArgs s_l_box) (defBody s_l_box) (defScope s_l_box) .none kV5 dc5 pm5 an5 cd5 ct5), sl5⟩) (c5 : PySem.W.codeIn K cd5 "_law_box" = true) (k5 : PySem.W.keepIn K (.ref f5) = true)
    (a6 : PySem.W.nsIn K mainGlobals "_law_digits" = some (some (.ref f6))) (l6 : K.lookup f6 = some ⟨oc6, od6, .func (PySem.W.fnOf "_law_digits" "_law_digits" (defArgs s_l_digits) (defBody s_l_digits) (defScope s_l_digits) .none kV6 dc6 pm6 an6 cd6 ct6), sl6⟩) (c6 : PySem.W.codeIn K cd6 "_law_digits" = true) (k6 : PySem.W.keepIn K (.ref f6) = true)
    (a7 : PySem.W.nsIn K mainGlobals "_law_cell" = some (some (.ref f7))) (l7 : K.lookup f7 = some ⟨oc7, od7, .func (PySem.W.fnOf "_law_cell" "_law_cell" (defArgs s_l_cell) (defBody s_l_cell) (defScope s_l_cell) .none kV7 dc7 pm7 an7 cd7 ct7), sl7⟩) (c7 : PySem.W.codeIn K cd7 "_law_cell" = true) (k7 : PySem.W.keepIn K (.ref f7) = true)
    (a8 : PySem.W.nsIn K mainGlobals "_law_draw" = some (some (.ref f8))) (l8 : K.lookup f8 = some ⟨oc8, od8, .func (PySem.W.fnOf "_law_draw" "_law_draw" (defArgs s_l_draw) (defBody s_l_draw) (defScope s_l_draw) .none kV8 dc8 pm8 an8 cd8 ct8), sl8⟩) (c8 : PySem.W.codeIn K cd8 "_law_draw" = true) (k8 : PySem.W.keepIn K (.ref f8) = true)
    (a9 : PySem.W.nsIn K mainGlobals "_law_same" = some (some (.ref f9))) (l9 : K.lookup f9 = some ⟨oc9, od9, .func (PySem.W.fnOf "_law_same" "_law_same" (defArgs s_l_same) (defBody s_l_same) (defScope s_l_same) .none kV9 dc9 pm9 an9 cd9 ct9), sl9⟩) (c9 : PySem.W.codeIn K cd9 "_law_same" = true) (k9 : PySem.W.keepIn K (.ref f9) = true)
    (a10 : PySem.W.nsIn K mainGlobals "law" = some (some (.ref f10))) (l10 : K.lookup f10 = some ⟨oc10, od10, .func (PySem.W.fnOf "law" "law" (defArgs s_law) (defBody s_law) (defScope s_law) .none kV10 dc10 pm10 an10 cd10 ct10), sl10⟩) (c10 : PySem.W.codeIn K cd10 "law" = true) (k10 : PySem.W.keepIn K (.ref f10) = true)
    (z0 : PySem.W.nsIn K mainGlobals "abs" = some none)
    (z1 : PySem.W.nsIn K mainGlobals "bool" = some none)
    (z2 : PySem.W.nsIn K mainGlobals "int" = some none)
    (z3 : PySem.W.nsIn K mainGlobals "isinstance" = some none)
    (z4 : PySem.W.nsIn K mainGlobals "len" = some none)
    (z5 : PySem.W.nsIn K mainGlobals "max" = some none)
    (z6 : PySem.W.nsIn K mainGlobals "min" = some none)
    (z7 : PySem.W.nsIn K mainGlobals "range" = some none)
    (z8 : PySem.W.nsIn K mainGlobals "str" = some none)
    (z9 : PySem.W.nsIn K mainGlobals "tuple" = some none)
    : ∃ fd : FuncData, (∀ (s : Shared) (v : Value), BindsTo s fd ⟨[v], []⟩ [("script", v)]) ∧ ∀ base : Heap, K.In base → base.Ns mainGlobals mg → FnOk l.prog w K mg base CX0 (3 * N + 3) fa fd ["script"] (spL N K) := by
  have e := hfa.symm.trans (PySem.W.mg_of X G a10)
  cases e
  have F0 := fun_mk (st := s_snapped) l0 c0 k0
  have b0 := F0.binds (ps := p_snapped) fun _ _ _ _ _ _ us hl => match us, hl with | [_, _, _, _], _ => rfl
  have F1 := fun_mk (st := s_to_grid) l1 c1 k1
  have b1 := F1.binds (ps := p_to_grid) fun _ _ _ _ _ _ us hl => match us, hl with | [_, _], _ => rfl
  have F2 := fun_mk (st := s_held) l2 c2 k2
  have b2 := F2.binds (ps := p_held) fun _ _ _ _ _ _ us hl => match us, hl with | [_, _, _, _], _ => rfl
  have F3 := fun_mk (st := s_resized) l3 c3 k3
  have b3 := F3.binds (ps := p_resized) fun _ _ _ _ _ _ us hl => match us, hl with | [_, _, _, _], _ => rfl
  have F4 := fun_mk (st := s_fitted) l4 c4 k4
  have b4 := F4.binds (ps := p_fitted) fun _ _ _ _ _ _ us hl => match us, hl with | [_, _, _, _], _ => rfl
  have F5 := fun_mk (st := s_l_box) l5 c5 k5
  have b5 := F5.binds (ps := p_l_box) fun _ _ _ _ _ _ us hl => match us, hl with | [_, _, _], _ => rfl
  have F6 := fun_mk (st := s_l_digits) l6 c6 k6
  have b6 := F6.binds (ps := p_l_digits) fun _ _ _ _ _ _ us hl => match us, hl with | [_, _, _], _ => rfl
  have F7 := fun_mk (st := s_l_cell) l7 c7 k7
  have b7 := F7.binds (ps := p_l_cell) fun _ _ _ _ _ _ us hl => match us, hl with | [_, _], _ => rfl
  have F8 := fun_mk (st := s_l_draw) l8 c8 k8
  have b8 := F8.binds (ps := p_l_draw) fun _ _ _ _ _ _ us hl => match us, hl with | [_, _], _ => rfl
  have F9 := fun_mk (st := s_l_same) l9 c9 k9
  have b9 := F9.binds (ps := p_l_same) fun _ _ _ _ _ _ us hl => match us, hl with | [_, _], _ => rfl
  have F10 := fun_mk (st := s_law) l10 c10 k10
  have b10 := F10.binds (ps := p_law) fun _ _ _ _ _ _ us hl => match us, hl with | [_], _ => rfl
  refine ⟨PySem.W.fnOf "law" "law" (defArgs s_law) (defBody s_law) (defScope s_law) .none kV10 dc10 pm10 an10 cd10 ct10, fun s v => .of_eq rfl, fun base _ _ => ?_⟩
  have A := okAll (P := l.prog) (w := w) (base := base) ⟨PySem.W.mg_none_of X G z0, PySem.W.mg_none_of X G z1, PySem.W.mg_none_of X G z2, PySem.W.mg_none_of X G z3, PySem.W.mg_none_of X G z4, PySem.W.mg_none_of X G z5, PySem.W.mg_none_of X G z6, PySem.W.mg_none_of X G z7, PySem.W.mg_none_of X G z8, PySem.W.mg_none_of X G z9⟩ F0 (PySem.W.mg_of X G a0) b0 F1 (PySem.W.mg_of X G a1) b1 F2 (PySem.W.mg_of X G a2) b2 F3 (PySem.W.mg_of X G a3) b3 F4 (PySem.W.mg_of X G a4) b4 F5 (PySem.W.mg_of X G a5) b5 F6 (PySem.W.mg_of X G a6) b6 F7 (PySem.W.mg_of X G a7) b7 F8 (PySem.W.mg_of X G a8) b8 F9 (PySem.W.mg_of X G a9) b9 F10 (PySem.W.mg_of X G a10) b10 N
  exact fnok_of (k := 3 * N + 2) F10 sc_law fun cdv A2 outer s H E hr => w_law ⟨PySem.W.mg_none_of X G z0, PySem.W.mg_none_of X G z1, PySem.W.mg_none_of X G z2, PySem.W.mg_none_of X G z3, PySem.W.mg_none_of X G z4, PySem.W.mg_none_of X G z5, PySem.W.mg_none_of X G z6, PySem.W.mg_none_of X G z7, PySem.W.mg_none_of X G z8, PySem.W.mg_none_of X G z9⟩ A hr
end K89

namespace K89
open PySem PySem.Spec PyProof.Rows L2 PD
def ab (x : Int) : Int := if x < 0 then -x else x
abbrev Best := Option (Int × Int × Int)
def bD : Best → D
  | none => .non
  | some (f, l, v) => .tup [.int f, .int l, .int v]
def better (f l : Int) : Best → Bool
  | none => true
  | some (f', l', _) => decide (f < f' ∨ (f = f' ∧ l < l'))
def one (a near line own : Int) (b : Best) : Best := if ab (line - own) ≤ near ∧ better (ab (line - own)) line b = true then some (ab (line - own), line, a + line - own) else b
theorem cut2 {S : Store} (a b c : D) : fCutT (.tup [a, b, c]) none (some 2) S = some (.tup [a, b], S) := id rfl
theorem one_ok {Φ : Ix → FL} {e1 e2 e7 : Option D} {a near line own : Int} {b : Best} {S : Store} :
    L_snapped_1 Φ [some (.int a), e1, e2, some (.int near), some (bD b), some (.int line), some (.int own), e7] S = some (.nx [some (.int a), e1, e2, some (.int near), some (bD (one a near line own b)), some (.int line), some (.int own), some (.int (ab (line - own)))] S) := by
  unfold L_snapped_1 one
  by_cases h1 : ab (line - own) ≤ near
  · rcases b with _ | ⟨f, l, v⟩
    · have h1' := h1; unfold ab at h1'
      simp [ev_seq, bD, h1', h1, okLen_of, better, ab]
    · have h1' := h1; unfold ab at h1'
      by_cases h2 : ab (line - own) < f ∨ (ab (line - own) = f ∧ line < l)
      · have h2' := h2; unfold ab at h2'
        simp [ev_seq, bD, h1', h1, okLen_of, better, ab, cut2, h2', h2]
      · have h2' := h2; unfold ab at h2'
        simp [ev_seq, bD, h1', h1, okLen_of, better, ab, cut2, h2', h2]
  · have h1' := h1; unfold ab at h1'
    rcases b with _ | ⟨f, l, v⟩ <;> simp [ev_seq, bD, h1', h1, ab]
def three (a s near : Int) (b : Best) (line : Int) : Best := one a near line (a + s) (one a near line (a + s / 2) (one a near line a b))
theorem three_ok {Φ : Ix → FL} {e2 e6 e7 : Option D} {a s near line : Int} {b : Best} {S : Store} :
    ∃ e6' e7', L_snapped_2 Φ [some (.int a), some (.int s), e2, some (.int near), some (bD b), some (.int line), e6, e7] S = some (.nx [some (.int a), some (.int s), e2, some (.int near), some (bD (three a s near b line)), some (.int line), e6', e7'] S) := by
  refine ⟨some (.int (a + s)), some (.int (ab (line - (a + s)))), ?_⟩
  unfold L_snapped_2
  simp [okLen_of, ev_forCons, one_ok, three]
def res (a : Int) : Best → D
  | none => .tup [.int a, .non]
  | some (_, l, v) => .tup [.int v, .int l]
theorem snapped_eq {k : Nat} {a s near : Int} {ls : List Int} {S : Store} : Phi (k + 1) .snapped [.int a, .int s, .tup (zs ls), .int near] S = some (res a (ls.foldl (three a s near) none), S) := by
  refine run_eq rfl (by cases ls.foldl (three a s near) none <;> rfl) ?_
  refine ex_seq (by simp; exact .mk') ?_
  refine ex_then (ex_for (by simp; exact .mk') ?_)
  refine for_ex (fun i env T => ∃ e5 e6 e7, env = [some (.int a), some (.int s), some (.tup (zs ls)), some (.int near), some (bD ((ls.take i).foldl (three a s near) none)), e5, e6, e7] ∧ T = S) ⟨none, none, none, rfl, rfl⟩ ?_ ?_
  · rintro i d hi env T ⟨e5, e6, e7, rfl, rfl⟩
    have hd : ∃ l, ls[i]? = some l ∧ d = .int l := by
      rw [zs, List.getElem?_map] at hi
      obtain ⟨l, h1, h2⟩ := map_some hi
      exact ⟨l, h1, h2.symm⟩
    obtain ⟨l, hl, rfl⟩ := hd
    obtain ⟨e6', e7', h⟩ := three_ok (Φ := Phi k) (e2 := some (.tup (zs ls))) (e6 := e6) (e7 := e7) (a := a) (s := s) (near := near) (line := l) (b := (ls.take i).foldl (three a s near) none) (S := T)
    refine ⟨_, _, rfl, ⟨_, h, rfl, some (.int l), e6', e7', ?_, rfl⟩⟩
    rw [List.take_add_one, hl, List.foldl_append]; rfl
  · rintro env' S' ⟨e5, e6, e7, rfl, rfl⟩
    have hl : (zs ls).length = ls.length := by simp [zs]
    rw [hl, List.take_length]
    refine ⟨.rt (res a (ls.foldl (three a s near) none)) S', ?_, [], ?_⟩
    · generalize ls.foldl (three a s near) none = b
      rcases b with _ | ⟨f, l, v⟩
      · simp [bD, res, okLen_of]
      · simp [bD, res, okLen_of, atI, ixN]
    · simp

/-! ### rows -/
def row1 (a near line k own : Int) : List (List Int) := if ab (line - own) ≤ near then [[ab (line - own), line, k, a + line - own]] else []
def rowsL (a s near line : Int) : List (List Int) := row1 a near line 0 a ++ (row1 a near line 1 (a + s / 2) ++ row1 a near line 2 (a + s))
theorem rowsOf_app (r1 r2 : List (List Int)) : rowsOf r1 ++ rowsOf r2 = rowsOf (r1 ++ r2) := by simp [rowsOf]
def rowD (line k own a : Int) : D := .tup [.int (ab (line - own)), .int line, .int k, .int (a + line - own)]
/-- one turn of the comprehension -/
def stepR (a near line k own : Int) (acc : List D) : List D := if ab (line - own) ≤ near then acc ++ [rowD line k own a] else acc
theorem stepR_rows (a near line k own : Int) (r : List (List Int)) : stepR a near line k own (rowsOf r) = rowsOf (r ++ row1 a near line k own) := by
  unfold stepR row1
  split <;> simp [rowsOf, rowD, zs]
def eltR : ME := (mTup (mCons (mCall fAbs (mCons (m2 fSub (mVar 9) (m2 fIx (mVar 10) (mVar 7))) mNil)) (mCons (mVar 9) (mCons (mVar 7) (mCons (m2 fSub (m2 fAddT (mVar 3) (mVar 9)) (m2 fIx (mVar 10) (mVar 7))) mNil)))))
def tstR : MT := (mCmp cLeT (mCall fAbs (mCons (m2 fSub (mVar 9) (m2 fIx (mVar 10) (mVar 7))) mNil)) (mVar 5))
def env1 (e0 e1 e2 e4 e6 e7 e8 : Option D) (a near line : Int) (m : Nat) (r : List (Option D)) : DEnv := e0 :: e1 :: e2 :: some (.int a) :: e4 :: some (.int near) :: e6 :: e7 :: e8 :: some (.int line) :: some (.ref m) :: r
theorem stepR_ok {e0 e1 e2 e4 e6 e7 e8 : Option D} {a near line k own : Int} {r : List (Option D)} {S : Store} {ds acc : List D} {i : Nat} {rest : List D} (hk : k = (i : Nat)) (hi : ds[i]? = some (.int own)) (hacc : acc.length < 10000) :
    lcGo [] (S.length + 1) (mgName 7) tstR eltR (env1 e0 e1 e2 e4 e6 e7 e8 a near line S.length r) (.int k :: rest) (S ++ [.lst ds, .lst acc]) =
      lcGo [] (S.length + 1) (mgName 7) tstR eltR (env1 e0 e1 e2 e4 e6 e7 e8 a near line S.length r) rest (S ++ [.lst ds, .lst (stepR a near line k own acc)]) := by
  subst hk
  rw [ev_lcCons]
  unfold tstR eltR env1 stepR rowD
  by_cases h : ab (line - own) ≤ near
  · have h' := h; unfold ab at h'
    simp [atI_nat', hi, h', h, okLen_of, show acc.length < 10000000 by omega, ab]
  · have h' := h; unfold ab at h'
    simp [atI_nat', hi, h', h, okLen_of]
theorem ramp3 : ramp 0 1 3 = [.int 0, .int 1, .int 2] := id rfl
theorem law1_ok {Φ : Ix → FL} {e0 e1 e2 e6 e7 e10 : Option D} {r : List (Option D)} {a s near line : Int} {j : Nat} {rs : List (List Int)} {S : Store} (hS : S[j]? = some (.lst (rowsOf rs))) (hl : rs.length ≤ 1000) :
    ∃ X, L_law_1 Φ (e0 :: e1 :: e2 :: some (.int a) :: some (.int s) :: some (.int near) :: e6 :: e7 :: some (.ref j) :: some (.int line) :: e10 :: r) S =
      some (.nx (e0 :: e1 :: e2 :: some (.int a) :: some (.int s) :: some (.int near) :: e6 :: e7 :: some (.ref (S.length + 1)) :: some (.int line) :: some (.ref S.length) :: r) (S ++ [X, .lst (rowsOf (rs ++ rowsL a s near line))])) := by
  let mk : List D := [.int a, .int (a + s / 2), .int (a + s)]
  refine ⟨.lst mk, ?_⟩
  have hc : lcGo [] (S.length + 1) (mgName 7) tstR eltR (env1 e0 e1 e2 (some (.int s)) e6 none (some (.ref j)) a near line S.length r) [.int 0, .int 1, .int 2] (S ++ [.lst mk, .lst (rowsOf [])]) = some (S ++ [.lst mk, .lst (rowsOf (rowsL a s near line))]) := by
    rw [stepR_ok (k := 0) (own := a) (ds := mk) (acc := rowsOf []) (i := 0) rfl rfl (by simp [rowsOf]), stepR_rows, stepR_ok (k := 1) (own := a + s / 2) (ds := mk) (i := 1) rfl rfl (by simp [rowsOf, row1]; split <;> simp), stepR_rows, stepR_ok (k := 2) (own := a + s) (ds := mk) (i := 2) rfl rfl (by simp [rowsOf, row1]; split <;> split <;> simp), stepR_rows, ev_lcNil]
    simp [rowsL]
  have hlen : (rowsL a s near line).length ≤ 3 := by
    unfold rowsL row1
    split <;> split <;> split <;> simp
  have ht : tempOf (S ++ [.lst mk]) (S ++ [.lst mk, .lst (rowsOf (rowsL a s near line))]) = some (.cl (rowsOf (rowsL a s near line)), S ++ [.lst mk]) := by
    have := temp_pure (T := S ++ [.lst mk]) (acc := rowsOf (rowsL a s near line)) (loL_rows _ _)
    rwa [List.append_assoc] at this
  unfold L_law_1
  refine seq_nx (by simp [okLen_of]; exact .mk') ?_
  have hc' : lcGo [] (S.length + 1) (mgName 7) (mCmp cLeT (mCall fAbs (mCons (m2 fSub (mVar 9) (m2 fIx (mVar 10) (mVar 7))) mNil)) (mVar 5)) (mTup (mCons (mCall fAbs (mCons (m2 fSub (mVar 9) (m2 fIx (mVar 10) (mVar 7))) mNil)) (mCons (mVar 9) (mCons (mVar 7) (mCons (m2 fSub (m2 fAddT (mVar 3) (mVar 9)) (m2 fIx (mVar 10) (mVar 7))) mNil)))))
    (e0 :: e1 :: e2 :: some (.int a) :: some (.int s) :: some (.int near) :: e6 :: none :: some (.ref j) :: some (.int line) :: some (.ref S.length) :: r) [.int 0, .int 1, .int 2] (S ++ [.lst [.int a, .int (a + s / 2), .int (a + s)], .lst []]) = _ := hc
  simp [wipeE, ramp3, hc', ht, get_more hS, mk, rowsOf_app, show (rowsOf rs).length + (rowsOf (rowsL a s near line)).length ≤ 10000000 by simp [rowsOf]; omega]

/-! ### the first of the best is the least row -/
def mstep (m : Option (List Int)) (y : List Int) : Option (List Int) := match m with
  | none => some y
  | some x => some (if y < x then y else x)
def minO (rs : List (List Int)) : Option (List Int) := rs.foldl mstep none
theorem minO_cons (r : List Int) (rs : List (List Int)) : minO (r :: rs) = some (rs.foldl (fun a y => if y < a then y else a) r) := by
  unfold minO
  rw [List.foldl_cons]
  show rs.foldl mstep (some r) = _
  induction rs generalizing r with
  | nil => rfl
  | cons x xs ih => rw [List.foldl_cons, List.foldl_cons]; exact ih _
def ow (a s : Int) : Nat → Int
  | 0 => a
  | 1 => a + s / 2
  | _ => a + s
def lexle (b : Best) (F L : Int) : Prop := ∃ f l v, b = some (f, l, v) ∧ (f < F ∨ (f = F ∧ l ≤ L))
def QQ (a s : Int) (b : Best) (m : Option (List Int)) : Prop := (b = none ∧ m = none) ∨
  ∃ (f l v : Int) (k : Nat), b = some (f, l, v) ∧ m = some [f, l, k, v] ∧ f = ab (l - ow a s k) ∧ v = a + l - ow a s k ∧ ∀ j, j < k → ab (l - ow a s j) ≠ f
theorem lt4 (a b c d a' b' c' d' : Int) : ([a, b, c, d] < [a', b', c', d']) ↔ (a < a' ∨ (a = a' ∧ (b < b' ∨ (b = b' ∧ (c < c' ∨ (c = c' ∧ d < d')))))) := by
  simp [List.cons_lt_cons_iff]
theorem q_one {a s near line : Int} {k : Nat} {b : Best} {m : Option (List Int)} (pre : ∀ j, j < k → ab (line - ow a s j) ≤ near → lexle b (ab (line - ow a s j)) line) (h : QQ a s b m) :
    QQ a s (one a near line (ow a s k) b) ((row1 a near line k (ow a s k)).foldl mstep m) ∧ (∀ F L, lexle b F L → lexle (one a near line (ow a s k) b) F L) ∧ (ab (line - ow a s k) ≤ near → lexle (one a near line (ow a s k) b) (ab (line - ow a s k)) line) := by
  by_cases h1 : ab (line - ow a s k) ≤ near
  · have er : row1 a near line k (ow a s k) = [[ab (line - ow a s k), line, k, a + line - ow a s k]] := by unfold row1; rw [if_pos h1]
    rw [er, List.foldl_cons, List.foldl_nil]
    rcases h with ⟨rfl, rfl⟩ | ⟨f, l, v, k0, rfl, rfl, hf, hv, hmin⟩
    · have eo : one a near line (ow a s k) none = some (ab (line - ow a s k), line, a + line - ow a s k) := by unfold one; rw [if_pos ⟨h1, rfl⟩]
      rw [eo]
      refine ⟨.inr ⟨_, _, _, k, rfl, rfl, rfl, rfl, fun j hj e => ?_⟩, fun F L ⟨_, _, _, e, _⟩ => (by cases e), fun _ => ⟨_, _, _, rfl, .inr ⟨rfl, Int.le_refl _⟩⟩⟩
      obtain ⟨_, _, _, e2, _⟩ := pre j hj (by rw [e]; exact h1)
      cases e2
    · by_cases h2 : ab (line - ow a s k) < f ∨ (ab (line - ow a s k) = f ∧ line < l)
      · have eo : one a near line (ow a s k) (some (f, l, v)) = some (ab (line - ow a s k), line, a + line - ow a s k) := by
          unfold one; rw [if_pos ⟨h1, decide_eq_true h2⟩]
        have em : mstep (some [f, l, (k0 : Int), v]) [ab (line - ow a s k), line, k, a + line - ow a s k] = some [ab (line - ow a s k), line, k, a + line - ow a s k] := by
          unfold mstep
          simp only []
          rw [if_pos ((lt4 ..).mpr (by omega))]
        rw [eo, em]
        refine ⟨.inr ⟨_, _, _, k, rfl, rfl, rfl, rfl, fun j hj e => ?_⟩, fun F L ⟨f1, l1, v1, e, hle⟩ => ?_, fun _ => ⟨_, _, _, rfl, .inr ⟨rfl, Int.le_refl _⟩⟩⟩
        · obtain ⟨f2, l2, v2, e2, hle⟩ := pre j hj (by rw [e]; exact h1)
          cases e2
          omega
        · cases e
          exact ⟨_, _, _, rfl, by omega⟩
      · have eo : one a near line (ow a s k) (some (f, l, v)) = some (f, l, v) := by
          unfold one; rw [if_neg]
          rintro ⟨_, h3⟩
          exact h2 (of_decide_eq_true h3)
        have em : mstep (some [f, l, (k0 : Int), v]) [ab (line - ow a s k), line, k, a + line - ow a s k] = some [f, l, (k0 : Int), v] := by
          unfold mstep
          simp only []
          rw [if_neg]
          intro h3
          have h3 := (lt4 ..).mp h3
          have e1 : ab (line - ow a s k) = f := by omega
          have e2 : line = l := by omega
          subst e2
          rcases Nat.lt_trichotomy k k0 with hk | hk | hk
          · exact hmin k hk e1
          · subst hk; omega
          · omega
        rw [eo, em]
        refine ⟨.inr ⟨f, l, v, k0, rfl, rfl, hf, hv, hmin⟩, fun F L h => h, fun _ => ⟨f, l, v, rfl, by omega⟩⟩
  · have er : row1 a near line k (ow a s k) = [] := by unfold row1; rw [if_neg h1]
    have eo : one a near line (ow a s k) b = b := by unfold one; rw [if_neg fun h => h1 h.1]
    rw [er, eo]
    exact ⟨h, fun _ _ h => h, fun h => absurd h h1⟩
theorem q_three {a s near line : Int} {b : Best} {m : Option (List Int)} (h : QQ a s b m) : QQ a s (three a s near b line) ((rowsL a s near line).foldl mstep m) := by
  obtain ⟨h1, m1, l1⟩ := q_one (k := 0) (near := near) (line := line) (fun j hj => absurd hj (Nat.not_lt_zero _)) h
  obtain ⟨h2, m2, l2⟩ := q_one (k := 1) (near := near) (line := line) (fun j hj hn => by
    obtain rfl : j = 0 := by omega
    exact l1 hn) h1
  obtain ⟨h3, _, _⟩ := q_one (k := 2) (near := near) (line := line) (fun j hj hn => by
    rcases (show j = 0 ∨ j = 1 by omega) with rfl | rfl
    · exact m2 _ _ (l1 hn)
    · exact l2 hn) h2
  unfold three rowsL
  rw [List.foldl_append, List.foldl_append]
  exact h3
theorem q_all {a s near : Int} (ls : List Int) : QQ a s (ls.foldl (three a s near) none) (minO (ls.flatMap (rowsL a s near))) := by
  unfold minO
  have key : ∀ (ls : List Int) (b : Best) (m : Option (List Int)), QQ a s b m → QQ a s (ls.foldl (three a s near) b) ((ls.flatMap (rowsL a s near)).foldl mstep m) := by
    intro ls
    induction ls with
    | nil => exact fun b m h => h
    | cons l ls ih =>
      intro b m h
      rw [List.foldl_cons, List.flatMap_cons, List.foldl_append]
      exact ih _ _ (q_three h)
  exact key ls none none (.inl ⟨rfl, rfl⟩)

/-! ### the plain defs -/
def mn (i j : Int) : Int := if j < i then j else i
def mx (i j : Int) : Int := if i < j then j else i
theorem held_eq {k : Nat} {a s lo hi : Int} {S : Store} : Phi (k + 1) .held [.int a, .int s, .int lo, .int hi] S = some (.int (mx lo (mn a (hi - s))), S) := by
  refine run_eq rfl rfl ⟨_, ?_, [], rfl⟩
  unfold b_held
  simp [mx, mn]
  rfl
theorem grid_eq {k : Nat} {a st : Int} (h : 0 < st ∧ st < 100) {S : Store} : Phi (k + 1) .to_grid [.int a, .int st] S = some (.int ((2 * a + st) / (2 * st) * st), S) := by
  refine run_eq rfl rfl ⟨_, ?_, [], rfl⟩
  unfold b_to_grid
  have h1 : 0 < 2 * st ∧ 2 * st < 1073741824 := by omega
  have h2 : -18446744073709551616 < st ∧ st < 18446744073709551616 := by omega
  simp [h1, h2]
def fit (w h r t : Int) : D := if w ≤ r ∧ h ≤ t then .tup [.int w, .int h] else if h * r ≤ w * t then .tup [.int r, .int (h * r / w)] else .tup [.int (w * t / h), .int t]
theorem fitted_eq {k : Nat} {w h r t : Int} (hw : 0 < w ∧ w < 1000) (hh : 0 < h ∧ h < 1000) (hr : 0 < r ∧ r < 1000) (ht : 0 < t ∧ t < 1000) {S : Store} : Phi (k + 1) .fitted [.int w, .int h, .int r, .int t] S = some (fit w h r t, S) := by
  have e1 : -18446744073709551616 < r ∧ r < 18446744073709551616 := by omega
  have e2 : -18446744073709551616 < t ∧ t < 18446744073709551616 := by omega
  have e3 : 0 < w ∧ w < 1073741824 := by omega
  have e4 : 0 < h ∧ h < 1073741824 := by omega
  refine run_eq rfl (by unfold fit; split <;> (try split) <;> rfl) ⟨_, ?_, [], rfl⟩
  unfold b_fitted fit
  by_cases h1 : w ≤ r <;> by_cases h2 : h ≤ t <;> by_cases h3 : h * r ≤ w * t <;> simp [ev_seq, h1, h2, h3, e1, e2, e3, e4, okLen_of]
/-- the corner's two signs -/
def corner (wv nv : Bool) : Str := if nv then (if wv then "nw" else "ne") else (if wv then "sw" else "se")
def resz (wv nv : Bool) (l t w h bx by' least : Int) : D :=
  let l' := if wv then mn (l + bx) (l + w - least) else l
  let r' := if wv then l + w else mx (l + w + bx) (l + least)
  let t' := if nv then mn (t + by') (t + h - least) else t
  let b' := if nv then t + h else mx (t + h + by') (t + least)
  .tup [.int l', .int t', .int (r' - l'), .int (b' - t')]
theorem in_w (wv nv : Bool) (S : Store) : cIn (.str "w") (.str (corner wv nv)) S = some wv := by
  have h : cIn (.str "w") (.str (corner wv nv)) [] = some wv := by cases wv <;> cases nv <;> decide +kernel
  exact h
theorem in_n (wv nv : Bool) (S : Store) : cIn (.str "n") (.str (corner wv nv)) S = some nv := by
  have h : cIn (.str "n") (.str (corner wv nv)) [] = some nv := by cases wv <;> cases nv <;> decide +kernel
  exact h
theorem resized_eq {k : Nat} {wv nv : Bool} {l t w h x y least : Int} {S : Store} : Phi (k + 1) .resized [.tup [.int l, .int t, .int w, .int h], .str (corner wv nv), .tup [.int x, .int y], .int least] S = some (resz wv nv l t w h x y least, S) := by
  refine run_eq rfl rfl ⟨_, ?_, [], rfl⟩
  unfold b_resized resz
  cases wv <;> cases nv <;> simp [ev_seq, in_w, in_n, okLen_of, atI_zero', atI_one', mn, mx]

theorem ab_eq (x : Int) : (if x < 0 then -x else x) = ab x := rfl
/-! ### the grid -/
def gr (a st : Int) (n : Nat) : List Int := ((List.range n).filter fun k => decide (2 * ab ((k : Nat) * st - a) ≤ st)).map fun k => ((k : Nat) : Int) * st
theorem gr_succ (a st : Int) (n : Nat) : gr a st (n + 1) = gr a st n ++ (if 2 * ab ((n : Nat) * st - a) ≤ st then [(n : Int) * st] else []) := by
  unfold gr
  rw [List.range_succ, List.filter_append, List.map_append]
  by_cases h : 2 * ab ((n : Nat) * st - a) ≤ st <;> simp [h]
theorem gr_mem {a st x : Int} {n : Nat} : x ∈ gr a st n ↔ ∃ k : Nat, k < n ∧ 2 * ab ((k : Nat) * st - a) ≤ st ∧ x = k * st := by
  unfold gr
  simp only [List.mem_map, List.mem_filter, List.mem_range, decide_eq_true_eq]
  constructor
  · rintro ⟨k, ⟨h1, h2⟩, rfl⟩; exact ⟨k, h1, h2, rfl⟩
  · rintro ⟨k, h1, h2, rfl⟩; exact ⟨k, ⟨h1, h2⟩, rfl⟩
theorem gr_max {a st : Int} (ha : 0 ≤ a ∧ a < 60) (hs : 0 < st ∧ st < 100) : ∃ r rs, gr a st 70 = r :: rs ∧ rs.foldl max r = (2 * a + st) / (2 * st) * st := by
  let q := (2 * a + st) / (2 * st)
  have hq1 : q * (2 * st) ≤ 2 * a + st := Int.ediv_mul_le _ (by omega)
  have hq2 : 2 * a + st < (q + 1) * (2 * st) := Int.lt_ediv_add_one_mul_self _ (by omega)
  have hq0 : 0 ≤ q := Int.ediv_nonneg (by omega) (by omega)
  have e1 : (q + 1) * (2 * st) = q * (2 * st) + 2 * st := by rw [Int.add_mul]; omega
  have e2 : q * (2 * st) = 2 * (q * st) := by rw [← Int.mul_assoc, Int.mul_comm q 2, Int.mul_assoc]
  have hqst : q ≤ q * st := by
    have := Int.mul_le_mul_of_nonneg_left (show (1 : Int) ≤ st by omega) hq0
    omega
  have hq70 : q < 70 := by
    rcases Int.lt_or_le q 70 with h | h
    · exact h
    · exfalso
      have : 70 * st ≤ q * st := Int.mul_le_mul_of_nonneg_right h (by omega)
      omega
  have hm : q * st ∈ gr a st 70 := by
    refine gr_mem.mpr ⟨q.toNat, by omega, ?_, by rw [Int.toNat_of_nonneg hq0]⟩
    rw [Int.toNat_of_nonneg hq0]
    unfold ab
    split <;> omega
  have hle : ∀ x ∈ gr a st 70, x ≤ q * st := by
    intro x hx
    obtain ⟨k, h1, h2, rfl⟩ := gr_mem.mp hx
    have h3 : (k : Int) * (2 * st) ≤ 2 * a + st := by
      have e3 : (k : Int) * (2 * st) = 2 * (k * st) := by rw [← Int.mul_assoc, Int.mul_comm (k : Int) 2, Int.mul_assoc]
      unfold ab at h2
      split at h2 <;> omega
    have h4 : (k : Int) ≤ q := (Int.le_ediv_iff_mul_le (by omega)).mpr h3
    exact Int.mul_le_mul_of_nonneg_right h4 (by omega)
  cases h : gr a st 70 with
  | nil => rw [h] at hm; simp at hm
  | cons r rs =>
    refine ⟨r, rs, rfl, ?_⟩
    rw [h] at hm hle
    obtain ⟨h1, h2, h3⟩ := foldl_max_spec r rs
    have h4 : rs.foldl max r ≤ q * st := by
      rcases h3 with h3 | h3
      · rw [h3]; exact hle _ List.mem_cons_self
      · exact hle _ (List.mem_cons_of_mem _ h3)
    have h5 : q * st ≤ rs.foldl max r := by
      rcases List.mem_cons.mp hm with hm | hm
      · rw [hm]; exact h1
      · exact h2 _ hm
    exact Int.le_antisymm h4 h5

/-! ### one turn of the law -/
theorem phi_draw {k : Nat} (ds : List Int) : Draws ds (Phi (k + 1) .l_draw) := draws_eq ds
theorem phi_same0 {k : Nat} : SameAt 0 (Phi (k + 1) .l_same) := same_zero
theorem phi_same1 {k : Nat} : SameAt 1 (Phi (k + 2) .l_same) := same_succ phi_same0
theorem take_flat {a s near : Int} {ls : List Int} {i : Nat} {l : Int} (h : ls[i]? = some l) : (ls.take (i + 1)).flatMap (rowsL a s near) = (ls.take i).flatMap (rowsL a s near) ++ rowsL a s near l := by
  rw [List.take_add_one, h, List.flatMap_append]
  simp
theorem rowsL_len (a s near l : Int) : (rowsL a s near l).length ≤ 3 := by
  unfold rowsL row1
  split <;> split <;> split <;> simp
theorem flat_len (a s near : Int) (ls : List Int) : (ls.flatMap (rowsL a s near)).length ≤ 3 * ls.length := by
  induction ls with
  | nil => simp
  | cons l ls ih =>
    have := rowsL_len a s near l
    simp only [List.flatMap_cons, List.length_append, List.length_cons]
    omega
theorem zs_at {ls : List Int} {i : Nat} {d : D} (h : (zs ls)[i]? = some d) : ∃ l, ls[i]? = some l ∧ d = .int l := by
  rw [zs, List.getElem?_map] at h
  obtain ⟨l, h1, h2⟩ := map_some h
  exact ⟨l, h1, h2.symm⟩
def eltG : ME := (m2 fMul (mVar 7) (mVar 12))
def tstG : MT := (mCmp cLeT (m2 fMul (mC (.int 2)) (mCall fAbs (mCons (m2 fSub (m2 fMul (mVar 7) (mVar 12)) (mVar 3)) mNil))) (mVar 12))
theorem grid_lc {env : DEnv} {at_ st : Int} {S : Store} (h3 : env[3]? = some (some (.int at_))) (h12 : env[12]? = some (some (.int st))) (hst : 0 < st ∧ st < 100) (hl : 12 < env.length) :
    lcGo [] S.length (mgName 7) tstG eltG env (ramp 0 1 70) (S ++ [.lst []]) = some (S ++ [.lst (zs (gr at_ st 70))]) := by
  obtain ⟨acc, T', h, ⟨rfl, rfl⟩, _, _⟩ := lc_inv (deps := []) (n := S.length) (g := mgName 7) (t := tstG) (elt := eltG) (env := env) (items := ramp 0 1 70)
    (fun i acc T => T = S ∧ acc = zs (gr at_ st i)) (by rw [ramp_len]; decide) (fun i d hi acc T ⟨h1, h2⟩ hT ha => by
      subst h1 h2
      obtain ⟨rfl, hi2⟩ := ramp_at hi
      have g3 : (env.set 7 (some (.int (0 + (i : Nat) * 1))))[3]? = some (some (.int at_)) := by rw [List.getElem?_set_ne (by decide)]; exact h3
      have g12 : (env.set 7 (some (.int (0 + (i : Nat) * 1))))[12]? = some (some (.int st)) := by rw [List.getElem?_set_ne (by decide)]; exact h12
      have g7 : (env.set 7 (some (D.int (0 + (i : Nat) * 1))))[7]? = some (some (.int (0 + (i : Nat) * 1))) := List.getElem?_set_self (by omega)
      have b1 : -18446744073709551616 < st ∧ st < 18446744073709551616 := by omega
      refine ⟨_, T, ⟨_, decide (2 * ab ((i : Nat) * st - at_) ≤ st), T ++ [.lst (zs (gr at_ st i))], rfl, ?_, ?_, rfl, by simp⟩, rfl, rfl⟩
      · unfold tstG
        simp only [ev_cmp, ev_2, ev_C, ev_call, ev_cons, ev_nil, ev_var, g3, g12, g7, ob_some, om_some, ev_fMulR _ _ b1, ev_fSub, ev_fAbs, ev_fMulL 2 _ (by decide), ev_cInt2]
        rw [show 0 + (i : Int) * 1 = i by omega]
        rfl
      · by_cases hg : 2 * ab ((i : Nat) * st - at_) ≤ st
        · right
          refine ⟨decide_eq_true hg, .int (i * st), ?_, ?_⟩
          · unfold eltG
            simp only [ev_2, ev_var, g12, g7, ob_some, ev_fMulR _ _ b1]
            rw [show 0 + (i : Int) * 1 = i by omega]
          · rw [gr_succ, if_pos hg, zs_app]
        · left
          refine ⟨decide_eq_false hg, rfl, ?_⟩
          rw [gr_succ, if_neg hg, List.append_nil]) ⟨rfl, rfl⟩ rfl
  rw [ramp_len] at h
  exact h
theorem ix_c1 {wv nv : Bool} {S : Store} : fIx (.str (corner wv nv)) (.int 1) S = some (.str (if wv then "w" else "e"), S) := by cases wv <;> cases nv <;> rfl
theorem ix_c0 {wv nv : Bool} {S : Store} : fIx (.str (corner wv nv)) (.int 0) S = some (.str (if nv then "n" else "s"), S) := by cases wv <;> cases nv <;> rfl
theorem is_w {wv : Bool} : ((if wv then ("w" : Str) else "e") == "w") = wv := by cases wv <;> decide +kernel
theorem is_n {nv : Bool} : ((if nv then ("n" : Str) else "s") == "n") = nv := by cases nv <;> decide +kernel
theorem corner_at {v : Int} (h0 : 0 ≤ v) (h4 : v < 4) : ∃ wv nv, atI [D.str "nw", .str "ne", .str "sw", .str "se"] v = some (.str (corner wv nv)) := by
  rcases (show v = 0 ∨ v = 1 ∨ v = 2 ∨ v = 3 by omega) with rfl | rfl | rfl | rfl
  · exact ⟨true, true, rfl⟩
  · exact ⟨false, true, rfl⟩
  · exact ⟨true, false, rfl⟩
  · exact ⟨false, false, rfl⟩
def lawR (wv nv : Bool) (l t w h x y least : Int) : D :=
  let w' := if wv then mx least (w - x) else mx least (w + x)
  let l' := if wv then l + w - w' else l
  let h' := if nv then mx least (h - y) else mx least (h + y)
  let t' := if nv then t + h - h' else t
  .tup [.int l', .int t', .int w', .int h']
theorem resz_law (wv nv : Bool) (l t w h x y least : Int) : resz wv nv l t w h x y least = lawR wv nv l t w h x y least := by
  have e : ∀ {a b c d a' b' c' d' : Int}, a = a' → b = b' → c = c' → d = d' → D.tup [.int a, .int b, .int c, .int d] = .tup [.int a', .int b', .int c', .int d'] := by
    rintro _ _ _ _ _ _ _ _ rfl rfl rfl rfl; rfl
  unfold resz lawR mn mx
  cases wv <;> cases nv <;> (refine e ?_ ?_ ?_ ?_) <;> simp only [if_true, if_false, Bool.false_eq_true] <;> (repeat' split) <;> omega
theorem fit_le {w h r d : Int} (hw : 0 < w) (hh : 0 < h) : ∃ p q, fit w h r d = .tup [.int p, .int q] ∧ p ≤ r ∧ q ≤ d := by
  unfold fit
  split
  · rename_i h1; exact ⟨_, _, rfl, h1.1, h1.2⟩
  · split
    · rename_i h2
      exact ⟨_, _, rfl, Int.le_refl _, Int.ediv_le_of_le_mul hw (by rw [Int.mul_comm d w]; exact h2)⟩
    · rename_i h2
      exact ⟨_, _, rfl, Int.ediv_le_of_le_mul hh (by rw [Int.mul_comm r h]; omega), Int.le_refl _⟩
theorem turn_ok {k : Nat} {ds : List Int} {r : List (Option D)} (hr : r.length = 28) {a : Nat} {G : Store} {sc : Option D} :
    Ex (L_law_2 (Phi (k + 3)) (sc :: some (.ref 2) :: r) (bx ds a ++ G)) (fun o => ∃ r' a' G', o = .nx (sc :: some (.ref 2) :: r') (bx ds a' ++ G') ∧ r'.length = 28) := by
  have hd : Draws ds (Phi (k + 3) .l_draw) := phi_draw ds
  have hs : SameAt 1 (Phi (k + 3) .l_same) := phi_same1
  obtain ⟨e2, r2, rfl, hr2⟩ := len_cons hr
  obtain ⟨e3, r3, rfl, hr3⟩ := len_cons hr2
  obtain ⟨e4, r4, rfl, hr4⟩ := len_cons hr3
  obtain ⟨e5, r5, rfl, hr5⟩ := len_cons hr4
  obtain ⟨e6, r6, rfl, hr6⟩ := len_cons hr5
  obtain ⟨e7, r7, rfl, hr7⟩ := len_cons hr6
  obtain ⟨e8, r8, rfl, hr8⟩ := len_cons hr7
  obtain ⟨e9, r9, rfl, hr9⟩ := len_cons hr8
  obtain ⟨e10, r10, rfl, hr10⟩ := len_cons hr9
  obtain ⟨e11, r11, rfl, hr11⟩ := len_cons hr10
  obtain ⟨e12, r12, rfl, hr12⟩ := len_cons hr11
  obtain ⟨e13, r13, rfl, hr13⟩ := len_cons hr12
  obtain ⟨e14, r14, rfl, hr14⟩ := len_cons hr13
  obtain ⟨e15, r15, rfl, hr15⟩ := len_cons hr14
  obtain ⟨e16, r16, rfl, hr16⟩ := len_cons hr15
  obtain ⟨e17, r17, rfl, hr17⟩ := len_cons hr16
  obtain ⟨e18, r18, rfl, hr18⟩ := len_cons hr17
  obtain ⟨e19, r19, rfl, hr19⟩ := len_cons hr18
  obtain ⟨e20, r20, rfl, hr20⟩ := len_cons hr19
  obtain ⟨e21, r21, rfl, hr21⟩ := len_cons hr20
  obtain ⟨e22, r22, rfl, hr22⟩ := len_cons hr21
  obtain ⟨e23, r23, rfl, hr23⟩ := len_cons hr22
  obtain ⟨e24, r24, rfl, hr24⟩ := len_cons hr23
  obtain ⟨e25, r25, rfl, hr25⟩ := len_cons hr24
  obtain ⟨e26, r26, rfl, hr26⟩ := len_cons hr25
  obtain ⟨e27, r27, rfl, hr27⟩ := len_cons hr26
  obtain ⟨e28, r28, rfl, hr28⟩ := len_cons hr27
  obtain ⟨e29, r29, rfl, hr29⟩ := len_cons hr28
  obtain rfl : r29 = [] := List.length_eq_zero_iff.mp hr29
  clear hr hr2 hr3 hr4 hr5 hr6 hr7 hr8 hr9 hr10 hr11 hr12 hr13 hr14 hr15 hr16 hr17 hr18 hr19 hr20 hr21 hr22 hr23 hr24 hr25 hr26 hr27 hr28 hr29
  unfold L_law_2
  refine ex_draw hd (by decide) fun at_ a1 a2 => ?_
  refine ex_draw hd (by decide) fun size s1 s2 => ?_
  refine ex_draw hd (by decide) fun near n1 n2 => ?_
  refine ex_drawsT hd (by decide) (by decide) (by decide) fun ls a' hls _ => ?_
  simp only [List.set_cons_succ, List.set_cons_zero]
  -- rows = []
  refine ex_seq (by simp [okLen_of]; exact .mk') ?_
  -- for line in lines
  refine ex_then (ex_for (by simp; exact .mk') ?_)
  refine for_ex (fun i env T => ∃ e9 e10 G' j, env = [sc, some (.ref 2), e2, some (.int at_), some (.int size), some (.int near), some (.tup (zs ls)), e7, some (.ref j), e9, e10, e11, e12, e13, e14, e15, e16, e17, e18, e19, e20, e21, e22, e23, e24, e25, e26, e27, e28, e29] ∧
    T = bx ds a' ++ G' ∧ T[j]? = some (.lst (rowsOf ((ls.take i).flatMap (rowsL at_ size near))))) ⟨e9, e10, G ++ [.lst []], _, rfl, rfl, by simp [rowsOf]⟩ ?_ ?_
  · rintro i d hi env T ⟨e9, e10, G', j, rfl, rfl, hj⟩
    obtain ⟨l, hl, rfl⟩ := zs_at hi
    have hfl := flat_len at_ size near (ls.take i)
    have hti : (ls.take i).length ≤ i := by rw [List.length_take]; omega
    have hil : i < ls.length := (List.getElem?_eq_some_iff.mp hl).1
    obtain ⟨X, hX⟩ := law1_ok (Φ := Phi (k + 3)) (e0 := sc) (e1 := some (.ref 2)) (e2 := e2) (e6 := some (.tup (zs ls))) (e7 := e7) (e10 := e10) (r := [e11, e12, e13, e14, e15, e16, e17, e18, e19, e20, e21, e22, e23, e24, e25, e26, e27, e28, e29]) (a := at_) (s := size) (near := near) (line := l) hj (by omega)
    refine ⟨_, _, rfl, ⟨_, hX, rfl, some (.int l), some (.ref (bx ds a' ++ G').length), G' ++ [X, .lst (rowsOf ((ls.take i).flatMap (rowsL at_ size near) ++ rowsL at_ size near l))], (bx ds a' ++ G').length + 1, rfl, by simp, ?_⟩⟩
    rw [take_flat hl, get_off]; rfl
  rintro env' T ⟨e9, e10, G', j, rfl, rfl, hj⟩
  have hzl : (zs ls).length = ls.length := by simp [zs]
  rw [hzl, List.take_length] at hj
  show Ex _ _
  -- due
  refine ex_seq (by simp [okLen_of]; exact .mk') ?_
  have hq := q_all (a := at_) (s := size) (near := near) ls
  generalize hb : ls.foldl (three at_ size near) none = b at hq
  generalize ls.flatMap (rowsL at_ size near) = rows at hq hj
  refine ex_seq (env' := [sc, some (.ref 2), e2, some (.int at_), some (.int size), some (.int near), some (.tup (zs ls)), e7, some (.ref j), e9, e10, some (res at_ b), e12, e13, e14, e15, e16, e17, e18, e19, e20, e21, e22, e23, e24, e25, e26, e27, e28, e29]) (S' := bx ds a' ++ G') ?_ ?_
  · cases rows with
    | nil =>
      rcases hq with ⟨rfl, _⟩ | ⟨f, l, v, k0, _, h2, _⟩
      · constructor
        simp [hj, rowsOf, res]
      · cases h2
    | cons x xs =>
      rcases hq with ⟨_, h2⟩ | ⟨f, l, v, k0, rfl, h2, _⟩
      · rw [minO_cons] at h2; cases h2
      · have hbest : fBestL leastD [.ref j] (bx ds a' ++ G') = some (.tup (zs [f, l, k0, v]), bx ds a' ++ G') := by
          rw [minO_cons] at h2
          rw [← Option.some.inj h2]
          refine best_rows ?_
          show lstOf (.ref j) _ = _
          simp only [lstOf, hj]
          rfl
        constructor
        simp [hj, rowsOf, res, hbest, zs, atI, ixN, okLen_of]
  refine ex_chk hs (d := res at_ b) (S1 := bx ds a' ++ G') (S2 := bx ds a' ++ G') ⟨?_⟩ ⟨?_⟩ ?_ ?_
  · subst hb
    simp [snapped_eq]
  · simp
  · cases b <;> simp [res, treeD, treeDL]
  clear hj hb hq
  -- the grid
  obtain ⟨q1, q2⟩ := dr_lt (ds := ds) (a := a') (many := 9) (by decide)
  have hdr := hd a' 9 G' (by decide)
  refine ex_seq (by simp [hdr]; exact .mk') ?_
  generalize dr ds a' 9 = st at q1 q2
  obtain ⟨x, xs, hgr, hmax⟩ := gr_max (a := at_) (st := 1 + st) ⟨a1, a2⟩ (by omega)
  have hlc : lcGo [] (bx ds (a' + 1) ++ G').length (mgName 7) (mCmp cLeT (m2 fMul (mC (.int 2)) (mCall fAbs (mCons (m2 fSub (m2 fMul (mVar 7) (mVar 12)) (mVar 3)) mNil))) (mVar 12)) (m2 fMul (mVar 7) (mVar 12)) [sc, some (.ref 2), e2, some (.int at_), some (.int size), some (.int near), some (.tup (zs ls)), none, some (.ref j), e9, e10, some (res at_ b), some (.int (1 + st)), e13, e14, e15, e16, e17, e18, e19, e20, e21, e22, e23, e24, e25, e26, e27, e28, e29] (ramp 0 1 70) ((bx ds (a' + 1) ++ G') ++ [.lst []]) = _ := grid_lc (S := bx ds (a' + 1) ++ G') (at_ := at_) (st := 1 + st) rfl rfl (by omega) (by simp)
  have hle : (bx ds (a' + 1) ++ G').length = (bx ds a' ++ G').length := by simp [bx_len]
  refine ex_seq (env' := [sc, some (.ref 2), e2, some (.int at_), some (.int size), some (.int near), some (.tup (zs ls)), e7, some (.ref j), e9, e10, some (res at_ b), some (.int (1 + st)), some (.ref (bx ds a' ++ G').length), e14, e15, e16, e17, e18, e19, e20, e21, e22, e23, e24, e25, e26, e27, e28, e29]) (S' := bx ds (a' + 1) ++ (G' ++ [.lst (zs (gr at_ (1 + st) 70))])) ⟨?_⟩ ?_
  · rw [ev_asg, ev_lc]
    simp only [ev_range1, ev_C, ob_some]
    rw [if_pos (by decide)]
    simp only [ob_some, kept_nil]
    rw [if_pos trivial]
    rw [show wipeE _ [7] = [sc, some (.ref 2), e2, some (.int at_), some (.int size), some (.int near), some (.tup (zs ls)), none, some (.ref j), e9, e10, some (res at_ b), some (.int (1 + st)), e13, e14, e15, e16, e17, e18, e19, e20, e21, e22, e23, e24, e25, e26, e27, e28, e29] from rfl, show ((70 : Int).toNat) = 70 from rfl, hlc]
    simp [hle]
  have hn : (bx ds (a' + 1) ++ (G' ++ [.lst (zs (gr at_ (1 + st) 70))]))[(bx ds a' ++ G').length]? = some (.lst (zs (gr at_ (1 + st) 70))) := by
    rw [← hle, ← List.append_assoc, get_off0]; rfl
  have hmx : fBestL mostD [.ref (bx ds a' ++ G').length] (bx ds (a' + 1) ++ (G' ++ [.lst (zs (gr at_ (1 + st) 70))])) = some (.int ((2 * at_ + (1 + st)) / (2 * (1 + st)) * (1 + st)), bx ds (a' + 1) ++ (G' ++ [.lst (zs (gr at_ (1 + st) 70))])) := by
    rw [← hmax]
    refine best_max ?_
    show lstOf (.ref _) _ = _
    simp only [lstOf, hn]
    rw [hgr]; rfl
  clear hlc hle hdr hmax hgr hn
  generalize (bx ds a' ++ G').length = gi at hmx
  generalize G' ++ [.lst (zs (gr at_ (1 + st) 70))] = G2 at hmx
  generalize a' + 1 = a2' at hmx
  refine ex_chk hs (d := .int ((2 * at_ + (1 + st)) / (2 * (1 + st)) * (1 + st))) (S1 := bx ds a2' ++ G2) (S2 := bx ds a2' ++ G2) ⟨?_⟩ ⟨?_⟩ rfl ?_
  · simp [grid_eq (k := k + 2) (a := at_) (st := 1 + st) (by omega)]
  · simp [hmx]
  clear hmx
  -- held
  refine ex_draw hd (by decide) fun low l1 l2 => ?_
  simp only [List.set_cons_succ, List.set_cons_zero]
  have hdr := hd (a2' + 1) 40 G2 (by decide)
  obtain ⟨q3, q4⟩ := dr_lt (ds := ds) (a := a2' + 1) (many := 40) (by decide)
  refine ex_seq (by simp [hdr]; exact .mk') ?_
  clear hdr
  generalize dr ds (a2' + 1) 40 = hi at q3 q4
  refine ex_seq (by simp; exact .mk') ?_
  refine ex_chk hs (d := .int (mx low (mn at_ (low + hi - size)))) (S1 := bx ds (a2' + 1 + 1) ++ G2) (S2 := bx ds (a2' + 1 + 1) ++ G2) ⟨?_⟩ ⟨?_⟩ rfl ?_
  · simp [held_eq]
  · simp [mx, mn]; rfl
  -- resized
  generalize a2' + 1 + 1 = a3
  have d0 := hd a3 20 G2 (by decide)
  have d1 := hd (a3 + 1) 20 G2 (by decide)
  have d2 := hd (a3 + 1 + 1) 20 G2 (by decide)
  have d3 := hd (a3 + 1 + 1 + 1) 20 G2 (by decide)
  refine ex_seq (by simp [d0, d1, d2, d3, okLen_of]; exact .mk') ?_
  clear d0 d1 d2 d3
  generalize dr ds a3 20 = L
  generalize dr ds (a3 + 1) 20 = T
  generalize dr ds (a3 + 1 + 1) 20 = W
  generalize dr ds (a3 + 1 + 1 + 1) 20 = Hh
  generalize a3 + 1 + 1 + 1 + 1 = a4
  have d0 := hd a4 30 G2 (by decide)
  have d1 := hd (a4 + 1) 30 G2 (by decide)
  refine ex_seq (by simp [d0, d1, okLen_of]; exact .mk') ?_
  clear d0 d1
  generalize dr ds a4 30 = xx
  generalize dr ds (a4 + 1) 30 = yy
  generalize a4 + 1 + 1 = a5
  have d0 := hd a5 4 G2 (by decide)
  refine ex_seq (by simp [d0]; exact .mk') ?_
  clear d0
  generalize dr ds a5 4 = le
  generalize a5 + 1 = a6
  have d0 := hd a6 4 G2 (by decide)
  obtain ⟨c1, c2⟩ := dr_lt (ds := ds) (a := a6) (many := 4) (by decide)
  obtain ⟨wv, nv, hc⟩ := corner_at c1 c2
  refine ex_seq (by simp [d0, okLen_of, hc]; exact .mk') ?_
  clear d0 hc
  refine ex_seq (by simp; exact .mk') ?_
  generalize hw16 : (some (D.int (if low + hi - size < at_ then low + hi - size else at_))) = e16'
  clear hw16
  refine ex_seq (env' := [sc, some (.ref 2), e2, some (.int at_), some (.int size), some (.int near), some (.tup (zs ls)), e7, some (.ref j), e9, e10, some (res at_ b), some (.int (1 + st)), some (.ref gi), some (.int low), some (.int (low + hi)), e16', some (.tup [.int L, .int T, .int (5 + W), .int (5 + Hh)]), some (.tup [.int (xx - 15), .int (yy - 15)]), some (.int (1 + le)), some (.str (corner wv nv)), some (.int (if wv then L + (5 + W) - (if wv then mx (1 + le) (5 + W - (xx - 15)) else mx (1 + le) (5 + W + (xx - 15))) else L)), some (.int T), some (.int (if wv then mx (1 + le) (5 + W - (xx - 15)) else mx (1 + le) (5 + W + (xx - 15)))), some (.int (5 + Hh)), e25, e26, e27, e28, e29]) (S' := bx ds (a6 + 1) ++ G2) ⟨?_⟩ ?_
  · cases wv
    · simp [ix_c1, is_w (wv := false), atI_zero', mx]
      first | rfl | exact fun z => absurd z (by decide +kernel)
    · simp [ix_c1, is_w (wv := true), atI_zero', mx]
      first | rfl | exact fun z => absurd z (by decide +kernel)
  refine ex_seq (env' := [sc, some (.ref 2), e2, some (.int at_), some (.int size), some (.int near), some (.tup (zs ls)), e7, some (.ref j), e9, e10, some (res at_ b), some (.int (1 + st)), some (.ref gi), some (.int low), some (.int (low + hi)), e16', some (.tup [.int L, .int T, .int (5 + W), .int (5 + Hh)]), some (.tup [.int (xx - 15), .int (yy - 15)]), some (.int (1 + le)), some (.str (corner wv nv)), some (.int (if wv then L + (5 + W) - (if wv then mx (1 + le) (5 + W - (xx - 15)) else mx (1 + le) (5 + W + (xx - 15))) else L)), some (.int (if nv then T + (5 + Hh) - (if nv then mx (1 + le) (5 + Hh - (yy - 15)) else mx (1 + le) (5 + Hh + (yy - 15))) else T)), some (.int (if wv then mx (1 + le) (5 + W - (xx - 15)) else mx (1 + le) (5 + W + (xx - 15)))), some (.int (if nv then mx (1 + le) (5 + Hh - (yy - 15)) else mx (1 + le) (5 + Hh + (yy - 15)))), e25, e26, e27, e28, e29]) (S' := bx ds (a6 + 1) ++ G2) ⟨?_⟩ ?_
  · cases nv
    · simp [ix_c0, is_n (nv := false), atI_zero', atI_one', mx]
      first | rfl | exact fun z => absurd z (by decide +kernel)
    · simp [ix_c0, is_n (nv := true), atI_zero', atI_one', mx]
      first | rfl | exact fun z => absurd z (by decide +kernel)
  refine ex_chk hs (d := lawR wv nv L T (5 + W) (5 + Hh) (xx - 15) (yy - 15) (1 + le)) (S1 := bx ds (a6 + 1) ++ G2) (S2 := bx ds (a6 + 1) ++ G2) ⟨?_⟩ ⟨?_⟩ ?_ ?_
  · rw [← resz_law]
    simp [resized_eq]
  · simp [okLen_of, lawR]
  · simp [lawR, treeD, treeDL]
  generalize some (D.int (if (nv = true) then T + (5 + Hh) - (if (nv = true) then mx (1 + le) (5 + Hh - (yy - 15)) else mx (1 + le) (5 + Hh + (yy - 15))) else T)) = v22
  generalize some (D.int (if (nv = true) then mx (1 + le) (5 + Hh - (yy - 15)) else mx (1 + le) (5 + Hh + (yy - 15)))) = v24
  generalize some (D.int (if (wv = true) then L + (5 + W) - (if (wv = true) then mx (1 + le) (5 + W - (xx - 15)) else mx (1 + le) (5 + W + (xx - 15))) else L)) = v21
  generalize some (D.int (if (wv = true) then mx (1 + le) (5 + W - (xx - 15)) else mx (1 + le) (5 + W + (xx - 15)))) = v23
  generalize a6 + 1 = a7
  have d0 := hd a7 60 G2 (by decide)
  obtain ⟨w1, w2⟩ := dr_lt (ds := ds) (a := a7) (many := 60) (by decide)
  refine ex_seq (by simp [d0]; exact .mk') ?_
  clear d0
  generalize dr ds a7 60 = wd at w1 w2
  have d0 := hd (a7 + 1) 60 G2 (by decide)
  obtain ⟨h1, h2⟩ := dr_lt (ds := ds) (a := a7 + 1) (many := 60) (by decide)
  refine ex_seq (by simp [d0]; exact .mk') ?_
  clear d0
  generalize dr ds (a7 + 1) 60 = ht at h1 h2
  have d0 := hd (a7 + 1 + 1) 40 G2 (by decide)
  obtain ⟨r1, r2⟩ := dr_lt (ds := ds) (a := a7 + 1 + 1) (many := 40) (by decide)
  refine ex_seq (by simp [d0]; exact .mk') ?_
  clear d0
  generalize dr ds (a7 + 1 + 1) 40 = rm at r1 r2
  have d0 := hd (a7 + 1 + 1 + 1) 40 G2 (by decide)
  obtain ⟨p1, p2⟩ := dr_lt (ds := ds) (a := a7 + 1 + 1 + 1) (many := 40) (by decide)
  refine ex_seq (by simp [d0]; exact .mk') ?_
  clear d0
  generalize dr ds (a7 + 1 + 1 + 1) 40 = dp at p1 p2
  generalize a7 + 1 + 1 + 1 + 1 = a8
  refine ex_seq (by simp [okLen_of]; exact .mk') ?_
  -- told
  have W1 : 0 < 1 + wd ∧ 1 + wd < 1000 := by omega
  have H1 : 0 < 1 + ht ∧ 1 + ht < 1000 := by omega
  have R1 : 0 < 1 + rm ∧ 1 + rm < 1000 := by omega
  have P1 : 0 < 1 + dp ∧ 1 + dp < 1000 := by omega
  generalize 1 + wd = wd at *
  generalize 1 + ht = ht at *
  generalize 1 + rm = rm at *
  generalize 1 + dp = dp at *
  clear w1 w2 h1 h2 r1 r2 p1 p2
  obtain ⟨p, q, hf, hp, hq⟩ := fit_le (w := wd) (h := ht) (r := rm) (d := dp) W1.1 H1.1
  refine ex_then ?_
  have b1 : -18446744073709551616 < rm ∧ rm < 18446744073709551616 := by omega
  have b2 : -18446744073709551616 < dp ∧ dp < 18446744073709551616 := by omega
  have b3 : 0 < wd ∧ wd < 1073741824 := by omega
  have b4 : 0 < ht ∧ ht < 1073741824 := by omega
  refine .of (y := .nx [sc, some (.ref 2), e2, some (.int at_), some (.int size), some (.int near), some (.tup (zs ls)), e7, some (.ref j), e9, e10, some (res at_ b), some (.int (1 + st)), some (.ref gi), some (.int low), some (.int (low + hi)), e16', some (.tup [.int L, .int T, .int (5 + W), .int (5 + Hh)]), some (.tup [.int (xx - 15), .int (yy - 15)]), some (.int (1 + le)), some (.str (corner wv nv)), v21, v22, v23, v24, some (.int wd), some (.int ht), some (.int rm), some (.int dp), some (fit wd ht rm dp)] (bx ds a8 ++ G2)) ⟨?_⟩ ?_
  · unfold fit
    by_cases g1 : wd ≤ rm <;> by_cases g2 : ht ≤ dp <;> by_cases g3 : ht * rm ≤ wd * dp <;>
      simp [g1, g2, g3, b1, b2, b3, b4, okLen_of, show (rm < wd) = ¬ (wd ≤ rm) by simp, show (dp < ht) = ¬ (ht ≤ dp) by simp]
  show Ex _ _
  refine ex_chk hs (d := fit wd ht rm dp) (S1 := bx ds a8 ++ G2) (S2 := bx ds a8 ++ G2) ⟨?_⟩ ⟨?_⟩ ?_ ?_
  · simp [fitted_eq (k := k + 2) W1 H1 R1 P1]
  · simp
  · rw [hf]; rfl
  rw [hf]
  refine ex_if (k := false) (S' := bx ds a8 ++ G2) ⟨?_⟩ ?_
  · have n1 : ¬ rm < p := by omega
    have n2 : ¬ dp < q := by omega
    simp [atI_zero', atI_one', n1, n2]
  · exact .mk' ⟨_, a8, G2, rfl, rfl⟩

/-! ### the law -/
theorem law_eq {k : Nat} {ns : List Int} (hl : ns.length ≤ 63) : ∃ S', Phi (k + 4) .law [.fz (ns.map .int)] [] = some (.bl true, S') := by
  obtain ⟨ds, hds, _⟩ := digits_eq (sc := .fz (ns.map .int)) (c := Phi (k + 1) .l_cell) (f := fun j => cellV ns j) (fun j T => cell_eq (by omega)) (n := 62) (by decide) []
  have hbox : Phi (k + 3) .l_box [.fz (ns.map .int), .int 0, .int 62] [] = some (.ref 2, bx ds 0) := box_eq (n := 62) fun S hS => by subst hS; exact hds
  obtain ⟨d, S', h1, h2⟩ := run_of (np := 1) (ns := 30) (b := b_law (Phi (k + 3))) (ds := [.fz (ns.map .int)]) (S := []) (P := fun d _ => d = .bl true) rfl (by
    refine ex_seq (by simp [hbox]; exact .mk') ?_
    refine ex_then (ex_for (by simp; exact .mk') ?_)
    refine for_ex (fun i env T => ∃ r a G, env = some (.fz (ns.map .int)) :: some (.ref 2) :: r ∧ r.length = 28 ∧ T = bx ds a ++ G) ⟨_, 0, [], rfl, rfl, by simp⟩ ?_ ?_
    · rintro i d hi env T ⟨r, a, G, rfl, hr, rfl⟩
      obtain ⟨e2, r, rfl, hr'⟩ := len_cons hr
      refine ⟨_, _, rfl, (turn_ok (k := k) (ds := ds) (r := some d :: r) (by rw [List.length_cons, hr']) (a := a) (G := G) (sc := some (.fz (ns.map .int)))).imp ?_⟩
      rintro o ⟨r', a', G', rfl, hr'⟩
      exact ⟨rfl, r', a', G', rfl, hr', rfl⟩
    · rintro env' T ⟨r, a, G, rfl, hr, rfl⟩
      exact .mk' rfl)
  subst h2
  exact ⟨S', h1⟩
def fuel : Nat := 3
theorem end_law {K : PySem.W.Frag} {H : Hp} {a : Addr} {ns : List Int} (hl : ns.length ≤ 63) (hO : Only H) (hS : SqL K H a (ns.map V.int)) : spL fuel K [.ref a] H (fun v _ => v = .bl true) fun _ _ _ => False :=
  end_gen hO hS (law_eq (k := 0) hl)
end K89

open PySem PySem.W PyProof.Rows
set_option maxRecDepth 100000 in
set_option maxHeartbeats 0 in
theorem PySem.Challenge.cw_pagehouse_k89_things_that_snap_holds : PySem.Challenge.rw_pagehouse_k89_things_that_snap.Holds := by
  w_on; o_law; k_head; (case hw => w_witness2)
  k_fill
  refine L2.walk_of (l := PySem.Challenge.rw_pagehouse_k89_things_that_snap) (n := 63) (k := 3 * K89.fuel + 3) (x := "script") (CX := fun _ => L2.CX0) (sp := fun w => K89.spL K89.fuel _) rfl (by decide) rfl ⟨rfl, by decide, by decide⟩ (fun w h Y => PySem.W.kIn_of Y) ?F (fun _ _ a ns hl hO hS => K89.end_law hl hO hS) (fun _ _ _ _ _ h => h)
  case F =>
    intro w mg fa h KX G hmg
    refine' K89.all_mk K89.fuel KX G hmg ?a0 ?l0 ?c0 ?k0 ?a1 ?l1 ?c1 ?k1 ?a2 ?l2 ?c2 ?k2 ?a3 ?l3 ?c3 ?k3 ?a4 ?l4 ?c4 ?k4 ?a5 ?l5 ?c5 ?k5 ?a6 ?l6 ?c6 ?k6 ?a7 ?l7 ?c7 ?k7 ?a8 ?l8 ?c8 ?k8 ?a9 ?l9 ?c9 ?k9 ?a10 ?l10 ?c10 ?k10 ?z0 ?z1 ?z2 ?z3 ?z4 ?z5 ?z6 ?z7 ?z8 ?z9
    (case a0 => k_is); (case l0 => k_is); (case c0 => k_is); (case k0 => k_is); (case a1 => k_is); (case l1 => k_is); (case c1 => k_is); (case k1 => k_is); (case a2 => k_is); (case l2 => k_is); (case c2 => k_is); (case k2 => k_is); (case a3 => k_is); (case l3 => k_is); (case c3 => k_is); (case k3 => k_is); (case a4 => k_is); (case l4 => k_is); (case c4 => k_is); (case k4 => k_is); (case a5 => k_is); (case l5 => k_is); (case c5 => k_is); (case k5 => k_is); (case a6 => k_is); (case l6 => k_is); (case c6 => k_is); (case k6 => k_is); (case a7 => k_is); (case l7 => k_is); (case c7 => k_is); (case k7 => k_is); (case a8 => k_is); (case l8 => k_is); (case c8 => k_is); (case k8 => k_is); (case a9 => k_is); (case l9 => k_is); (case c9 => k_is); (case k9 => k_is); (case a10 => k_is); (case l10 => k_is); (case c10 => k_is); (case k10 => k_is); (case z0 => k_is); (case z1 => k_is); (case z2 => k_is); (case z3 => k_is); (case z4 => k_is); (case z5 => k_is); (case z6 => k_is); (case z7 => k_is); (case z8 => k_is); (case z9 => k_is)

