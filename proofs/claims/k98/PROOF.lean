import PyProof.Rows.All
import Wide.All
import OpenK.AllK
import Wide.FinOn
import HandS.ForMost
import HandS.ForExc
import HandS.AnyAll
import HandS.TupAny
import HandS.TupLe
import HandS.TupMul
import HandS.IsInst
import HandS.Flow
import HandS.Deep
import HandS.Zip
import HandS.Iter
import HandS.Style
import KE.SortData
import KE.DataMinMax
import HandS.Text
import HandS.StrMore
import KE.GoesEnum
import HandS.Conv
import PyProof.TupleOfStr
import PyProof.ListStr
import HandS.NoneIn
import PyProof.GenArm
import HandS.EndOwn
import HandS.GenOver
import HandS.JoinGen
import HandS.GenBody
import PyProof.TupleOfGen
import PyProof.JoinWalk
import HandS.Codes
import PySem.Challenge.RW_pagehouse_k98_whole_outlines_and_branche
set_option Elab.async false
set_option linter.all false
set_option maxRecDepth 100000
set_option maxHeartbeats 4000000
/-! PdCore: Python values as trees, a store of mutable objects, how they lie in the abstract heap; the judgements. -/
namespace PD
open PySem PySem.Spec PyProof.Rows L2

/-- a value: tuples are trees; what can change stands in the store -/
inductive D where
  | non | bl (b : Bool) | int (i : Int) | str (x : Str) | tup (ds : List D) | cl (ds : List D) | fz (ds : List D) | ref (i : Nat)

mutual
def D.beq : D → D → Bool
  | .non, .non => true
  | .bl a, .bl b => a == b
  | .int a, .int b => a == b
  | .str a, .str b => a == b
  | .tup a, .tup b => D.beqL a b
  | .cl a, .cl b => D.beqL a b
  | .fz a, .fz b => D.beqL a b
  | .ref a, .ref b => a == b
  | _, _ => false
def D.beqL : List D → List D → Bool
  | [], [] => true
  | a :: r, b :: s => D.beq a b && D.beqL r s
  | _, _ => false
end
mutual
theorem D.of_beq : ∀ (a b : D), D.beq a b = true → a = b
  | .non, b, h => by cases b <;> simp_all [D.beq]
  | .bl x, b, h => by cases b <;> simp_all [D.beq]
  | .int x, b, h => by cases b <;> simp_all [D.beq]
  | .str x, b, h => by cases b <;> simp_all [D.beq]
  | .tup x, b, h => by
    cases b with
    | tup y => rw [D.of_beqL x y (by simpa [D.beq] using h)]
    | _ => simp [D.beq] at h
  | .cl x, b, h => by
    cases b with
    | cl y => rw [D.of_beqL x y (by simpa [D.beq] using h)]
    | _ => simp [D.beq] at h
  | .fz x, b, h => by
    cases b with
    | fz y => rw [D.of_beqL x y (by simpa [D.beq] using h)]
    | _ => simp [D.beq] at h
  | .ref x, b, h => by cases b <;> simp_all [D.beq]
theorem D.of_beqL : ∀ (a b : List D), D.beqL a b = true → a = b
  | [], [], _ => rfl
  | [], _ :: _, h => by simp [D.beqL] at h
  | _ :: _, [], h => by simp [D.beqL] at h
  | x :: r, y :: s, h => by
    rw [D.beqL, Bool.and_eq_true] at h
    rw [D.of_beq x y h.1, D.of_beqL r s h.2]
end
mutual
theorem D.beq_self : ∀ (a : D), D.beq a a = true
  | .non => rfl
  | .bl x => by simp [D.beq]
  | .int x => by simp [D.beq]
  | .str x => by simp [D.beq]
  | .tup x => by rw [D.beq]; exact D.beqL_self x
  | .cl x => by rw [D.beq]; exact D.beqL_self x
  | .fz x => by rw [D.beq]; exact D.beqL_self x
  | .ref x => by simp [D.beq]
theorem D.beqL_self : ∀ (a : List D), D.beqL a a = true
  | [] => rfl
  | x :: r => by rw [D.beqL, D.beq_self x, D.beqL_self r]; rfl
end
instance : DecidableEq D := fun a b =>
  if h : D.beq a b = true then isTrue (D.of_beq a b h) else isFalse fun e => h (by rw [e]; exact D.beq_self b)
instance : Inhabited D := ⟨.non⟩

/-- what can change -/
inductive O where
  | lst (ds : List D) | dic (kvs : List (Key × D)) | dit (kvs : List (List Key × D)) | ins (c : Nat) (fs : List (Str × D))
  deriving DecidableEq
abbrev Store := List O
abbrev DEnv := List (Option D)
abbrev St := L2.St

/-- the tables of code objects that are looked after (for generator expressions) -/
class Tabs where
  ts : List Addr

/-! ### how it lies -/
/-- a list that never changes -/
def SqF (K : PySem.W.Frag) (H : Hp) (a : Addr) (xs : List V) : Prop :=
  (∃ o, H a = some (.frz o (.lst xs))) ∨
    ∃ (o : Obj) (its : Array Value) (n : Nat), K.lookup a = some o ∧ o.cls = .type "list" ∧ o.dict = none ∧ o.data = .seq its n ∧ its.size ≤ sizeLine ∧ Vals xs its.toList
theorem SqF.l {K : PySem.W.Frag} {H : Hp} {a : Addr} {xs : List V} (h : SqF K H a xs) : SqL K H a xs := by
  rcases h with ⟨o, h⟩ | h
  · exact .inl (.inr ⟨o, h⟩)
  · exact .inr h
mutual
def Rel (K : PySem.W.Frag) (H : Hp) (ρ : List Addr) : D → V → Prop
  | .non, v => v = .non
  | .bl b, v => v = .bl b
  | .int i, v => v = .int i
  | .str x, v => v = .str x
  | .tup ds, v => ∃ a vs, v = .ref a ∧ SqT K H a vs ∧ RelL K H ρ ds vs
  | .cl ds, v => ∃ a vs, v = .ref a ∧ (H a = some (.lst vs) ∧ a ∉ ρ) ∧ RelL K H ρ ds vs
  | .fz ds, v => ∃ a vs, v = .ref a ∧ SqF K H a vs ∧ RelL K H ρ ds vs
  | .ref i, v => ∃ a, v = .ref a ∧ ρ[i]? = some a
def RelL (K : PySem.W.Frag) (H : Hp) (ρ : List Addr) : List D → List V → Prop
  | [], vs => vs = []
  | d :: ds, vs => ∃ v r, vs = v :: r ∧ Rel K H ρ d v ∧ RelL K H ρ ds r
end

/-- what never changes is kept, and the lists that stand outside of the store -/
structure Le (H : Hp) (ρ : List Addr) (H' : Hp) (ρ' : List Addr) : Prop where
  tups : ∀ a xs, H a = some (.tup xs) → H' a = some (.tup xs)
  frzs : ∀ a o u, H a = some (.frz o u) → H' a = some (.frz o u)
  pre : ρ <+: ρ'
  keep : ∀ a vs, H a = some (.lst vs) → a ∉ ρ → H' a = some (.lst vs) ∧ a ∉ ρ'
theorem Le.refl (H : Hp) (ρ : List Addr) : Le H ρ H ρ := ⟨fun _ _ h => h, fun _ _ _ h => h, List.prefix_refl _, fun _ _ h n => ⟨h, n⟩⟩
theorem Le.trans {H H1 H2 : Hp} {ρ ρ1 ρ2 : List Addr} (a : Le H ρ H1 ρ1) (b : Le H1 ρ1 H2 ρ2) : Le H ρ H2 ρ2 :=
  ⟨fun p xs h => b.tups p xs (a.tups p xs h), fun p o u h => b.frzs p o u (a.frzs p o u h), a.pre.trans b.pre, fun p vs h n => let ⟨h1, n1⟩ := a.keep p vs h n; b.keep p vs h1 n1⟩
theorem Le.new {H : Hp} {ρ : List Addr} {p : Addr} {o : HO} (h : H p = none) : Le H ρ (upd H p o) ρ :=
  ⟨fun a xs e => by rw [upd_ne (ne_of_none e h)]; exact e, fun a o u e => by rw [upd_ne (ne_of_none e h)]; exact e, List.prefix_refl _, fun a vs e n => ⟨by rw [upd_ne (ne_of_none e h)]; exact e, n⟩⟩
theorem Le.push {H : Hp} {ρ : List Addr} {p : Addr} {o : HO} (h : H p = none) : Le H ρ (upd H p o) (ρ ++ [p]) :=
  ⟨fun a xs e => by rw [upd_ne (ne_of_none e h)]; exact e, fun a o u e => by rw [upd_ne (ne_of_none e h)]; exact e, List.prefix_append _ _, fun a vs e n => by
    have na : a ≠ p := ne_of_none e h
    exact ⟨by rw [upd_ne na]; exact e, by simp [n, na]⟩⟩
theorem Le.upd {H : Hp} {ρ : List Addr} {p : Addr} {o u : HO} (hm : p ∈ ρ) (h : H p = some u) (ht : ∀ xs, u ≠ .tup xs) (hf : ∀ o w, u ≠ .frz o w) : Le H ρ (upd H p o) ρ :=
  ⟨fun a xs e => by
    rw [upd_ne]
    · exact e
    · intro z; rw [z, h] at e; exact ht xs (Option.some.inj e),
   fun a o' w e => by
    rw [upd_ne]
    · exact e
    · intro z; rw [z, h] at e; exact hf o' w (Option.some.inj e),
   List.prefix_refl _, fun a vs e n => ⟨by rw [upd_ne (fun (z : a = p) => n (by rw [z]; exact hm))]; exact e, n⟩⟩
theorem Le.sqt {K : PySem.W.Frag} {H H' : Hp} {ρ ρ' : List Addr} (x : Le H ρ H' ρ') {a : Addr} {vs : List V} (h : SqT K H a vs) : SqT K H' a vs := by
  rcases h with (h | ⟨o, h⟩) | h
  · exact .inl (.inl (x.tups _ _ h))
  · exact .inl (.inr ⟨o, x.frzs _ _ _ h⟩)
  · exact .inr h
theorem Le.sqf {K : PySem.W.Frag} {H H' : Hp} {ρ ρ' : List Addr} (x : Le H ρ H' ρ') {a : Addr} {vs : List V} (h : SqF K H a vs) : SqF K H' a vs := by
  rcases h with ⟨o, h⟩ | h
  · exact .inl ⟨o, x.frzs _ _ _ h⟩
  · exact .inr h

section
variable {K : PySem.W.Frag} {H H' : Hp} {ρ ρ' : List Addr}
mutual
theorem Rel.mono (x : Le H ρ H' ρ') : ∀ {d : D} {v : V}, Rel K H ρ d v → Rel K H' ρ' d v
  | .non, _, h => h
  | .bl _, _, h => h
  | .int _, _, h => h
  | .str _, _, h => h
  | .tup _, _, h => by
    obtain ⟨a, vs, e, s, r⟩ := h
    exact ⟨a, vs, e, x.sqt s, RelL.mono x r⟩
  | .cl _, _, h => by
    obtain ⟨a, vs, e, ⟨s, n⟩, r⟩ := h
    exact ⟨a, vs, e, x.keep a vs s n, RelL.mono x r⟩
  | .fz _, _, h => by
    obtain ⟨a, vs, e, s, r⟩ := h
    exact ⟨a, vs, e, x.sqf s, RelL.mono x r⟩
  | .ref i, _, h => by
    obtain ⟨a, e, q⟩ := h
    refine ⟨a, e, ?_⟩
    obtain ⟨t, rfl⟩ := x.pre
    rw [List.getElem?_append_left (List.getElem?_eq_some_iff.mp q).1]
    exact q
theorem RelL.mono (x : Le H ρ H' ρ') : ∀ {ds : List D} {vs : List V}, RelL K H ρ ds vs → RelL K H' ρ' ds vs
  | [], _, h => h
  | _ :: _, _, h => by
    obtain ⟨v, r, e, s, t⟩ := h
    exact ⟨v, r, e, Rel.mono x s, RelL.mono x t⟩
end
theorem RelL.length : ∀ {ds : List D} {vs : List V}, RelL K H ρ ds vs → vs.length = ds.length
  | [], _, h => by cases h; rfl
  | _ :: _, _, h => by
    obtain ⟨v, r, e, _, t⟩ := h
    subst e
    rw [List.length_cons, List.length_cons, t.length]
theorem RelL.get : ∀ {ds : List D} {vs : List V} {i : Nat} {d : D}, RelL K H ρ ds vs → ds[i]? = some d → ∃ v, vs[i]? = some v ∧ Rel K H ρ d v
  | [], _, _, _, _, e => by simp at e
  | _ :: _, _, 0, d, h, e => by
    obtain ⟨v, r, rfl, s, _⟩ := h
    simp at e; subst e
    exact ⟨v, rfl, s⟩
  | _ :: _, _, i + 1, d, h, e => by
    obtain ⟨v, r, rfl, _, t⟩ := h
    obtain ⟨w, h1, h2⟩ := RelL.get (i := i) (d := d) t (by simpa using e)
    exact ⟨w, by simpa using h1, h2⟩
theorem RelL.get' {ds : List D} {vs : List V} {i : Nat} {v : V} (h : RelL K H ρ ds vs) (e : vs[i]? = some v) : ∃ d, ds[i]? = some d ∧ Rel K H ρ d v := by
  have hi : i < vs.length := (List.getElem?_eq_some_iff.mp e).1
  rw [h.length] at hi
  obtain ⟨w, h1, h2⟩ := h.get (List.getElem?_eq_getElem hi)
  rw [e] at h1; cases h1
  exact ⟨_, List.getElem?_eq_getElem hi, h2⟩
theorem RelL.append : ∀ {ds es : List D} {vs ws : List V}, RelL K H ρ ds vs → RelL K H ρ es ws → RelL K H ρ (ds ++ es) (vs ++ ws)
  | [], _, _, _, h, k => by cases h; exact k
  | _ :: _, _, _, _, h, k => by
    obtain ⟨v, r, rfl, s, t⟩ := h
    exact ⟨v, r ++ _, rfl, s, RelL.append t k⟩
theorem RelL.cons {d : D} {ds : List D} {v : V} {vs : List V} (h : Rel K H ρ d v) (t : RelL K H ρ ds vs) : RelL K H ρ (d :: ds) (v :: vs) := ⟨v, vs, rfl, h, t⟩
theorem RelL.nil : RelL K H ρ [] [] := rfl
theorem RelL.one {d : D} {v : V} (h : Rel K H ρ d v) : RelL K H ρ [d] [v] := .cons h .nil
theorem RelL.set : ∀ {ds : List D} {vs : List V} {d : D} {v : V} (i : Nat), RelL K H ρ ds vs → Rel K H ρ d v → RelL K H ρ (ds.set i d) (vs.set i v)
  | [], _, _, _, _, h, _ => by cases h; exact rfl
  | _ :: _, _, _, _, 0, h, q => by
    obtain ⟨v, r, rfl, _, t⟩ := h
    exact ⟨_, r, rfl, q, t⟩
  | _ :: _, _, _, _, i + 1, h, q => by
    obtain ⟨v, r, rfl, s, t⟩ := h
    exact ⟨v, _, rfl, s, RelL.set i t q⟩
theorem RelL.take : ∀ {ds : List D} {vs : List V} (n : Nat), RelL K H ρ ds vs → RelL K H ρ (ds.take n) (vs.take n)
  | _, _, 0, _ => rfl
  | [], _, _ + 1, h => by cases h; exact rfl
  | _ :: _, _, n + 1, h => by
    obtain ⟨v, r, rfl, s, t⟩ := h
    exact ⟨v, _, rfl, s, RelL.take n t⟩
theorem RelL.drop : ∀ {ds : List D} {vs : List V} (n : Nat), RelL K H ρ ds vs → RelL K H ρ (ds.drop n) (vs.drop n)
  | _, _, 0, h => h
  | [], _, _ + 1, h => by cases h; exact rfl
  | _ :: _, _, n + 1, h => by
    obtain ⟨v, r, rfl, s, t⟩ := h
    exact RelL.drop n t
theorem RelL.eraseIdx {ds : List D} {vs : List V} (i : Nat) (h : RelL K H ρ ds vs) : RelL K H ρ (ds.eraseIdx i) (vs.eraseIdx i) := by
  rw [List.eraseIdx_eq_take_drop_succ, List.eraseIdx_eq_take_drop_succ]
  exact (h.take _).append (h.drop _)
theorem RelL.reverse : ∀ {ds : List D} {vs : List V}, RelL K H ρ ds vs → RelL K H ρ ds.reverse vs.reverse
  | [], _, h => by cases h; exact rfl
  | _ :: _, _, h => by
    obtain ⟨v, r, rfl, s, t⟩ := h
    rw [List.reverse_cons, List.reverse_cons]
    exact t.reverse.append (.one s)
theorem RelL.mem {ds : List D} {vs : List V} {d : D} (h : RelL K H ρ ds vs) (m : d ∈ ds) : ∃ v ∈ vs, Rel K H ρ d v := by
  obtain ⟨i, hi, e⟩ := List.mem_iff_getElem.mp m
  obtain ⟨v, h1, h2⟩ := h.get (i := i) (d := d) (by rw [List.getElem?_eq_getElem hi, e])
  exact ⟨v, List.mem_of_getElem? h1, h2⟩
theorem RelL.mk : ∀ {ds : List D} {vs : List V}, vs.length = ds.length → (∀ (i : Nat) (d : D) (v : V), ds[i]? = some d → vs[i]? = some v → Rel K H ρ d v) → RelL K H ρ ds vs
  | [], vs, hl, _ => by
    rw [List.length_nil] at hl
    exact List.length_eq_zero_iff.mp hl
  | d :: ds, [], hl, _ => by simp at hl
  | d :: ds, v :: vs, hl, h => ⟨v, vs, rfl, h 0 d v rfl rfl, RelL.mk (by simpa using hl) fun i d v e1 e2 => h (i + 1) d v (by simpa using e1) (by simpa using e2)⟩

def RelKV {κ : Type} (K : PySem.W.Frag) (H : Hp) (ρ : List Addr) : List (κ × D) → List (κ × V) → Prop := Paired fun p q => p.1 = q.1 ∧ Rel K H ρ p.2 q.2
theorem RelKV.mono {κ : Type} (x : Le H ρ H' ρ') {l : List (κ × D)} {m : List (κ × V)} (h : RelKV K H ρ l m) : RelKV K H' ρ' l m :=
  Paired.mapP h fun _ _ z => ⟨z.1, z.2.mono x⟩
def ORel (K : PySem.W.Frag) (H : Hp) (ρ : List Addr) (a : Addr) : O → Prop
  | .lst ds => ∃ vs, H a = some (.lst vs) ∧ RelL K H ρ ds vs
  | .dic kvs => ∃ vs, H a = some (.dK vs) ∧ RelKV K H ρ kvs vs
  | .dit kvs => ∃ vs, H a = some (.dT vs) ∧ RelKV K H ρ kvs vs
  | .ins c fs => ∃ dx vs, H a = some (.ins c dx vs) ∧ RelKV K H ρ fs vs
/-- the object at a is kept as it lies -/
theorem ORel.mono (x : Le H ρ H' ρ') {a : Addr} (e : H' a = H a) : ∀ {o : O}, ORel K H ρ a o → ORel K H' ρ' a o
  | .lst _, ⟨vs, h, r⟩ => ⟨vs, e.trans h, r.mono x⟩
  | .dic _, ⟨vs, h, r⟩ => ⟨vs, e.trans h, r.mono x⟩
  | .dit _, ⟨vs, h, r⟩ => ⟨vs, e.trans h, r.mono x⟩
  | .ins _ _, ⟨dx, vs, h, r⟩ => ⟨dx, vs, e.trans h, r.mono x⟩
theorem ORel.noTbl {a : Addr} : ∀ {o : O}, ORel K H ρ a o → ¬ GxR.TabG H a
  | .lst _, ⟨_, h, _⟩, ⟨_, z, _⟩ => by rw [h] at z; cases z
  | .dic _, ⟨_, h, _⟩, ⟨_, z, _⟩ => by rw [h] at z; cases z
  | .dit _, ⟨_, h, _⟩, ⟨_, z, _⟩ => by rw [h] at z; cases z
  | .ins _ _, ⟨_, _, h, _⟩, ⟨_, z, _⟩ => by rw [h] at z; cases z
theorem tab_upd {p P : Addr} {o : HO} (hp : ¬ GxR.TabG H p) (h : GxR.TabG H P) : GxR.TabG (upd H p o) P := by
  obtain ⟨ps, h1, h2⟩ := id h
  refine ⟨ps, ?_, h2⟩
  rw [upd_ne]
  · exact h1
  · intro z; rw [z] at h; exact hp h
theorem noTab_none {p : Addr} (h : H p = none) : ¬ GxR.TabG H p := fun ⟨_, z, _⟩ => by rw [h] at z; cases z
theorem ORel.there {a : Addr} : ∀ {o : O}, ORel K H ρ a o → ∃ u, H a = some u ∧ (∀ xs, u ≠ .tup xs) ∧ (∀ o w, u ≠ .frz o w)
  | .lst _, ⟨_, h, _⟩ => ⟨_, h, (fun _ z => nomatch z), (fun _ _ z => nomatch z)⟩
  | .dic _, ⟨_, h, _⟩ => ⟨_, h, (fun _ z => nomatch z), (fun _ _ z => nomatch z)⟩
  | .dit _, ⟨_, h, _⟩ => ⟨_, h, (fun _ z => nomatch z), (fun _ _ z => nomatch z)⟩
  | .ins _ _, ⟨_, _, h, _⟩ => ⟨_, h, (fun _ z => nomatch z), (fun _ _ z => nomatch z)⟩

variable [Tabs]
structure RelS (K : PySem.W.Frag) (H : Hp) (ρ : List Addr) (S : Store) : Prop where
  len : ρ.length = S.length
  nd : ρ.Nodup
  «at» : ∀ (i : Nat) (o : O) (a : Addr), S[i]? = some o → ρ[i]? = some a → ORel K H ρ a o
  tb : ∀ P ∈ Tabs.ts, GxR.TabG H P
theorem RelS.get {S : Store} (h : RelS K H ρ S) {i : Nat} {o : O} (e : S[i]? = some o) : ∃ a, ρ[i]? = some a ∧ ORel K H ρ a o := by
  have hi : i < ρ.length := by rw [h.len]; exact (List.getElem?_eq_some_iff.mp e).1
  exact ⟨_, List.getElem?_eq_getElem hi, h.at i o _ e (List.getElem?_eq_getElem hi)⟩
/-- a new thing that is not of the store -/
theorem RelS.new {S : Store} (h : RelS K H ρ S) {p : Addr} {o : HO} (n : H p = none) : RelS K (upd H p o) ρ S :=
  ⟨h.len, h.nd, fun i ob a e1 e2 => by
    have q := h.at i ob a e1 e2
    obtain ⟨u, hu, _⟩ := q.there
    exact q.mono (Le.new n) (upd_ne (ne_of_none hu n)), fun P hP => tab_upd (noTab_none n) (h.tb P hP)⟩
/-- a new thing of the store -/
theorem RelS.push {S : Store} (h : RelS K H ρ S) {p : Addr} {o : HO} {ob : O} (n : H p = none) (r : ORel K (upd H p o) (ρ ++ [p]) p ob) : RelS K (upd H p o) (ρ ++ [p]) (S ++ [ob]) := by
  have hnew : ∀ (i : Nat) (a : Addr), ρ[i]? = some a → ∃ o, S[i]? = some o := fun i a e => by
    have hi : i < S.length := by rw [← h.len]; exact (List.getElem?_eq_some_iff.mp e).1
    exact ⟨_, List.getElem?_eq_getElem hi⟩
  refine ⟨by simp [h.len], ?_, fun i oi a e1 e2 => ?_, fun P hP => tab_upd (noTab_none n) (h.tb P hP)⟩
  · rw [List.nodup_append]
    refine ⟨h.nd, by simp, fun a ha b hb => ?_⟩
    have hb : b = p := by simpa using hb
    obtain ⟨i, hi, e⟩ := List.mem_iff_getElem.mp ha
    have e' : ρ[i]? = some a := by rw [List.getElem?_eq_getElem hi, e]
    obtain ⟨oi, ho⟩ := hnew i a e'
    obtain ⟨u, hu, _⟩ := (h.at i oi a ho e').there
    rw [hb]
    exact ne_of_none hu n
  · by_cases hi : i < S.length
    · rw [List.getElem?_append_left hi] at e1
      rw [List.getElem?_append_left (by rw [h.len]; exact hi)] at e2
      have q := h.at i oi a e1 e2
      obtain ⟨u, hu, _⟩ := q.there
      exact q.mono (Le.push n) (upd_ne (ne_of_none hu n))
    · have hi' : i = S.length := by
        have := (List.getElem?_eq_some_iff.mp e1).1
        simp at this
        omega
      subst hi'
      rw [List.getElem?_append_right (Nat.le_refl _), Nat.sub_self] at e1
      rw [List.getElem?_append_right (by rw [h.len]; exact Nat.le_refl _), h.len, Nat.sub_self] at e2
      simp at e1 e2
      subst e1; subst e2
      exact r
/-- a thing of the store is written -/
theorem RelS.set {S : Store} (h : RelS K H ρ S) {i : Nat} {a : Addr} {ob : O} {o : HO} {u : O} (hu : S[i]? = some u) (e : ρ[i]? = some a) (r : ORel K (upd H a o) ρ a ob) : RelS K (upd H a o) ρ (S.set i ob) ∧ Le H ρ (upd H a o) ρ := by
  obtain ⟨x, hx, ht, hf⟩ := (h.at i u a hu e).there
  have le : Le H ρ (upd H a o) ρ := Le.upd (List.mem_of_getElem? e) hx ht hf
  refine ⟨⟨by rw [List.length_set]; exact h.len, h.nd, fun j oj b e1 e2 => ?_, fun P hP => tab_upd (h.at i u a hu e).noTbl (h.tb P hP)⟩, le⟩
  by_cases hj : j = i
  · subst hj
    rw [List.getElem?_set_self (List.getElem?_eq_some_iff.mp hu).1] at e1
    rw [e] at e2
    cases e1; cases e2
    exact r
  · rw [List.getElem?_set_ne (Ne.symm hj)] at e1
    have hb : b ≠ a := fun z => by
      subst z
      obtain ⟨h1, e1'⟩ := List.getElem?_eq_some_iff.mp e
      obtain ⟨h2, e2'⟩ := List.getElem?_eq_some_iff.mp e2
      exact hj ((List.getElem_inj h.nd).mp (e2'.trans e1'.symm))
    exact (h.at j oj b e1 e2).mono le (upd_ne hb)
mutual
def D.lo (n : Nat) : D → Bool
  | .ref i => decide (i < n)
  | .tup ds => D.loL n ds
  | .cl ds => D.loL n ds
  | .fz ds => D.loL n ds
  | _ => true
def D.loL (n : Nat) : List D → Bool
  | [] => true
  | d :: ds => D.lo n d && D.loL n ds
end
def O.lo (n : Nat) : O → Bool
  | .lst ds => D.loL n ds
  | .dic kvs => kvs.all fun p => p.2.lo n
  | .dit kvs => kvs.all fun p => p.2.lo n
  | .ins _ fs => fs.all fun p => p.2.lo n
mutual
theorem Rel.take (n : Nat) : ∀ {d : D} {v : V}, d.lo n = true → Rel K H ρ d v → Rel K H (ρ.take n) d v
  | .non, _, _, h => h
  | .bl _, _, _, h => h
  | .int _, _, _, h => h
  | .str _, _, _, h => h
  | .tup _, _, b, h => by
    obtain ⟨a, vs, e, s, r⟩ := h
    exact ⟨a, vs, e, s, RelL.takeP n b r⟩
  | .cl _, _, b, h => by
    obtain ⟨a, vs, e, ⟨s, m⟩, r⟩ := h
    exact ⟨a, vs, e, ⟨s, fun z => m (List.mem_of_mem_take z)⟩, RelL.takeP n b r⟩
  | .fz _, _, b, h => by
    obtain ⟨a, vs, e, s, r⟩ := h
    exact ⟨a, vs, e, s, RelL.takeP n b r⟩
  | .ref i, _, b, h => by
    obtain ⟨a, e, q⟩ := h
    refine ⟨a, e, ?_⟩
    have hi : i < n := of_decide_eq_true b
    rw [List.getElem?_take_of_lt hi]
    exact q
theorem RelL.takeP (n : Nat) : ∀ {ds : List D} {vs : List V}, D.loL n ds = true → RelL K H ρ ds vs → RelL K H (ρ.take n) ds vs
  | [], _, _, h => h
  | _ :: _, _, b, h => by
    obtain ⟨v, r, e, s, t⟩ := h
    rw [D.loL, Bool.and_eq_true] at b
    exact ⟨v, r, e, Rel.take n b.1 s, RelL.takeP n b.2 t⟩
end
theorem RelKV.take {κ : Type} (n : Nat) {l : List (κ × D)} {m : List (κ × V)} (b : (l.all fun p => p.2.lo n) = true) (h : RelKV K H ρ l m) : RelKV K H (ρ.take n) l m := by
  induction h with
  | nil => exact .nil
  | cons r t ih =>
    rw [List.all_cons, Bool.and_eq_true] at b
    exact .cons ⟨r.1, r.2.take n b.1⟩ (ih b.2)
theorem ORel.take (n : Nat) {a : Addr} : ∀ {o : O}, o.lo n = true → ORel K H ρ a o → ORel K H (ρ.take n) a o
  | .lst _, b, ⟨vs, h, r⟩ => ⟨vs, h, r.takeP n b⟩
  | .dic _, b, ⟨vs, h, r⟩ => ⟨vs, h, r.take n b⟩
  | .dit _, b, ⟨vs, h, r⟩ => ⟨vs, h, r.take n b⟩
  | .ins _ _, b, ⟨dx, vs, h, r⟩ => ⟨dx, vs, h, r.take n b⟩
/-- the things of the store behind n are forgotten: those ahead are as they were (in S, at ρ0), or speak of none behind -/
theorem RelS.take {S0 S : Store} {ρ0 : List Addr} (h : RelS K H ρ S) (hp : ρ0 <+: ρ) (hl : ρ0.length = S0.length) (hk : ∀ (i : Nat) (o : O), S0[i]? = some o → ∃ o' : O, S[i]? = some o' ∧ o'.lo S0.length = true) :
    RelS K H ρ0 (S.take S0.length) := by
  have e0 : ρ.take S0.length = ρ0 := by
    obtain ⟨t, rfl⟩ := hp
    rw [← hl, List.take_left]
  have hlen : S0.length ≤ S.length := by
    rw [← hl, ← h.len]
    exact hp.length_le
  refine ⟨by rw [List.length_take, hl]; omega, ?_, fun i o a e1 e2 => ?_, h.tb⟩
  · rw [← e0]
    exact h.nd.sublist (List.take_sublist _ _)
  · have hi : i < S0.length := by
      have := (List.getElem?_eq_some_iff.mp e2).1
      omega
    rw [List.getElem?_take_of_lt hi] at e1
    obtain ⟨o', h1, h2⟩ := hk i _ (List.getElem?_eq_getElem hi)
    rw [e1] at h1
    cases h1
    rw [← e0] at e2 ⊢
    have e2' : ρ[i]? = some a := by rwa [List.getElem?_take_of_lt hi] at e2
    exact (h.at i o a e1 e2').take _ h2

def RelE (K : PySem.W.Frag) (H : Hp) (ρ : List Addr) (env : DEnv) (σ : St) : Prop :=
  env.length = σ.length ∧ ∀ (i : Nat) (d : D), env[i]? = some (some d) → ∃ v, σ[i]? = some (some v) ∧ Rel K H ρ d v
theorem RelE.mono (x : Le H ρ H' ρ') {env : DEnv} {σ : St} (h : RelE K H ρ env σ) : RelE K H' ρ' env σ :=
  ⟨h.1, fun i d e => let ⟨v, a, b⟩ := h.2 i d e; ⟨v, a, b.mono x⟩⟩
theorem RelE.set {env : DEnv} {σ : St} (h : RelE K H ρ env σ) (i : Nat) {d : D} {v : V} (r : Rel K H ρ d v) : RelE K H ρ (env.set i (some d)) (σ.set i (some v)) := by
  refine ⟨by simp [h.1], fun j e q => ?_⟩
  by_cases hj : j = i
  · subst hj
    have hlt : j < env.length := by
      have := (List.getElem?_eq_some_iff.mp q).1
      simpa using this
    rw [List.getElem?_set_self hlt] at q
    cases q
    exact ⟨v, by rw [List.getElem?_set_self (by rw [← h.1]; exact hlt)], r⟩
  · rw [List.getElem?_set_ne (Ne.symm hj)] at q
    obtain ⟨w, a, b⟩ := h.2 j e q
    exact ⟨w, by rw [List.getElem?_set_ne (Ne.symm hj)]; exact a, b⟩
end

/-! ### judgements -/
variable [Tabs]
abbrev ME := DEnv → Store → Option (D × Store)
abbrev MA := DEnv → Store → Option (List D × Store)
abbrev MT := DEnv → Store → Option (Bool × Store)
/-- what a statement comes to -/
inductive Out where
  | nx (env : DEnv) (S : Store) | rt (d : D) (S : Store) | bk (env : DEnv) (S : Store) | ct (env : DEnv) (S : Store)
abbrev MS := DEnv → Store → Option Out

/-- how all lies together -/
structure Lie (K : PySem.W.Frag) (σ : St) (H : Hp) (ρ : List Addr) (env : DEnv) (S : Store) : Prop where
  e : RelE K H ρ env σ
  s : RelS K H ρ S
/-- what is behind lies over what was -/
structure Go (K : PySem.W.Frag) (H : Hp) (ρ : List Addr) (H' : Hp) (ρ' : List Addr) (S' : Store) : Prop where
  le : Le H ρ H' ρ'
  s : RelS K H' ρ' S'
theorem Go.trans {K : PySem.W.Frag} {H H1 H2 : Hp} {ρ ρ1 ρ2 : List Addr} {S1 S2 : Store} (a : Go K H ρ H1 ρ1 S1) (b : Go K H1 ρ1 H2 ρ2 S2) : Go K H ρ H2 ρ2 S2 := ⟨a.le.trans b.le, b.s⟩
theorem Lie.go {K : PySem.W.Frag} {σ : St} {H : Hp} {ρ : List Addr} {env : DEnv} {S : Store} (x : Lie K σ H ρ env S) : Go K H ρ H ρ S := ⟨.refl _ _, x.s⟩
theorem Lie.next {K : PySem.W.Frag} {σ : St} {H H' : Hp} {ρ ρ' : List Addr} {env : DEnv} {S S' : Store} (x : Lie K σ H ρ env S) (g : Go K H ρ H' ρ' S') : Lie K σ H' ρ' env S' := ⟨x.e.mono g.le, g.s⟩

def tM (K : PySem.W.Frag) (m : ME) : TE := fun σ H Q => ∃ ρ env S d S', Lie K σ H ρ env S ∧ m env S = some (d, S') ∧ ∀ v H' ρ', Go K H ρ H' ρ' S' → Rel K H' ρ' d v → Q v H'
def tMA (K : PySem.W.Frag) (m : MA) : TA := fun σ H Q => ∃ ρ env S ds S', Lie K σ H ρ env S ∧ m env S = some (ds, S') ∧ ∀ vs H' ρ', Go K H ρ H' ρ' S' → RelL K H' ρ' ds vs → Q vs H'
def tMT (K : PySem.W.Frag) (m : MT) : TT := fun σ H Q => ∃ ρ env S b S', Lie K σ H ρ env S ∧ m env S = some (b, S') ∧ ∀ H' ρ', Go K H ρ H' ρ' S' → Q b H'
def OutQ (K : PySem.W.Frag) (D : Ends) (H : Hp) (ρ : List Addr) : Out → Prop
  | .nx env' S' => ∀ σ' H' ρ', Go K H ρ H' ρ' S' → RelE K H' ρ' env' σ' → D.nx σ' H'
  | .rt d S' => ∀ v H' ρ', Go K H ρ H' ρ' S' → Rel K H' ρ' d v → D.rt v H'
  | .bk env' S' => ∀ σ' H' ρ', Go K H ρ H' ρ' S' → RelE K H' ρ' env' σ' → D.bk σ' H'
  | .ct env' S' => ∀ σ' H' ρ', Go K H ρ H' ρ' S' → RelE K H' ρ' env' σ' → D.ct σ' H'
def tMS (K : PySem.W.Frag) (m : MS) : TS := fun D σ H => ∃ ρ env S o, Lie K σ H ρ env S ∧ m env S = some o ∧ OutQ K D H ρ o

abbrev PM (X : Cx) (e : Expr) (m : ME) : Prop := PE X e (tM X.K m)
abbrev PMA (X : Cx) (es : List Expr) (m : MA) : Prop := PA X es (tMA X.K m)
abbrev PMT (X : Cx) (e : Expr) (m : MT) : Prop := PT X e (tMT X.K m)
abbrev PMW (X : Cx) (e : Expr) (m : MT) : Prop := PW X e (tMT X.K m)
abbrev PMS (X : Cx) (st : Stmt) (m : MS) : Prop := PS X st (tMS X.K m)
abbrev PMB (X : Cx) (st : List Stmt) (m : MS) : Prop := PSs X st (tMS X.K m)

/-- another reading of the same expression -/
theorem PEi {X : Cx} {e : Expr} {t t' : TE} (h : PE X e t) (i : ∀ σ H Q, t' σ H Q → t σ H Q) : PE X e t' := ⟨fun pins s σ H Q I q => h.run pins s σ H Q I (i σ H Q q)⟩
theorem PTi {X : Cx} {e : Expr} {t t' : TT} (h : PT X e t) (i : ∀ σ H Q, t' σ H Q → t σ H Q) : PT X e t' := ⟨fun pins s σ H Q I q => h.run pins s σ H Q I (i σ H Q q)⟩
theorem PWi {X : Cx} {e : Expr} {t t' : TT} (h : PW X e t) (i : ∀ σ H Q, t' σ H Q → t σ H Q) : PW X e t' := ⟨fun wh pins s σ H Q I q => h.run wh pins s σ H Q I (i σ H Q q)⟩
theorem PAi {X : Cx} {e : List Expr} {t t' : TA} (h : PA X e t) (i : ∀ σ H Q, t' σ H Q → t σ H Q) : PA X e t' := ⟨fun pos pins s σ H Q I q => h.run pos pins s σ H Q I (i σ H Q q)⟩
theorem PSi {X : Cx} {e : Stmt} {t t' : TS} (h : PS X e t) (i : ∀ D σ H, t' D σ H → t D σ H) : PS X e t' := ⟨fun pins s σ H D I q => h.run pins s σ H D I (i D σ H q)⟩
theorem PSsi {X : Cx} {e : List Stmt} {t t' : TS} (h : PSs X e t) (i : ∀ D σ H, t' D σ H → t D σ H) : PSs X e t' := ⟨fun pins s σ H D I q => h.run pins s σ H D I (i D σ H q)⟩

/-- the reading in a known place -/
theorem tM_at {K : PySem.W.Frag} {m : ME} {σ : St} {H : Hp} {Q : VK} {ρ : List Addr} {env : DEnv} {S : Store} {d : D} {S' : Store} (L : Lie K σ H ρ env S) (e : m env S = some (d, S'))
    (h : ∀ v H' ρ', Go K H ρ H' ρ' S' → Rel K H' ρ' d v → Q v H') : tM K m σ H Q := ⟨ρ, env, S, d, S', L, e, h⟩
theorem tMA_at {K : PySem.W.Frag} {m : MA} {σ : St} {H : Hp} {Q : List V → Hp → Prop} {ρ : List Addr} {env : DEnv} {S : Store} {d : List D} {S' : Store} (L : Lie K σ H ρ env S) (e : m env S = some (d, S'))
    (h : ∀ v H' ρ', Go K H ρ H' ρ' S' → RelL K H' ρ' d v → Q v H') : tMA K m σ H Q := ⟨ρ, env, S, d, S', L, e, h⟩
theorem tMT_at {K : PySem.W.Frag} {m : MT} {σ : St} {H : Hp} {Q : Bool → Hp → Prop} {ρ : List Addr} {env : DEnv} {S : Store} {d : Bool} {S' : Store} (L : Lie K σ H ρ env S) (e : m env S = some (d, S'))
    (h : ∀ H' ρ', Go K H ρ H' ρ' S' → Q d H') : tMT K m σ H Q := ⟨ρ, env, S, d, S', L, e, h⟩
theorem tMS_at {K : PySem.W.Frag} {m : MS} {σ : St} {H : Hp} {D : Ends} {ρ : List Addr} {env : DEnv} {S : Store} {o : Out} (L : Lie K σ H ρ env S) (e : m env S = some o)
    (h : OutQ K D H ρ o) : tMS K m D σ H := ⟨ρ, env, S, o, L, e, h⟩
theorem OutQ.go {K : PySem.W.Frag} {D : Ends} {H H' : Hp} {ρ ρ' : List Addr} {S' : Store} (g : Go K H ρ H' ρ' S') : ∀ {o : Out}, OutQ K D H ρ o → OutQ K D H' ρ' o
  | .nx _ _, q => fun σ2 H2 ρ2 g2 r => q σ2 H2 ρ2 (g.trans g2) r
  | .rt _ _, q => fun v2 H2 ρ2 g2 r => q v2 H2 ρ2 (g.trans g2) r
  | .bk _ _, q => fun σ2 H2 ρ2 g2 r => q σ2 H2 ρ2 (g.trans g2) r
  | .ct _ _, q => fun σ2 H2 ρ2 g2 r => q σ2 H2 ρ2 (g.trans g2) r
end PD

set_option Elab.async false
set_option linter.all false
set_option maxRecDepth 100000
set_option maxHeartbeats 4000000
/-! PdExpr: names, constants, operators, comparisons, truth, displays, subscripts. -/
namespace PD
open PySem PySem.Spec PyProof.Rows L2
variable [Tabs]

/-! ### scalars that lie -/
section
variable {K : PySem.W.Frag} {H : Hp} {ρ : List Addr}
theorem rel_bl (b : Bool) : Rel K H ρ (.bl b) (.bl b) := by rw [Rel]
theorem rel_int (i : Int) : Rel K H ρ (.int i) (.int i) := by rw [Rel]
theorem rel_str (x : Str) : Rel K H ρ (.str x) (.str x) := by rw [Rel]
theorem rel_non : Rel K H ρ .non .non := by rw [Rel]
theorem Rel.of_bl {b : Bool} {v : V} (h : Rel K H ρ (.bl b) v) : v = .bl b := by rwa [Rel] at h
theorem Rel.of_int {b : Int} {v : V} (h : Rel K H ρ (.int b) v) : v = .int b := by rwa [Rel] at h
theorem Rel.of_str {b : Str} {v : V} (h : Rel K H ρ (.str b) v) : v = .str b := by rwa [Rel] at h
theorem Rel.of_non {v : V} (h : Rel K H ρ .non v) : v = .non := by rwa [Rel] at h
theorem Rel.of_tup {ds : List D} {v : V} (h : Rel K H ρ (.tup ds) v) : ∃ a vs, v = .ref a ∧ SqT K H a vs ∧ RelL K H ρ ds vs := by rwa [Rel] at h
theorem Rel.of_cl {ds : List D} {v : V} (h : Rel K H ρ (.cl ds) v) : ∃ a vs, v = .ref a ∧ (H a = some (.lst vs) ∧ a ∉ ρ) ∧ RelL K H ρ ds vs := by rwa [Rel] at h
theorem Rel.of_fz {ds : List D} {v : V} (h : Rel K H ρ (.fz ds) v) : ∃ a vs, v = .ref a ∧ SqF K H a vs ∧ RelL K H ρ ds vs := by rwa [Rel] at h
theorem Rel.of_ref {i : Nat} {v : V} (h : Rel K H ρ (.ref i) v) : ∃ a, v = .ref a ∧ ρ[i]? = some a := by rwa [Rel] at h
theorem rel_tup {ds : List D} {a : Addr} {vs : List V} (h : SqT K H a vs) (r : RelL K H ρ ds vs) : Rel K H ρ (.tup ds) (.ref a) := by rw [Rel]; exact ⟨a, vs, rfl, h, r⟩
theorem rel_cl {ds : List D} {a : Addr} {vs : List V} (h : H a = some (.lst vs) ∧ a ∉ ρ) (r : RelL K H ρ ds vs) : Rel K H ρ (.cl ds) (.ref a) := by rw [Rel]; exact ⟨a, vs, rfl, h, r⟩
theorem rel_ref {i : Nat} {a : Addr} (h : ρ[i]? = some a) : Rel K H ρ (.ref i) (.ref a) := by rw [Rel]; exact ⟨a, rfl, h⟩
/-- what may be read of a list that does not change -/
theorem clSq {a : Addr} {vs : List V} (h : H a = some (.lst vs) ∧ a ∉ ρ) : SqL K H a vs := SqL.of h.1
/-- a list of the store -/
theorem RelS.lst {S : Store} (h : RelS K H ρ S) {i : Nat} {ds : List D} {v : V} (e : S[i]? = some (.lst ds)) (r : Rel K H ρ (.ref i) v) : ∃ a vs, v = .ref a ∧ ρ[i]? = some a ∧ H a = some (.lst vs) ∧ RelL K H ρ ds vs := by
  obtain ⟨a, rfl, q⟩ := r.of_ref
  obtain ⟨vs, h1, h2⟩ := h.at i _ a e q
  exact ⟨a, vs, rfl, q, h1, h2⟩
end

/-! ### names and constants -/
def mVar (i : Nat) : ME := fun env S => match env[i]? with
  | some (some d) => some (d, S)
  | _ => none
def mC (d : D) : ME := fun _ S => some (d, S)
section
variable {X : Cx} {pos : Pos}
theorem pm_var (i : Nat) {x : Str} {pos : Pos} (hN : X.N[i]? = some x := by rfl) (hv : Vis X.env.scope x := by first | exact Or.inl rfl | exact Or.inr (Or.inl rfl) | exact Or.inr (Or.inr rfl)) (hd : (x == ("__debug__" : Str)) = false := by decide)
    (hcd : (x == ("__classdict__" : Str)) = false := by decide) : PM X (.Name x pos) (mVar i) := PEi (pe_var hN hv hd hcd) fun σ H Q h => by
  obtain ⟨ρ, env, S, d, S', L, e, q⟩ := h
  unfold mVar at e
  split at e
  · rename_i d' h1
    cases e
    obtain ⟨v, h2, r⟩ := L.e.2 i _ h1
    exact ⟨v, h2, q v H ρ L.go r⟩
  · cases e
theorem PM.const {e : Expr} {v : V} {d : D} (h : PE X e (tC v)) (r : ∀ H ρ, Rel X.K H ρ d v) : PM X e (mC d) := PEi h fun σ H Q ⟨ρ, env, S, d', S', L, e, q⟩ => by
  cases e
  exact q v H ρ L.go (r H ρ)
theorem pm_int {i j pos} : PM X (.Constant (.int i) j pos) (mC (.int i)) := PM.const pe_int fun _ _ => rel_int i
theorem pm_bl {b j pos} : PM X (.Constant (.bool b) j pos) (mC (.bl b)) := PM.const pe_bl fun _ _ => rel_bl b
theorem pm_non {j pos} : PM X (.Constant .none j pos) (mC .non) := PM.const pe_non fun _ _ => rel_non
theorem pm_str {x j pos} : PM X (.Constant (.str x) j pos) (mC (.str x)) := PM.const pe_str fun _ _ => rel_str x
/-- a text or a number of the module's top -/
theorem pm_gstr {x : Str} {z : Str} {t : Tok} {pos : Pos} (hg : Gl X x) (hm : X.mg x = some (.str z t)) (hd : (x == ("__debug__" : Str)) = false := by decide) : PM X (.Name x pos) (mC (.str z)) :=
  PM.const (v := .str z) (pe_glob hg hm ⟨t, rfl⟩ hd) fun _ _ => rel_str z
theorem pm_gint {x : Str} {z : Int} {t : Tok} {pos : Pos} (hg : Gl X x) (hm : X.mg x = some (.int z t)) (hd : (x == ("__debug__" : Str)) = false := by decide) : PM X (.Name x pos) (mC (.int z)) :=
  PM.const (v := .int z) (pe_glob hg hm ⟨t, rfl⟩ hd) fun _ _ => rel_int z
end

/-! ### operators -/
abbrev F2 := D → D → Store → Option (D × Store)
abbrev F1 := D → Store → Option (D × Store)
def rD (K : PySem.W.Frag) (f : F2) : R2 := fun x y H Q => ∃ ρ S a b d S', RelS K H ρ S ∧ Rel K H ρ a x ∧ Rel K H ρ b y ∧ f a b S = some (d, S') ∧ ∀ v H' ρ', Go K H ρ H' ρ' S' → Rel K H' ρ' d v → Q v H'
def OpD (X : Cx) (f : Value → Value → Sem Value) (g : F2) : Prop := OpR X f (rD X.K g)
def rD1 (K : PySem.W.Frag) (f : F1) : V → Hp → VK → Prop := fun x H Q => ∃ ρ S a d S', RelS K H ρ S ∧ Rel K H ρ a x ∧ f a S = some (d, S') ∧ ∀ v H' ρ', Go K H ρ H' ρ' S' → Rel K H' ρ' d v → Q v H'
def m2 (f : F2) (a b : ME) : ME := fun env S => (a env S).bind fun p => (b env p.2).bind fun q => f p.1 q.1 q.2
def m1 (f : F1) (a : ME) : ME := fun env S => (a env S).bind fun p => f p.1 p.2
theorem bind_some {α β : Type} {x : Option α} {f : α → Option β} {b : β} (h : x.bind f = some b) : ∃ a, x = some a ∧ f a = some b := by
  cases x with
  | none => cases h
  | some a => exact ⟨a, rfl, h⟩
theorem map_some {α β : Type} {x : Option α} {f : α → β} {b : β} (h : x.map f = some b) : ∃ a, x = some a ∧ f a = b := by
  cases x with
  | none => cases h
  | some a => exact ⟨a, rfl, Option.some.inj h⟩
/-- two values in a row -/
theorem tM2 {K : PySem.W.Frag} {f : F2} {ma mb : ME} {r : R2} (i : ∀ x y H Q, rD K f x y H Q → r x y H Q) (σ : St) (H : Hp) (Q : VK) (h : tM K (m2 f ma mb) σ H Q) : tOp r (tM K ma) (tM K mb) σ H Q := by
  obtain ⟨ρ, env, S, d, S', L, e, q⟩ := h
  obtain ⟨⟨a, S1⟩, e1, e⟩ := bind_some e
  obtain ⟨⟨b, S2⟩, e2, e⟩ := bind_some e
  refine tM_at L e1 fun x H1 ρ1 g1 r1 => tM_at (L.next g1) e2 fun y H2 ρ2 g2 r2 => i _ _ _ _ ?_
  exact ⟨ρ2, S2, a, b, d, S', g2.s, r1.mono g2.le, r2, e, fun v H3 ρ3 g3 r3 => q v H3 ρ3 ((g1.trans g2).trans g3) r3⟩
theorem tM1 {K : PySem.W.Frag} {f : F1} {ma : ME} {r : V → Hp → VK → Prop} (i : ∀ x H Q, rD1 K f x H Q → r x H Q) (σ : St) (H : Hp) (Q : VK) (h : tM K (m1 f ma) σ H Q) : tUn r (tM K ma) σ H Q := by
  obtain ⟨ρ, env, S, d, S', L, e, q⟩ := h
  obtain ⟨⟨a, S1⟩, e1, e⟩ := bind_some e
  refine tM_at L e1 fun x H1 ρ1 g1 r1 => i _ _ _ ?_
  exact ⟨ρ1, S1, a, d, S', g1.s, r1, e, fun v H3 ρ3 g3 r3 => q v H3 ρ3 (g1.trans g3) r3⟩
theorem OpR.imp {X : Cx} {f : Value → Value → Sem Value} {r r' : R2} (h : OpR X f r) (i : ∀ x y H Q, r' x y H Q → r x y H Q) : OpR X f r' := fun pins s σ H x y v u Q I rx ry q => h pins s σ H x y v u Q I rx ry (i _ _ _ _ q)
/-- new things -/
theorem Go.tup {K : PySem.W.Frag} {H : Hp} {ρ : List Addr} {S : Store} (s : RelS K H ρ S) {p : Addr} {o : HO} (n : H p = none) : Go K H ρ (upd H p o) ρ S := ⟨Le.new n, s.new n⟩
theorem Go.refl {K : PySem.W.Frag} {H : Hp} {ρ : List Addr} {S : Store} (s : RelS K H ρ S) : Go K H ρ H ρ S := ⟨.refl _ _, s⟩
theorem newTup {K : PySem.W.Frag} {H : Hp} {ρ : List Addr} {S : Store} (s : RelS K H ρ S) {ds : List D} {vs : List V} (r : RelL K H ρ ds vs) {p : Addr} (n : H p = none) :
    Go K H ρ (upd H p (.tup vs)) ρ S ∧ Rel K (upd H p (.tup vs)) ρ (.tup ds) (.ref p) :=
  ⟨Go.tup s n, rel_tup (.inl (.inl upd_same)) (r.mono (Le.new n))⟩
theorem newLst {K : PySem.W.Frag} {H : Hp} {ρ : List Addr} {S : Store} (s : RelS K H ρ S) {ds : List D} {vs : List V} (r : RelL K H ρ ds vs) {p : Addr} (n : H p = none) :
    Go K H ρ (upd H p (.lst vs)) (ρ ++ [p]) (S ++ [.lst ds]) ∧ Rel K (upd H p (.lst vs)) (ρ ++ [p]) (.ref S.length) (.ref p) := by
  refine ⟨⟨Le.push n, s.push n ⟨vs, upd_same, r.mono (Le.push n)⟩⟩, rel_ref ?_⟩
  rw [List.getElem?_append_right (by rw [s.len]; exact Nat.le_refl _), s.len, Nat.sub_self]
  rfl

/-- both lists -/
def lstOf (d : D) (S : Store) : Option (List D) := match d with
  | .ref i => match S[i]? with
    | some (.lst ds) => some ds
    | _ => none
  | .cl ds => some ds
  | _ => none
theorem lst_ofH {K : PySem.W.Frag} {H : Hp} {ρ : List Addr} {S : Store} (s : RelS K H ρ S) {d : D} {ds : List D} {v : V} (e : lstOf d S = some ds) (r : Rel K H ρ d v) : ∃ p vs, v = .ref p ∧ H p = some (.lst vs) ∧ RelL K H ρ ds vs := by
  unfold lstOf at e
  split at e
  · split at e
    · rename_i hS
      cases e
      obtain ⟨p, vs, rfl, _, h1, r1⟩ := s.lst hS r
      exact ⟨p, vs, rfl, h1, r1⟩
    · cases e
  · cases e
    obtain ⟨p, vs, rfl, h1, r1⟩ := r.of_cl
    exact ⟨p, vs, rfl, h1.1, r1⟩
  · cases e
theorem notin_of {K : PySem.W.Frag} {H : Hp} {ρ : List Addr} {S : Store} (s : RelS K H ρ S) {p : Addr} (n : H p = none) : p ∉ ρ := fun h => by
  obtain ⟨i, hi, e⟩ := List.mem_iff_getElem.mp h
  have hS : i < S.length := by rw [← s.len]; exact hi
  obtain ⟨u, hu, _⟩ := (s.at i _ p (List.getElem?_eq_getElem hS) (by rw [List.getElem?_eq_getElem hi, e])).there
  rw [n] at hu; cases hu
def fAdd : F2 := fun a b S => match a, b with
  | .int i, .int j => some (.int (i + j), S)
  | .str x, .str y => if x.length + y.length ≤ sizeLine then some (.str (x ++ y), S) else none
  | .tup x, .tup y => if x.length + y.length ≤ sizeLine then some (.tup (x ++ y), S) else none
  | .int i, .bl k => some (.int (i + b2i k), S)
  | a, b => (lstOf a S).bind fun x => (lstOf b S).bind fun y => if x.length + y.length ≤ sizeLine then some (.ref S.length, S ++ [.lst (x ++ y)]) else none
/-- a sum of lists that nobody keeps -/
def fAddT : F2 := fun a b S => match lstOf a S, lstOf b S with
  | some x, some y => if x.length + y.length ≤ sizeLine then some (.cl (x ++ y), S) else none
  | _, _ => fAdd a b S
def fSub : F2 := fun a b S => match a, b with
  | .int i, .int j => some (.int (i - j), S)
  | _, _ => none
def smallF (i : Int) : Bool := decide (-(2 ^ 64) < i ∧ i < 2 ^ 64)
def fMul : F2 := fun a b S => match a, b with
  | .int i, .int j => if smallF i || smallF j then some (.int (i * j), S) else none
  | _, _ => none
def fDiv : F2 := fun a b S => match a, b with
  | .int i, .int j => if decide (0 < j ∧ j < 1073741824) then some (.int (i / j), S) else none
  | _, _ => none
def fMod : F2 := fun a b S => match a, b with
  | .int i, .int j => if decide (0 < j) then some (.int (i % j), S) else none
  | _, _ => none
def fPow : F2 := fun a b S => match a, b with
  | .int i, .int j => if decide (0 ≤ j ∧ j ≤ 1000000 ∧ i.natAbs < 2 ^ 64) then some (.int (i ^ j.toNat), S) else none
  | _, _ => none
section
variable {X : Cx}
theorem od_add : OpD X (binaryOp .Add) fAdd := by
  refine OpR.imp (op_add.or (op_add_str.or (op_catA.or (op_add_ib.or op_cat)))) fun x y H Q h => ?_
  obtain ⟨ρ, S, a, b, d, S', s, ra, rb, e, q⟩ := h
  unfold fAdd at e
  split at e
  · cases e; cases ra.of_int; cases rb.of_int
    exact .inl ⟨_, _, rfl, rfl, q _ _ _ (.refl s) (rel_int _)⟩
  · rename_i z w
    split at e
    · cases e; cases ra.of_str; cases rb.of_str
      exact .inr (.inl ⟨_, _, rfl, rfl, by assumption, q _ _ _ (.refl s) (rel_str _)⟩)
    · cases e
  · rename_i z w
    split at e
    · rename_i hl
      cases e
      obtain ⟨p, vs, rfl, h1, r1⟩ := ra.of_tup
      obtain ⟨p', vs', rfl, h2, r2⟩ := rb.of_tup
      have l1 := r1.length
      have l2 := r2.length
      refine .inr (.inr (.inl ⟨p, p', vs, vs', rfl, rfl, h1, h2, by omega, fun e => ?_, fun _ e => ?_, fun _ _ p n => ?_⟩))
      · subst e
        have : z = [] := List.length_eq_zero_iff.mp (by simpa using l1.symm)
        subst this
        exact q _ _ _ (.refl s) (by simpa using rb)
      · subst e
        have : w = [] := List.length_eq_zero_iff.mp (by simpa using l2.symm)
        subst this
        exact q _ _ _ (.refl s) (by simpa using ra)
      · obtain ⟨g, r⟩ := newTup s (r1.append r2) n
        exact q _ _ _ g r
    · cases e
  · cases e; cases ra.of_int; cases rb.of_bl
    exact .inr (.inr (.inr (.inl ⟨_, _, rfl, rfl, q _ _ _ (.refl s) (rel_int _)⟩)))
  · obtain ⟨z, h1, e⟩ := bind_some e
    obtain ⟨w, h2, e⟩ := bind_some e
    split at e
    · rename_i hl
      cases e
      obtain ⟨p, vs, rfl, e1, r1⟩ := lst_ofH s h1 ra
      obtain ⟨p', vs', rfl, e2, r2⟩ := lst_ofH s h2 rb
      have l1 := r1.length
      have l2 := r2.length
      refine .inr (.inr (.inr (.inr ⟨p, p', vs, vs', rfl, rfl, e1, e2, by omega, fun p n => ?_⟩)))
      obtain ⟨g, r⟩ := newLst s (r1.append r2) n
      exact q _ _ _ g r
    · cases e
theorem od_addT : OpD X (binaryOp .Add) fAddT := by
  refine OpR.imp (op_cat.or od_add) fun x y H Q h => ?_
  obtain ⟨ρ, S, a, b, d, S', s, ra, rb, e, q⟩ := h
  unfold fAddT at e
  split at e
  · rename_i h1 h2
    split at e
    · rename_i hl
      cases e
      obtain ⟨p, vs, rfl, e1, r1⟩ := lst_ofH s h1 ra
      obtain ⟨p', vs', rfl, e2, r2⟩ := lst_ofH s h2 rb
      have l1 := r1.length
      have l2 := r2.length
      refine .inl ⟨p, p', vs, vs', rfl, rfl, e1, e2, by omega, fun p n => ?_⟩
      have g2 : Go X.K H ρ (upd H p (.lst (vs ++ vs'))) ρ S := Go.tup s n
      exact q _ _ _ g2 (rel_cl ⟨upd_same, notin_of s n⟩ ((r1.append r2).mono g2.le))
    · cases e
  · exact .inr ⟨ρ, S, a, b, d, S', s, ra, rb, e, q⟩
theorem od_sub : OpD X (binaryOp .Sub) fSub := by
  refine OpR.imp op_sub fun x y H Q h => ?_
  obtain ⟨ρ, S, a, b, d, S', s, ra, rb, e, q⟩ := h
  unfold fSub at e
  split at e
  · cases e; cases ra.of_int; cases rb.of_int
    exact ⟨_, _, rfl, rfl, q _ _ _ (.refl s) (rel_int _)⟩
  · cases e
theorem od_mul : OpD X (binaryOp .Mult) fMul := by
  refine OpR.imp op_mul fun x y H Q h => ?_
  obtain ⟨ρ, S, a, b, d, S', s, ra, rb, e, q⟩ := h
  unfold fMul at e
  split at e
  · split at e
    · rename_i hc
      cases e; cases ra.of_int; cases rb.of_int
      refine ⟨_, _, rfl, rfl, ?_, q _ _ _ (.refl s) (rel_int _)⟩
      rcases Bool.or_eq_true_iff.mp hc with h | h
      · exact .inl (of_decide_eq_true h)
      · exact .inr (of_decide_eq_true h)
    · cases e
  · cases e
theorem od_div : OpD X (binaryOp .FloorDiv) fDiv := by
  refine OpR.imp op_fdiv fun x y H Q h => ?_
  obtain ⟨ρ, S, a, b, d, S', s, ra, rb, e, q⟩ := h
  unfold fDiv at e
  split at e
  · split at e
    · rename_i hc
      cases e; cases ra.of_int; cases rb.of_int
      have hc := of_decide_eq_true hc
      exact ⟨_, _, rfl, rfl, hc, q _ _ _ (.refl s) (rel_int _)⟩
    · cases e
  · cases e
theorem od_mod : OpD X (binaryOp .Mod) fMod := by
  refine OpR.imp op_mod fun x y H Q h => ?_
  obtain ⟨ρ, S, a, b, d, S', s, ra, rb, e, q⟩ := h
  unfold fMod at e
  split at e
  · split at e
    · rename_i hc
      cases e; cases ra.of_int; cases rb.of_int
      have hc := of_decide_eq_true hc
      exact ⟨_, _, rfl, rfl, hc, q _ _ _ (.refl s) (rel_int _)⟩
    · cases e
  · cases e
theorem od_pow : OpD X (binaryOp .Pow) fPow := by
  refine OpR.imp op_pow fun x y H Q h => ?_
  obtain ⟨ρ, S, a, b, d, S', s, ra, rb, e, q⟩ := h
  unfold fPow at e
  split at e
  · split at e
    · rename_i hc
      cases e; cases ra.of_int; cases rb.of_int
      have hc := of_decide_eq_true hc
      exact ⟨_, _, rfl, rfl, hc, q _ _ _ (.refl s) (rel_int _)⟩
    · cases e
  · cases e
theorem pm_op {op : Operator} {f : F2} {a b : Expr} {ma mb : ME} {pos : Pos} (ho : OpD X (binaryOp op) f) (ha : PM X a ma) (hb : PM X b mb) : PM X (.BinOp a op b pos) (m2 f ma mb) :=
  PEi (pe_op ho ha hb) fun σ H Q h => tM2 (fun _ _ _ _ q => q) σ H Q h
def fNeg : F1 := fun a S => match a with
  | .int i => some (.int (-i), S)
  | _ => none
theorem pm_neg {a : Expr} {ma : ME} {pos : Pos} (ha : PM X a ma) : PM X (.UnaryOp .USub a pos) (m1 fNeg ma) := by
  refine PEi (pe_un un_neg ha) fun σ H Q h => tM1 (fun x H Q q => ?_) σ H Q h
  obtain ⟨ρ, S, a, d, S', s, ra, e, q⟩ := q
  unfold fNeg at e
  split at e
  · cases e; cases ra.of_int
    exact ⟨_, rfl, q _ _ _ (.refl s) (rel_int _)⟩
  · cases e
end

/-! ### equality of trees -/
mutual
def eqD : D → D → Bool
  | .non, .non => true
  | .bl a, .bl b => a == b
  | .bl a, .int j => (if a then 1 else 0) == j
  | .int i, .bl b => i == (if b then 1 else 0)
  | .int i, .int j => i == j
  | .str x, .str y => x == y
  | .cl xs, .cl ys => eqDL xs ys
  | .tup xs, .tup ys => eqDL xs ys
  | _, _ => false
def eqDL : List D → List D → Bool
  | [], [] => true
  | x :: xs, y :: ys => eqD x y && eqDL xs ys
  | _, _ => false
end
mutual
/-- no reference, at most n deep, texts of signs -/
def okD : Nat → D → Bool
  | _, .non | _, .bl _ | _, .int _ => true
  | _, .str x => PyData.strOk x
  | 0, .tup _ => false
  | n + 1, .tup ds => okDL n ds
  | 0, .cl _ => false
  | n + 1, .cl ds => okDL n ds
  | _, .fz _ => false
  | _, .ref _ => false
def okDL : Nat → List D → Bool
  | _, [] => true
  | n, d :: ds => okD n d && okDL n ds
end
mutual
def pyD : D → PyData
  | .non => .none | .bl b => .bool b | .int i => .int i | .str x => .str x | .tup ds => .tuple (pyDL ds) | .cl ds => .list (pyDL ds) | .fz _ => .none | .ref _ => .none
def pyDL : List D → List PyData
  | [] => []
  | d :: ds => pyD d :: pyDL ds
end
mutual
theorem eqD_py : ∀ (n : Nat) (a b : D), okD n a = true → okD n b = true → PyData.eqv (pyD a) (pyD b) = eqD a b
  | n, .non, b, _, hb => by cases b <;> (first | (cases n <;> simp [okD] at hb; done) | simp [pyD, PyData.eqv, eqD])
  | n, .bl x, b, _, hb => by cases b <;> (first | (cases n <;> simp [okD] at hb; done) | simp [pyD, PyData.eqv, eqD])
  | n, .int x, b, _, hb => by cases b <;> (first | (cases n <;> simp [okD] at hb; done) | simp [pyD, PyData.eqv, eqD])
  | n, .str x, b, _, hb => by cases b <;> (first | (cases n <;> simp [okD] at hb; done) | simp [pyD, PyData.eqv, eqD])
  | 0, .tup x, b, ha, _ => by simp [okD] at ha
  | n + 1, .tup x, b, ha, hb => by
    cases b with
    | tup y =>
      have := eqD_pyL n x y (by simpa [okD] using ha) (by simpa [okD] using hb)
      simpa [pyD, PyData.eqv, eqD] using this
    | ref i => simp [okD] at hb
    | fz i => simp [okD] at hb
    | _ => simp [pyD, PyData.eqv, eqD]
  | 0, .cl x, b, ha, _ => by simp [okD] at ha
  | n + 1, .cl x, b, ha, hb => by
    cases b with
    | cl y =>
      have := eqD_pyL n x y (by simpa [okD] using ha) (by simpa [okD] using hb)
      simpa [pyD, PyData.eqv, eqD] using this
    | ref i => simp [okD] at hb
    | fz i => simp [okD] at hb
    | _ => simp [pyD, PyData.eqv, eqD]
  | n, .ref i, b, ha, _ => by cases n <;> simp [okD] at ha
  | n, .fz i, b, ha, _ => by cases n <;> simp [okD] at ha
theorem eqD_pyL : ∀ (n : Nat) (a b : List D), okDL n a = true → okDL n b = true → PyData.eqvAll (pyDL a) (pyDL b) = eqDL a b
  | n, [], b, _, _ => by cases b <;> simp [pyDL, PyData.eqvAll, eqDL]
  | n, x :: xs, b, ha, hb => by
    cases b with
    | nil => simp [pyDL, PyData.eqvAll, eqDL]
    | cons y ys =>
      rw [okDL, Bool.and_eq_true] at ha hb
      simp [pyDL, PyData.eqvAll, eqDL, eqD_py n x y ha.1 hb.1, eqD_pyL n xs ys ha.2 hb.2]
end
mutual
theorem okD_lay : ∀ (n : Nat) (a : D), okD n a = true → (pyD a).canLay0 = true ∧ (pyD a).depth ≤ n
  | n, .non, _ => by simp [pyD, PyData.canLay0, PyData.depth]
  | n, .bl x, _ => by simp [pyD, PyData.canLay0, PyData.depth]
  | n, .int x, _ => by simp [pyD, PyData.canLay0, PyData.depth]
  | n, .str x, h => by
    have h : PyData.strOk x = true := by cases n <;> simpa [okD] using h
    simp [pyD, PyData.canLay0, PyData.depth, h]
  | 0, .tup x, h => by simp [okD] at h
  | n + 1, .tup x, h => by
    have := okD_layL n x (by simpa [okD] using h)
    simp only [pyD, PyData.canLay0, PyData.depth]
    exact ⟨this.1, by omega⟩
  | 0, .cl x, h => by simp [okD] at h
  | n + 1, .cl x, h => by
    have := okD_layL n x (by simpa [okD] using h)
    simp only [pyD, PyData.canLay0, PyData.depth]
    exact ⟨this.1, by omega⟩
  | n, .ref i, h => by cases n <;> simp [okD] at h
  | n, .fz i, h => by cases n <;> simp [okD] at h
theorem okD_layL : ∀ (n : Nat) (a : List D), okDL n a = true → PyData.canLayAll0 (pyDL a) = true ∧ PyData.depthAll (pyDL a) ≤ n
  | n, [], _ => by simp [pyDL, PyData.canLayAll0, PyData.depthAll]
  | n, x :: xs, h => by
    rw [okDL, Bool.and_eq_true] at h
    have h1 := okD_lay n x h.1
    have h2 := okD_layL n xs h.2
    simp only [pyDL, PyData.canLayAll0, PyData.depthAll, h1.1, h2.1, Bool.and_self]
    exact ⟨trivial, by omega⟩
end
theorem okD_shaped {a : D} (h : okD 64 a = true) : SeqAt.shaped (pyD a) = true := by
  obtain ⟨h1, h2⟩ := okD_lay 64 a h
  show ((pyD a).canLay0 && decide ((pyD a).depth ≤ 64)) = true
  rw [h1, decide_eq_true h2]; rfl
section
variable {K : PySem.W.Frag} {H : Hp} {ρ : List Addr}
mutual
theorem dp_of : ∀ (n : Nat) (d : D) (v : V), okD n d = true → Rel K H ρ d v → Dp K H v (pyD d)
  | _, .non, v, _, r => by cases r.of_non; simp only [pyD]; exact .non
  | _, .bl x, v, _, r => by cases r.of_bl; simp only [pyD]; exact .bl _
  | _, .int x, v, _, r => by cases r.of_int; simp only [pyD]; exact .int _
  | _, .str x, v, _, r => by cases r.of_str; simp only [pyD]; exact .str _
  | 0, .tup x, v, h, _ => by simp [okD] at h
  | n + 1, .tup x, v, h, r => by
    obtain ⟨a, vs, rfl, h1, h2⟩ := r.of_tup
    simp only [pyD]
    exact .tup h1 (dp_ofL n x vs (by simpa [okD] using h) h2)
  | 0, .cl x, v, h, _ => by simp [okD] at h
  | n + 1, .cl x, v, h, r => by
    obtain ⟨a, vs, rfl, h1, h2⟩ := r.of_cl
    simp only [pyD]
    exact .lst (clSq h1) (dp_ofL n x vs (by simpa [okD] using h) h2)
  | n, .ref i, v, h, _ => by cases n <;> simp [okD] at h
  | n, .fz i, v, h, _ => by cases n <;> simp [okD] at h
theorem dp_ofL : ∀ (n : Nat) (d : List D) (v : List V), okDL n d = true → RelL K H ρ d v → DpAll K H v (pyDL d)
  | _, [], v, _, r => by cases r; simp only [pyDL]; exact .nil
  | n, x :: xs, v, h, r => by
    obtain ⟨v, vs, rfl, r1, r2⟩ := r
    rw [okDL, Bool.and_eq_true] at h
    simp only [pyDL]
    exact .cons (dp_of n x v h.1 r1) (dp_ofL n xs vs h.2 r2)
end
end

/-! ### comparisons -/
abbrev C2 := D → D → Store → Option Bool
def rC (K : PySem.W.Frag) (f : C2) : R2 := fun x y H Q => ∃ ρ S a b k, RelS K H ρ S ∧ Rel K H ρ a x ∧ Rel K H ρ b y ∧ f a b S = some k ∧ Q (.bl k) H
def CmD (X : Cx) (op : CmpOp) (f : C2) : Prop := OpR X (compareOp op) (rC X.K f)
def mCmp (f : C2) (a b : ME) : MT := fun env S => (a env S).bind fun p => (b env p.2).bind fun q => (f p.1 q.1 q.2).map fun k => (k, q.2)
def mBl (t : MT) : ME := fun env S => (t env S).map fun p => (.bl p.1, p.2)
/-- the values of lists as they are -/
def norm (d : D) (S : Store) : Option D := match d with
  | .ref i => match S[i]? with
    | some (.lst ds) => some (.cl ds)
    | _ => none
  | d => some d
/-- scalars -/
def scalD : D → D → Bool
  | .non, .non => true | .non, .int _ => true | .int _, .non => true | .non, .bl _ => true | .bl _, .non => true | .non, .str _ => true | .str _, .non => true
  | .int _, .int _ => true | .bl _, .bl _ => true | .str _, .str _ => true
  | .int _, .str _ => true | .str _, .int _ => true | .bl _, .str _ => true | .str _, .bl _ => true
  | _, _ => false
def cEq : C2 := fun a b S => if scalD a b then some (eqD a b) else (norm a S).bind fun x => (norm b S).bind fun y => if okD 64 x && okD 64 y then some (eqD x y) else none
def cNe : C2 := fun a b S => (cEq a b S).map (!·)
theorem dp_norm {K : PySem.W.Frag} {H : Hp} {ρ : List Addr} {S : Store} (s : RelS K H ρ S) {a x : D} {v : V} (e : norm a S = some x) (h : okD 64 x = true) (r : Rel K H ρ a v) : Dp K H v (pyD x) := by
  unfold norm at e
  split at e
  · split at e
    · rename_i ds hS
      cases e
      obtain ⟨p, vs, rfl, _, h1, h2⟩ := s.lst hS r
      simp only [pyD]
      exact .lst (SqL.of h1) (dp_ofL 63 ds vs (by simpa [okD] using h) h2)
    · cases e
  · cases e
    exact dp_of 64 _ v h r
theorem cEq_cases {K : PySem.W.Frag} {H : Hp} {ρ : List Addr} {S : Store} (s : RelS K H ρ S) {a b : D} {x y : V} {k : Bool} (ra : Rel K H ρ a x) (rb : Rel K H ρ b y) (e : cEq a b S = some k) :
    (scal x y = true ∧ k = decide (x = y)) ∨ ∃ d e, Dp K H x d ∧ Dp K H y e ∧ SeqAt.shaped d = true ∧ SeqAt.shaped e = true ∧ k = PyData.eqv d e := by
  unfold cEq at e
  split at e
  · rename_i hs
    cases e
    left
    cases a <;> cases b <;> (first | (simp [scalD] at hs; done) | skip) <;>
      (first | cases ra.of_non | cases ra.of_int | cases ra.of_bl | cases ra.of_str) <;>
      (first | cases rb.of_non | cases rb.of_int | cases rb.of_bl | cases rb.of_str) <;>
      (refine ⟨rfl, ?_⟩) <;> (simp [eqD]; try rw [Bool.beq_eq_decide_eq])
  · obtain ⟨x', e1, e⟩ := bind_some e
    obtain ⟨y', e2, e⟩ := bind_some e
    split at e
    · rename_i h
      cases e
      rw [Bool.and_eq_true] at h
      exact .inr ⟨pyD x', pyD y', dp_norm s e1 h.1 ra, dp_norm s e2 h.2 rb, okD_shaped h.1, okD_shaped h.2, (eqD_py 64 _ _ h.1 h.2).symm⟩
    · cases e
section
variable {X : Cx}
theorem cd_eq (hu : X.A.units + 64 < cLine) : CmD X .Eq cEq := by
  refine OpR.imp (op_eq.or (op_eqD hu)) fun x y H Q h => ?_
  obtain ⟨ρ, S, a, b, k, s, ra, rb, e, q⟩ := h
  rcases cEq_cases s ra rb e with ⟨h, rfl⟩ | ⟨d, d', h1, h2, h3, h4, rfl⟩
  · exact .inl ⟨h, q⟩
  · exact .inr ⟨d, d', h1, h2, h3, h4, q⟩
theorem cd_ne (hu : X.A.units + 64 < cLine) : CmD X .NotEq cNe := by
  refine OpR.imp (op_ne.or (op_neD hu)) fun x y H Q h => ?_
  obtain ⟨ρ, S, a, b, k, s, ra, rb, e, q⟩ := h
  obtain ⟨k', e1, rfl⟩ := map_some e
  rcases cEq_cases s ra rb e1 with ⟨h, rfl⟩ | ⟨d, d', h1, h2, h3, h4, rfl⟩
  · exact .inl ⟨h, q⟩
  · exact .inr ⟨d, d', h1, h2, h3, h4, q⟩
def cInt (p : Int → Int → Bool) (z : Str → Str → Bool) : C2 := fun a b _ => match a, b with
  | .int i, .int j => some (p i j)
  | .str x, .str y => some (z x y)
  | _, _ => none
abbrev cLt : C2 := cInt (fun i j => decide (i < j)) fun x y => decide (x.cps.toList < y.cps.toList)
abbrev cLe : C2 := cInt (fun i j => decide (i ≤ j)) fun x y => !decide (y.cps.toList < x.cps.toList)
abbrev cGt : C2 := cInt (fun i j => decide (j < i)) fun x y => decide (y.cps.toList < x.cps.toList)
abbrev cGe : C2 := cInt (fun i j => decide (j ≤ i)) fun x y => !decide (x.cps.toList < y.cps.toList)
theorem cd_int {op : CmpOp} {p : Int → Int → Bool} {z : Str → Str → Bool} (h1 : OpR X (compareOp op) (rI0 fun i j => .bl (p i j)))
    (h2 : OpR X (compareOp op) (fun x y H Q => ∃ i j, x = .str i ∧ y = .str j ∧ Q (.bl (z i j)) H)) : CmD X op (cInt p z) := by
  refine OpR.imp (h1.or h2) fun x y H Q h => ?_
  obtain ⟨ρ, S, a, b, k, s, ra, rb, e, q⟩ := h
  unfold cInt at e
  split at e
  · cases e; cases ra.of_int; cases rb.of_int
    exact .inl ⟨_, _, rfl, rfl, q⟩
  · cases e; cases ra.of_str; cases rb.of_str
    exact .inr ⟨_, _, rfl, rfl, q⟩
  · cases e
theorem cd_lt : CmD X .Lt cLt := cd_int op_lt op_lt_str
theorem cd_le : CmD X .LtE cLe := cd_int op_le op_le_str
theorem cd_gt : CmD X .Gt cGt := cd_int op_gt op_gt_str
theorem cd_ge : CmD X .GtE cGe := cd_int op_ge op_ge_str
/-- is, of None and of truth values -/
def cIs : C2 := fun a b _ => match a, b with
  | a, .non => some (decide (a = .non))
  | .bl a, .bl b => some (decide (a = b))
  | _, _ => none
def cIsNot : C2 := fun a b S => (cIs a b S).map (!·)
theorem Rel.non_iff {K : PySem.W.Frag} {H : Hp} {ρ : List Addr} {d : D} {v : V} (r : Rel K H ρ d v) : (v = .non) ↔ (d = .non) := by
  cases d with
  | non => cases r.of_non; simp
  | bl _ => cases r.of_bl; simp
  | int _ => cases r.of_int; simp
  | str _ => cases r.of_str; simp
  | tup _ => obtain ⟨_, _, rfl, _⟩ := r.of_tup; simp
  | cl _ => obtain ⟨_, _, rfl, _⟩ := r.of_cl; simp
  | fz _ => obtain ⟨_, _, rfl, _⟩ := r.of_fz; simp
  | ref _ => obtain ⟨_, rfl, _⟩ := r.of_ref; simp
theorem cd_is : CmD X .Is cIs := by
  refine OpR.imp (op_isN.or op_is_bl) fun x y H Q h => ?_
  obtain ⟨ρ, S, a, b, k, s, ra, rb, e, q⟩ := h
  unfold cIs at e
  split at e
  · cases e; cases rb.of_non
    refine .inl ⟨rfl, ?_⟩
    rw [show decide (x = .non) = decide (a = .non) from decide_eq_decide.mpr ra.non_iff]
    exact q
  · cases e; cases ra.of_bl; cases rb.of_bl
    exact .inr ⟨_, _, rfl, rfl, q⟩
  · cases e
theorem cd_isnot : CmD X .IsNot cIsNot := by
  refine OpR.imp (op_notN.or op_isnot_bl) fun x y H Q h => ?_
  obtain ⟨ρ, S, a, b, k, s, ra, rb, e, q⟩ := h
  obtain ⟨k', e1, rfl⟩ := map_some e
  clear e
  unfold cIs at e1
  split at e1
  · cases e1; cases rb.of_non
    refine .inl ⟨rfl, ?_⟩
    rw [show decide (x = .non) = decide (a = .non) from decide_eq_decide.mpr ra.non_iff]
    exact q
  · cases e1; cases ra.of_bl; cases rb.of_bl
    exact .inr ⟨_, _, rfl, rfl, q⟩
  · cases e1
/-- in: a text within a text; something among flat items -/
def flatD : D → Bool
  | .non => true | .bl _ => true | .int _ => true | .str _ => true | _ => false
def cIn : C2 := fun a b S => match b with
  | .str y => match a with
    | .str x => some (!(Builtin.Str.occurrences y x 0 y.length 1).isEmpty)
    | _ => none
  | .tup ds => if flatD a && ds.all flatD then some (ds.any fun z => eqD z a) else none
  | .cl ds => if okD 63 a && okDL 63 ds then some (ds.any fun z => eqD z a) else none
  | .ref i => match S[i]? with
    | some (.lst ds) => if okD 63 a && okDL 63 ds then some (ds.any fun z => eqD z a) else none
    | _ => none
  | _ => none
def cNotIn : C2 := fun a b S => (cIn a b S).map (!·)
theorem flat_rel {K : PySem.W.Frag} {H : Hp} {ρ : List Addr} {d : D} {v : V} (f : flatD d = true) (r : Rel K H ρ d v) : flatV v = true := by
  cases d <;> (first | (simp [flatD] at f; done) | skip) <;> (first | cases r.of_non | cases r.of_int | cases r.of_bl | cases r.of_str) <;> rfl
theorem eqV_rel {K : PySem.W.Frag} {H : Hp} {ρ : List Addr} {d e : D} {v w : V} (f : flatD d = true) (g : flatD e = true) (r : Rel K H ρ d v) (q : Rel K H ρ e w) : eqV v w = eqD d e := by
  cases d <;> (first | (simp [flatD] at f; done) | skip) <;> cases e <;> (first | (simp [flatD] at g; done) | skip) <;>
    (first | cases r.of_non | cases r.of_int | cases r.of_bl | cases r.of_str) <;> (first | cases q.of_non | cases q.of_int | cases q.of_bl | cases q.of_str) <;> simp [eqV, eqD]
theorem flat_all {K : PySem.W.Frag} {H : Hp} {ρ : List Addr} {a : D} {x : V} (fa : flatD a = true) (ra : Rel K H ρ a x) : ∀ {ds : List D} {vs : List V}, ds.all flatD = true → RelL K H ρ ds vs → vs.all flatV = true ∧ inV x vs = ds.any fun z => eqD z a
  | [], _, _, r => by cases r; exact ⟨rfl, rfl⟩
  | d :: ds, _, f, r => by
    obtain ⟨v, vs, rfl, r1, r2⟩ := r
    rw [List.all_cons, Bool.and_eq_true] at f
    obtain ⟨h1, h2⟩ := flat_all fa ra f.2 r2
    refine ⟨by rw [List.all_cons, flat_rel f.1 r1, h1]; rfl, ?_⟩
    unfold inV at h2 ⊢
    rw [List.any_cons, List.any_cons, h2, eqV_rel f.1 fa r1 ra]
theorem any_py (n : Nat) {a : D} (ha : okD n a = true) : ∀ {ds : List D}, okDL n ds = true → ((pyDL ds).any fun z => PyData.eqv z (pyD a)) = ds.any fun z => eqD z a
  | [], _ => by simp [pyDL]
  | d :: ds, h => by
    rw [okDL, Bool.and_eq_true] at h
    simp [pyDL, any_py n ha h.2, eqD_py n d a h.1 ha]
theorem okD_mono : ∀ (n : Nat) (d : D), okD n d = true → okD (n + 1) d = true := by
  have key : ∀ n, (∀ d, okD n d = true → okD (n + 1) d = true) → ∀ ds, okDL n ds = true → okDL (n + 1) ds = true := by
    intro n h ds
    induction ds with
    | nil => intro _; rfl
    | cons d ds ih =>
      intro q
      rw [okDL, Bool.and_eq_true] at q ⊢
      exact ⟨h d q.1, ih q.2⟩
  intro n
  induction n with
  | zero => intro d h; cases d <;> simp_all [okD]
  | succ n ih =>
    intro d h
    cases d with
    | tup ds => rw [okD] at h ⊢; exact key n ih ds h
    | cl ds => rw [okD] at h ⊢; exact key n ih ds h
    | _ => simp_all [okD]
theorem okD_up {m n : Nat} (h : m ≤ n) {d : D} (q : okD m d = true) : okD n d = true := by
  induction h with
  | refl => exact q
  | step _ ih => exact okD_mono _ d ih
theorem cIn_cases {K : PySem.W.Frag} {H : Hp} {ρ : List Addr} {S : Store} (s : RelS K H ρ S) {a b : D} {x y : V} {k : Bool} (ra : Rel K H ρ a x) (rb : Rel K H ρ b y) (e : cIn a b S = some k) :
    (∃ i j, x = .str i ∧ y = .str j ∧ k = !(Builtin.Str.occurrences j i 0 j.length 1).isEmpty) ∨
    (∃ p xs, y = .ref p ∧ (SqL K H p xs ∨ SqT K H p xs) ∧ flatV x = true ∧ xs.all flatV = true ∧ k = inV x xs) ∨
    ∃ d ds, Dp K H x d ∧ Dp K H y (.list ds) ∧ SeqAt.shaped d = true ∧ SeqAt.shaped (.list ds) = true ∧ k = ds.any fun z => PyData.eqv z d := by
  unfold cIn at e
  split at e
  · split at e
    · cases e; cases ra.of_str; cases rb.of_str
      exact .inl ⟨_, _, rfl, rfl, rfl⟩
    · cases e
  · split at e
    · rename_i h
      cases e
      rw [Bool.and_eq_true] at h
      obtain ⟨p, vs, rfl, h1, r1⟩ := rb.of_tup
      obtain ⟨h3, h4⟩ := flat_all h.1 ra h.2 r1
      exact .inr (.inl ⟨p, vs, rfl, .inr h1, flat_rel h.1 ra, h3, h4.symm⟩)
    · cases e
  · rename_i ds
    split at e
    · rename_i h
      cases e
      rw [Bool.and_eq_true] at h
      have h2 : okD 64 (.cl ds) = true := by rw [okD]; exact h.2
      refine .inr (.inr ⟨pyD a, pyDL ds, dp_of 63 a x h.1 ra, ?_, okD_shaped (okD_mono _ _ h.1), ?_, (any_py 63 h.1 h.2).symm⟩)
      · have := dp_of 64 _ y h2 rb
        rwa [pyD] at this
      · have := okD_shaped h2
        rwa [pyD] at this
    · cases e
  · split at e
    · rename_i ds hS
      split at e
      · rename_i h
        cases e
        rw [Bool.and_eq_true] at h
        have h2 : okD 64 (.cl ds) = true := by rw [okD]; exact h.2
        obtain ⟨p, vs, rfl, _, h1, r1⟩ := s.lst hS rb
        refine .inr (.inr ⟨pyD a, pyDL ds, dp_of 63 a x h.1 ra, .lst (SqL.of h1) (dp_ofL 63 ds vs h.2 r1), okD_shaped (okD_mono _ _ h.1), ?_, (any_py 63 h.1 h.2).symm⟩)
        have := okD_shaped h2
        rwa [pyD] at this
      · cases e
    · cases e
  · cases e
theorem cd_in (hu : X.A.units + 65 < cLine) : CmD X .In cIn := by
  refine OpR.imp (op_in_str.or (op_in_seq.or (op_inD hu))) fun x y H Q h => ?_
  obtain ⟨ρ, S, a, b, k, s, ra, rb, e, q⟩ := h
  rcases cIn_cases s ra rb e with ⟨i, j, h1, h2, rfl⟩ | ⟨p, xs, h1, h2, h3, h4, rfl⟩ | ⟨d, ds, h1, h2, h3, h4, rfl⟩
  · exact .inl ⟨i, j, h1, h2, q⟩
  · exact .inr (.inl ⟨p, xs, h1, h2, h3, h4, q⟩)
  · exact .inr (.inr ⟨d, ds, h1, h2, h3, h4, q⟩)
theorem cd_notin (hu : X.A.units + 65 < cLine) : CmD X .NotIn cNotIn := by
  refine OpR.imp (op_notin_str.or (op_notIn_seq.or (op_notInD hu))) fun x y H Q h => ?_
  obtain ⟨ρ, S, a, b, k, s, ra, rb, e, q⟩ := h
  obtain ⟨k', e1, rfl⟩ := map_some e
  rcases cIn_cases s ra rb e1 with ⟨i, j, h1, h2, rfl⟩ | ⟨p, xs, h1, h2, h3, h4, rfl⟩ | ⟨d, ds, h1, h2, h3, h4, rfl⟩
  · exact .inl ⟨i, j, h1, h2, q⟩
  · exact .inr (.inl ⟨p, xs, h1, h2, h3, h4, q⟩)
  · exact .inr (.inr ⟨d, ds, h1, h2, h3, h4, q⟩)
variable {a b : Expr} {ma mb : ME} {pos : Pos}
theorem tCmp {K : PySem.W.Frag} {f : C2} {σ : St} {H : Hp} {Q : VK} {ρ : List Addr} {env : DEnv} {S : Store} {k : Bool} {S' : Store} (L : Lie K σ H ρ env S) (e : mCmp f ma mb env S = some (k, S'))
    (q : ∀ H' ρ', Go K H ρ H' ρ' S' → Q (.bl k) H') : tOp (rC K f) (tM K ma) (tM K mb) σ H Q := by
  obtain ⟨⟨x, S1⟩, e1, e⟩ := bind_some e
  obtain ⟨⟨y, S2⟩, e2, e⟩ := bind_some e
  obtain ⟨k', e3, e⟩ := map_some e
  cases e
  refine tM_at L e1 fun x H1 ρ1 g1 r1 => tM_at (L.next g1) e2 fun y H2 ρ2 g2 r2 => ?_
  exact ⟨ρ2, S2, _, _, _, g2.s, r1.mono g2.le, r2, e3, q _ _ (g1.trans g2)⟩
/-- a comparison as a value; hm: by nomark _, or for in, not in by rfl -/
theorem pm_cmp {op : CmpOp} {f : C2} (ho : CmD X op f) (ha : PM X a ma) (hb : PM X b mb) (hm : behindInMarks op b = false) : PM X (.Compare a [op] [b] pos) (mBl (mCmp f ma mb)) :=
  PEi (pe_cmpR ho ha hb hm) fun σ H Q ⟨ρ, env, S, d, S', L, e, q⟩ => by
    obtain ⟨⟨k, S1⟩, e1, e⟩ := map_some e
    cases e
    exact tCmp L e1 fun H' ρ' g => q _ _ _ g (rel_bl _)
theorem pt_mcmp {op : CmpOp} {f : C2} (ho : CmD X op f) (ha : PM X a ma) (hb : PM X b mb) (hm : behindInMarks op b = false) : PMT X (.Compare a [op] [b] pos) (mCmp f ma mb) :=
  PTi (pt_cmpR ho ha hb hm) fun σ H Q ⟨ρ, env, S, k, S', L, e, q⟩ => tCmp (Q := fun x H' => ∃ k, x = .bl k ∧ Q k H') L e fun H' ρ' g => ⟨k, rfl, q _ _ g⟩
end

/-! ### truth, and, or, not -/
def truD (d : D) (S : Store) : Option Bool := match d with
  | .non => some false
  | .bl b => some b
  | .int i => some (i != 0)
  | .str x => if x.length ≤ sizeLine then some ((x.length : Int) != 0) else none
  | .tup ds => some (!ds.isEmpty)
  | .cl ds => some (!ds.isEmpty)
  | .fz _ => none
  | .ref i => match S[i]? with
    | some (.lst ds) => some (!ds.isEmpty)
    | some (.dic kvs) => some (!kvs.isEmpty)
    | _ => none
theorem RelL.empty {K : PySem.W.Frag} {H : Hp} {ρ : List Addr} {ds : List D} {vs : List V} (r : RelL K H ρ ds vs) : (!ds.isEmpty) = !vs.isEmpty := by
  cases ds with
  | nil => cases r; rfl
  | cons _ _ => obtain ⟨_, _, rfl, _⟩ := r; rfl
theorem tru_rel {K : PySem.W.Frag} {H : Hp} {ρ : List Addr} {S : Store} (s : RelS K H ρ S) {d : D} {v : V} {k : Bool} (r : Rel K H ρ d v) (e : truD d S = some k) : TruV K v H k := by
  unfold truD at e
  split at e
  · cases e; cases r.of_non; rfl
  · cases e; cases r.of_bl; rfl
  · cases e; cases r.of_int; rfl
  · split at e
    · cases e; cases r.of_str; exact ⟨by assumption, rfl⟩
    · cases e
  · cases e
    obtain ⟨p, vs, rfl, h1, r1⟩ := r.of_tup
    exact .inr (.inl ⟨vs, h1, r1.empty⟩)
  · cases e
    obtain ⟨p, vs, rfl, h1, r1⟩ := r.of_cl
    exact .inl ⟨vs, clSq h1, r1.empty⟩
  · cases e
  · split at e
    · rename_i hS
      cases e
      obtain ⟨p, vs, rfl, _, h1, r1⟩ := s.lst hS r
      exact .inl ⟨vs, SqL.of h1, r1.empty⟩
    · rename_i kvs hS
      cases e
      obtain ⟨p, rfl, q⟩ := r.of_ref
      obtain ⟨vs, h1, h2⟩ := s.at _ _ p hS q
      refine .inr (.inr ⟨vs, h1, ?_⟩)
      cases h2 <;> rfl
    · cases e
def mTru (a : ME) : MT := fun env S => (a env S).bind fun p => (truD p.1 p.2).map fun k => (k, p.2)
def mAnd (t u : MT) : MT := fun env S => (t env S).bind fun p => if p.1 then u env p.2 else some (false, p.2)
def mOr (t u : MT) : MT := fun env S => (t env S).bind fun p => if p.1 then some (true, p.2) else u env p.2
def mNot (t : MT) : MT := fun env S => (t env S).map fun p => (!p.1, p.2)
def mIf (t : MT) (a b : ME) : ME := fun env S => (t env S).bind fun p => if p.1 then a env p.2 else b env p.2
/-- x and y, x or y as values -/
def mAndV (a b : ME) : ME := fun env S => (a env S).bind fun p => (truD p.1 p.2).bind fun k => if k then b env p.2 else some p
def mOrV (a b : ME) : ME := fun env S => (a env S).bind fun p => (truD p.1 p.2).bind fun k => if k then some p else b env p.2
section
variable {X : Cx} {a b : Expr} {rest : List Expr} {ma mb : ME} {ta tb : MT} {pos : Pos}
theorem pt_tru (ha : PM X a ma) (he : ∀ whole, isTrue a X.env whole = (do let v ← whole; standAt a.pos; holding [v] (truthy v))) : PMT X a (mTru ma) :=
  PTi (pt_truth ha he) fun σ H Q ⟨ρ, env, S, k, S', L, e, q⟩ => by
    obtain ⟨⟨x, S1⟩, e1, e⟩ := bind_some e
    obtain ⟨k', e2, e⟩ := map_some e
    cases e
    exact tM_at L e1 fun v H1 ρ1 g1 r1 => ⟨_, tru_rel g1.s r1 e2, q _ _ g1⟩
theorem pw_mand1 (ha : PMT X a ta) : PMW X (.BoolOp .And [a] pos) ta := pw_and1 ha
theorem pw_mor1 (ha : PMT X a ta) : PMW X (.BoolOp .Or [a] pos) ta := pw_or1 ha
theorem pw_mand (ha : PMT X a ta) (hb : PMW X (.BoolOp .And (b :: rest) pos) tb) : PMW X (.BoolOp .And (a :: b :: rest) pos) (mAnd ta tb) :=
  PWi (pw_and ha hb) fun σ H Q ⟨ρ, env, S, k, S', L, e, q⟩ => by
    obtain ⟨⟨x, S1⟩, e1, e⟩ := bind_some e
    refine tMT_at L e1 fun H1 ρ1 g1 => ?_
    cases x with
    | true => exact iteT (tMT_at (L.next g1) e fun H2 ρ2 g2 => q _ _ (g1.trans g2))
    | false => cases e; exact iteF (q _ _ g1)
theorem pw_mor (ha : PMT X a ta) (hb : PMW X (.BoolOp .Or (b :: rest) pos) tb) : PMW X (.BoolOp .Or (a :: b :: rest) pos) (mOr ta tb) :=
  PWi (pw_or ha hb) fun σ H Q ⟨ρ, env, S, k, S', L, e, q⟩ => by
    obtain ⟨⟨x, S1⟩, e1, e⟩ := bind_some e
    refine tMT_at L e1 fun H1 ρ1 g1 => ?_
    cases x with
    | true => cases e; exact iteT (q _ _ g1)
    | false => exact iteF (tMT_at (L.next g1) e fun H2 ρ2 g2 => q _ _ (g1.trans g2))
theorem pt_mnot (ha : PMT X a ta) : PMT X (.UnaryOp .Not a pos) (mNot ta) :=
  PTi (pt_not ha) fun σ H Q ⟨ρ, env, S, k, S', L, e, q⟩ => by
    obtain ⟨⟨x, S1⟩, e1, e⟩ := map_some e
    cases e
    exact tMT_at L e1 fun H1 ρ1 g1 => q _ _ g1
theorem pt_w {e : Expr} {t : MT} (h : PMW X e t) : PMT X e t := h.pt
theorem pm_if {c : Expr} {tc : MT} (hc : PMT X c tc) (ha : PM X a ma) (hb : PM X b mb) : PM X (.IfExp c a b pos) (mIf tc ma mb) :=
  PEi (pe_ifExp hc ha hb) fun σ H Q ⟨ρ, env, S, k, S', L, e, q⟩ => by
    obtain ⟨⟨x, S1⟩, e1, e⟩ := bind_some e
    refine tMT_at L e1 fun H1 ρ1 g1 => ?_
    cases x with
    | true => exact iteT (tM_at (L.next g1) e fun v H2 ρ2 g2 r => q _ _ _ (g1.trans g2) r)
    | false => exact iteF (tM_at (L.next g1) e fun v H2 ρ2 g2 r => q _ _ _ (g1.trans g2) r)
theorem pm_one {op} (h : PM X a ma) : PM X (.BoolOp op [a] pos) ma := pe_one h
theorem pm_and (ha : PM X a ma) (hb : PM X (.BoolOp .And (b :: rest) pos) mb) : PM X (.BoolOp .And (a :: b :: rest) pos) (mAndV ma mb) :=
  PEi (pe_andT ha hb) fun σ H Q ⟨ρ, env, S, k, S', L, e, q⟩ => by
    obtain ⟨⟨x, S1⟩, e1, e⟩ := bind_some e
    obtain ⟨c, e2, e⟩ := bind_some e
    refine tM_at L e1 fun v H1 ρ1 g1 r1 => ⟨c, tru_rel g1.s r1 e2, ?_⟩
    cases c with
    | true => exact iteT (tM_at (L.next g1) e fun v H2 ρ2 g2 r => q _ _ _ (g1.trans g2) r)
    | false => cases e; exact iteF (q _ _ _ g1 r1)
theorem pm_or (ha : PM X a ma) (hb : PM X (.BoolOp .Or (b :: rest) pos) mb) : PM X (.BoolOp .Or (a :: b :: rest) pos) (mOrV ma mb) :=
  PEi (pe_orT ha hb) fun σ H Q ⟨ρ, env, S, k, S', L, e, q⟩ => by
    obtain ⟨⟨x, S1⟩, e1, e⟩ := bind_some e
    obtain ⟨c, e2, e⟩ := bind_some e
    refine tM_at L e1 fun v H1 ρ1 g1 r1 => ⟨c, tru_rel g1.s r1 e2, ?_⟩
    cases c with
    | true => cases e; exact iteT (q _ _ _ g1 r1)
    | false => exact iteF (tM_at (L.next g1) e fun v H2 ρ2 g2 r => q _ _ _ (g1.trans g2) r)
end
end PD

set_option Elab.async false
set_option linter.all false
set_option maxRecDepth 100000
set_option maxHeartbeats 4000000
/-! PdSeq: argument lists, displays, subscripts, slices, built-ins by name, methods of lists. -/
namespace PD
open PySem PySem.Spec PyProof.Rows L2
variable [Tabs]

/-! ### argument lists, displays -/
def mNil : MA := fun _ S => some ([], S)
def mCons (a : ME) (r : MA) : MA := fun env S => (a env S).bind fun p => (r env p.2).map fun q => (p.1 :: q.1, q.2)
def okLen (n : Nat) : Bool := decide (n ≤ sizeLine)
def mTup (a : MA) : ME := fun env S => (a env S).bind fun p => if okLen p.1.length then some (.tup p.1, p.2) else none
/-- a new list that nobody keeps; one that is kept -/
def mTmp (a : MA) : ME := fun env S => (a env S).map fun p => (.cl p.1, p.2)
def mNew (a : MA) : ME := fun env S => (a env S).map fun p => (.ref p.2.length, p.2 ++ [.lst p.1])
def mLst (a : MA) : MA := fun env S => (a env S).bind fun p => if okLen p.1.length then some p else none
def tMN (K : PySem.W.Frag) (m : MA) : TE := fun σ H Q => ∃ ρ env S ds S', Lie K σ H ρ env S ∧ m env S = some (ds, S') ∧ ∀ vs H1 ρ1, Go K H ρ H1 ρ1 S' → RelL K H1 ρ1 ds vs → ∀ p, H1 p = none → Q (.ref p) (upd H1 p (.lst vs))
/-- an expression that makes a new list -/
abbrev PMN (X : Cx) (e : Expr) (m : MA) : Prop := PE X e (tMN X.K m)
section
variable {X : Cx} {e : Expr} {es : List Expr} {m : ME} {ma : MA} {pos : Pos}
theorem pa_mnil : PMA X [] mNil := PAi pa_nil fun σ H Q ⟨ρ, env, S, ds, S', L, e, q⟩ => by
  cases e
  exact q [] H ρ L.go RelL.nil
theorem pa_mcons (ha : PM X e m) (hr : PMA X es ma) (hs : starEach (e :: es) X.env = (false, eval e X.env) :: starEach es X.env := by rfl) : PMA X (e :: es) (mCons m ma) :=
  PAi (pa_cons ha hr hs) fun σ H Q ⟨ρ, env, S, ds, S', L, e, q⟩ => by
    obtain ⟨⟨x, S1⟩, e1, e⟩ := bind_some e
    obtain ⟨⟨xs, S2⟩, e2, e⟩ := map_some e
    cases e
    refine tM_at L e1 fun v H1 ρ1 g1 r1 => tMA_at (L.next g1) e2 fun vs H2 ρ2 g2 r2 => ?_
    exact q _ _ _ (g1.trans g2) (.cons (r1.mono g2.le) r2)
theorem pm_tup {k} (h : PMA X es ma) : PM X (.Tuple es k pos) (mTup ma) :=
  PEi (pe_tup h) fun σ H Q ⟨ρ, env, S, d, S', L, e, q⟩ => by
    obtain ⟨⟨xs, S1⟩, e1, e⟩ := bind_some e
    split at e
    · rename_i hl
      cases e
      refine tMA_at L e1 fun vs H1 ρ1 g1 r1 => ⟨by rw [r1.length]; exact of_decide_eq_true hl, fun p n => ?_⟩
      obtain ⟨g2, r2⟩ := newTup g1.s r1 n
      exact q _ _ _ (g1.trans g2) r2
    · cases e
theorem pn_lst (h : PMA X es ma) : PMN X (.List es pos) (mLst ma) :=
  PEi (pe_lst h) fun σ H Q ⟨ρ, env, S, d, S', L, e, q⟩ => by
    obtain ⟨⟨xs, S1⟩, e1, e⟩ := bind_some e
    split at e
    · rename_i hl
      cases e
      refine tMA_at L e1 fun vs H1 ρ1 g1 r1 => ⟨by rw [r1.length]; exact of_decide_eq_true hl, fun p n => q _ _ _ g1 r1 p n⟩
    · cases e
theorem pm_new (h : PMN X e ma) : PM X e (mNew ma) := PEi h fun σ H Q ⟨ρ, env, S, d, S', L, e, q⟩ => by
  obtain ⟨⟨xs, S1⟩, e1, e⟩ := map_some e
  cases e
  refine ⟨ρ, env, S, xs, S1, L, e1, fun vs H1 ρ1 g1 r1 p n => ?_⟩
  obtain ⟨g2, r2⟩ := newLst g1.s r1 n
  exact q _ _ _ (g1.trans g2) r2
theorem pm_tmp (h : PMN X e ma) : PM X e (mTmp ma) := PEi h fun σ H Q ⟨ρ, env, S, d, S', L, e, q⟩ => by
  obtain ⟨⟨xs, S1⟩, e1, e⟩ := map_some e
  cases e
  refine ⟨ρ, env, S, xs, S1, L, e1, fun vs H1 ρ1 g1 r1 p n => ?_⟩
  have g2 : Go X.K H1 ρ1 (upd H1 p (.lst vs)) ρ1 S1 := Go.tup g1.s n
  exact q _ _ _ (g1.trans g2) (rel_cl ⟨upd_same, notin_of g1.s n⟩ (r1.mono g2.le))
end

/-! ### subscripts -/
theorem ixN_lt {n j : Nat} {i : Int} (h : ixN n i = some j) : j < n := (ixN_seq h).2.1
theorem RelL.atI {K : PySem.W.Frag} {H : Hp} {ρ : List Addr} {ds : List D} {vs : List V} {i : Int} {d : D} (r : RelL K H ρ ds vs) (e : atI ds i = some d) : ∃ v, L2.atI vs i = some v ∧ Rel K H ρ d v := by
  unfold L2.atI at e ⊢
  obtain ⟨j, e1, e2⟩ := bind_some e
  obtain ⟨v, h1, h2⟩ := r.get e2
  exact ⟨v, by rw [r.length, e1]; exact h1, h2⟩
/-- a key of a dict -/
def keyD : D → Option Key
  | .int i => some (.inl i)
  | .str x => some (.inr x)
  | _ => none
def getKV {κ : Type} [DecidableEq κ] (kvs : List (κ × D)) (k : κ) : Option D := match kvs with
  | [] => none
  | (a, d) :: r => if a = k then some d else getKV r k
def fIx : F2 := fun a b S => match b with
  | .int i => match a with
    | .tup ds => (atI ds i).map fun d => (d, S)
    | .cl ds => (atI ds i).map fun d => (d, S)
    | .fz ds => (atI ds i).map fun d => (d, S)
    | .str z => if z.length ≤ sizeLine then (atI z.cps.toList i).map fun c => (.str ⟨#[c]⟩, S) else none
    | .ref j => match S[j]? with
      | some (.lst ds) => (atI ds i).map fun d => (d, S)
      | _ => none
    | _ => none
  | _ => none
section
variable {X : Cx} {a b : Expr} {ma mb : ME} {pos : Pos}
theorem IxR.imp {r r' : R2} (h : IxR X r) (i : ∀ x y H Q, r' x y H Q → r x y H Q) : IxR X r' := fun value slice pins s σ H x y v u Q I rx ry q hs => h value slice pins s σ H x y v u Q I rx ry (i _ _ _ _ q) hs
theorem ix_d : IxR X (rD X.K fIx) := by
  refine IxR.imp ix_seq fun x y H Q h => ?_
  obtain ⟨ρ, S, a, b, d, S', s, ra, rb, e, q⟩ := h
  unfold fIx at e
  split at e
  · rename_i i
    cases rb.of_int
    split at e
    · obtain ⟨d', e1, e2⟩ := map_some e
      cases e2
      obtain ⟨p, vs, rfl, h1, r1⟩ := ra.of_tup
      obtain ⟨v, h2, r2⟩ := r1.atI e1
      exact .inr (.inl ⟨p, vs, i, v, rfl, rfl, h1, h2, q _ _ _ (.refl s) r2⟩)
    · obtain ⟨d', e1, e2⟩ := map_some e
      cases e2
      obtain ⟨p, vs, rfl, h1, r1⟩ := ra.of_cl
      obtain ⟨v, h2, r2⟩ := r1.atI e1
      exact .inl ⟨p, vs, i, v, rfl, rfl, clSq h1, h2, q _ _ _ (.refl s) r2⟩
    · obtain ⟨d', e1, e2⟩ := map_some e
      cases e2
      obtain ⟨p, vs, rfl, h1, r1⟩ := ra.of_fz
      obtain ⟨v, h2, r2⟩ := r1.atI e1
      exact .inl ⟨p, vs, i, v, rfl, rfl, h1.l, h2, q _ _ _ (.refl s) r2⟩
    · split at e
      · obtain ⟨d', e1, e2⟩ := map_some e
        cases e2
        cases ra.of_str
        exact .inr (.inr ⟨_, i, _, rfl, rfl, by assumption, e1, q _ _ _ (.refl s) (rel_str _)⟩)
      · cases e
    · split at e
      · rename_i hS
        obtain ⟨d', e1, e2⟩ := map_some e
        cases e2
        obtain ⟨p, vs, rfl, _, h1, r1⟩ := s.lst hS ra
        obtain ⟨v, h2, r2⟩ := r1.atI e1
        exact .inl ⟨p, vs, i, v, rfl, rfl, SqL.of h1, h2, q _ _ _ (.refl s) r2⟩
      · cases e
    · cases e
  · cases e
theorem pm_ix (ha : PM X a ma) (hb : PM X b mb) (hs : PlainIx b) : PM X (.Subscript a b pos) (m2 fIx ma mb) := PEi (pe_ix ix_d ha hb hs) fun σ H Q h => tM2 (fun _ _ _ _ q => q) σ H Q h
end

/-! ### slices -/
def cutD {α : Type} (xs : List α) (lo hi : Option Int) : List α := (xs.drop (HT.sIx xs.length 0 lo)).take (HT.sIx xs.length xs.length hi - HT.sIx xs.length 0 lo)
theorem cut_rel {K : PySem.W.Frag} {H : Hp} {ρ : List Addr} {ds : List D} {vs : List V} {lo hi : Option Int} (r : RelL K H ρ ds vs) : RelL K H ρ (cutD ds lo hi) (cutV vs lo hi) := by
  unfold cutD cutV
  rw [r.length]
  exact (r.drop _).take _
abbrev MO := DEnv → Store → Option (Option Int × Store)
def mNoPart : MO := fun _ S => some (none, S)
def mPart (a : ME) : MO := fun env S => (a env S).bind fun p => match p.1 with
  | .int i => some (some i, p.2)
  | _ => none
def tMO (K : PySem.W.Frag) (m : MO) : TO := fun σ H Q => ∃ ρ env S o S', Lie K σ H ρ env S ∧ m env S = some (o, S') ∧ ∀ H' ρ', Go K H ρ H' ρ' S' → Q o H'
abbrev PMO (X : Cx) (e : Option Expr) (m : MO) : Prop := PO X e (tMO X.K m)
def fCut (d : D) (lo hi : Option Int) (S : Store) : Option D := match d with
  | .tup ds => some (.tup (cutD ds lo hi))
  | .str z => if z.length ≤ sizeLine then some (.str (cutS z lo hi)) else none
  | _ => none
def fCutL (d : D) (lo hi : Option Int) (S : Store) : Option (List D) := (lstOf d S).map fun ds => cutD ds lo hi
def mCut (a : ME) (l u : MO) : ME := fun env S => (a env S).bind fun p => (l env p.2).bind fun q => (u env q.2).bind fun r => (fCut p.1 q.1 r.1 r.2).map fun d => (d, r.2)
/-- of a list: a new list -/
def mCutL (a : ME) (l u : MO) : MA := fun env S => (a env S).bind fun p => (l env p.2).bind fun q => (u env q.2).bind fun r => (fCutL p.1 q.1 r.1 r.2).map fun d => (d, r.2)
theorem lst_of {K : PySem.W.Frag} {H : Hp} {ρ : List Addr} {S : Store} (s : RelS K H ρ S) {d : D} {ds : List D} {v : V} (e : lstOf d S = some ds) (r : Rel K H ρ d v) : ∃ p vs, v = .ref p ∧ SqL K H p vs ∧ RelL K H ρ ds vs := by
  unfold lstOf at e
  split at e
  · split at e
    · rename_i hS
      cases e
      obtain ⟨p, vs, rfl, _, h1, r1⟩ := s.lst hS r
      exact ⟨p, vs, rfl, SqL.of h1, r1⟩
    · cases e
  · cases e
    obtain ⟨p, vs, rfl, h1, r1⟩ := r.of_cl
    exact ⟨p, vs, rfl, clSq h1, r1⟩
  · cases e
section
variable {X : Cx} {a : Expr} {o lo hi : Option Expr} {ma : ME} {l u : MO} {pos p2 : Pos}
theorem POi {t t' : TO} (h : PO X o t) (i : ∀ σ H Q, t' σ H Q → t σ H Q) : PO X o t' := ⟨fun pins s σ H Q I q => h.run pins s σ H Q I (i σ H Q q)⟩
theorem po_mnone : PMO X none mNoPart := POi po_none fun σ H Q ⟨ρ, env, S, o, S', L, e, q⟩ => by
  cases e
  exact q H ρ L.go
theorem po_msome (h : PM X a ma) : PMO X (some a) (mPart ma) := POi (po_some h) fun σ H Q ⟨ρ, env, S, o, S', L, e, q⟩ => by
  obtain ⟨⟨x, S1⟩, e1, e⟩ := bind_some e
  split at e
  · rename_i i hx
    cases e
    cases hx
    exact tM_at L e1 fun v H1 ρ1 g1 r1 => ⟨i, r1.of_int, q _ _ g1⟩
  · cases e
theorem pm_cut (ha : PM X a ma) (hl : PMO X lo l) (hu : PMO X hi u) : PM X (.Subscript a (.Slice lo hi none p2) pos) (mCut ma l u) :=
  PEi (pe_slice (sl_tupA.or sl_str) ha hl hu) fun σ H Q ⟨ρ, env, S, d, S', L, e, q⟩ => by
    obtain ⟨⟨x, S1⟩, e1, e⟩ := bind_some e
    obtain ⟨⟨i, S2⟩, e2, e⟩ := bind_some e
    obtain ⟨⟨j, S3⟩, e3, e⟩ := bind_some e
    obtain ⟨d', e4, e⟩ := map_some e
    cases e
    refine tM_at L e1 fun v H1 ρ1 g1 r1 => ⟨ρ1, env, S1, i, S2, L.next g1, e2, fun H2 ρ2 g2 => ⟨ρ2, env, S2, j, S3, (L.next g1).next g2, e3, fun H3 ρ3 g3 => ?_⟩⟩
    have g := (g1.trans g2).trans g3
    have r3 : Rel X.K H3 ρ3 x v := r1.mono (g2.le.trans g3.le)
    clear e1 r1
    dsimp only at e4
    unfold fCut at e4
    split at e4
    · cases e4
      obtain ⟨p, vs, rfl, h1, r4⟩ := r3.of_tup
      refine .inl ⟨p, vs, rfl, h1, fun ⟨w1, w2⟩ => ?_, fun _ p n => ?_⟩
      · refine q _ _ _ g ?_
        have ew : ∀ ds : List D, vs.length = ds.length → cutD ds i j = ds := fun ds hl => by
          unfold cutD
          rw [← hl, w1, w2, List.drop_zero, Nat.sub_zero, hl, List.take_length]
        rw [ew _ r4.length]
        exact r3
      · obtain ⟨g4, r5⟩ := newTup g3.s (cut_rel (lo := i) (hi := j) r4) n
        exact q _ _ _ (g.trans g4) r5
    · split at e4
      · cases e4
        cases r3.of_str
        exact .inr ⟨_, rfl, by assumption, q _ _ _ g (rel_str _)⟩
      · cases e4
    · cases e4
theorem pn_cut (ha : PM X a ma) (hl : PMO X lo l) (hu : PMO X hi u) : PMN X (.Subscript a (.Slice lo hi none p2) pos) (mCutL ma l u) :=
  PEi (pe_slice sl_list ha hl hu) fun σ H Q ⟨ρ, env, S, d, S', L, e, q⟩ => by
    obtain ⟨⟨x, S1⟩, e1, e⟩ := bind_some e
    obtain ⟨⟨i, S2⟩, e2, e⟩ := bind_some e
    obtain ⟨⟨j, S3⟩, e3, e⟩ := bind_some e
    obtain ⟨d', e4, e⟩ := map_some e
    cases e
    refine tM_at L e1 fun v H1 ρ1 g1 r1 => ⟨ρ1, env, S1, i, S2, L.next g1, e2, fun H2 ρ2 g2 => ⟨ρ2, env, S2, j, S3, (L.next g1).next g2, e3, fun H3 ρ3 g3 => ?_⟩⟩
    have g := (g1.trans g2).trans g3
    have r3 : Rel X.K H3 ρ3 x v := r1.mono (g2.le.trans g3.le)
    dsimp only at e4
    unfold fCutL at e4
    obtain ⟨ds0, e5, rfl⟩ := map_some e4
    obtain ⟨p, vs, rfl, h1, r4⟩ := lst_of g3.s e5 r3
    exact ⟨p, vs, rfl, h1, fun p n => q _ _ _ g (cut_rel r4) p n⟩
end

/-! ### built-ins by name -/
abbrev FL := List D → Store → Option (D × Store)
abbrev FN := List D → Store → Option (List D)
def rCl (K : PySem.W.Frag) (f : FL) : List V → Hp → VK → Prop := fun xs H Q => ∃ ρ S ds d S', RelS K H ρ S ∧ RelL K H ρ ds xs ∧ f ds S = some (d, S') ∧ ∀ v H' ρ', Go K H ρ H' ρ' S' → Rel K H' ρ' d v → Q v H'
def rCn (K : PySem.W.Frag) (f : FN) : List V → Hp → VK → Prop := fun xs H Q => ∃ ρ S ds es, RelS K H ρ S ∧ RelL K H ρ ds xs ∧ f ds S = some es ∧ ∀ vs, RelL K H ρ es vs → ∀ p, H p = none → Q (.ref p) (upd H p (.lst vs))
def CallD (X : Cx) (fv : Value) (f : FL) : Prop := CallR X fv (rCl X.K f)
/-- .. that give a new list -/
def CallN (X : Cx) (fv : Value) (f : FN) : Prop := CallR X fv (rCn X.K f)
def mCall (f : FL) (a : MA) : ME := fun env S => (a env S).bind fun p => f p.1 p.2
def mCallN (f : FN) (a : MA) : MA := fun env S => (a env S).bind fun p => (f p.1 p.2).map fun ds => (ds, p.2)
theorem CallR.imp {X : Cx} {f : Value} {r r' : List V → Hp → VK → Prop} (h : CallR X f r) (i : ∀ xs H Q, r' xs H Q → r xs H Q) : CallR X f r' := fun pins s σ H xs us Q I rs q => h pins s σ H xs us Q I rs (i _ _ _ q)
theorem tCallD {K : PySem.W.Frag} {f : FL} {ma : MA} (σ : St) (H : Hp) (Q : VK) (h : tM K (mCall f ma) σ H Q) : tCB (rCl K f) (tMA K ma) σ H Q := by
  obtain ⟨ρ, env, S, d, S', L, e, q⟩ := h
  obtain ⟨⟨xs, S1⟩, e1, e⟩ := bind_some e
  exact tMA_at L e1 fun vs H1 ρ1 g1 r1 => ⟨ρ1, S1, xs, d, S', g1.s, r1, e, fun v H2 ρ2 g2 r2 => q v H2 ρ2 (g1.trans g2) r2⟩
theorem tCallN {K : PySem.W.Frag} {f : FN} {ma : MA} (σ : St) (H : Hp) (Q : VK) (h : tMN K (mCallN f ma) σ H Q) : tCB (rCn K f) (tMA K ma) σ H Q := by
  obtain ⟨ρ, env, S, d, S', L, e, q⟩ := h
  obtain ⟨⟨xs, S1⟩, e1, e⟩ := bind_some e
  obtain ⟨ds, e2, e⟩ := map_some e
  cases e
  exact tMA_at L e1 fun vs H1 ρ1 g1 r1 => ⟨ρ1, S1, xs, _, g1.s, r1, e2, fun vs2 r2 p n => q vs2 H1 ρ1 g1 r2 p n⟩
section
variable {X : Cx} {x : Str} {p pos : Pos} {e : Expr} {es : List Expr} {ma : MA} {id T : String} {f : FL} {fn : FN}
theorem pm_callB (hc : CallD X (.builtin id) f) (hg : Gl X x) (hm : X.mg x = none) (hv : bootBuiltins x = some (.builtin id)) (ha : PMA X (e :: es) ma) (hn : x ≠ "__name__" := by decide) (hdb : (x == ("__debug__" : Str)) = false := by decide)
    (he : starEach (e :: es) X.env = (false, eval e X.env) :: starEach es X.env := by rfl) (hpl : (backTo pos (starEach es X.env)).any (·.1) = false := by rfl) : PM X (.Call (.Name x p) (e :: es) [] pos) (mCall f ma) :=
  PEi (pe_callB hc hg hm hv ha hn hdb he hpl) tCallD
theorem pm_callT (hc : CallD X (.type T) f) (hg : Gl X x) (hm : X.mg x = none) (hv : bootBuiltins x = some (.type T)) (ha : PMA X (e :: es) ma) (hn : x ≠ "__name__" := by decide) (hdb : (x == ("__debug__" : Str)) = false := by decide)
    (he : starEach (e :: es) X.env = (false, eval e X.env) :: starEach es X.env := by rfl) (hpl : (backTo pos (starEach es X.env)).any (·.1) = false := by rfl) : PM X (.Call (.Name x p) (e :: es) [] pos) (mCall f ma) :=
  PEi (pe_callTy hc hg hm hv ha hn hdb he hpl) tCallD
theorem pn_callB (hc : CallN X (.builtin id) fn) (hg : Gl X x) (hm : X.mg x = none) (hv : bootBuiltins x = some (.builtin id)) (ha : PMA X (e :: es) ma) (hn : x ≠ "__name__" := by decide) (hdb : (x == ("__debug__" : Str)) = false := by decide)
    (he : starEach (e :: es) X.env = (false, eval e X.env) :: starEach es X.env := by rfl) (hpl : (backTo pos (starEach es X.env)).any (·.1) = false := by rfl) : PMN X (.Call (.Name x p) (e :: es) [] pos) (mCallN fn ma) :=
  PEi (pe_callB hc hg hm hv ha hn hdb he hpl) tCallN
theorem pn_callT (hc : CallN X (.type T) fn) (hg : Gl X x) (hm : X.mg x = none) (hv : bootBuiltins x = some (.type T)) (ha : PMA X (e :: es) ma) (hn : x ≠ "__name__" := by decide) (hdb : (x == ("__debug__" : Str)) = false := by decide)
    (he : starEach (e :: es) X.env = (false, eval e X.env) :: starEach es X.env := by rfl) (hpl : (backTo pos (starEach es X.env)).any (·.1) = false := by rfl) : PMN X (.Call (.Name x p) (e :: es) [] pos) (mCallN fn ma) :=
  PEi (pe_callTy hc hg hm hv ha hn hdb he hpl) tCallN

/-! #### len, tuple, list, int, abs, str, min, max of two -/
def fLen : FL := fun ds S => match ds with
  | [.str z] => if z.length ≤ sizeLine then some (.int z.length, S) else none
  | [.tup xs] => some (.int xs.length, S)
  | [.cl xs] => some (.int xs.length, S)
  | [.fz xs] => some (.int xs.length, S)
  | [.ref i] => match S[i]? with
    | some (.lst xs) => some (.int xs.length, S)
    | _ => none
  | _ => none
theorem relL1 {K : PySem.W.Frag} {H : Hp} {ρ : List Addr} {d : D} {vs : List V} (r : RelL K H ρ [d] vs) : ∃ v, vs = [v] ∧ Rel K H ρ d v := by
  obtain ⟨v, w, rfl, r1, r2⟩ := r
  cases r2
  exact ⟨v, rfl, r1⟩
theorem relL2 {K : PySem.W.Frag} {H : Hp} {ρ : List Addr} {d e : D} {vs : List V} (r : RelL K H ρ [d, e] vs) : ∃ v u, vs = [v, u] ∧ Rel K H ρ d v ∧ Rel K H ρ e u := by
  obtain ⟨v, w, rfl, r1, r2⟩ := r
  obtain ⟨u, rfl, r3⟩ := relL1 r2
  exact ⟨v, u, rfl, r1, r3⟩
theorem relL3 {K : PySem.W.Frag} {H : Hp} {ρ : List Addr} {d e f : D} {vs : List V} (r : RelL K H ρ [d, e, f] vs) : ∃ v u w, vs = [v, u, w] ∧ Rel K H ρ d v ∧ Rel K H ρ e u ∧ Rel K H ρ f w := by
  obtain ⟨v, w, rfl, r1, r2⟩ := r
  obtain ⟨u, z, rfl, r3, r4⟩ := relL2 r2
  exact ⟨v, u, z, rfl, r1, r3, r4⟩
theorem call_mlen : CallD X (.builtin "len") fLen := by
  refine CallR.imp call_len fun xs H Q h => ?_
  obtain ⟨ρ, S, ds, d, S', s, r, e, q⟩ := h
  unfold fLen at e
  split at e
  · split at e
    · cases e
      obtain ⟨v, rfl, r1⟩ := relL1 r
      cases r1.of_str
      exact ⟨_, _, rfl, ⟨by assumption, rfl⟩, q _ _ _ (.refl s) (rel_int _)⟩
    · cases e
  · cases e
    obtain ⟨v, rfl, r1⟩ := relL1 r
    obtain ⟨p, vs, rfl, h1, r2⟩ := r1.of_tup
    exact ⟨_, _, rfl, .inr ⟨vs, h1, rfl⟩, q _ _ _ (.refl s) (by rw [r2.length]; exact rel_int _)⟩
  · cases e
    obtain ⟨v, rfl, r1⟩ := relL1 r
    obtain ⟨p, vs, rfl, h1, r2⟩ := r1.of_cl
    exact ⟨_, _, rfl, .inl ⟨vs, clSq h1, rfl⟩, q _ _ _ (.refl s) (by rw [r2.length]; exact rel_int _)⟩
  · cases e
    obtain ⟨v, rfl, r1⟩ := relL1 r
    obtain ⟨p, vs, rfl, h1, r2⟩ := r1.of_fz
    exact ⟨_, _, rfl, .inl ⟨vs, h1.l, rfl⟩, q _ _ _ (.refl s) (by rw [r2.length]; exact rel_int _)⟩
  · split at e
    · rename_i hS
      cases e
      obtain ⟨v, rfl, r1⟩ := relL1 r
      obtain ⟨p, vs, rfl, _, h1, r2⟩ := s.lst hS r1
      exact ⟨_, _, rfl, .inl ⟨vs, SqL.of h1, rfl⟩, q _ _ _ (.refl s) (by rw [r2.length]; exact rel_int _)⟩
    · cases e
  · cases e
/-- the items of a list or tuple -/
def seqOf (d : D) (S : Store) : Option (List D) := match d with
  | .tup ds => some ds
  | d => lstOf d S
theorem seq_of {K : PySem.W.Frag} {H : Hp} {ρ : List Addr} {S : Store} (s : RelS K H ρ S) {d : D} {ds : List D} {v : V} (e : seqOf d S = some ds) (r : Rel K H ρ d v) : ∃ p vs, v = .ref p ∧ (SqL K H p vs ∨ SqT K H p vs) ∧ RelL K H ρ ds vs := by
  unfold seqOf at e
  split at e
  · cases e
    obtain ⟨p, vs, rfl, h1, r1⟩ := r.of_tup
    exact ⟨p, vs, rfl, .inr h1, r1⟩
  · obtain ⟨p, vs, rfl, h1, r1⟩ := lst_of s e r
    exact ⟨p, vs, rfl, .inl h1, r1⟩
def fTuple : FL := fun ds S => match ds with
  | [d] => (seqOf d S).map fun xs => (.tup xs, S)
  | _ => none
theorem call_mtuple : CallD X (.type "tuple") fTuple := by
  refine CallR.imp call_tuple_of fun xs H Q h => ?_
  obtain ⟨ρ, S, ds, d, S', s, r, e, q⟩ := h
  unfold fTuple at e
  split at e
  · obtain ⟨ys, e1, e2⟩ := map_some e
    cases e2
    obtain ⟨v, rfl, r1⟩ := relL1 r
    unfold seqOf at e1
    split at e1
    · cases e1
      obtain ⟨p, vs, rfl, h1, r2⟩ := r1.of_tup
      exact ⟨p, vs, rfl, .inr ⟨h1, q _ _ _ (.refl s) r1⟩⟩
    · obtain ⟨p, vs, rfl, h1, r2⟩ := lst_of s e1 r1
      refine ⟨p, vs, rfl, .inl ⟨h1, fun l n => ?_⟩⟩
      obtain ⟨g, r3⟩ := newTup s r2 n
      exact q _ _ _ g r3
  · cases e
def fList : FN := fun ds S => match ds with
  | [d] => seqOf d S
  | _ => none
theorem call_mlist : CallN X (.type "list") fList := by
  refine CallR.imp call_list_of fun xs H Q h => ?_
  obtain ⟨ρ, S, ds, es, s, r, e, q⟩ := h
  unfold fList at e
  split at e
  · obtain ⟨v, rfl, r1⟩ := relL1 r
    obtain ⟨p, vs, rfl, h1, r2⟩ := seq_of s e r1
    exact ⟨p, vs, rfl, h1, fun l n => q _ r2 l n⟩
  · cases e
def fInt : FL := fun ds S => match ds with
  | [.int i] => some (.int i, S)
  | [.bl b] => some (.int (if b then 1 else 0), S)
  | _ => none
theorem call_mint : CallD X (.type "int") fInt := by
  refine CallR.imp call_int1 fun xs H Q h => ?_
  obtain ⟨ρ, S, ds, d, S', s, r, e, q⟩ := h
  unfold fInt at e
  split at e
  · cases e
    obtain ⟨v, rfl, r1⟩ := relL1 r
    cases r1.of_int
    exact .inl ⟨_, rfl, q _ _ _ (.refl s) (rel_int _)⟩
  · cases e
    obtain ⟨v, rfl, r1⟩ := relL1 r
    cases r1.of_bl
    exact .inr ⟨_, rfl, q _ _ _ (.refl s) (rel_int _)⟩
  · cases e
def fAbs : FL := fun ds S => match ds with
  | [.int i] => some (.int (if i < 0 then -i else i), S)
  | _ => none
theorem call_mabs : CallD X (.builtin "abs") fAbs := by
  refine CallR.imp call_abs fun xs H Q h => ?_
  obtain ⟨ρ, S, ds, d, S', s, r, e, q⟩ := h
  unfold fAbs at e
  split at e
  · cases e
    obtain ⟨v, rfl, r1⟩ := relL1 r
    cases r1.of_int
    exact ⟨_, rfl, q _ _ _ (.refl s) (rel_int _)⟩
  · cases e
def fStr : FL := fun ds S => match ds with
  | [.int i] => if i.natAbs.log2 < 1920 then some (.str (toString i), S) else none
  | _ => none
theorem call_mstr : CallD X (.type "str") fStr := by
  refine CallR.imp call_str_int fun xs H Q h => ?_
  obtain ⟨ρ, S, ds, d, S', s, r, e, q⟩ := h
  unfold fStr at e
  split at e
  · split at e
    · cases e
      obtain ⟨v, rfl, r1⟩ := relL1 r
      cases r1.of_int
      exact ⟨_, rfl, by assumption, q _ _ _ (.refl s) (rel_str _)⟩
    · cases e
  · cases e
/-- the greatest, the least of ints -/
def maxI : Int → List Int → Int
  | m, [] => m
  | m, x :: r => maxI (if x > m then x else m) r
def minI : Int → List Int → Int
  | m, [] => m
  | m, x :: r => minI (if x < m then x else m) r
def intsOf : List D → Option (List Int)
  | [] => some []
  | .int i :: r => (intsOf r).map fun l => i :: l
  | _ :: _ => none
theorem ints_rel {K : PySem.W.Frag} {H : Hp} {ρ : List Addr} : ∀ {ds : List D} {ns : List Int} {vs : List V}, intsOf ds = some ns → RelL K H ρ ds vs → vs = ns.map V.int
  | [], _, _, e, r => by cases e; cases r; rfl
  | d :: ds, ns, _, e, r => by
    obtain ⟨v, vs, rfl, r1, r2⟩ := r
    cases d <;> (first | (simp [intsOf] at e; done) | skip)
    obtain ⟨l, e1, rfl⟩ := map_some e
    cases r1.of_int
    rw [ints_rel e1 r2]; rfl
theorem intsOf_map (ns : List Int) : intsOf (ns.map .int) = some ns := by
  induction ns with
  | nil => rfl
  | cons n ns ih => simp [intsOf, ih]
theorem maxI_ge (m : Int) (l : List Int) : m ≤ maxI m l ∧ (∀ y ∈ l, y ≤ maxI m l) ∧ (maxI m l = m ∨ maxI m l ∈ l) := by
  induction l generalizing m with
  | nil => exact ⟨Int.le_refl _, (fun y h => nomatch h), .inl rfl⟩
  | cons x r ih =>
    obtain ⟨h1, h2, h3⟩ := ih (if x > m then x else m)
    unfold maxI
    by_cases hx : x > m
    · rw [if_pos hx] at h1 h2 h3 ⊢
      refine ⟨by omega, fun y hy => ?_, ?_⟩
      · rcases List.mem_cons.mp hy with rfl | hy
        · exact h1
        · exact h2 y hy
      · rcases h3 with h3 | h3
        · exact .inr (by rw [h3]; exact List.mem_cons_self)
        · exact .inr (List.mem_cons_of_mem _ h3)
    · rw [if_neg hx] at h1 h2 h3 ⊢
      refine ⟨h1, fun y hy => ?_, ?_⟩
      · rcases List.mem_cons.mp hy with rfl | hy
        · omega
        · exact h2 y hy
      · rcases h3 with h3 | h3
        · exact .inl h3
        · exact .inr (List.mem_cons_of_mem _ h3)
theorem minI_le (m : Int) (l : List Int) : minI m l ≤ m ∧ (∀ y ∈ l, minI m l ≤ y) ∧ (minI m l = m ∨ minI m l ∈ l) := by
  induction l generalizing m with
  | nil => exact ⟨Int.le_refl _, (fun y h => nomatch h), .inl rfl⟩
  | cons x r ih =>
    obtain ⟨h1, h2, h3⟩ := ih (if x < m then x else m)
    unfold minI
    by_cases hx : x < m
    · rw [if_pos hx] at h1 h2 h3 ⊢
      refine ⟨by omega, fun y hy => ?_, ?_⟩
      · rcases List.mem_cons.mp hy with rfl | hy
        · exact h1
        · exact h2 y hy
      · rcases h3 with h3 | h3
        · exact .inr (by rw [h3]; exact List.mem_cons_self)
        · exact .inr (List.mem_cons_of_mem _ h3)
    · rw [if_neg hx] at h1 h2 h3 ⊢
      refine ⟨h1, fun y hy => ?_, ?_⟩
      · rcases List.mem_cons.mp hy with rfl | hy
        · omega
        · exact h2 y hy
      · rcases h3 with h3 | h3
        · exact .inl h3
        · exact .inr (List.mem_cons_of_mem _ h3)
/-- max(a, b); max of a list of ints -/
def fMax : FL := fun ds S => match ds with
  | [.int i, .int j] => some (.int (if j > i then j else i), S)
  | [d] => (lstOf d S).bind fun xs => (intsOf xs).bind fun ns => match ns with
    | n :: r => some (.int (maxI n r), S)
    | [] => none
  | _ => none
def fMin : FL := fun ds S => match ds with
  | [.int i, .int j] => some (.int (if j < i then j else i), S)
  | [d] => (lstOf d S).bind fun xs => (intsOf xs).bind fun ns => match ns with
    | n :: r => some (.int (minI n r), S)
    | [] => none
  | _ => none
theorem call_mmax (hc : X.calm = true) : CallD X (.builtin "max") fMax := by
  refine CallR.imp ((call_max2 hc).or (cr_max hc)) fun xs H Q h => ?_
  obtain ⟨ρ, S, ds, d, S', s, r, e, q⟩ := h
  unfold fMax at e
  split at e
  · cases e
    obtain ⟨v, u, rfl, r1, r2⟩ := relL2 r
    cases r1.of_int; cases r2.of_int
    exact .inl ⟨_, _, rfl, q _ _ _ (.refl s) (rel_int _)⟩
  · obtain ⟨ys, e1, e⟩ := bind_some e
    obtain ⟨ns, e2, e⟩ := bind_some e
    split at e
    · rename_i n l
      cases e
      obtain ⟨v, rfl, r1⟩ := relL1 r
      obtain ⟨p, vs, rfl, h1, r2⟩ := lst_of s e1 r1
      have hv := ints_rel e2 r2
      subst hv
      refine .inr ⟨p, n :: l, rfl, h1, Nat.succ_pos _, fun m hm hle => ?_⟩
      obtain ⟨g1, g2, g3⟩ := maxI_ge n l
      have : maxI n l = m := by
        have a1 : m ≤ maxI n l := by
          rcases List.mem_cons.mp hm with rfl | hm
          · exact g1
          · exact g2 m hm
        have a2 : maxI n l ≤ m := by
          rcases g3 with g3 | g3
          · rw [g3]; exact hle n List.mem_cons_self
          · exact hle _ (List.mem_cons_of_mem _ g3)
        omega
      subst this
      exact q _ _ _ (.refl s) (rel_int _)
    · cases e
  · cases e
theorem call_mmin (hc : X.calm = true) : CallD X (.builtin "min") fMin := by
  refine CallR.imp ((call_min2 hc).or (cr_min hc)) fun xs H Q h => ?_
  obtain ⟨ρ, S, ds, d, S', s, r, e, q⟩ := h
  unfold fMin at e
  split at e
  · cases e
    obtain ⟨v, u, rfl, r1, r2⟩ := relL2 r
    cases r1.of_int; cases r2.of_int
    exact .inl ⟨_, _, rfl, q _ _ _ (.refl s) (rel_int _)⟩
  · obtain ⟨ys, e1, e⟩ := bind_some e
    obtain ⟨ns, e2, e⟩ := bind_some e
    split at e
    · rename_i n l
      cases e
      obtain ⟨v, rfl, r1⟩ := relL1 r
      obtain ⟨p, vs, rfl, h1, r2⟩ := lst_of s e1 r1
      have hv := ints_rel e2 r2
      subst hv
      refine .inr ⟨p, n :: l, rfl, h1, Nat.succ_pos _, fun m hm hle => ?_⟩
      obtain ⟨g1, g2, g3⟩ := minI_le n l
      have : minI n l = m := by
        have a1 : minI n l ≤ m := by
          rcases List.mem_cons.mp hm with rfl | hm
          · exact g1
          · exact g2 m hm
        have a2 : m ≤ minI n l := by
          rcases g3 with g3 | g3
          · rw [g3]; exact hle n List.mem_cons_self
          · exact hle _ (List.mem_cons_of_mem _ g3)
        omega
      subst this
      exact q _ _ _ (.refl s) (rel_int _)
    · cases e
  · cases e
def fSum : FL := fun ds S => match ds with
  | [d] => (lstOf d S).bind fun xs => (intsOf xs).map fun ns => (.int ns.sum, S)
  | _ => none
theorem call_msum (hc : X.calm = true) : CallD X (.builtin "sum") fSum := by
  refine CallR.imp (cr_sum hc) fun xs H Q h => ?_
  obtain ⟨ρ, S, ds, d, S', s, r, e, q⟩ := h
  unfold fSum at e
  split at e
  · obtain ⟨ys, e1, e⟩ := bind_some e
    obtain ⟨ns, e2, e⟩ := map_some e
    cases e
    obtain ⟨v, rfl, r1⟩ := relL1 r
    obtain ⟨p, vs, rfl, h1, r2⟩ := lst_of s e1 r1
    have hv := ints_rel e2 r2
    subst hv
    exact ⟨p, ns, rfl, h1, q _ _ _ (.refl s) (rel_int _)⟩
  · cases e
end

/-! ### isinstance(e, T) -/
/-- the name of a value's type -/
def tyD (d : D) (S : Store) : Option String := match d with
  | .non => some "NoneType" | .bl _ => some "bool" | .int _ => some "int" | .str _ => some "str" | .tup _ => some "tuple" | .cl _ => some "list" | .fz _ => none
  | .ref i => match S[i]? with
    | some (.lst _) => some "list"
    | some (.dic _) => some "dict"
    | some (.dit _) => some "dict"
    | _ => none
theorem sqt_ty {K : PySem.W.Frag} {H : Hp} {a : Addr} {vs : List V} (h : SqT K H a vs) : TyX K H (.ref a) (.type "tuple") := by
  rcases h with (h | ⟨o, h⟩) | ⟨o, _, _, hk, hc, _⟩
  · exact .base (.tup h)
  · exact .fTuple h
  · exact .kTuple hk hc
theorem ty_rel {K : PySem.W.Frag} {H : Hp} {ρ : List Addr} {S : Store} (s : RelS K H ρ S) {d : D} {v : V} {T : String} (e : tyD d S = some T) (r : Rel K H ρ d v) : TyX K H v (.type T) := by
  unfold tyD at e
  split at e
  · cases e; cases r.of_non; exact .base .non
  · cases e; cases r.of_bl; exact .base (.bl _)
  · cases e; cases r.of_int; exact .base (.int _)
  · cases e; cases r.of_str; exact .base (.str _)
  · cases e; obtain ⟨p, vs, rfl, h1, _⟩ := r.of_tup; exact sqt_ty h1
  · cases e; obtain ⟨p, vs, rfl, h1, _⟩ := r.of_cl; exact .base (.lst h1.1)
  · cases e
  · split at e
    · rename_i hS
      cases e
      obtain ⟨p, vs, rfl, _, h1, _⟩ := s.lst hS r
      exact .base (.lst h1)
    · rename_i hS
      cases e
      obtain ⟨p, rfl, q⟩ := r.of_ref
      obtain ⟨vs, h1, _⟩ := s.at _ _ p hS q
      exact .base (.dK h1)
    · rename_i hS
      cases e
      obtain ⟨p, rfl, q⟩ := r.of_ref
      obtain ⟨vs, h1, _⟩ := s.at _ _ p hS q
      exact .base (.dT h1)
    · cases e
/-- isinstance by the names of types: of the ones that are met here only bool lies within another one -/
def isiB (a b : String) : Bool := a == b || (a == "bool" && b == "int")
def names7 : List String := ["NoneType", "bool", "int", "str", "tuple", "list", "dict"]
theorem isi_kit : ∀ a ∈ names7, ∀ b ∈ names7, kitB a b = some (isiB a b) := by decide +kernel
theorem ty_mem {d : D} {S : Store} {T : String} (e : tyD d S = some T) : T ∈ names7 := by
  unfold tyD at e
  split at e
  · cases e; decide
  · cases e; decide
  · cases e; decide
  · cases e; decide
  · cases e; decide
  · cases e; decide
  · cases e
  · split at e
    · cases e; decide
    · cases e; decide
    · cases e; decide
    · cases e
def mIsi (T : String) (a : ME) : ME := fun env S => (a env S).bind fun p => (tyD p.1 p.2).map fun t => (.bl (isiB t T), p.2)
section
variable {X : Cx}
theorem pm_isi {T : String} {y : Str} {a : Expr} {ma : ME} {p p2 pos : Pos} (hT : T ∈ names7) (hg : Gl X "isinstance") (hm : X.mg "isinstance" = none) (ha : PM X a ma) (hgT : Gl X y) (hmT : X.mg y = none) (hv : bootBuiltins y = some (.type T)) (hn : y ≠ "__name__" := by decide) (hd : (y == ("__debug__" : Str)) = false := by decide)
    (hs2 : starEach [.Name y p2] X.env = (false, eval (.Name y p2) X.env) :: starEach [] X.env := by rfl)
    (hs : starEach (a :: [.Name y p2]) X.env = (false, eval a X.env) :: starEach [.Name y p2] X.env := by rfl) (hpl : (backTo pos (starEach [.Name y p2] X.env)).any (·.1) = false := by rfl) :
    PM X (.Call (.Name "isinstance" p) [a, .Name y p2] [] pos) (mIsi T ma) :=
  PEi (pe_callB call_isi hg hm (by decide +kernel) (pa_cons ha (pa_cons (pe_bltn (v := .ty T) hgT hmT hv rfl hn hd) pa_nil hs2) hs) (by decide) (by decide) hs hpl) fun σ H Q ⟨ρ, env, S, d, S', L, e, q⟩ => by
    obtain ⟨⟨x, S1⟩, e1, e⟩ := bind_some e
    obtain ⟨t, e2, e⟩ := map_some e
    cases e
    refine tM_at L e1 fun v H1 ρ1 g1 r1 => ?_
    exact ⟨v, .ty T, .type t, .type T, isiB t T, rfl, .ty T, ty_rel g1.s e2 r1, kit_ty (isi_kit t (ty_mem e2) T hT), q _ _ _ g1 (rel_bl _)⟩
end

/-! ### methods of lists and texts -/
def rMt (K : PySem.W.Frag) (f : D → FL) : V → List V → Hp → VK → Prop := fun x xs H Q => ∃ ρ S a ds d S', RelS K H ρ S ∧ Rel K H ρ a x ∧ RelL K H ρ ds xs ∧ f a ds S = some (d, S') ∧ ∀ v H' ρ', Go K H ρ H' ρ' S' → Rel K H' ρ' d v → Q v H'
def MtD (X : Cx) (id : String) (f : D → FL) : Prop := MtR X id (rMt X.K f)
/-- T: the type that the receiver must have -/
def mMeth (T : String) (f : D → FL) (o : ME) (a : MA) : ME := fun env S => (o env S).bind fun p => if tyD p.1 p.2 = some T then (a env p.2).bind fun q => f p.1 q.1 q.2 else none
theorem MtR.imp {X : Cx} {id : String} {r r' : V → List V → Hp → VK → Prop} (h : MtR X id r) (i : ∀ x xs H Q, r' x xs H Q → r x xs H Q) : MtR X id r' := fun pins s σ H x xs v us Q I rx rs q => h pins s σ H x xs v us Q I rx rs (i _ _ _ _ q)
theorem tyV_of {K : PySem.W.Frag} {H : Hp} {ρ : List Addr} {S : Store} (s : RelS K H ρ S) {d : D} {v : V} {T : String} (hT : T = "str" ∨ T = "list" ∨ T = "dict") (e : tyD d S = some T) (r : Rel K H ρ d v) : tyV K T v H := by
  unfold tyD at e
  split at e
  · cases e; rcases hT with h | h | h <;> exact absurd h (by decide)
  · cases e; rcases hT with h | h | h <;> exact absurd h (by decide)
  · cases e; rcases hT with h | h | h <;> exact absurd h (by decide)
  · cases e; cases r.of_str; rfl
  · cases e; rcases hT with h | h | h <;> exact absurd h (by decide)
  · cases e; obtain ⟨p, vs, rfl, h1, _⟩ := r.of_cl; exact .inl ⟨rfl, vs, clSq h1⟩
  · cases e
  · split at e
    · rename_i hS
      cases e
      obtain ⟨p, vs, rfl, _, h1, _⟩ := s.lst hS r
      exact .inl ⟨rfl, vs, SqL.of h1⟩
    · rename_i hS
      cases e
      obtain ⟨p, rfl, q⟩ := r.of_ref
      obtain ⟨vs, h1, _⟩ := s.at _ _ p hS q
      exact .inr (.inr (.inl ⟨rfl, .inl ⟨vs, h1⟩⟩))
    · rename_i hS
      cases e
      obtain ⟨p, rfl, q⟩ := r.of_ref
      obtain ⟨vs, h1, _⟩ := s.at _ _ p hS q
      exact .inr (.inr (.inl ⟨rfl, .inr ⟨vs, h1⟩⟩))
    · cases e
section
variable {X : Cx} {o e : Expr} {es : List Expr} {mo : ME} {ma : MA} {name : Str} {apos cpos : Pos} {T id : String} {f : D → FL}
theorem pm_meth0 (hT : T = "str" ∨ T = "list" ∨ T = "dict") (pa : PlainAttrs T) (slot : Slot T name id) (hty : typeOf (.builtin id) = pure (.type "method_descriptor")) (hm : MtD X id f) (ho : PM X o mo)
    (hbase : attributeBase o name X.env (eval o X.env) = eval o X.env := by rfl) (hline : (apos.endLine == cpos.line) = true := by rfl) : PM X (.Call (.Attribute o name apos) [] [] cpos) (mMeth T f mo mNil) :=
  PEi (pe_bm0 pa slot hty hm ho hbase hline) fun σ H Q ⟨ρ, env, S, d, S', L, e, q⟩ => by
    obtain ⟨⟨x, S1⟩, e1, e⟩ := bind_some e
    split at e
    · rename_i ht
      refine tM_at L e1 fun v H1 ρ1 g1 r1 => ⟨tyV_of g1.s hT ht r1, ρ1, S1, x, [], d, S', g1.s, r1, RelL.nil, e, fun v H2 ρ2 g2 r2 => q v H2 ρ2 (g1.trans g2) r2⟩
    · cases e
theorem pm_meth (hT : T = "str" ∨ T = "list" ∨ T = "dict") (pa : PlainAttrs T) (slot : Slot T name id) (hty : typeOf (.builtin id) = pure (.type "method_descriptor")) (hm : MtD X id f) (ho : PM X o mo) (ha : PMA X (e :: es) ma)
    (hbase : attributeBase o name X.env (eval o X.env) = eval o X.env := by rfl)
    (hfew : ((backTo cpos (starEach (e :: es) X.env)).all (fun x => !x.1) && (backToKw cpos (keywordEach [] X.env)).all (fun x => x.1.isSome)
      && decide ((e :: es).length + ([] : List Keyword).length + (if ([] : List Keyword).isEmpty then 0 else 1) < 30)) = true := by rfl)
    (hline : (apos.endLine == cpos.line) = true := by rfl) (hs : starEach (e :: es) X.env = (false, eval e X.env) :: starEach es X.env := by rfl) (hplain : (backTo cpos (starEach es X.env)).any (·.1) = false := by rfl) :
    PM X (.Call (.Attribute o name apos) (e :: es) [] cpos) (mMeth T f mo ma) :=
  PEi (pe_bm pa slot hty hm ho ha hbase hfew hline hs hplain) fun σ H Q ⟨ρ, env, S, d, S', L, e, q⟩ => by
    obtain ⟨⟨x, S1⟩, e1, e⟩ := bind_some e
    split at e
    · rename_i ht
      obtain ⟨⟨xs, S2⟩, e2, e⟩ := bind_some e
      refine tM_at L e1 fun v H1 ρ1 g1 r1 => ⟨tyV_of g1.s hT ht r1, ?_⟩
      refine tMA_at (L.next g1) e2 fun vs H2 ρ2 g2 r2 => ⟨ρ2, S2, x, xs, d, S', g2.s, r1.mono g2.le, r2, e, fun v H3 ρ3 g3 r3 => q v H3 ρ3 ((g1.trans g2).trans g3) r3⟩
    · cases e
/-- a list of the store is written -/
theorem setLst {K : PySem.W.Frag} {H : Hp} {ρ : List Addr} {S : Store} (s : RelS K H ρ S) {i : Nat} {a : Addr} {u : O} {ds : List D} {vs : List V} (hu : S[i]? = some u) (e : ρ[i]? = some a) (r : RelL K H ρ ds vs) (hx : Le H ρ (upd H a (.lst vs)) ρ) :
    Go K H ρ (upd H a (.lst vs)) ρ (S.set i (.lst ds)) := by
  obtain ⟨s', le⟩ := s.set (o := .lst vs) (ob := .lst ds) hu e ⟨vs, upd_same, r.mono hx⟩
  exact ⟨le, s'⟩
theorem lstLe {K : PySem.W.Frag} {H : Hp} {ρ : List Addr} {S : Store} (s : RelS K H ρ S) {i : Nat} {a : Addr} {u : O} {o : HO} (hu : S[i]? = some u) (e : ρ[i]? = some a) : Le H ρ (upd H a o) ρ := by
  obtain ⟨x, hx, ht, hf⟩ := (s.at i u a hu e).there
  exact Le.upd (List.mem_of_getElem? e) hx ht hf
def fAppend : D → FL := fun o ds S => match o, ds with
  | .ref i, [d] => match S[i]? with
    | some (.lst xs) => if xs.length < sizeLine then some (.non, S.set i (.lst (xs ++ [d]))) else none
    | _ => none
  | _, _ => none
theorem mt_mappend : MtD X "list.append" fAppend := by
  refine MtR.imp mt_append fun x xs H Q h => ?_
  obtain ⟨ρ, S, a, ds, d, S', s, ra, rl, e, q⟩ := h
  unfold fAppend at e
  split at e
  · split at e
    · rename_i hS
      split at e
      · rename_i hl
        cases e
        obtain ⟨v, rfl, r1⟩ := relL1 rl
        obtain ⟨p, vs, rfl, h0, h1, r2⟩ := s.lst hS ra
        have g := setLst s hS h0 (r2.append (.one r1)) (lstLe s hS h0)
        exact ⟨p, vs, v, rfl, rfl, h1, by rw [r2.length]; exact hl, q _ _ _ g rel_non⟩
      · cases e
    · cases e
  · cases e
def fExtend : D → FL := fun o ds S => match o, ds with
  | .ref i, [.ref j] => match S[i]?, S[j]? with
    | some (.lst xs), some (.lst ys) => if xs.length + ys.length ≤ sizeLine then some (.non, S.set i (.lst (xs ++ ys))) else none
    | _, _ => none
  | _, _ => none
theorem mt_mextend : MtD X "list.extend" fExtend := by
  refine MtR.imp mt_extend fun x xs H Q h => ?_
  obtain ⟨ρ, S, a, ds, d, S', s, ra, rl, e, q⟩ := h
  unfold fExtend at e
  split at e
  · split at e
    · rename_i hS hS2
      split at e
      · rename_i hl
        cases e
        obtain ⟨v, rfl, r1⟩ := relL1 rl
        obtain ⟨p, vs, rfl, h0, h1, r2⟩ := s.lst hS ra
        obtain ⟨p', vs', rfl, h0', h1', r2'⟩ := s.lst hS2 r1
        have g := setLst s hS h0 (r2.append r2') (lstLe s hS h0)
        exact ⟨p, p', vs, vs', rfl, rfl, h1, h1', by rw [r2.length, r2'.length]; exact hl, q _ _ _ g rel_non⟩
      · cases e
    · cases e
  · cases e
def fPop : D → FL := fun o ds S => match o, ds with
  | .ref i, [] => match S[i]? with
    | some (.lst xs) => match xs[xs.length - 1]? with
      | some d => some (d, S.set i (.lst xs.dropLast))
      | none => none
    | _ => none
  | .ref i, [.int k] => match S[i]? with
    | some (.lst xs) => if decide (-(2 ^ 63) ≤ k ∧ k < 2 ^ 63) then match seqIndex? k xs.length with
      | some j => match xs[j]? with
        | some d => some (d, S.set i (.lst (xs.eraseIdx j)))
        | none => none
      | none => none
      else none
    | _ => none
  | _, _ => none
theorem dropLast_rel {K : PySem.W.Frag} {H : Hp} {ρ : List Addr} {ds : List D} {vs : List V} (r : RelL K H ρ ds vs) : RelL K H ρ ds.dropLast vs.dropLast := by
  rw [List.dropLast_eq_take, List.dropLast_eq_take, r.length]
  exact r.take _
theorem mt_mpop : MtD X "list.pop" fPop := by
  refine MtR.imp (MtR.or mt_pop mt_popAt) fun x xs H Q h => ?_
  obtain ⟨ρ, S, a, ds, d, S', s, ra, rl, e, q⟩ := h
  unfold fPop at e
  split at e
  · split at e
    · rename_i hS
      split at e
      · rename_i hx
        cases e
        cases rl
        obtain ⟨p, vs, rfl, h0, h1, r2⟩ := s.lst hS ra
        obtain ⟨v, h2, r3⟩ := r2.get hx
        have le := lstLe (o := .lst vs.dropLast) s hS h0
        have g := setLst s hS h0 (dropLast_rel r2) le
        exact .inl ⟨p, vs, v, rfl, rfl, h1, by rw [r2.length]; exact h2, q _ _ _ g (r3.mono le)⟩
      · cases e
    · cases e
  · split at e
    · rename_i hS
      split at e
      · rename_i hk
        obtain ⟨k1, k2⟩ := of_decide_eq_true hk
        split at e
        · rename_i j hj
          split at e
          · rename_i hx
            cases e
            obtain ⟨v0, rfl, r0⟩ := relL1 rl
            cases r0.of_int
            obtain ⟨p, vs, rfl, h0, h1, r2⟩ := s.lst hS ra
            obtain ⟨v, h2, r3⟩ := r2.get hx
            have le := lstLe (o := .lst (vs.eraseIdx j)) s hS h0
            have g := setLst s hS h0 (r2.eraseIdx j) le
            exact .inr ⟨p, vs, _, j, v, rfl, rfl, h1, k1, k2, by rw [r2.length]; exact hj, h2, q _ _ _ g (r3.mono le)⟩
          · cases e
        · cases e
      · cases e
    · cases e
  · cases e
end
end PD

set_option Elab.async false
set_option linter.all false
set_option maxRecDepth 100000
set_option maxHeartbeats 4000000
/-! PdStmt: targets, statements, loops. -/
namespace PD
open PySem PySem.Spec PyProof.Rows L2
variable [Tabs]

/-! ### targets -/
abbrev MG := D → DEnv → Store → Option (DEnv × Store)
abbrev MGs := List D → DEnv → Store → Option (DEnv × Store)
def tMG (K : PySem.W.Frag) (g : MG) : TG := fun v σ H Q => ∃ ρ env S d env' S', Lie K σ H ρ env S ∧ Rel K H ρ d v ∧ g d env S = some (env', S') ∧ ∀ σ' H' ρ', Go K H ρ H' ρ' S' → RelE K H' ρ' env' σ' → Q σ' H'
def tMGs (K : PySem.W.Frag) (g : MGs) : TGs := fun vs σ H Q => ∃ ρ env S ds env' S', Lie K σ H ρ env S ∧ RelL K H ρ ds vs ∧ g ds env S = some (env', S') ∧ ∀ σ' H' ρ', Go K H ρ H' ρ' S' → RelE K H' ρ' env' σ' → Q σ' H'
abbrev PMG (X : Cx) (tg : Expr) (g : MG) : Prop := PG X tg (tMG X.K g)
abbrev PMGs (X : Cx) (tg : List Expr) (g : MGs) : Prop := PGs X tg (tMGs X.K g)
def mgName (i : Nat) : MG := fun d env S => some (env.set i (some d), S)
def mgNil : MGs := fun ds env S => match ds with
  | [] => some (env, S)
  | _ => none
def mgCons (g : MG) (r : MGs) : MGs := fun ds env S => match ds with
  | d :: ds => (g d env S).bind fun p => r ds p.1 p.2
  | _ => none
def mgTup (n : Nat) (g : MGs) : MG := fun d env S => match d with
  | .tup ds => if ds.length = n then g ds env S else none
  | _ => none
def mgSub (o i : ME) : MG := fun d env S => (o env S).bind fun p => (i env p.2).bind fun q => match p.1, q.1 with
  | .ref j, .int k => match q.2[j]? with
    | some (.lst xs) => (ixN xs.length k).map fun m => (env, q.2.set j (.lst (xs.set m d)))
    | _ => none
  | _, _ => none
section
variable {X : Cx} {pos : Pos}
theorem PGi {e : Expr} {t t' : TG} (h : PG X e t) (i : ∀ v σ H Q, t' v σ H Q → t v σ H Q) : PG X e t' := ⟨fun pins s σ H v u Q I r q => h.run pins s σ H v u Q I r (i v σ H Q q)⟩
theorem PGsi {e : List Expr} {t t' : TGs} (h : PGs X e t) (i : ∀ v σ H Q, t' v σ H Q → t v σ H Q) : PGs X e t' := ⟨fun pins s σ H v u Q I r q => h.run pins s σ H v u Q I r (i v σ H Q q)⟩
theorem pg_mname {i : Nat} {x : Str} (hN : X.N.Nodup) (hi : X.N[i]? = some x) (hx : Loc X.env.scope x) (hf : X.fn x = true ∨ X.env.scope.names.lookup x = some .local := by first | exact .inl rfl | exact .inr rfl | assumption) : PMG X (.Name x pos) (mgName i) :=
  PGi (pg_name hN hi hx hf) fun v σ H Q ⟨ρ, env, S, d, env', S', L, r, e, q⟩ => by
    cases e
    exact q _ _ _ L.go (L.e.set i r)
theorem pgs_mnil : PMGs X [] mgNil := PGsi pgs_nil fun v σ H Q ⟨ρ, env, S, d, env', S', L, r, e, q⟩ => by
  unfold mgNil at e
  split at e
  · cases e; cases r
    exact ⟨rfl, q _ _ _ L.go L.e⟩
  · cases e
theorem pgs_mcons {e : Expr} {es : List Expr} {g : MG} {r : MGs} (h1 : PMG X e g) (h2 : PMGs X es r)
    (hs : (assignEach (e :: es) X.env).map (·.2) = assign e X.env :: (assignEach es X.env).map (·.2) := by rfl) : PMGs X (e :: es) (mgCons g r) :=
  PGsi (pgs_cons h1 h2 hs) fun v σ H Q ⟨ρ, env, S, d, env', S', L, rr, e, q⟩ => by
    unfold mgCons at e
    split at e
    · obtain ⟨⟨env1, S1⟩, e1, e⟩ := bind_some e
      obtain ⟨v, vs, rfl, r1, r2⟩ := rr
      refine ⟨v, vs, rfl, ρ, env, S, _, env1, S1, L, r1, e1, fun σ1 H1 ρ1 g1 le1 => ?_⟩
      exact ⟨ρ1, env1, S1, _, env', S', ⟨le1, g1.s⟩, r2.mono g1.le, e, fun σ2 H2 ρ2 g2 le2 => q _ _ _ (g1.trans g2) le2⟩
    · cases e
theorem pg_mtup {es : List Expr} {k : Nat} {t : MGs} {n : Nat} (hc : X.calm = true) (h : PMGs X es t)
    (hn : (assignEach es X.env).length = n := by rfl) (hst : (assignEach es X.env).findIdx? (·.1) = none := by rfl) : PMG X (.Tuple es k pos) (mgTup n t) :=
  PGi (pg_tup hc h hn hst) fun v σ H Q ⟨ρ, env, S, d, env', S', L, r, e, q⟩ => by
    unfold mgTup at e
    split at e
    · split at e
      · rename_i hl
        obtain ⟨p, vs, rfl, h1, r1⟩ := r.of_tup
        exact ⟨p, vs, rfl, h1, r1.length.trans hl, ρ, env, S, _, env', S', L, r1, e, q⟩
      · cases e
    · cases e
theorem pg_msub {o i : Expr} {mo mi : ME} (ho : PM X o mo) (hi : PM X i mi)
    (ha : ∀ v, assign (.Subscript o i pos) X.env v = (do
      let ov ← holding [v] (eval o X.env)
      let iv ← holding [v, ov] (eval i X.env)
      standAt pos
      holding [v, ov, iv] (setItem ov iv v)
      release [v, ov, iv] []) := by intro _; rfl) : PMG X (.Subscript o i pos) (mgSub mo mi) :=
  PGi (pg_sub ho hi set_list ha) fun v σ H Q ⟨ρ, env, S, d, env', S', L, r, e, q⟩ => by
    obtain ⟨⟨x, S1⟩, e1, e⟩ := bind_some e
    obtain ⟨⟨y, S2⟩, e2, e⟩ := bind_some e
    refine tM_at L e1 fun u H1 ρ1 g1 r1 => tM_at (L.next g1) e2 fun w H2 ρ2 g2 r2 => ?_
    dsimp only at e
    split at e
    · split at e
      · rename_i hS
        obtain ⟨m, e3, e4⟩ := map_some e
        cases e4
        cases r2.of_int
        have r1' := r1.mono g2.le
        obtain ⟨p, vs, rfl, h0, h1, r3⟩ := g2.s.lst hS r1'
        have g := g1.trans g2
        have g3 := setLst g2.s hS h0 (r3.set m (r.mono g.le)) (lstLe g2.s hS h0)
        exact ⟨p, vs, _, m, rfl, rfl, h1, by rw [r3.length]; exact e3, q _ _ _ (g.trans g3) ((L.e.mono g.le).mono g3.le)⟩
      · cases e
    · cases e
end

/-! ### statements -/
def sPass : MS := fun env S => some (.nx env S)
def sBreak : MS := fun env S => some (.bk env S)
def sCont : MS := fun env S => some (.ct env S)
def sNever : MS := fun _ _ => none
def sSeq (a b : MS) : MS := fun env S => (a env S).bind fun o => match o with
  | .nx env' S' => b env' S'
  | o => some o
def sExpr (m : ME) : MS := fun env S => (m env S).map fun p => .nx env p.2
def sRet (m : ME) : MS := fun env S => (m env S).map fun p => .rt p.1 p.2
def sRetN : MS := fun _ S => some (.rt .non S)
def sIf (t : MT) (a b : MS) : MS := fun env S => (t env S).bind fun p => if p.1 then a env p.2 else b env p.2
def sAsg (m : ME) (g : MG) : MS := fun env S => (m env S).bind fun p => (g p.1 env p.2).map fun q => .nx q.1 q.2
/-- a, b = x, y (both written) -/
def sPar2 (i j : Nat) (a : MA) : MS := fun env S => (a env S).bind fun p => match p.1 with
  | [x, y] => some (.nx ((env.set i (some x)).set j (some y)) p.2)
  | _ => none
def sAug (f : F2) (i : Nat) (m : ME) : MS := fun env S => match env[i]? with
  | some (some x) => (m env S).bind fun p => (f x p.1 p.2).map fun q => .nx (env.set i (some q.1)) q.2
  | _ => none
section
variable {X : Cx} {pos : Pos} {e : Expr} {m : ME} {st : Stmt} {rest : List Stmt} {a b : MS}
theorem ps_mpass : PMS X (.Pass pos) sPass := PSi ps_pass fun D σ H ⟨ρ, env, S, o, L, e, q⟩ => by
  cases e; exact q _ _ _ L.go L.e
theorem ps_mbreak : PMS X (.Break pos) sBreak := PSi ps_break fun D σ H ⟨ρ, env, S, o, L, e, q⟩ => by
  cases e; exact q _ _ _ L.go L.e
theorem ps_mcont : PMS X (.Continue pos) sCont := PSi ps_continue fun D σ H ⟨ρ, env, S, o, L, e, q⟩ => by
  cases e; exact q _ _ _ L.go L.e
theorem ps_mnever : PMS X st sNever := PSi ps_never fun D σ H ⟨ρ, env, S, o, L, e, q⟩ => by cases e
theorem pb_nil : PMB X [] sPass := PSsi pss_nil fun D σ H ⟨ρ, env, S, o, L, e, q⟩ => by
  cases e; exact q _ _ _ L.go L.e
theorem pb_cons (h1 : PMS X st a) (h2 : PMB X rest b) : PMB X (st :: rest) (sSeq a b) := PSsi (pss_cons h1 h2) fun D σ H ⟨ρ, env, S, o, L, e, q⟩ => by
  obtain ⟨o1, e1, e⟩ := bind_some e
  refine tMS_at L e1 ?_
  cases o1 with
  | nx env1 S1 =>
    intro σ1 H1 ρ1 g1 le1
    exact tMS_at ⟨le1, g1.s⟩ e (q.go g1)
  | rt d S1 => cases e; exact q
  | bk env1 S1 => cases e; exact q
  | ct env1 S1 => cases e; exact q
theorem pb_one (h1 : PMS X st a) : PMB X [st] a := PSsi (pss_one h1) fun D σ H h => h
theorem ps_mexpr (he : PM X e m) (hs : swapsWith e none pos.line X.env = pure false := by rfl) : PMS X (.Expr e pos) (sExpr m) := PSi (ps_expr he hs) fun D σ H ⟨ρ, env, S, o, L, e, q⟩ => by
  obtain ⟨⟨d, S1⟩, e1, e2⟩ := map_some e
  cases e2
  exact tM_at L e1 fun v H1 ρ1 g1 r1 => q _ _ _ g1 (L.e.mono g1.le)
theorem ps_mdoc {x j pos pos'} : PMS X (.Expr (.Constant (.str x) j pos) pos') sPass := PSi ps_doc fun D σ H ⟨ρ, env, S, o, L, e, q⟩ => by
  cases e; exact q _ _ _ L.go L.e
theorem ps_mret (he : PM X e m) : PMS X (.Return (some e) pos) (sRet m) := PSi (ps_ret he) fun D σ H ⟨ρ, env, S, o, L, e, q⟩ => by
  obtain ⟨⟨d, S1⟩, e1, e2⟩ := map_some e
  cases e2
  exact tM_at L e1 fun v H1 ρ1 g1 r1 => q _ _ _ g1 r1
theorem ps_mretn : PMS X (.Return none pos) sRetN := PSi ps_retN fun D σ H ⟨ρ, env, S, o, L, e, q⟩ => by
  cases e; exact q _ _ _ L.go rel_non
theorem ps_mif {c : Expr} {x y : List Stmt} {t : MT} (hc : PMT X c t) (ha : PMB X x a) (hb : PMB X y b) : PMS X (.If c x y pos) (sIf t a b) := PSi (ps_if hc ha hb) fun D σ H ⟨ρ, env, S, o, L, e, q⟩ => by
  obtain ⟨⟨k, S1⟩, e1, e⟩ := bind_some e
  refine tMT_at L e1 fun H1 ρ1 g1 => ?_
  cases k with
  | true => exact iteT (tMS_at (L.next g1) e (q.go g1))
  | false => exact iteF (tMS_at (L.next g1) e (q.go g1))
theorem ps_masg {tg : Expr} {g : MG} (he : PM X e m) (hg : PMG X tg g) (hs : swapsWithSole [tg] e pos.line X.env = pure false := by rfl) (hw : swappedStores [tg] e X.env = pure none := by rfl)
    (h1 : (assignEach [tg] X.env).map (·.2) = [assign tg X.env] := by rfl) : PMS X (.Assign [tg] e pos) (sAsg m g) := PSi (ps_asg he hg hs hw h1) fun D σ H ⟨ρ, env, S, o, L, e, q⟩ => by
  obtain ⟨⟨d, S1⟩, e1, e⟩ := bind_some e
  obtain ⟨⟨env2, S2⟩, e2, e3⟩ := map_some e
  cases e3
  refine tM_at L e1 fun v H1 ρ1 g1 r1 => ?_
  exact ⟨ρ1, env, S1, d, env2, S2, L.next g1, r1, e2, fun σ2 H2 ρ2 g2 le2 => q _ _ _ (g1.trans g2) le2⟩
theorem ps_mset {i : Nat} {x : Str} {pos' : Pos} (hN : X.N.Nodup) (hi : X.N[i]? = some x) (hx : Loc X.env.scope x) (he : PM X e m) (hs : swapsWith e (some (.Name x pos')) pos.line X.env = pure false := by rfl) (hf : X.fn x = true ∨ X.env.scope.names.lookup x = some .local := by first | exact .inl rfl | exact .inr rfl | assumption) :
    PMS X (.Assign [.Name x pos'] e pos) (sAsg m (mgName i)) := PSi (ps_set hN hi hx he hs hf) fun D σ H ⟨ρ, env, S, o, L, e, q⟩ => by
  obtain ⟨⟨d, S1⟩, e1, e⟩ := bind_some e
  obtain ⟨⟨env2, S2⟩, e2, e3⟩ := map_some e
  cases e3; cases e2
  exact tM_at L e1 fun v H1 ρ1 g1 r1 => q _ _ _ g1 ((L.e.mono g1.le).set i r1)
theorem ps_mpar2 {i j : Nat} {x y : Str} {e1 e2 : Expr} {ma : MA} {px py pt : Pos} {kt k2 pt2} (hc : X.calm = true) (hN : X.N.Nodup) (hi : X.N[i]? = some x) (hj : X.N[j]? = some y) (hij : i ≠ j)
    (hx : X.env.scope.names.lookup x = some .local) (hy : X.env.scope.names.lookup y = some .local) (ha : PMA X [e1, e2] ma)
    (hw : swappedStores [.Tuple [.Name x px, .Name y py] kt pt] (.Tuple [e1, e2] k2 pt2) X.env = pure (some [x, y]))
    (hs : swapsWithSole [.Tuple [.Name x px, .Name y py] kt pt] (.Tuple [e1, e2] k2 pt2) pos.line X.env = pure false := by rfl) :
    PMS X (.Assign [.Tuple [.Name x px, .Name y py] kt pt] (.Tuple [e1, e2] k2 pt2) pos) (sPar2 i j ma) := PSi (ps_par hc hN hi hj hij hx hy ha hw hs) fun D σ H ⟨ρ, env, S, o, L, e, q⟩ => by
  obtain ⟨⟨ds, S1⟩, e1, e⟩ := bind_some e
  dsimp only at e
  split at e
  · rename_i d1 d2
    cases e
    refine tMA_at L e1 fun vs H1 ρ1 g1 r1 => ?_
    obtain ⟨v, u, rfl, r2, r3⟩ := relL2 r1
    exact ⟨v, u, rfl, q _ _ _ g1 (((L.e.mono g1.le).set i r2).set j r3)⟩
  · cases e
/-- name op= e -/
def IpD (X : Cx) (op : Operator) (f : F2) : Prop := OpR X (inplaceOp op) (rD X.K f)
theorem ps_maug {i : Nat} {x : Str} {op : Operator} {f : F2} {pos' : Pos} (hN : X.N.Nodup) (hi : X.N[i]? = some x) (hx : Loc X.env.scope x) (he : PM X e m) (ho : IpD X op f) (hf : X.fn x = true ∨ X.env.scope.names.lookup x = some .local := by first | exact .inl rfl | exact .inr rfl | assumption) :
    PMS X (.AugAssign (.Name x pos') op e pos) (sAug f i m) := PSi (ps_aug (ti := rD X.K f) hN hi hx he (fun pins s σ H x y v u Q I rx ry q => ho pins s σ H x y v u Q I rx ry q) hf) fun D σ H ⟨ρ, env, S, o, L, e, q⟩ => by
  unfold sAug at e
  split at e
  · rename_i d hd
    obtain ⟨⟨d1, S1⟩, e1, e⟩ := bind_some e
    obtain ⟨⟨d2, S2⟩, e2, e3⟩ := map_some e
    cases e3
    obtain ⟨v, hv, rv⟩ := L.e.2 i d hd
    refine ⟨v, hv, tM_at L e1 fun u H1 ρ1 g1 r1 => ?_⟩
    exact ⟨ρ1, S1, d, d1, d2, S2, g1.s, rv.mono g1.le, r1, e2, fun z H2 ρ2 g2 r2 => q _ _ _ (g1.trans g2) ((L.e.mono (g1.trans g2).le).set i r2)⟩
  · cases e
def fIAdd : F2 := fun a b S => match a, b with
  | .int i, .int j => some (.int (i + j), S)
  | .str x, .str y => if x.length + y.length ≤ sizeLine then some (.str (x ++ y), S) else none
  | _, _ => none
theorem ip_madd : IpD X .Add fIAdd := by
  refine OpR.imp (iop_add.or iop_add_str) fun x y H Q h => ?_
  obtain ⟨ρ, S, a, b, d, S', s, ra, rb, e, q⟩ := h
  unfold fIAdd at e
  split at e
  · cases e; cases ra.of_int; cases rb.of_int
    exact .inl ⟨_, _, rfl, rfl, q _ _ _ (.refl s) (rel_int _)⟩
  · split at e
    · cases e; cases ra.of_str; cases rb.of_str
      exact .inr ⟨_, _, rfl, rfl, by assumption, q _ _ _ (.refl s) (rel_str _)⟩
    · cases e
  · cases e
theorem ip_msub : IpD X .Sub fSub := by
  refine OpR.imp iop_sub fun x y H Q h => ?_
  obtain ⟨ρ, S, a, b, d, S', s, ra, rb, e, q⟩ := h
  unfold fSub at e
  split at e
  · cases e; cases ra.of_int; cases rb.of_int
    exact ⟨_, _, rfl, rfl, q _ _ _ (.refl s) (rel_int _)⟩
  · cases e
end

/-! ### while -/
def whGo (t : MT) (b : MS) : Nat → DEnv → Store → Option Out
  | 0, _, _ => none
  | n + 1, env, S => (t env S).bind fun p => if p.1 then (b env p.2).bind fun o => match o with
    | .nx env' S' => whGo t b n env' S'
    | .ct env' S' => whGo t b n env' S'
    | .bk env' S' => some (.nx env' S')
    | .rt d S' => some (.rt d S')
    else some (.nx env p.2)
/-- turns of a while at most -/
def wTurns : Nat := 1000000
def sWhile (t : MT) (b : MS) : MS := whGo t b wTurns
theorem whGo_mono {t : MT} {b : MS} : ∀ {n m : Nat} {env : DEnv} {S : Store} {o : Out}, n ≤ m → whGo t b n env S = some o → whGo t b m env S = some o
  | 0, _, _, _, _, _, h => by cases h
  | n + 1, 0, _, _, _, h, _ => by omega
  | n + 1, m + 1, env, S, o, h, e => by
    rw [whGo] at e ⊢
    obtain ⟨⟨k, S1⟩, e1, e⟩ := bind_some e
    rw [e1, Option.bind_some]
    dsimp only at e ⊢
    split at e
    · rename_i hk
      rw [if_pos hk]
      obtain ⟨o1, e2, e⟩ := bind_some e
      rw [e2, Option.bind_some]
      cases o1 with
      | nx env1 S2 => exact whGo_mono (by omega) e
      | ct env1 S2 => exact whGo_mono (by omega) e
      | bk _ _ => exact e
      | rt _ _ => exact e
    · rename_i hk
      rw [if_neg hk]
      exact e
section
variable {X : Cx} {pos : Pos}
theorem ps_mwhile {c : Expr} {body : List Stmt} {t : MT} {b : MS} (hp : PassesOwn (model X.prog X.w) X.A X.env X.xe) (hc : PMT X c t) (hb : PMB X body b) : PMS X (.While c body [] pos) (sWhile t b) := by
  refine PSi (ps_while hp hc hb) fun D σ H ⟨ρ, env, S, o, L, e, q⟩ => ?_
  refine ⟨fun n σ1 H1 => ∃ ρ1 env1 S1, Lie X.K σ1 H1 ρ1 env1 S1 ∧ whGo t b n env1 S1 = some o ∧ OutQ X.K D H1 ρ1 o, ⟨wTurns, ρ, env, S, L, e, q⟩, ?_⟩
  rintro n σ1 H1 ⟨ρ1, env1, S1, L1, e1, q1⟩
  cases n with
  | zero => cases e1
  | succ n =>
    rw [whGo] at e1
    obtain ⟨⟨k, S2⟩, e2, e1⟩ := bind_some e1
    refine tMT_at L1 e2 fun H2 ρ2 g2 => ?_
    have L2 := L1.next g2
    cases k with
    | false =>
      cases e1
      exact iteF (q1 _ _ _ g2 (L1.e.mono g2.le))
    | true =>
      refine iteT ?_
      obtain ⟨o1, e3, e1⟩ := bind_some e1
      refine ⟨fun σ3 H3 => ∃ ρ3 env3 S3, Lie X.K σ3 H3 ρ3 env3 S3 ∧ whGo t b n env3 S3 = some o ∧ OutQ X.K D H3 ρ3 o, fun σ3 H3 h => ⟨n, Nat.lt_succ_self n, h⟩, tMS_at L2 e3 ?_⟩
      cases o1 with
      | nx env3 S3 => exact fun σ3 H3 ρ3 g3 le3 => ⟨ρ3, env3, S3, ⟨le3, g3.s⟩, e1, q1.go (g2.trans g3)⟩
      | ct env3 S3 => exact fun σ3 H3 ρ3 g3 le3 => ⟨ρ3, env3, S3, ⟨le3, g3.s⟩, e1, q1.go (g2.trans g3)⟩
      | bk env3 S3 => cases e1; exact fun σ3 H3 ρ3 g3 le3 => q1 _ _ _ (g2.trans g3) le3
      | rt d S3 => cases e1; exact fun v H3 ρ3 g3 r3 => q1 _ _ _ (g2.trans g3) r3
end

/-! ### what is walked -/
abbrev MI := DEnv → Store → Option (List D × List Nat × Store)
/-- the lists of the store that are walked stand as they stood -/
def kept (ds : List Nat) (S0 S : Store) : Bool := ds.all fun i => decide (S[i]? = S0[i]?)
structure Yields (K : PySem.W.Frag) (J : It) (items : List D) (deps : List Nat) (H0 : Hp) (ρ0 : List Addr) (S0 : Store) : Prop where
  go : ∀ (i : Nat) (H : Hp) (ρ : List Addr) (S : Store), Go K H0 ρ0 H ρ S → kept deps S0 S = true → i < items.length → J.go i H
  yld : ∀ (i : Nat) (H : Hp) (ρ : List Addr) (S : Store), Go K H0 ρ0 H ρ S → kept deps S0 S = true → i < items.length → ∀ x H', J.yld i H x H' → ∃ d, items[i]? = some d ∧ Go K H ρ H' ρ S ∧ Rel K H' ρ d x
  stop : ∀ (H : Hp) (ρ : List Addr) (S : Store), Go K H0 ρ0 H ρ S → kept deps S0 S = true → J.stop items.length H
def tMI (K : PySem.W.Frag) (m : MI) : TI := fun σ H R => ∃ ρ env S items deps S', Lie K σ H ρ env S ∧ m env S = some (items, deps, S') ∧ ∀ J H' ρ', Go K H ρ H' ρ' S' → Yields K J items deps H' ρ' S' → R J H'
abbrev PMI (X : Cx) (tg iter : Expr) (m : MI) : Prop := PI X tg iter (tMI X.K m)
theorem PIi {X : Cx} {tg e : Expr} {t t' : TI} (h : PI X tg e t) (i : ∀ σ H R, t' σ H R → t σ H R) : PI X tg e t' := ⟨fun pins s σ H R I q => h.run pins s σ H R I (i σ H R q)⟩
/-- the turns -/
def forGo (deps : List Nat) (g : MG) (b : MS) : List D → DEnv → Store → Option Out
  | [], env, S => some (.nx env S)
  | d :: r, env, S => (g d env S).bind fun p => (b p.1 p.2).bind fun o => match o with
    | .nx env' S' => if kept deps S S' then forGo deps g b r env' S' else none
    | .ct env' S' => if kept deps S S' then forGo deps g b r env' S' else none
    | .bk env' S' => some (.nx env' S')
    | .rt d S' => some (.rt d S')
def sFor (it : MI) (g : MG) (b : MS) : MS := fun env S => (it env S).bind fun p => forGo p.2.1 g b p.1 env p.2.2
theorem kept_refl (ds : List Nat) (S : Store) : kept ds S S = true := by
  unfold kept
  rw [List.all_eq_true]
  intro i _
  exact decide_eq_true rfl
theorem kept_trans {ds : List Nat} {S0 S1 S2 : Store} (h : kept ds S0 S1 = true) (k : kept ds S1 S2 = true) : kept ds S0 S2 = true := by
  unfold kept at h k ⊢
  rw [List.all_eq_true] at h k ⊢
  intro i hi
  exact decide_eq_true ((of_decide_eq_true (k i hi)).trans (of_decide_eq_true (h i hi)))
section
variable {X : Cx} {pos : Pos}
theorem ps_mfor {tg iter : Expr} {body : List Stmt} {it : MI} {g : MG} {b : MS} (hp : PassesOwn (model X.prog X.w) X.A X.env X.xe) (hc : X.calm = true) (hi : PMI X tg iter it) (hg : PMG X tg g) (hb : PMB X body b)
    (hs : ∀ x, foldedSetIterable iter X.env x = pure x := by intro _; rfl) : PMS X (.For tg iter body [] pos) (sFor it g b) := by
  refine PSi (ps_for hp hc hi hg hb hs) fun D σ H ⟨ρ, env, S, o, L, e, q⟩ => ?_
  obtain ⟨⟨items, deps, S1⟩, e1, e⟩ := bind_some e
  refine ⟨ρ, env, S, items, deps, S1, L, e1, fun J H1 ρ1 g1 Y => ?_⟩
  refine ⟨fun i m σ2 H2 => ∃ ρ2 env2 S2, i + m = items.length ∧ Go X.K H1 ρ1 H2 ρ2 S2 ∧ kept deps S1 S2 = true ∧ RelE X.K H2 ρ2 env2 σ2 ∧ forGo deps g b (items.drop i) env2 S2 = some o,
    ⟨items.length, ρ1, env, S1, by omega, .refl g1.s, kept_refl _ _, L.e.mono g1.le, by rw [List.drop_zero]; exact e⟩, ?_⟩
  rintro i m σ2 H2 ⟨ρ2, env2, S2, hl, g2, k2, le2, e2⟩
  have L2 : Lie X.K σ2 H2 ρ2 env2 S2 := ⟨le2, g2.s⟩
  by_cases hi : i < items.length
  · refine .inr ⟨Y.go i H2 ρ2 S2 g2 k2 hi, ?_⟩
    rw [List.drop_eq_getElem_cons hi, forGo] at e2
    obtain ⟨⟨env3, S3⟩, e3, e2⟩ := bind_some e2
    obtain ⟨o1, e4, e2⟩ := bind_some e2
    refine ⟨fun σ5 H5 => ∃ ρ5 env5 S5, Go X.K H1 ρ1 H5 ρ5 S5 ∧ kept deps S1 S5 = true ∧ RelE X.K H5 ρ5 env5 σ5 ∧ forGo deps g b (items.drop (i + 1)) env5 S5 = some o,
      fun σ5 H5 ⟨ρ5, env5, S5, a1, a2, a3, a4⟩ => ⟨m - 1, by omega, ρ5, env5, S5, by omega, a1, a2, a3, a4⟩, fun x H3 y => ?_⟩
    obtain ⟨d, hd, g3, r3⟩ := Y.yld i H2 ρ2 S2 g2 k2 hi x H3 y
    rw [List.getElem?_eq_getElem hi] at hd
    cases hd
    refine ⟨ρ2, env2, S2, _, env3, S3, L2.next g3, r3, e3, fun σ4 H4 ρ4 g4 le4 => ?_⟩
    refine tMS_at ⟨le4, g4.s⟩ e4 ?_
    have g24 := (g2.trans g3).trans g4
    cases o1 with
    | nx env5 S5 =>
      intro σ5 H5 ρ5 g5 le5
      dsimp only at e2
      split at e2
      · rename_i hk
        exact ⟨ρ5, env5, S5, g24.trans g5, kept_trans k2 hk, le5, e2⟩
      · cases e2
    | ct env5 S5 =>
      intro σ5 H5 ρ5 g5 le5
      dsimp only at e2
      split at e2
      · rename_i hk
        exact ⟨ρ5, env5, S5, g24.trans g5, kept_trans k2 hk, le5, e2⟩
      · cases e2
    | bk env5 S5 =>
      intro σ5 H5 ρ5 g5 le5
      cases e2
      exact q _ _ _ (g1.trans (g24.trans g5)) le5
    | rt d S5 =>
      intro v H5 ρ5 g5 r5
      cases e2
      exact q _ _ _ (g1.trans (g24.trans g5)) r5
  · have : i = items.length := by omega
    subst this
    rw [List.drop_length, forGo] at e2
    cases e2
    exact .inl ⟨Y.stop H2 ρ2 S2 g2 k2, q _ _ _ (g1.trans g2) le2⟩

/-! #### lists, tuples, texts; ranges; pairs -/
def signs (z : Str) : List D := z.cps.toList.map fun c => .str ⟨#[c]⟩
def iSeq (m : ME) : MI := fun env S => (m env S).bind fun p => match p.1 with
  | .tup ds => some (ds, [], p.2)
  | .cl ds => some (ds, [], p.2)
  | .str z => some (signs z, [], p.2)
  | .ref i => match p.2[i]? with
    | some (.lst ds) => some (ds, [i], p.2)
    | _ => none
  | _ => none
theorem kept_one {i : Nat} {S0 S : Store} (h : kept [i] S0 S = true) : S[i]? = S0[i]? := by
  simpa [kept] using h
theorem cl_mono {H H' : Hp} {ρ ρ' : List Addr} {a : Addr} {vs : List V} (x : Le H ρ H' ρ') (h : H a = some (.lst vs) ∧ a ∉ ρ) : H' a = some (.lst vs) ∧ a ∉ ρ' := x.keep a vs h.1 h.2
theorem y_tup {K : PySem.W.Frag} {H : Hp} {ρ : List Addr} {S : Store} {a : Addr} {vs : List V} {ds : List D} (h : SqT K H a vs) (r : RelL K H ρ ds vs) : Yields K (Itt K a) ds [] H ρ S where
  go := fun i H' ρ' S' g _ hi => ⟨vs, vs[i]'(by rw [r.length]; exact hi), g.le.sqt h, List.getElem?_eq_getElem _⟩
  yld := fun i H' ρ' S' g _ hi x H2 ⟨e, y⟩ => by
    subst e
    obtain ⟨d, hd, rd⟩ := (r.mono g.le).get' (y vs (g.le.sqt h))
    exact ⟨d, hd, .refl g.s, rd⟩
  stop := fun H' ρ' S' g _ => ⟨vs, g.le.sqt h, Nat.le_of_eq r.length⟩
theorem y_cl {K : PySem.W.Frag} {H : Hp} {ρ : List Addr} {S : Store} {a : Addr} {vs : List V} {ds : List D} (h : H a = some (.lst vs) ∧ a ∉ ρ) (r : RelL K H ρ ds vs) : Yields K (Itl K a) ds [] H ρ S where
  go := fun i H' ρ' S' g _ hi => ⟨vs, vs[i]'(by rw [r.length]; exact hi), clSq (cl_mono g.le h), List.getElem?_eq_getElem _⟩
  yld := fun i H' ρ' S' g _ hi x H2 ⟨e, y⟩ => by
    subst e
    obtain ⟨d, hd, rd⟩ := (r.mono g.le).get' (y vs (clSq (cl_mono g.le h)))
    exact ⟨d, hd, .refl g.s, rd⟩
  stop := fun H' ρ' S' g _ => ⟨vs, clSq (cl_mono g.le h), Nat.le_of_eq r.length⟩
/-- a list of the store, as it stands while it is kept -/
theorem dep_lst {K : PySem.W.Frag} {H H' : Hp} {ρ ρ' : List Addr} {S S' : Store} {i : Nat} {a : Addr} {ds : List D} (e : S[i]? = some (.lst ds)) (q : ρ[i]? = some a) (g : Go K H ρ H' ρ' S') (k : S'[i]? = S[i]?) :
    ∃ vs, SqL K H' a vs ∧ RelL K H' ρ' ds vs := by
  have q' : ρ'[i]? = some a := by
    obtain ⟨t, rfl⟩ := g.le.pre
    rw [List.getElem?_append_left (List.getElem?_eq_some_iff.mp q).1]
    exact q
  obtain ⟨vs, h1, h2⟩ := g.s.at i _ a (k.trans e) q'
  exact ⟨vs, SqL.of h1, h2⟩
theorem y_lst {K : PySem.W.Frag} {H : Hp} {ρ : List Addr} {S : Store} {i : Nat} {a : Addr} {ds : List D} (e : S[i]? = some (.lst ds)) (q : ρ[i]? = some a) : Yields K (Itl K a) ds [i] H ρ S where
  go := fun j H' ρ' S' g k hj => by
    obtain ⟨vs, h1, r⟩ := dep_lst e q g (kept_one k)
    exact ⟨vs, vs[j]'(by rw [r.length]; exact hj), h1, List.getElem?_eq_getElem _⟩
  yld := fun j H' ρ' S' g k hj x H2 ⟨e2, y⟩ => by
    subst e2
    obtain ⟨vs, h1, r⟩ := dep_lst e q g (kept_one k)
    obtain ⟨d, hd, rd⟩ := r.get' (y vs h1)
    exact ⟨d, hd, .refl g.s, rd⟩
  stop := fun H' ρ' S' g k => by
    obtain ⟨vs, h1, r⟩ := dep_lst e q g (kept_one k)
    exact ⟨vs, h1, Nat.le_of_eq r.length⟩
theorem y_str {K : PySem.W.Frag} {H : Hp} {ρ : List Addr} {S : Store} (z : Str) : Yields K (Its z) (signs z) [] H ρ S where
  go := fun i H' ρ' S' g _ hi => by
    have : i < z.cps.size := by simpa [signs] using hi
    exact this
  yld := fun i H' ρ' S' g _ hi x H2 ⟨e, c, hc, ex⟩ => by
    subst e; subst ex
    refine ⟨.str ⟨#[c]⟩, ?_, .refl g.s, rel_str _⟩
    unfold signs
    rw [List.getElem?_map, Array.getElem?_toList, hc]; rfl
  stop := fun H' ρ' S' g _ => by
    show z.cps.size ≤ (signs z).length
    simp [signs]
theorem pi_mseq {tg e : Expr} {m : ME} (he : PM X e m) : PMI X tg e (iSeq m) := by
  refine ⟨fun pins s σ H R I h => ?_⟩
  obtain ⟨ρ, env, S, items, deps, S', L, h1, q⟩ := h
  obtain ⟨⟨d, S1⟩, e1, h1⟩ := bind_some h1
  cases d with
  | tup ds =>
    cases h1
    refine (pi_tup he).run pins s σ H R I (tM_at L e1 fun v H1 ρ1 g1 r1 => ?_)
    obtain ⟨a, vs, rfl, h2, r2⟩ := r1.of_tup
    exact ⟨a, rfl, ⟨vs, h2⟩, q _ _ _ g1 (y_tup h2 r2)⟩
  | cl ds =>
    cases h1
    refine (pi_list he).run pins s σ H R I (tM_at L e1 fun v H1 ρ1 g1 r1 => ?_)
    obtain ⟨a, vs, rfl, h2, r2⟩ := r1.of_cl
    exact ⟨a, rfl, ⟨vs, clSq h2⟩, q _ _ _ g1 (y_cl h2 r2)⟩
  | str z =>
    cases h1
    refine (pi_str he).run pins s σ H R I (tM_at L e1 fun v H1 ρ1 g1 r1 => ?_)
    cases r1.of_str
    exact ⟨z, rfl, q _ _ _ g1 (y_str z)⟩
  | ref i =>
    dsimp only at h1
    split at h1
    · rename_i hS
      cases h1
      refine (pi_list he).run pins s σ H R I (tM_at L e1 fun v H1 ρ1 g1 r1 => ?_)
      obtain ⟨a, vs, rfl, h0, h2, r2⟩ := g1.s.lst hS r1
      exact ⟨a, rfl, ⟨vs, SqL.of h2⟩, q _ _ _ g1 (y_lst hS h0)⟩
    · cases h1
  | _ => cases h1
/-- lo, lo + c, .. (n of them) -/
def ramp (lo c : Int) (n : Nat) : List D := (List.range n).map fun i => .int (lo + (i : Nat) * c)
theorem ramp_len (lo c : Int) (n : Nat) : (ramp lo c n).length = n := by simp [ramp]
def small62 (i : Int) : Bool := decide (-(2 ^ 62) ≤ i ∧ i < 2 ^ 62)
def iRange1 (a : ME) : MI := fun env S => (a env S).bind fun p => match p.1 with
  | .int j => if small62 j then some (ramp 0 1 j.toNat, [], p.2) else none
  | _ => none
def iRange2 (a b : ME) : MI := fun env S => (a env S).bind fun p => (b env p.2).bind fun q => match p.1, q.1 with
  | .int i, .int j => if small62 i && small62 j then some (ramp i 1 (j - i).toNat, [], q.2) else none
  | _, _ => none
def rngOk (i j c : Int) : Bool := decide (c ≠ 0) && decide (c.natAbs < 1073741824) && Builtin.Range.small i j c && decide (0 ≤ Builtin.Range.rangeSize i j c)
def iRange3 (a b c : ME) : MI := fun env S => (a env S).bind fun p => (b env p.2).bind fun q => (c env q.2).bind fun r => match p.1, q.1, r.1 with
  | .int i, .int j, .int k => if rngOk i j k then some (ramp i k (Builtin.Range.rangeSize i j k).toNat, [], r.2) else none
  | _, _, _ => none
theorem ramp_get {lo c : Int} {n i : Nat} (h : i < n) : (ramp lo c n)[i]? = some (.int (lo + (i : Nat) * c)) := by
  unfold ramp
  rw [List.getElem?_map, List.getElem?_range h]; rfl
theorem y_range {K : PySem.W.Frag} {H : Hp} {ρ : List Addr} {S : Store} (lo : Int) (n : Nat) : Yields K (Itr lo n) (ramp lo 1 n) [] H ρ S where
  go := fun i H' ρ' S' g _ hi => by rw [ramp_len] at hi; exact hi
  yld := fun i H' ρ' S' g _ hi x H2 ⟨e, ex⟩ => by
    subst e; subst ex
    rw [ramp_len] at hi
    exact ⟨_, ramp_get hi, .refl g.s, by rw [Int.mul_one]; exact rel_int _⟩
  stop := fun H' ρ' S' g _ => by rw [ramp_len]; exact Nat.le_refl _
theorem y_rangeC {K : PySem.W.Frag} {H : Hp} {ρ : List Addr} {S : Store} (lo c : Int) (n : Nat) : Yields K (Itc lo c n) (ramp lo c n) [] H ρ S where
  go := fun i H' ρ' S' g _ hi => by rw [ramp_len] at hi; exact hi
  yld := fun i H' ρ' S' g _ hi x H2 ⟨e, ex⟩ => by
    subst e; subst ex
    rw [ramp_len] at hi
    exact ⟨_, ramp_get hi, .refl g.s, rel_int _⟩
  stop := fun H' ρ' S' g _ => by rw [ramp_len]; exact Nat.le_refl _
theorem tMA1 {K : PySem.W.Frag} {a : ME} {σ : St} {H : Hp} {ρ : List Addr} {env : DEnv} {S S1 : Store} {d : D} {Q : List V → Hp → Prop} (L : Lie K σ H ρ env S) (e : a env S = some (d, S1)) (q : ∀ v H1 ρ1, Go K H ρ H1 ρ1 S1 → Rel K H1 ρ1 d v → Q [v] H1) : tMA K (mCons a mNil) σ H Q := by
  refine tMA_at (d := [d]) (S' := S1) L ?_ fun vs H1 ρ1 g1 r1 => ?_
  · show ((a env S).bind fun p => (mNil env p.2).map fun q => (p.1 :: q.1, q.2)) = _
    rw [e]; rfl
  · obtain ⟨v, rfl, r⟩ := relL1 r1
    exact q v H1 ρ1 g1 r
theorem tMA2 {K : PySem.W.Frag} {a b : ME} {σ : St} {H : Hp} {ρ : List Addr} {env : DEnv} {S S1 S2 : Store} {d d2 : D} {Q : List V → Hp → Prop} (L : Lie K σ H ρ env S) (e : a env S = some (d, S1)) (e2 : b env S1 = some (d2, S2))
    (q : ∀ v u H1 ρ1, Go K H ρ H1 ρ1 S2 → Rel K H1 ρ1 d v → Rel K H1 ρ1 d2 u → Q [v, u] H1) : tMA K (mCons a (mCons b mNil)) σ H Q := by
  refine tMA_at (d := [d, d2]) (S' := S2) L ?_ fun vs H1 ρ1 g1 r1 => ?_
  · show ((a env S).bind fun p => ((b env p.2).bind fun p => (mNil env p.2).map fun q => (p.1 :: q.1, q.2)).map fun q => (p.1 :: q.1, q.2)) = _
    rw [e, Option.bind_some, e2]; rfl
  · obtain ⟨v, u, rfl, r, r2⟩ := relL2 r1
    exact q v u H1 ρ1 g1 r r2
theorem tMA3 {K : PySem.W.Frag} {a b c : ME} {σ : St} {H : Hp} {ρ : List Addr} {env : DEnv} {S S1 S2 S3 : Store} {d d2 d3 : D} {Q : List V → Hp → Prop} (L : Lie K σ H ρ env S) (e : a env S = some (d, S1)) (e2 : b env S1 = some (d2, S2)) (e3 : c env S2 = some (d3, S3))
    (q : ∀ v u w H1 ρ1, Go K H ρ H1 ρ1 S3 → Rel K H1 ρ1 d v → Rel K H1 ρ1 d2 u → Rel K H1 ρ1 d3 w → Q [v, u, w] H1) : tMA K (mCons a (mCons b (mCons c mNil))) σ H Q := by
  refine tMA_at (d := [d, d2, d3]) (S' := S3) L ?_ fun vs H1 ρ1 g1 r1 => ?_
  · show ((a env S).bind fun p => ((b env p.2).bind fun p => ((c env p.2).bind fun p => (mNil env p.2).map fun q => (p.1 :: q.1, q.2)).map fun q => (p.1 :: q.1, q.2)).map fun q => (p.1 :: q.1, q.2)) = _
    rw [e, Option.bind_some, e2, Option.bind_some, e3]; rfl
  · obtain ⟨v, u, w, rfl, r, r2, r3⟩ := relL3 r1
    exact q v u w H1 ρ1 g1 r r2 r3
theorem pi_mrange1 {tg a : Expr} {m : ME} {p pos : Pos} (hg : Gl X "range") (hm : X.mg "range" = none) (ha : PM X a m) (hs : starEach [a] X.env = (false, eval a X.env) :: starEach [] X.env := by rfl) : PMI X tg (.Call (.Name "range" p) [a] [] pos) (iRange1 m) :=
  PIi (pi_range1 hg hm (pa_mcons ha pa_mnil hs) hs) fun σ H R ⟨ρ, env, S, items, deps, S', L, e, q⟩ => by
    obtain ⟨⟨d, S1⟩, e1, e⟩ := bind_some e
    dsimp only at e
    split at e
    · rename_i j
      split at e
      · rename_i hj
        cases e
        refine tMA1 L e1 fun v H1 ρ1 g1 r1 => ?_
        cases r1.of_int
        obtain ⟨h1, h2⟩ := of_decide_eq_true hj
        exact ⟨j, rfl, h1, h2, q _ _ _ g1 (y_range 0 j.toNat)⟩
      · cases e
    · cases e
theorem pi_mrange2 {tg a b : Expr} {m n : ME} {p pos : Pos} (hg : Gl X "range") (hm : X.mg "range" = none) (ha : PM X a m) (hb : PM X b n)
    (hs2 : starEach [b] X.env = (false, eval b X.env) :: starEach [] X.env := by rfl) (hs : starEach [a, b] X.env = (false, eval a X.env) :: starEach [b] X.env := by rfl) : PMI X tg (.Call (.Name "range" p) [a, b] [] pos) (iRange2 m n) :=
  PIi (pi_range2 hg hm (pa_mcons ha (pa_mcons hb pa_mnil hs2) hs) (hs.trans (by rw [hs2]; rfl)) hs2) fun σ H R ⟨ρ, env, S, items, deps, S', L, e, q⟩ => by
    obtain ⟨⟨d, S1⟩, e1, e⟩ := bind_some e
    obtain ⟨⟨d2, S2⟩, e2, e⟩ := bind_some e
    dsimp only at e
    split at e
    · rename_i i j
      split at e
      · rename_i hj
        cases e
        rw [Bool.and_eq_true] at hj
        refine tMA2 L e1 e2 fun v u H1 ρ1 g1 r1 r2 => ?_
        cases r1.of_int; cases r2.of_int
        obtain ⟨h1, h2⟩ := of_decide_eq_true hj.1
        obtain ⟨h3, h4⟩ := of_decide_eq_true hj.2
        exact ⟨_, _, rfl, ⟨h1, h2, h3, h4⟩, q _ _ _ g1 (y_range _ _)⟩
      · cases e
    · cases e
theorem pi_mrange3 {tg a b c : Expr} {m n o : ME} {p pos : Pos} (hg : Gl X "range") (hm : X.mg "range" = none) (ha : PM X a m) (hb : PM X b n) (hc : PM X c o)
    (hs3 : starEach [c] X.env = (false, eval c X.env) :: starEach [] X.env := by rfl) (hs2 : starEach [b, c] X.env = (false, eval b X.env) :: starEach [c] X.env := by rfl) (hs : starEach [a, b, c] X.env = (false, eval a X.env) :: starEach [b, c] X.env := by rfl)
    (hpl : (backTo pos (starEach [b, c] X.env)).any (·.1) = false := by rfl) : PMI X tg (.Call (.Name "range" p) [a, b, c] [] pos) (iRange3 m n o) :=
  PIi (pi_range3 hg hm (pa_mcons ha (pa_mcons hb (pa_mcons hc pa_mnil hs3) hs2) hs) hs hpl) fun σ H R ⟨ρ, env, S, items, deps, S', L, e, q⟩ => by
    obtain ⟨⟨d, S1⟩, e1, e⟩ := bind_some e
    obtain ⟨⟨d2, S2⟩, e2, e⟩ := bind_some e
    obtain ⟨⟨d3, S3⟩, e3, e⟩ := bind_some e
    dsimp only at e
    split at e
    · rename_i i j k
      split at e
      · rename_i hj
        cases e
        unfold rngOk at hj
        rw [Bool.and_eq_true, Bool.and_eq_true, Bool.and_eq_true] at hj
        obtain ⟨⟨⟨h1, h2⟩, h3⟩, h4⟩ := hj
        refine tMA3 L e1 e2 e3 fun v u w H1 ρ1 g1 r1 r2 r3 => ?_
        cases r1.of_int; cases r2.of_int; cases r3.of_int
        exact ⟨_, _, _, _, rfl, ⟨of_decide_eq_true h1, of_decide_eq_true h2, h3, (Int.toNat_of_nonneg (of_decide_eq_true h4)).symm⟩, q _ _ _ g1 (y_rangeC _ _ _)⟩
      · cases e
    · cases e

/-! #### zip of two lists or two tuples -/
def pairs (xs ys : List D) : List D := List.zipWith (fun x y => .tup [x, y]) xs ys
def iZip (a b : ME) : MI := fun env S => (a env S).bind fun p => (b env p.2).bind fun q => match p.1, q.1 with
  | .tup x, .tup y => some (pairs x y, [], q.2)
  | .cl x, .cl y => some (pairs x y, [], q.2)
  | .ref i, .ref j => match q.2[i]?, q.2[j]? with
    | some (.lst x), some (.lst y) => some (pairs x y, [i, j], q.2)
    | _, _ => none
  | .ref i, .cl y => match q.2[i]? with
    | some (.lst x) => some (pairs x y, [i], q.2)
    | _ => none
  | .cl x, .ref j => match q.2[j]? with
    | some (.lst y) => some (pairs x y, [j], q.2)
    | _ => none
  | _, _ => none
theorem pairs_get {xs ys : List D} {i : Nat} {x y : D} (h1 : xs[i]? = some x) (h2 : ys[i]? = some y) : (pairs xs ys)[i]? = some (.tup [x, y]) := by
  unfold pairs
  rw [List.getElem?_zipWith, h1, h2]
theorem pairs_len (xs ys : List D) : (pairs xs ys).length = min xs.length ys.length := by
  unfold pairs
  rw [List.length_zipWith]
/-- a list that is read as it stands at each turn -/
structure Rds (K : PySem.W.Frag) (a : Addr) (ds : List D) (deps : List Nat) (H0 : Hp) (ρ0 : List Addr) (S0 : Store) : Prop where
  rd : ∀ (H : Hp) (ρ : List Addr) (S : Store), Go K H0 ρ0 H ρ S → kept deps S0 S = true → ∃ vs, SqL K H a vs ∧ RelL K H ρ ds vs
theorem rds_cl {K : PySem.W.Frag} {H : Hp} {ρ : List Addr} {S : Store} {a : Addr} {vs : List V} {ds : List D} {deps : List Nat} (h : H a = some (.lst vs) ∧ a ∉ ρ) (r : RelL K H ρ ds vs) : Rds K a ds deps H ρ S :=
  ⟨fun H' ρ' S' g _ => ⟨vs, clSq (cl_mono g.le h), r.mono g.le⟩⟩
theorem kept_mem {i : Nat} {deps : List Nat} {S0 S : Store} (hi : i ∈ deps) (h : kept deps S0 S = true) : S[i]? = S0[i]? := by
  unfold kept at h
  rw [List.all_eq_true] at h
  exact of_decide_eq_true (h i hi)
theorem rds_lst {K : PySem.W.Frag} {H : Hp} {ρ : List Addr} {S : Store} {i : Nat} {a : Addr} {ds : List D} {deps : List Nat} (hi : i ∈ deps) (e : S[i]? = some (.lst ds)) (q : ρ[i]? = some a) : Rds K a ds deps H ρ S :=
  ⟨fun H' ρ' S' g k => dep_lst e q g (kept_mem hi k)⟩
theorem newPair {K : PySem.W.Frag} {H : Hp} {ρ : List Addr} {S : Store} {d e : D} {x y : V} {T : Addr} (s : RelS K H ρ S) (n : H T = none) (r1 : Rel K H ρ d x) (r2 : Rel K H ρ e y) :
    Go K H ρ (upd H T (.tup [x, y])) ρ S ∧ Rel K (upd H T (.tup [x, y])) ρ (.tup [d, e]) (.ref T) := newTup s (.cons r1 (.one r2)) n
theorem y_zipL {K : PySem.W.Frag} {H : Hp} {ρ : List Addr} {S : Store} {a b : Addr} {xs ys : List D} {deps : List Nat} (r1 : Rds K a xs deps H ρ S) (r2 : Rds K b ys deps H ρ S) : Yields K (Itz K a b) (pairs xs ys) deps H ρ S where
  go := fun i H' ρ' S' g k hi => by
    rw [pairs_len] at hi
    obtain ⟨vs, h1, q1⟩ := r1.rd H' ρ' S' g k
    obtain ⟨ws, h2, q2⟩ := r2.rd H' ρ' S' g k
    have l1 := q1.length
    have l2 := q2.length
    exact ⟨vs, ws, vs[i]'(by omega), ws[i]'(by omega), h1, h2, List.getElem?_eq_getElem _, List.getElem?_eq_getElem _⟩
  yld := fun i H' ρ' S' g k hi v H2 ⟨T, x, y, ev, n, eH, f1, f2⟩ => by
    subst ev; subst eH
    obtain ⟨vs, h1, q1⟩ := r1.rd H' ρ' S' g k
    obtain ⟨ws, h2, q2⟩ := r2.rd H' ρ' S' g k
    obtain ⟨d, hd, rd⟩ := q1.get' (f1 vs h1)
    obtain ⟨d2, hd2, rd2⟩ := q2.get' (f2 ws h2)
    obtain ⟨g2, r⟩ := newPair g.s n rd rd2
    exact ⟨_, pairs_get hd hd2, g2, r⟩
  stop := fun H' ρ' S' g k => by
    obtain ⟨vs, h1, q1⟩ := r1.rd H' ρ' S' g k
    obtain ⟨ws, h2, q2⟩ := r2.rd H' ρ' S' g k
    have l1 := q1.length
    have l2 := q2.length
    rw [pairs_len]
    exact ⟨vs, ws, h1, h2, by omega⟩
theorem y_zipT {K : PySem.W.Frag} {H : Hp} {ρ : List Addr} {S : Store} {a b : Addr} {xs ys : List D} {vs ws : List V} (h1 : SqT K H a vs) (r1 : RelL K H ρ xs vs) (h2 : SqT K H b ws) (r2 : RelL K H ρ ys ws) : Yields K (RZ.ItzT K a b) (pairs xs ys) [] H ρ S where
  go := fun i H' ρ' S' g k hi => by
    rw [pairs_len] at hi
    have l1 := r1.length
    have l2 := r2.length
    exact ⟨vs, ws, vs[i]'(by omega), ws[i]'(by omega), g.le.sqt h1, g.le.sqt h2, List.getElem?_eq_getElem _, List.getElem?_eq_getElem _⟩
  yld := fun i H' ρ' S' g k hi v H2 ⟨T, x, y, ev, n, eH, f1, f2⟩ => by
    subst ev; subst eH
    obtain ⟨d, hd, rd⟩ := (r1.mono g.le).get' (f1 vs (g.le.sqt h1))
    obtain ⟨d2, hd2, rd2⟩ := (r2.mono g.le).get' (f2 ws (g.le.sqt h2))
    obtain ⟨g2, r⟩ := newPair g.s n rd rd2
    exact ⟨_, pairs_get hd hd2, g2, r⟩
  stop := fun H' ρ' S' g k => by
    have l1 := r1.length
    have l2 := r2.length
    rw [pairs_len]
    exact ⟨vs, ws, g.le.sqt h1, g.le.sqt h2, by omega⟩
theorem pi_mzip {e e2 : Expr} {m n : ME} {p pos tpos : Pos} {elts : List Expr} {kk : Nat} (hg : Gl X "zip") (hm : X.mg "zip" = none) (ha : PM X e m) (hb : PM X e2 n)
    (hs2 : starEach [e2] X.env = (false, eval e2 X.env) :: starEach [] X.env := by rfl) (hs : starEach [e, e2] X.env = (false, eval e X.env) :: starEach [e2] X.env := by rfl) (hpl : (backTo pos (starEach [e2] X.env)).any (·.1) = false := by rfl) :
    PMI X (.Tuple elts kk tpos) (.Call (.Name "zip" p) [e, e2] [] pos) (iZip m n) :=
  PIi (RZ.pi_zipA hg hm (pa_mcons ha (pa_mcons hb pa_mnil hs2) hs) hs hpl) fun σ H R ⟨ρ, env, S, items, deps, S', L, h, q⟩ => by
    obtain ⟨⟨d, S1⟩, e1, h⟩ := bind_some h
    obtain ⟨⟨d2, S2⟩, e3, h⟩ := bind_some h
    dsimp only at h
    refine tMA2 L e1 e3 fun v u H1 ρ1 g1 r1 r2 => ?_
    split at h
    · cases h
      obtain ⟨a, vs, rfl, h1, q1⟩ := r1.of_tup
      obtain ⟨b, ws, rfl, h2, q2⟩ := r2.of_tup
      exact ⟨a, b, vs, ws, rfl, .inr ⟨h1, h2, q _ _ _ g1 (y_zipT h1 q1 h2 q2)⟩⟩
    · cases h
      obtain ⟨a, vs, rfl, h1, q1⟩ := r1.of_cl
      obtain ⟨b, ws, rfl, h2, q2⟩ := r2.of_cl
      exact ⟨a, b, vs, ws, rfl, .inl ⟨clSq h1, clSq h2, q _ _ _ g1 (y_zipL (rds_cl h1 q1) (rds_cl h2 q2))⟩⟩
    · split at h
      · rename_i hS hS2
        cases h
        obtain ⟨a, vs, rfl, h0, h1, q1⟩ := g1.s.lst hS r1
        obtain ⟨b, ws, rfl, h0', h2, q2⟩ := g1.s.lst hS2 r2
        exact ⟨a, b, vs, ws, rfl, .inl ⟨SqL.of h1, SqL.of h2, q _ _ _ g1 (y_zipL (rds_lst (by simp) hS h0) (rds_lst (by simp) hS2 h0'))⟩⟩
      · cases h
    · split at h
      · rename_i hS
        cases h
        obtain ⟨a, vs, rfl, h0, h1, q1⟩ := g1.s.lst hS r1
        obtain ⟨b, ws, rfl, h2, q2⟩ := r2.of_cl
        exact ⟨a, b, vs, ws, rfl, .inl ⟨SqL.of h1, clSq h2, q _ _ _ g1 (y_zipL (rds_lst (by simp) hS h0) (rds_cl h2 q2))⟩⟩
      · cases h
    · split at h
      · rename_i hS
        cases h
        obtain ⟨a, vs, rfl, h1, q1⟩ := r1.of_cl
        obtain ⟨b, ws, rfl, h0, h2, q2⟩ := g1.s.lst hS r2
        exact ⟨a, b, vs, ws, rfl, .inl ⟨clSq h1, SqL.of h2, q _ _ _ g1 (y_zipL (rds_cl h1 q1) (rds_lst (by simp) hS h0))⟩⟩
      · cases h
    · cases h
end
end PD

set_option Elab.async false
set_option linter.all false
set_option maxRecDepth 100000
set_option maxHeartbeats 4000000
/-! PdFn: defs and their calls. -/
namespace PD
open PySem PySem.Spec PyProof.Rows L2
variable [Tabs]

section
variable {K : PySem.W.Frag} {H H' : Hp} {ρ ρ' : List Addr}
mutual
theorem Rel.lo : ∀ {d : D} {v : V}, Rel K H ρ d v → d.lo ρ.length = true
  | .non, _, _ => rfl
  | .bl _, _, _ => rfl
  | .int _, _, _ => rfl
  | .str _, _, _ => rfl
  | .tup _, _, h => by
    obtain ⟨a, vs, e, s, r⟩ := h
    exact RelL.lo r
  | .cl _, _, h => by
    obtain ⟨a, vs, e, s, r⟩ := h
    exact RelL.lo r
  | .fz _, _, h => by
    obtain ⟨a, vs, e, s, r⟩ := h
    exact RelL.lo r
  | .ref i, _, h => by
    obtain ⟨a, e, q⟩ := h
    exact decide_eq_true (List.getElem?_eq_some_iff.mp q).1
theorem RelL.lo : ∀ {ds : List D} {vs : List V}, RelL K H ρ ds vs → D.loL ρ.length ds = true
  | [], _, _ => rfl
  | _ :: _, _, h => by
    obtain ⟨v, r, e, s, t⟩ := h
    rw [D.loL, Rel.lo s, RelL.lo t]; rfl
end
theorem RelKV.lo {κ : Type} {l : List (κ × D)} {m : List (κ × V)} (h : RelKV K H ρ l m) : (l.all fun p => p.2.lo ρ.length) = true := by
  induction h with
  | nil => rfl
  | cons r t ih => rw [List.all_cons, r.2.lo, ih]; rfl
theorem ORel.lo {a : Addr} : ∀ {o : O}, ORel K H ρ a o → o.lo ρ.length = true
  | .lst _, ⟨_, _, r⟩ => r.lo
  | .dic _, ⟨_, _, r⟩ => r.lo
  | .dit _, ⟨_, _, r⟩ => r.lo
  | .ins _ _, ⟨_, _, _, r⟩ => r.lo
end
/-- the things of S0 are in S as they were, or speak of none behind n -/
def keepLo (n : Nat) : Store → Store → Bool
  | [], _ => true
  | o :: r, o' :: r' => (decide (o = o') || o'.lo n) && keepLo n r r'
  | _ :: _, [] => false
theorem keepLo_get {n : Nat} : ∀ {S0 S : Store} {i : Nat} {o : O}, keepLo n S0 S = true → S0[i]? = some o → ∃ o', S[i]? = some o' ∧ (o = o' ∨ o'.lo n = true)
  | [], _, _, _, _, e => by simp at e
  | _ :: _, [], _, _, h, _ => by simp [keepLo] at h
  | o :: r, o' :: r', 0, _, h, e => by
    simp at e; subst e
    rw [keepLo, Bool.and_eq_true, Bool.or_eq_true] at h
    exact ⟨o', rfl, h.1.imp of_decide_eq_true id⟩
  | o :: r, o' :: r', i + 1, _, h, e => by
    rw [keepLo, Bool.and_eq_true] at h
    obtain ⟨x, h1, h2⟩ := keepLo_get (i := i) h.2 (by simpa using e)
    exact ⟨x, by simpa using h1, h2⟩
/-- behind a def: what it made and nobody knows is forgotten -/
def trunc (S0 S : Store) (d : D) : Store := if d.lo S0.length && keepLo S0.length S0 S then S.take S0.length else S
theorem trunc_rel {K : PySem.W.Frag} {H H' : Hp} {ρ ρ' : List Addr} {S0 S : Store} {d : D} {v : V} (s : RelS K H ρ S0) (g : Go K H ρ H' ρ' S) (r : Rel K H' ρ' d v) : ∃ ρ2, Go K H ρ H' ρ2 (trunc S0 S d) ∧ Rel K H' ρ2 d v := by
  unfold trunc
  split
  · rename_i h
    rw [Bool.and_eq_true] at h
    have e0 : ρ'.take S0.length = ρ := by
      obtain ⟨t, rfl⟩ := g.le.pre
      rw [← s.len, List.take_left]
    refine ⟨ρ, ⟨⟨g.le.tups, g.le.frzs, List.prefix_refl _, fun a vs e n => ⟨(g.le.keep a vs e n).1, n⟩⟩, ?_⟩, ?_⟩
    · refine g.s.take g.le.pre s.len fun i o e => ?_
      obtain ⟨o', h1, h2⟩ := keepLo_get h.2 e
      refine ⟨o', h1, ?_⟩
      rcases h2 with rfl | h2
      · obtain ⟨a, _, q⟩ := s.get e
        rw [← s.len]
        exact q.lo
      · exact h2
    · rw [← e0]
      exact r.take _ h.1
  · exact ⟨ρ', g, r⟩

/-- a def by its body: np parameters, ns names -/
def runBody (np ns : Nat) (b : MS) : FL := fun ds S => if ds.length = np then
    (b (ds.map some ++ List.replicate (ns - np) none) S).bind fun o => match o with
      | .rt d S' => some (d, trunc S S' d)
      | .nx _ S' => some (.non, trunc S S' .non)
      | _ => none
  else none
def spD (K : PySem.W.Frag) (n : Nat) (φ : FL) : Sp := fun vs H Q _ => ∃ ρ S ds d S', RelS K H ρ S ∧ RelL K H ρ ds vs ∧ ds.length = n ∧ φ ds S = some (d, S') ∧ ∀ v H' ρ', Go K H ρ H' ρ' S' → Rel K H' ρ' d v → Q v H'
/-- the def named x keeps to φ -/
structure FnD (P : Program) (w : World) (K : PySem.W.Frag) (mg : Str → Option Value) (base : Heap) (k : Nat) (x : Str) (ps : List Str) (φ : FL) : Prop where
  ex : ∃ (f : Addr) (fd : FuncData), mg x = some (.ref f) ∧ PySem.W.keepIn K (.ref f) = true ∧ Binds K fd ps [] ∧ FnOk P w K mg base CX0 k f fd ps (spD K ps.length φ)
section
variable {P : Program} {w : World} {K : PySem.W.Frag} {mg : Str → Option Value} {base : Heap}
theorem start_rel {H : Hp} {ρ : List Addr} {N : List Str} {np : Nat} {ds : List D} {vs : List V} (r : RelL K H ρ ds vs) (hl : ds.length = np) : RelE K H ρ (ds.map some ++ List.replicate (N.length - np) none) (L2.start N vs) := by
  have l := r.length
  unfold L2.start
  refine ⟨by simp [l, hl], fun i d e => ?_⟩
  by_cases hi : i < ds.length
  · rw [List.getElem?_append_left (by simpa using hi), List.getElem?_map] at e
    obtain ⟨d', h1, h2⟩ := map_some e
    cases h2
    obtain ⟨v, h3, h4⟩ := r.get h1
    exact ⟨v, by rw [List.getElem?_append_left (by simpa [l] using hi), List.getElem?_map, h3]; rfl, h4⟩
  · rw [List.getElem?_append_right (by simpa using hi), List.getElem?_replicate] at e
    split at e <;> cases e
/-- a def by its body, the code object known -/
theorem okC {x qual : Str} {st : Stmt} {f : Addr} {fd : FuncData} {N ps : List Str} {k : Nat} {sp : Sp} (F : Fun K x qual st f fd) (S : FnScope N ps (defScope st)) (len : ∀ vs H Q E, sp vs H Q E → vs.length = ps.length)
    (hbody : ∀ (cdv : Value), fd.code = cdv → ∀ (A : Around) (outer : List Env) (s : Shared) (H : Hp) (vs : List V) (Q : VK) (E : XK), Room k (A.deeper (envOfC qual (defScope st) s.heap.objs.size f cdv)) → sp vs H Q E →
      ∃ t, PSs (cxOf CX0 P w K mg base N qual (defScope st) f cdv A outer s H E).nox (defBody st) t ∧ t { nx := fun _ H' => Q .non H', rt := Q } (L2.start N vs) H) : FnOk P w K mg base CX0 (k + 1) f fd ps sp := by
  obtain ⟨oc, od, kV, doc, pm, an, cdv, ct, osl, rfl, lk, hcd⟩ := F.ex
  refine fn_of lk hcd S len fun A outer s H vs Q E hr hsp => ?_
  obtain ⟨t, h, q⟩ := hbody cdv rfl A outer s H vs Q E hr hsp
  exact ⟨t, h.nox, q⟩
theorem fnok_of {x qual : Str} {st : Stmt} {f : Addr} {fd : FuncData} {N ps : List Str} {k : Nat} {b : MS} (F : Fun K x qual st f fd) (S : FnScope N ps (defScope st))
    (hbody : ∀ (cdv : Value) (hcd : fd.code = cdv) (A : Around) (outer : List Env) (s : Shared) (H : Hp) (E : XK), Room k (A.deeper (envOfC qual (defScope st) s.heap.objs.size f cdv)) →
      PMB (cxOf CX0 P w K mg base N qual (defScope st) f cdv A outer s H E).nox (defBody st) b) : FnOk P w K mg base CX0 (k + 1) f fd ps (spD K ps.length (runBody ps.length N.length b)) := by
  refine okC F S (fun vs H Q E h => ?_) fun cdv hcd A outer s H vs Q E hr h => ?_
  · obtain ⟨ρ, S, ds, d, S', s, r, hl, _⟩ := h
    rw [r.length, hl]
  · refine ⟨_, hbody cdv hcd A outer s H E hr, ?_⟩
    obtain ⟨ρ, S0, ds, d, S', s0, r, hl, e, q⟩ := h
    unfold runBody at e
    rw [if_pos hl] at e
    obtain ⟨o, e1, e2⟩ := bind_some e
    refine ⟨ρ, _, S0, o, ⟨start_rel r hl, s0⟩, e1, ?_⟩
    cases o with
    | rt d1 S1 =>
      cases e2
      intro v H' ρ' g r'
      obtain ⟨ρ2, g2, r2⟩ := trunc_rel s0 g r'
      exact q v H' ρ2 g2 r2
    | nx env1 S1 =>
      cases e2
      intro σ' H' ρ' g le
      obtain ⟨ρ2, g2, r2⟩ := trunc_rel s0 g (rel_non (K := K) (H := H') (ρ := ρ'))
      exact q _ H' ρ2 g2 r2
    | bk _ _ => cases e2
    | ct _ _ => cases e2
theorem fnd_of {x qual : Str} {st : Stmt} {f : Addr} {fd : FuncData} {N ps : List Str} {k : Nat} {b : MS} (F : Fun K x qual st f fd) (hm : mg x = some (.ref f)) (hb : Binds K fd ps []) (S : FnScope N ps (defScope st))
    (hbody : ∀ (cdv : Value) (hcd : fd.code = cdv) (A : Around) (outer : List Env) (s : Shared) (H : Hp) (E : XK), Room k (A.deeper (envOfC qual (defScope st) s.heap.objs.size f cdv)) →
      PMB (cxOf CX0 P w K mg base N qual (defScope st) f cdv A outer s H E).nox (defBody st) b) : FnD P w K mg base (k + 1) x ps (runBody ps.length N.length b) :=
  ⟨f, fd, hm, F.kp, hb, fnok_of F S hbody⟩
theorem FnD.mono {j k : Nat} {x : Str} {ps : List Str} {φ : FL} (h : FnD P w K mg base j x ps φ) (hk : j ≤ k) : FnD P w K mg base k x ps φ := by
  obtain ⟨f, fd, h1, h2, h3, h4⟩ := h.ex
  exact ⟨f, fd, h1, h2, h3, h4.mono hk⟩
theorem fnd_zero {x qual : Str} {st : Stmt} {f : Addr} {fd : FuncData} {ps : List Str} (F : Fun K x qual st f fd) (hm : mg x = some (.ref f)) (hb : Binds K fd ps []) : FnD P w K mg base 0 x ps (fun _ _ => none) := by
  refine ⟨f, fd, hm, F.kp, hb, ⟨fun vs H Q E h => ?_, fun A outer s H args us vs Q E hr he hbd hv h => ?_⟩⟩
  · obtain ⟨_, _, _, _, _, _, _, _, e, _⟩ := h; cases e
  · obtain ⟨_, _, _, _, _, _, _, _, e, _⟩ := h; cases e
end
/-- a call: n arguments -/
def mFn (n : Nat) (φ : FL) (a : MA) : ME := fun env S => (a env S).bind fun p => if p.1.length = n then φ p.1 p.2 else none
section
variable {X : Cx} {x : Str} {p pos : Pos} {e : Expr} {es : List Expr} {ma : MA} {k : Nat} {ps : List Str} {φ : FL}
theorem tFn {K : PySem.W.Frag} {n : Nat} {φ : FL} {ma : MA} (σ : St) (H : Hp) (Q : VK) (h : tM K (mFn n φ ma) σ H Q) : tCall (spD K n φ) [] E0 (tMA K ma) σ H Q := by
  obtain ⟨ρ, env, S, d, S', L, e, q⟩ := h
  obtain ⟨⟨xs, S1⟩, e1, e⟩ := bind_some e
  dsimp only at e
  split at e
  · rename_i hl
    refine tMA_at L e1 fun vs H1 ρ1 g1 r1 => ?_
    rw [List.append_nil]
    exact ⟨ρ1, S1, xs, d, S', g1.s, r1, hl, e, fun v H2 ρ2 g2 r2 => q v H2 ρ2 (g1.trans g2) r2⟩
  · cases e
theorem pm_fn {n : Nat} (F : FnD X.prog X.w X.K X.mg X.base k x ps φ) (hr : Room k X.A) (hg : Gl X x)
    (ha : PMA X (e :: es) ma) (hn : ps.length = n := by rfl) (hdb : (x == ("__debug__" : Str)) = false := by decide) (he : starEach (e :: es) X.env = (false, eval e X.env) :: starEach es X.env := by rfl) (hpl : (backTo pos (starEach es X.env)).any (·.1) = false := by rfl) :
    PM X (.Call (.Name x p) (e :: es) [] pos) (mFn n φ ma) := by
  subst hn
  obtain ⟨f, fd, h1, h2, h3, h4⟩ := F.ex
  exact PEi (pe_call h4 hr hg h1 h2 h3 .nil pass0 ha hdb he hpl) tFn
theorem pm_fn0 (F : FnD X.prog X.w X.K X.mg X.base k x [] φ) (hr : Room k X.A) (hg : Gl X x) (hdb : (x == ("__debug__" : Str)) = false := by decide) : PM X (.Call (.Name x p) [] [] pos) (mFn 0 φ mNil) := by
  obtain ⟨f, fd, h1, h2, h3, h4⟩ := F.ex
  refine PEi (pe_call0 h4 hr hg h1 h2 h3 .nil pass0 hdb) fun σ H Q h => ?_
  obtain ⟨ρ, env, S, d, S', L, e, q⟩ := h
  exact ⟨ρ, S, [], d, S', L.s, RelL.nil, rfl, e, q⟩
end
end PD

set_option Elab.async false
set_option linter.all false
set_option maxRecDepth 100000
set_option maxHeartbeats 4000000
/-! PdComp: list comprehensions. -/
namespace PD
open PySem PySem.Spec PyProof.Rows L2
variable [Tabs]

/-! ### targets within a block: only the names at vs change -/
def tMGw (K : PySem.W.Frag) (vs : List Nat) (g : MG) : TG := fun v σ H Q => ∃ ρ env S d env' S', Lie K σ H ρ env S ∧ Rel K H ρ d v ∧ g d env S = some (env', S') ∧ ∀ σ' H' ρ', Go K H ρ H' ρ' S' → RelE K H' ρ' env' σ' → wipe σ' vs = wipe σ vs → Q σ' H'
def tMGsw (K : PySem.W.Frag) (vs : List Nat) (g : MGs) : TGs := fun v σ H Q => ∃ ρ env S d env' S', Lie K σ H ρ env S ∧ RelL K H ρ d v ∧ g d env S = some (env', S') ∧ ∀ σ' H' ρ', Go K H ρ H' ρ' S' → RelE K H' ρ' env' σ' → wipe σ' vs = wipe σ vs → Q σ' H'
abbrev PGW (X : Cx) (vs : List Nat) (tg : Expr) (g : MG) : Prop := PG X tg (tMGw X.K vs g)
abbrev PGWs (X : Cx) (vs : List Nat) (tg : List Expr) (g : MGs) : Prop := PGs X tg (tMGsw X.K vs g)
theorem wipe_get {σ : St} : ∀ {vs : List Nat} {j : Nat}, (wipe σ vs)[j]? = if j ∈ vs then σ[j]?.map fun _ => none else σ[j]?
  | [], j => by simp [wipe]
  | v :: vs, j => by
    unfold wipe
    by_cases hj : v = j
    · subst hj
      by_cases hl : v < σ.length
      · rw [List.getElem?_set_self (by rw [wipe_length]; exact hl), if_pos List.mem_cons_self, List.getElem?_eq_getElem hl]; rfl
      · rw [List.getElem?_eq_none (by rw [List.length_set, wipe_length]; omega), if_pos List.mem_cons_self, List.getElem?_eq_none (by omega)]; rfl
    · rw [List.getElem?_set_ne hj, wipe_get]
      have : (j ∈ v :: vs) ↔ j ∈ vs := by
        rw [List.mem_cons]
        exact ⟨fun h => h.resolve_left (fun e => hj e.symm), .inr⟩
      simp only [this]
theorem wipe_set {σ : St} {vs : List Nat} {i : Nat} {x : Option V} (h : i ∈ vs) : wipe (σ.set i x) vs = wipe σ vs := by
  refine List.ext_getElem? fun j => ?_
  rw [wipe_get, wipe_get]
  by_cases hj : j ∈ vs
  · rw [if_pos hj, if_pos hj, List.getElem?_set]
    split
    · subst j
      split
      · rename_i hl
        rw [List.getElem?_eq_getElem hl]; rfl
      · rename_i hl
        rw [List.getElem?_eq_none (by omega)]
    · rfl
  · rw [if_neg hj, if_neg hj, List.getElem?_set_ne]
    intro e; subst e; exact hj h
/-- forget slots -/
def wipeE (env : DEnv) : List Nat → DEnv
  | [] => env
  | v :: vs => (wipeE env vs).set v none
theorem wipeE_some {env : DEnv} {i : Nat} {x : D} : ∀ {vs : List Nat}, (wipeE env vs)[i]? = some (some x) → env[i]? = some (some x) ∧ i ∉ vs
  | [], h => ⟨h, by simp⟩
  | v :: vs, h => by
    unfold wipeE at h
    by_cases hi : v = i
    · subst hi
      by_cases hv : v < (wipeE env vs).length
      · rw [List.getElem?_set_self hv] at h; cases h
      · rw [List.getElem?_eq_none (by simpa using hv)] at h; cases h
    · rw [List.getElem?_set_ne hi] at h
      obtain ⟨h1, h2⟩ := wipeE_some h
      exact ⟨h1, by simp only [List.mem_cons, not_or]; exact ⟨fun e => hi e.symm, h2⟩⟩
theorem wipeE_length (env : DEnv) : ∀ vs : List Nat, (wipeE env vs).length = env.length
  | [] => rfl
  | v :: vs => by unfold wipeE; rw [List.length_set, wipeE_length env vs]
theorem RelE.wipe {K : PySem.W.Frag} {H : Hp} {ρ : List Addr} {env : DEnv} {σ : St} (h : RelE K H ρ env σ) (vs : List Nat) : RelE K H ρ (wipeE env vs) (wipe σ vs) := by
  refine ⟨by rw [wipeE_length, wipe_length]; exact h.1, fun i d e => ?_⟩
  obtain ⟨e1, e2⟩ := wipeE_some e
  obtain ⟨v, h1, h2⟩ := h.2 i d e1
  exact ⟨v, by rw [wipe_get, if_neg e2]; exact h1, h2⟩
section
variable {X : Cx} {pos : Pos} {vs : List Nat}
theorem pgw_name {i : Nat} {x : Str} (hv : i ∈ vs) (hN : X.N.Nodup) (hi : X.N[i]? = some x) (hx : Loc X.env.scope x) (hf : X.fn x = true ∨ X.env.scope.names.lookup x = some .local := by first | exact .inl rfl | exact .inr rfl | assumption) : PGW X vs (.Name x pos) (mgName i) :=
  PGi (pg_name hN hi hx hf) fun v σ H Q ⟨ρ, env, S, d, env', S', L, r, e, q⟩ => by
    cases e
    exact q _ _ _ L.go (L.e.set i r) (wipe_set hv)
theorem pgws_nil : PGWs X vs [] mgNil := PGsi pgs_nil fun v σ H Q ⟨ρ, env, S, d, env', S', L, r, e, q⟩ => by
  unfold mgNil at e
  split at e
  · cases e; cases r
    exact ⟨rfl, q _ _ _ L.go L.e rfl⟩
  · cases e
theorem pgws_cons {e : Expr} {es : List Expr} {g : MG} {r : MGs} (h1 : PGW X vs e g) (h2 : PGWs X vs es r)
    (hs : (assignEach (e :: es) X.env).map (·.2) = assign e X.env :: (assignEach es X.env).map (·.2) := by rfl) : PGWs X vs (e :: es) (mgCons g r) :=
  PGsi (pgs_cons h1 h2 hs) fun v σ H Q ⟨ρ, env, S, d, env', S', L, rr, e, q⟩ => by
    unfold mgCons at e
    split at e
    · obtain ⟨⟨env1, S1⟩, e1, e⟩ := bind_some e
      obtain ⟨v, vs, rfl, r1, r2⟩ := rr
      refine ⟨v, vs, rfl, ρ, env, S, _, env1, S1, L, r1, e1, fun σ1 H1 ρ1 g1 le1 w1 => ?_⟩
      exact ⟨ρ1, env1, S1, _, env', S', ⟨le1, g1.s⟩, r2.mono g1.le, e, fun σ2 H2 ρ2 g2 le2 w2 => q _ _ _ (g1.trans g2) le2 (w2.trans w1)⟩
    · cases e
theorem pgw_tup {es : List Expr} {k : Nat} {t : MGs} {n : Nat} (hc : X.calm = true) (h : PGWs X vs es t)
    (hn : (assignEach es X.env).length = n := by rfl) (hst : (assignEach es X.env).findIdx? (·.1) = none := by rfl) : PGW X vs (.Tuple es k pos) (mgTup n t) :=
  PGi (pg_tup hc h hn hst) fun v σ H Q ⟨ρ, env, S, d, env', S', L, r, e, q⟩ => by
    unfold mgTup at e
    split at e
    · split at e
      · rename_i hl
        obtain ⟨p, vs, rfl, h1, r1⟩ := r.of_tup
        exact ⟨p, vs, rfl, h1, r1.length.trans hl, ρ, env, S, _, env', S', L, r1, e, q⟩
      · cases e
    · cases e
end

/-! ### tests -/
def mYes : MT := fun _ S => some (true, S)
abbrev PMTs (X : Cx) (ifs : List Expr) (t : MT) : Prop := PTs X ifs (tMT X.K t)
section
variable {X : Cx}
theorem pts_mnil : PMTs X [] mYes := ⟨fun pins s σ H Q I h => pts_nil.run pins s σ H Q I (by
  obtain ⟨ρ, env, S, b, S', L, e, q⟩ := h
  cases e
  exact q H ρ L.go)⟩
theorem pts_mone {c : Expr} {t : MT} (h : PMT X c t) : PMTs X [c] t := pts_one h
end

/-! ### the turns -/
/-- an item is put behind the list at n -/
def putAt (n : Nat) (x : D) (S : Store) : Option Store := match S[n]? with
  | some (.lst acc) => if acc.length < sizeLine then some (S.set n (.lst (acc ++ [x]))) else none
  | _ => none
def lcGo (deps : List Nat) (n : Nat) (g : MG) (t : MT) (elt : ME) (env : DEnv) : List D → Store → Option Store
  | [], S => some S
  | d :: r, S => (g d env S).bind fun p => (t p.1 p.2).bind fun q => if q.1 then
      (elt p.1 q.2).bind fun x => (putAt n x.1 x.2).bind fun S' => if kept deps S S' then lcGo deps n g t elt env r S' else none
      else if kept deps S q.2 then lcGo deps n g t elt env r q.2 else none
/-- a new list, kept -/
def mLc (it : MI) (g : MG) (t : MT) (elt : ME) (vs : List Nat) : ME := fun env S => (it env S).bind fun p =>
  if kept p.2.1 p.2.2 (p.2.2 ++ [.lst []]) then (lcGo p.2.1 p.2.2.length g t elt (wipeE env vs) p.1 (p.2.2 ++ [.lst []])).map fun S' => (.ref p.2.2.length, S') else none
/-- what a new list came to, when it is looked at once -/
def tempOf (S1 S' : Store) : Option (D × Store) := match S'[S1.length]? with
  | some (.lst acc) => if D.loL S1.length acc && keepLo S1.length S1 S' then some (.cl acc, S'.take S1.length) else none
  | _ => none
/-- a new list that nobody keeps -/
def mLcT (it : MI) (g : MG) (t : MT) (elt : ME) (vs : List Nat) : ME := fun env S => (it env S).bind fun p =>
  if kept p.2.1 p.2.2 (p.2.2 ++ [.lst []]) then (lcGo p.2.1 p.2.2.length g t elt (wipeE env vs) p.1 (p.2.2 ++ [.lst []])).bind fun S' => tempOf p.2.2 S' else none
theorem pre_get {ρ ρ' : List Addr} {i : Nat} {a : Addr} (h : ρ <+: ρ') (e : ρ[i]? = some a) : ρ'[i]? = some a := by
  obtain ⟨t, rfl⟩ := h
  rw [List.getElem?_append_left (List.getElem?_eq_some_iff.mp e).1]
  exact e
/-- the reading of a comprehension: from the turns -/
theorem lc_read {K : PySem.W.Frag} {it : MI} {g : MG} {t : MT} {elt : ME} {vs : List Nat} {σ : St} {H : Hp} {Q : VK} {ρ : List Addr} {env : DEnv} {S : Store} {items : List D} {deps : List Nat} {S1 S' : Store}
    (L : Lie K σ H ρ env S) (e1 : it env S = some (items, deps, S1)) (hk : kept deps S1 (S1 ++ [.lst []]) = true) (e2 : lcGo deps S1.length g t elt (wipeE env vs) items (S1 ++ [.lst []]) = some S')
    (q : ∀ D H1 ρ1 H' ρ', Go K H ρ H1 ρ1 S1 → H1 D = none → Go K (upd H1 D (.lst [])) (ρ1 ++ [D]) H' ρ' S' → Q (.ref D) H') : tLc (tMI K it) (tMGw K vs g) (tMT K t) (tM K elt) vs σ H Q := by
  refine ⟨ρ, env, S, items, deps, S1, L, e1, fun J H1 ρ1 g1 Y D nD => ?_⟩
  obtain ⟨gD, _⟩ := newLst (ds := []) g1.s (RelL.nil) nD
  refine ⟨fun i m H2 => ∃ ρ2 S2, i + m = items.length ∧ Go K (upd H1 D (.lst [])) (ρ1 ++ [D]) H2 ρ2 S2 ∧ kept deps S1 S2 = true ∧ lcGo deps S1.length g t elt (wipeE env vs) (items.drop i) S2 = some S',
    ⟨items.length, ρ1 ++ [D], S1 ++ [.lst []], by omega, .refl gD.s, hk, by rw [List.drop_zero]; exact e2⟩, ?_⟩
  rintro i m H2 ⟨ρ2, S2, hl, g2, k2, e3⟩
  have g12 := gD.trans g2
  have L2 : Lie K (wipe σ vs) H2 ρ2 (wipeE env vs) S2 := ⟨((L.e.mono g1.le).mono g12.le).wipe vs, g2.s⟩
  by_cases hi : i < items.length
  · refine .inr ⟨Y.go i H2 ρ2 S2 g12 k2 hi, ?_⟩
    rw [List.drop_eq_getElem_cons hi, lcGo] at e3
    obtain ⟨⟨env3, S3⟩, e4, e3⟩ := bind_some e3
    obtain ⟨⟨k, S4⟩, e5, e3⟩ := bind_some e3
    refine ⟨fun H5 => ∃ ρ5 S5, Go K (upd H1 D (.lst [])) (ρ1 ++ [D]) H5 ρ5 S5 ∧ kept deps S1 S5 = true ∧ lcGo deps S1.length g t elt (wipeE env vs) (items.drop (i + 1)) S5 = some S',
      fun H5 ⟨ρ5, S5, a1, a2, a3⟩ => ⟨m - 1, by omega, ρ5, S5, by omega, a1, a2, a3⟩, fun x H3 y => ?_⟩
    obtain ⟨d, hd, g3, r3⟩ := Y.yld i H2 ρ2 S2 g12 k2 hi x H3 y
    rw [List.getElem?_eq_getElem hi] at hd
    cases hd
    refine ⟨ρ2, wipeE env vs, S2, _, env3, S3, L2.next g3, r3, e4, fun σ4 H4 ρ4 g4 le4 w4 => ⟨by
      rw [w4]
      refine List.ext_getElem? fun j => ?_
      rw [wipe_get, wipe_get]
      by_cases hj : j ∈ vs
      · rw [if_pos hj, if_pos hj]
        cases σ[j]? <;> rfl
      · rw [if_neg hj], ?_⟩⟩
    refine tMT_at ⟨le4, g4.s⟩ e5 fun H5 ρ5 g5 => ?_
    have g25 := ((g2.trans g3).trans g4).trans g5
    cases k with
    | false =>
      refine iteF ?_
      dsimp only at e3
      rw [if_neg Bool.false_ne_true] at e3
      split at e3
      · rename_i hk4
        exact ⟨ρ5, S4, g25, kept_trans k2 hk4, e3⟩
      · cases e3
    | true =>
      refine iteT ?_
      dsimp only at e3
      rw [if_pos rfl] at e3
      obtain ⟨⟨x6, S6⟩, e6, e3⟩ := bind_some e3
      obtain ⟨S7, e7, e3⟩ := bind_some e3
      refine tM_at ⟨le4.mono g5.le, g5.s⟩ e6 fun v6 H6 ρ6 g6 r6 => ?_
      have g26 := g25.trans g6
      unfold putAt at e7
      split at e7
      · rename_i acc hacc
        split at e7
        · rename_i hz
          cases e7
          have hD : ρ6[S1.length]? = some D := by
            refine pre_get g26.le.pre ?_
            rw [← g1.s.len, List.getElem?_append_right (Nat.le_refl _), Nat.sub_self]; rfl
          obtain ⟨vs6, h1, h2⟩ := g26.s.at _ _ D hacc hD
          refine ⟨vs6, h1, by rw [h2.length]; exact hz, ?_⟩
          have g7 := setLst g26.s hacc hD (h2.append (.one r6)) (lstLe g26.s hacc hD)
          split at e3
          · rename_i hk7
            exact ⟨ρ6, _, g26.trans g7, kept_trans k2 hk7, e3⟩
          · cases e3
        · cases e7
      · cases e7
  · have : i = items.length := by omega
    subst this
    rw [List.drop_length, lcGo] at e3
    cases e3
    exact .inl ⟨Y.stop H2 ρ2 _ g12 k2, q D H1 ρ1 H2 ρ2 g1 nD g2⟩
/-- the list itself, kept -/
theorem lc_keep {K : PySem.W.Frag} {H H1 H' : Hp} {ρ ρ1 ρ' : List Addr} {S1 S' : Store} {D : Addr} (g1 : Go K H ρ H1 ρ1 S1) (nD : H1 D = none) (g2 : Go K (upd H1 D (.lst [])) (ρ1 ++ [D]) H' ρ' S') :
    Go K H ρ H' ρ' S' ∧ Rel K H' ρ' (.ref S1.length) (.ref D) := by
  obtain ⟨gD, rD⟩ := newLst (ds := []) g1.s (RelL.nil) nD
  exact ⟨(g1.trans gD).trans g2, rD.mono g2.le⟩
/-- .. looked at once -/
theorem lc_temp {K : PySem.W.Frag} {H H1 H' : Hp} {ρ ρ1 ρ' : List Addr} {S1 S' : Store} {D : Addr} {d : PD.D} {S2 : Store} (g1 : Go K H ρ H1 ρ1 S1) (nD : H1 D = none) (g2 : Go K (upd H1 D (.lst [])) (ρ1 ++ [D]) H' ρ' S') (e : tempOf S1 S' = some (d, S2)) :
    Go K H ρ H' ρ1 S2 ∧ Rel K H' ρ1 d (.ref D) := by
  obtain ⟨gD, _⟩ := newLst (ds := []) g1.s (RelL.nil) nD
  have gg := gD.trans g2
  unfold tempOf at e
  split at e
  · rename_i acc hacc
    split at e
    · rename_i h
      cases e
      rw [Bool.and_eq_true] at h
      have e0 : ρ'.take S1.length = ρ1 := by
        obtain ⟨t, rfl⟩ := gg.le.pre
        rw [← g1.s.len, List.take_left]
      have hD : ρ'[S1.length]? = some D := by
        refine pre_get g2.le.pre ?_
        rw [← g1.s.len, List.getElem?_append_right (Nat.le_refl _), Nat.sub_self]; rfl
      obtain ⟨vs, h1, h2⟩ := g2.s.at _ _ D hacc hD
      have nm : D ∉ ρ1 := fun z => by
        obtain ⟨i, hi, ei⟩ := List.mem_iff_getElem.mp z
        have : i = S1.length := by
          have a1 := pre_get gg.le.pre (show ρ1[i]? = some D by rw [List.getElem?_eq_getElem hi, ei])
          obtain ⟨b1, c1⟩ := List.getElem?_eq_some_iff.mp a1
          obtain ⟨b2, c2⟩ := List.getElem?_eq_some_iff.mp hD
          exact (List.getElem_inj g2.s.nd).mp (c1.trans c2.symm)
        rw [← g1.s.len] at this
        omega
      refine ⟨g1.trans ⟨⟨gg.le.tups, gg.le.frzs, List.prefix_refl _, fun a ws e n => ⟨(gg.le.keep a ws e n).1, n⟩⟩, ?_⟩, rel_cl ⟨h1, nm⟩ ?_⟩
      · refine g2.s.take gg.le.pre g1.s.len fun i o e => ?_
        obtain ⟨o', h3, h4⟩ := keepLo_get h.2 e
        refine ⟨o', h3, ?_⟩
        rcases h4 with rfl | h4
        · obtain ⟨a, _, q⟩ := g1.s.get e
          rw [← g1.s.len]
          exact q.lo
        · exact h4
      · rw [← e0]
        exact h2.takeP _ h.1
    · cases e
  · cases e
section
variable {X : Cx}
theorem pm_lc {elt tg iter : Expr} {ifs : List Expr} {scope : Scope} {own : List (Str × Nat)} {pos : Pos} {it : MI} {g : MG} {t : MT} {m : ME} (hc : X.calm = true) (hN : X.N.Nodup) (hi : PMI X tg iter it) (ok : BlkOk X.N X.env.scope scope own)
    (hg : ∀ (s : Shared) (H : Hp) (C : Addr) (cl : List (Str × Addr)) (fp : List Addr), PGW (X.blk s H scope (compEnvC scope cl C X.env) fp) (own.map (·.2)) tg g) (ht : ∀ (s : Shared) (H : Hp) (C : Addr) (cl : List (Str × Addr)) (fp : List Addr), PMTs (X.blk s H scope (compEnvC scope cl C X.env) fp) ifs t)
    (he : ∀ (s : Shared) (H : Hp) (C : Addr) (cl : List (Str × Addr)) (fp : List Addr), PM (X.blk s H scope (compEnvC scope cl C X.env) fp) elt m) (hs : ∀ x, foldedSetIterable iter X.env x = pure x := by intro _; rfl) :
    PM X (.ListComp elt [⟨tg, iter, ifs, 0⟩] scope pos) (mLc it g t m (own.map (·.2))) :=
  PEi (pe_lc hc hN hi ok hg ht he hs) fun σ H Q ⟨ρ, env, S, d, S', L, e, q⟩ => by
    obtain ⟨⟨items, deps, S1⟩, e1, e⟩ := bind_some e
    dsimp only at e
    split at e
    · rename_i hk
      obtain ⟨S2, e2, e⟩ := map_some e
      cases e
      refine lc_read L e1 hk e2 fun D H1 ρ1 H' ρ' g1 nD g2 => ?_
      obtain ⟨g3, r3⟩ := lc_keep g1 nD g2
      exact q _ _ _ g3 r3
    · cases e
theorem pm_lcT {elt tg iter : Expr} {ifs : List Expr} {scope : Scope} {own : List (Str × Nat)} {pos : Pos} {it : MI} {g : MG} {t : MT} {m : ME} (hc : X.calm = true) (hN : X.N.Nodup) (hi : PMI X tg iter it) (ok : BlkOk X.N X.env.scope scope own)
    (hg : ∀ (s : Shared) (H : Hp) (C : Addr) (cl : List (Str × Addr)) (fp : List Addr), PGW (X.blk s H scope (compEnvC scope cl C X.env) fp) (own.map (·.2)) tg g) (ht : ∀ (s : Shared) (H : Hp) (C : Addr) (cl : List (Str × Addr)) (fp : List Addr), PMTs (X.blk s H scope (compEnvC scope cl C X.env) fp) ifs t)
    (he : ∀ (s : Shared) (H : Hp) (C : Addr) (cl : List (Str × Addr)) (fp : List Addr), PM (X.blk s H scope (compEnvC scope cl C X.env) fp) elt m) (hs : ∀ x, foldedSetIterable iter X.env x = pure x := by intro _; rfl) :
    PM X (.ListComp elt [⟨tg, iter, ifs, 0⟩] scope pos) (mLcT it g t m (own.map (·.2))) :=
  PEi (pe_lc hc hN hi ok hg ht he hs) fun σ H Q ⟨ρ, env, S, d, S', L, e, q⟩ => by
    obtain ⟨⟨items, deps, S1⟩, e1, e⟩ := bind_some e
    dsimp only at e
    split at e
    · rename_i hk
      obtain ⟨S2, e2, e⟩ := bind_some e
      refine lc_read L e1 hk e2 fun D H1 ρ1 H' ρ' g1 nD g2 => ?_
      obtain ⟨g3, r3⟩ := lc_temp g1 nD g2 e
      exact q _ _ _ g3 r3
    · cases e
/-- name = [..] on one line -/
theorem ps_mlc {i : Nat} {y : Str} {py : Pos} {elt tg iter : Expr} {ifs : List Expr} {scope : Scope} {own : List (Str × Nat)} {pos spos : Pos} {it : MI} {g : MG} {t : MT} {m : ME} (hc : X.calm = true) (hN : X.N.Nodup) (hy : X.N[i]? = some y) (hyl : X.env.scope.names.lookup y = some .local)
    (hsw : swapsWith (.ListComp elt [⟨tg, iter, ifs, 0⟩] scope pos) (some (.Name y py)) spos.line X.env = pure true) (hi : PMI X tg iter it) (ok : BlkOk X.N X.env.scope scope own)
    (hg : ∀ (s : Shared) (H : Hp) (C : Addr) (cl : List (Str × Addr)) (fp : List Addr), PGW (X.blk s H scope (compEnvC scope cl C X.env) fp) (own.map (·.2)) tg g) (ht : ∀ (s : Shared) (H : Hp) (C : Addr) (cl : List (Str × Addr)) (fp : List Addr), PMTs (X.blk s H scope (compEnvC scope cl C X.env) fp) ifs t)
    (he : ∀ (s : Shared) (H : Hp) (C : Addr) (cl : List (Str × Addr)) (fp : List Addr), PM (X.blk s H scope (compEnvC scope cl C X.env) fp) elt m) (hs : ∀ x, foldedSetIterable iter X.env x = pure x := by intro _; rfl) :
    PMS X (.Assign [.Name y py] (.ListComp elt [⟨tg, iter, ifs, 0⟩] scope pos) spos) (sAsg (mLc it g t m (own.map (·.2))) (mgName i)) :=
  PSi (ps_setLc hc hN hy hyl hsw hi ok hg ht he hs) fun D0 σ H ⟨ρ, env, S, o, L, e, q⟩ => by
    obtain ⟨⟨d, S0⟩, e6, e9⟩ := bind_some e
    obtain ⟨⟨env2, S9⟩, e8, e7⟩ := map_some e9
    cases e7; cases e8
    obtain ⟨⟨items, deps, S1⟩, e1, e5⟩ := bind_some e6
    dsimp only at e5
    split at e5
    · rename_i hk
      obtain ⟨S2, e2, e4⟩ := map_some e5
      cases e4
      refine lc_read L e1 hk e2 fun D H1 ρ1 H' ρ' g1 nD g2 => ?_
      obtain ⟨g3, r3⟩ := lc_keep g1 nD g2
      exact q _ _ _ g3 ((L.e.mono g3.le).set i r3)
    · cases e5
end
end PD

set_option Elab.async false
set_option linter.all false
set_option maxRecDepth 100000
set_option maxHeartbeats 4000000
/-! PdData: order of trees: comparisons of tuples, min, max, sorted. -/
namespace PD
open PySem PySem.Spec PyProof.Rows L2
variable [Tabs]

def ltD (a b : D) : Bool := PySem.W.dataLt (pyD a) (pyD b)
def alkD (a b : D) : Bool := PySem.W.alike (pyD a) (pyD b)
/-- tuples that can be compared -/
def tupsOk (a b : D) : Bool := match a, b with
  | .tup _, .tup _ => okD 63 a && okD 63 b && alkD a b
  | _, _ => false
def cInt2 (c : C2) (f : D → D → Bool) : C2 := fun a b S => if tupsOk a b then some (f a b) else c a b S
abbrev cLtT : C2 := cInt2 cLt fun a b => ltD a b
abbrev cLeT : C2 := cInt2 cLe fun a b => !ltD b a
abbrev cGtT : C2 := cInt2 cGt fun a b => ltD b a
abbrev cGeT : C2 := cInt2 cGe fun a b => !ltD a b
section
variable {X : Cx}
theorem cd_tup {op : CmpOp} {c : C2} {f : D → D → Bool} (h1 : CmD X op c)
    (h2 : ∀ (pins : List (Addr × Obj)) (s : Shared) (a b : D) (v u : Value) (as bs : List Addr) (Q : Value → Shared → Prop) (E : Value → Shared → Prop), Reads s.heap v (pyD a) as → Reads s.heap u (pyD b) bs → PySem.W.alike (pyD a) (pyD b) = true → pyD a ≠ .none → X.A.units + min (pyD a).depth (pyD b).depth < cLine →
      Q (.bool (f a b)) s → wpAny (model X.prog X.w) X.A (compareOp op v u) Q E s) (hu : X.A.units + 64 < cLine) : CmD X op (cInt2 c f) := by
  intro pins s σ H x y v u Q I rx ry h
  obtain ⟨ρ, S, a, b, k, rs, ra, rb, e, q⟩ := h
  unfold cInt2 at e
  split at e
  · rename_i ht
    cases e
    unfold tupsOk at ht
    split at ht
    · rename_i xs ys
      rw [Bool.and_eq_true, Bool.and_eq_true] at ht
      obtain ⟨⟨o1, o2⟩, al⟩ := ht
      obtain ⟨as, r1⟩ := Dp.reads I _ x v (dp_of 63 _ x o1 ra) rx
      obtain ⟨bs, r2⟩ := Dp.reads I _ y u (dp_of 63 _ y o2 rb) ry
      have d1 := (okD_lay 63 _ o1).2
      refine h2 pins s _ _ v u as bs _ _ r1 r2 al (by simp [pyD]) ?_ ⟨.bl _, H, I, rfl, q⟩
      have := Nat.min_le_left (pyD (.tup xs)).depth (pyD (.tup ys)).depth
      omega
    · cases ht
  · exact h1 pins s σ H x y v u Q I rx ry ⟨ρ, S, a, b, k, rs, ra, rb, e, q⟩
theorem cd_ltT (hu : X.A.units + 64 < cLine) : CmD X .Lt cLtT := cd_tup cd_lt (fun pins s a b v u as bs Q E r1 r2 al hn hd hq => PySem.W.lt_data r1 r2 al hn hd hq) hu
theorem cd_leT (hu : X.A.units + 64 < cLine) : CmD X .LtE cLeT := cd_tup cd_le (fun pins s a b v u as bs Q E r1 r2 al hn hd hq => PySem.W.le_data r1 r2 al hn hd hq) hu
theorem cd_gtT (hu : X.A.units + 64 < cLine) : CmD X .Gt cGtT := cd_tup cd_gt (fun pins s a b v u as bs Q E r1 r2 al hn hd hq => PySem.W.gt_data r1 r2 al hn hd hq) hu
theorem cd_geT (hu : X.A.units + 64 < cLine) : CmD X .GtE cGeT := cd_tup cd_ge (fun pins s a b v u as bs Q E r1 r2 al hn hd hq => PySem.W.ge_data r1 r2 al hn hd hq) hu
end

/-! ### min, max of a list or a tuple of alike things -/
def alkAll (ds : List D) : Bool := ds.all fun a => (decide (a ≠ .non)) && ds.all fun b => alkD a b
def leastD (x : D) (xs : List D) : D := xs.foldl (fun a y => if ltD y a then y else a) x
def mostD (x : D) (xs : List D) : D := xs.foldl (fun a y => if ltD a y then y else a) x
theorem pyDL_map : ∀ ds : List D, pyDL ds = ds.map pyD
  | [] => by simp [pyDL]
  | d :: ds => by simp [pyDL, pyDL_map ds]
theorem pyD_getD (ds : List D) (i : Nat) : (pyDL ds).getD i .none = pyD (ds.getD i .non) := by
  rw [pyDL_map, List.getD_eq_getElem?_getD, List.getD_eq_getElem?_getD, List.getElem?_map]
  cases ds[i]? <;> simp [pyD]
theorem okDL_mem {n : Nat} : ∀ {ds : List D} {d : D}, okDL n ds = true → d ∈ ds → okD n d = true
  | [], _, _, m => by simp at m
  | x :: xs, d, h, m => by
    rw [okDL, Bool.and_eq_true] at h
    rcases List.mem_cons.mp m with rfl | m
    · exact h.1
    · exact okDL_mem h.2 m
theorem pyD_none {n : Nat} {d : D} (h : okD n d = true) (hn : d ≠ .non) : pyD d ≠ .none := by
  cases d <;> (first | (cases n <;> simp [okD] at h; done) | (simp at hn; done) | simp [pyD])
theorem alkAll_py {n : Nat} {ds : List D} (ho : okDL n ds = true) (h : alkAll ds = true) : PySem.W.AlikeAll (pyDL ds) := by
  unfold alkAll at h
  rw [List.all_eq_true] at h
  rw [pyDL_map]
  refine ⟨fun x hx y hy => ?_, fun x hx => ?_⟩
  · obtain ⟨a, ha, rfl⟩ := List.mem_map.mp hx
    obtain ⟨b, hb, rfl⟩ := List.mem_map.mp hy
    have := h a ha
    rw [Bool.and_eq_true, List.all_eq_true] at this
    exact this.2 b hb
  · obtain ⟨a, ha, rfl⟩ := List.mem_map.mp hx
    have := h a ha
    rw [Bool.and_eq_true] at this
    exact pyD_none (okDL_mem ho ha) (of_decide_eq_true this.1)
/-- of the items: one that is least, or most -/
def fBest (g : D → List D → D) : F1 := fun d S => (seqOf d S).bind fun ds => match ds with
  | x :: xs => if okDL 62 (x :: xs) && alkAll (x :: xs) then some (g x xs, S) else none
  | [] => none
theorem vals_getI : ∀ {xs : List V} {us : List Value} {i : Nat} {u : Value}, Vals xs us → us[i]? = some u → ∃ x, xs[i]? = some x ∧ RelV x u
  | _, _, i, u, .nil, e => by simp at e
  | _, _, 0, u, .cons r _, e => ⟨_, rfl, by simp at e; rw [← e]; exact r⟩
  | _, _, i + 1, u, .cons _ t, e => by
    obtain ⟨x, h1, h2⟩ := vals_getI (i := i) t (by simpa using e)
    exact ⟨x, by simpa using h1, h2⟩
section
variable {X : Cx}
theorem best_core {op : CmpOp} {id : String} {g : D → List D → D} {f : D → D → Bool} (hc : X.calm = true) (hu : X.A.units + 64 < cLine) {pins : List (Addr × Obj)} {s : Shared} {σ : St} {H : Hp} {ρ : List Addr} {S : Store} {d r : D} {S' : Store} {v : V} {u : Value} {Q : VK}
    (hcmp : ∀ (ds : List D) (us : Array Value) (as : List Addr), ReadsAll s.heap us.toList (pyDL ds) as → PySem.W.AlikeAll (pyDL ds) → X.A.units + 1 + PyData.depthAll (pyDL ds) < cLine →
      PySem.CmpIn X.prog X.w X.A.in1 op s.heap (fun i v => us[i]? = some v) (fun i j => f ((ds).getD i .non) (ds.getD j .non)))
    (hgo : ∀ (bt : Nat → Nat → Bool) (us : Array Value) (Q : Value → Shared → Prop), (∃ fp, (s.heap.IsList fp us ∨ s.heap.IsTuple fp us) ∧ u = .ref fp) → 0 < us.size → PySem.CmpIn X.prog X.w X.A.in1 op s.heap (fun i v => us[i]? = some v) bt →
      (∀ v h' tk, us[argBest bt (us.size - 1)]? = some v → (∀ b o, s.heap.get? b = some o → h'.get? b = some o) → Q v { s with heap := h', toks := tk }) → wpAny (model X.prog X.w) X.A (call (.builtin id) [u]) Q X.xe s)
    (hg : ∀ x xs, g x xs = xs.foldl (fun a y => if f y a then y else a) x)
    (I : Inv X pins σ H s) (rs : RelS X.K H ρ S) (rd : Rel X.K H ρ d v) (rv : RelV v u) (e : fBest g d S = some (r, S')) (q : ∀ v H' ρ', Go X.K H ρ H' ρ' S' → Rel X.K H' ρ' r v → Q v H') :
    wpAny (model X.prog X.w) X.A (call (.builtin id) [u]) (EP X pins σ Q) X.xe s := by
  obtain ⟨ds, e1, e⟩ := bind_some e
  split at e
  · rename_i x xs
    split at e
    · rename_i ho
      cases e
      rw [Bool.and_eq_true] at ho
      have al := alkAll_py ho.1 ho.2
      have dep := (okD_layL 62 _ ho.1).2
      have key : ∀ (p : Addr) (vs : List V) (its : List Value), RelL X.K H ρ (x :: xs) vs → Vals vs its → u = .ref p → (s.heap.IsList p its.toArray ∨ s.heap.IsTuple p its.toArray) → wpAny (model X.prog X.w) X.A (call (.builtin id) [u]) (EP X pins σ Q) X.xe s := by
        intro p vs its rl rvs eu hp
        obtain ⟨as, ra⟩ := Dp.readsAll I _ vs its (dp_ofL 62 _ vs ho.1 rl) rvs
        have hl : its.length = (x :: xs).length := rvs.length.symm.trans rl.length
        refine hgo _ its.toArray _ ⟨p, hp, eu⟩ (by simp [hl]) (hcmp (x :: xs) its.toArray as ra al (by omega)) fun w h' tk hw hk => ?_
        have e1 : its.toArray.size - 1 = xs.length := by simp [hl]
        rw [e1] at hw
        obtain ⟨b1, b2⟩ := PySem.W.argBest_fold f D.non x xs xs.length (Nat.le_refl _)
        rw [List.take_length, ← hg] at b2
        obtain ⟨v2, h3, h4⟩ := vals_getI (i := argBest (fun i j => f ((x :: xs).getD i D.non) ((x :: xs).getD j D.non)) xs.length) rvs (by rw [List.getElem?_toArray] at hw; exact hw)
        obtain ⟨d2, h5, h6⟩ := rl.get' h3
        rw [List.getD_eq_getElem?_getD, h5, Option.getD_some] at b2
        rw [b2] at h6
        exact ⟨v2, H, I.kept hk, h4, q _ _ _ (.refl rs) h6⟩
      unfold seqOf at e1
      split at e1
      · cases e1
        obtain ⟨p, vs, rfl, h1, r1⟩ := rd.of_tup
        obtain ⟨its, rv2, ht, _⟩ := I.tuple h1
        exact key p vs its r1 rv2 (show u = Value.ref p from rv) (.inr ht)
      · obtain ⟨p, vs, rfl, h1, r1⟩ := lst_of rs e1 rd
        obtain ⟨its, rv2, ht, _⟩ := I.list h1
        exact key p vs its r1 rv2 (show u = Value.ref p from rv) (.inl ht.isList)
    · cases e
  · cases e
def fBestL (g : D → List D → D) : FL := fun ds S => match ds with
  | [d] => fBest g d S
  | _ => none
theorem call_leastD (hc : X.calm = true) (hu : X.A.units + 64 < cLine) : CallD X (.builtin "min") (fBestL leastD) := by
  intro pins s σ H xs us Q I r h
  obtain ⟨ρ, S, ds, d, S', rs, rl, e, q⟩ := h
  unfold fBestL at e
  split at e
  · obtain ⟨v, rfl, r1⟩ := relL1 rl
    obtain ⟨u, rfl, ru⟩ := vals1 r
    refine best_core (op := .Lt) (f := ltD) hc hu (fun ds us as ra al hd => ?_) (fun bt us Q2 hx hn hcm hq => ?_) (fun _ _ => rfl) I rs r1 ru e q
    · have := PySem.W.cmpIn_lt (prog := X.prog) (w := X.w) (A := X.A.in1) (s := s) ra al hd
      simpa only [pyD_getD, ltD] using this
    · obtain ⟨fp, hp, rfl⟩ := hx
      rcases hp with hp | hp
      · refine call_min_walkH (PySem.W.iter_listW (A := X.A.in1) (I.ok.hd hc) hp fun s₂ e W st hfp hw hk => ?_)
        refine ⟨_, _, _, _, _, _, _, s.heap, bt, rfl, W, st, hfp, hn, hw, hk, hcm, fun v s' hP m => ?_⟩
        obtain ⟨h', tk, rfl, hk'⟩ := PySem.W.moved_old e rfl m
        exact hq v h' tk hP hk'
      · refine call_min_walkH (PySem.W.iter_tupleW (A := X.A.in1) (I.ok.hd hc) hp fun s₂ e W st hfp hw hk => ?_)
        refine ⟨_, _, _, _, _, _, _, s.heap, bt, rfl, W, st, hfp, hn, hw, hk, hcm, fun v s' hP m => ?_⟩
        obtain ⟨h', tk, rfl, hk'⟩ := PySem.W.moved_old e rfl m
        exact hq v h' tk hP hk'
  · cases e
theorem call_mostD (hc : X.calm = true) (hu : X.A.units + 64 < cLine) : CallD X (.builtin "max") (fBestL mostD) := by
  intro pins s σ H xs us Q I r h
  obtain ⟨ρ, S, ds, d, S', rs, rl, e, q⟩ := h
  unfold fBestL at e
  split at e
  · obtain ⟨v, rfl, r1⟩ := relL1 rl
    obtain ⟨u, rfl, ru⟩ := vals1 r
    refine best_core (op := .Gt) (f := fun y a => ltD a y) hc hu (fun ds us as ra al hd => ?_) (fun bt us Q2 hx hn hcm hq => ?_) (fun _ _ => rfl) I rs r1 ru e q
    · have := PySem.W.cmpIn_gt (prog := X.prog) (w := X.w) (A := X.A.in1) (s := s) ra al hd
      simpa only [pyD_getD, ltD] using this
    · obtain ⟨fp, hp, rfl⟩ := hx
      rcases hp with hp | hp
      · refine call_max_walkH (PySem.W.iter_listW (A := X.A.in1) (I.ok.hd hc) hp fun s₂ e W st hfp hw hk => ?_)
        refine ⟨_, _, _, _, _, _, _, s.heap, bt, rfl, W, st, hfp, hn, hw, hk, hcm, fun v s' hP m => ?_⟩
        obtain ⟨h', tk, rfl, hk'⟩ := PySem.W.moved_old e rfl m
        exact hq v h' tk hP hk'
      · refine call_max_walkH (PySem.W.iter_tupleW (A := X.A.in1) (I.ok.hd hc) hp fun s₂ e W st hfp hw hk => ?_)
        refine ⟨_, _, _, _, _, _, _, s.heap, bt, rfl, W, st, hfp, hn, hw, hk, hcm, fun v s' hP m => ?_⟩
        obtain ⟨h', tk, rfl, hk'⟩ := PySem.W.moved_old e rfl m
        exact hq v h' tk hP hk'
  · cases e
end

/-! ### sorted -/
def leD (a b : D) : Bool := !ltD b a
def sortedD (ds : List D) : List D := ds.mergeSort leD
/-- all tuples that are not empty, or none a tuple -/
def sortable (ds : List D) : Bool := (ds.all fun d => match d with
  | .tup (_ :: _) => true
  | _ => false) || ds.all fun d => match d with
  | .tup _ => false
  | .non => false
  | _ => true
def fSorted : FN := fun ds S => match ds with
  | [d] => (lstOf d S).bind fun xs => if okDL 62 xs && alkAll xs && sortable xs && okLen xs.length then some (sortedD xs) else none
  | _ => none
theorem dataLe_leD : (fun (b c : D × V) => PySem.W.dataLe false (fun b : D × V => pyD b.1) b c) = fun b c => leD b.1 c.1 := by
  funext b c
  rw [PySem.W.dataLe_eq]
  rfl
theorem eachOf : ∀ {ds : List D} {vs : List V} {us : List Value}, ds.length = vs.length → Vals vs us → PySem.W.EachIs (fun u (b : D × V) => L2.RelV b.2 u) us (ds.zip vs)
  | [], _, _, hl, .nil => .nil
  | d :: ds, _, _, hl, .cons r t => .cons r (eachOf (by simpa using hl) t)
theorem zip_fst : ∀ {ds : List D} {vs : List V}, ds.length = vs.length → (ds.zip vs).map (·.1) = ds
  | [], [], _ => rfl
  | d :: ds, v :: vs, h => by simp [zip_fst (ds := ds) (vs := vs) (by simpa using h)]
theorem readsAll_pick {h : Heap} : ∀ {ds : List D} {vs : List V} {us : List Value} {as : List Addr}, ds.length = vs.length → ReadsAll h us (pyDL ds) as → Vals vs us → PySem.W.EachIs (fun u (b : D × V) => ∃ as, Reads h u (pyD b.1) as) us (ds.zip vs)
  | [], _, _, _, hl, r, .nil => .nil
  | d :: ds, _, _, _, hl, r, .cons _ t => by
    simp only [pyDL] at r
    cases r with
    | cons h1 h2 => exact .cons ⟨_, h1⟩ (readsAll_pick (by simpa using hl) h2 t)
theorem each_vals : ∀ {us : List Value} {bs : List (D × V)}, PySem.W.EachIs (fun u (b : D × V) => L2.RelV b.2 u) us bs → Vals (bs.map (·.2)) us
  | _, _, .nil => .nil
  | _, _, .cons h t => .cons h (each_vals t)
theorem relL_zip {K : PySem.W.Frag} {H : Hp} {ρ : List Addr} : ∀ {ds : List D} {vs : List V}, RelL K H ρ ds vs → ∀ b ∈ ds.zip vs, Rel K H ρ b.1 b.2
  | [], _, r, b, m => by simp at m
  | d :: ds, _, r, b, m => by
    obtain ⟨v, w, rfl, r1, r2⟩ := r
    rw [List.zip_cons_cons] at m
    rcases List.mem_cons.mp m with rfl | m
    · exact r1
    · exact relL_zip r2 b m
theorem relL_map {K : PySem.W.Frag} {H : Hp} {ρ : List Addr} : ∀ {bs : List (D × V)}, (∀ b ∈ bs, Rel K H ρ b.1 b.2) → RelL K H ρ (bs.map (·.1)) (bs.map (·.2))
  | [], _ => RelL.nil
  | b :: bs, h => .cons (h b List.mem_cons_self) (relL_map fun c m => h c (List.mem_cons_of_mem _ m))
section
variable {X : Cx}
theorem call_sortedD (hu : X.A.units + 70 < cLine) : CallN X (.builtin "sorted") fSorted := by
  intro pins s σ H xs us Q I r h
  obtain ⟨ρ, S, ds, es, rs, rl, e, q⟩ := h
  unfold fSorted at e
  split at e
  · rename_i d
    obtain ⟨ys, e1, e⟩ := bind_some e
    split at e
    · rename_i ho
      cases e
      simp only [Bool.and_eq_true] at ho
      obtain ⟨⟨⟨ho, hal⟩, hs⟩, hz⟩ := ho
      obtain ⟨v, rfl, r1⟩ := relL1 rl
      obtain ⟨u, rfl, ru⟩ := vals1 r
      obtain ⟨p, vs, rfl, h1, r2⟩ := lst_of rs e1 r1
      obtain rfl : u = Value.ref p := ru
      obtain ⟨its, rv, hl, _⟩ := I.list h1
      obtain ⟨as, ra⟩ := Dp.readsAll I _ vs its (dp_ofL 62 _ vs ho r2) rv
      have hlen : ys.length = vs.length := r2.length.symm
      have al := alkAll_py ho hal
      have dep := (okD_layL 62 _ ho).2
      have em : (ys.zip vs).map (fun b => pyD b.1) = pyDL ys := by
        rw [pyDL_map, ← zip_fst hlen, List.map_map, zip_fst hlen]; rfl
      have hzl : (ys.zip vs).length = ys.length := by simp [hlen]
      refine PySem.W.sorted_data (enc := fun b : D × V => pyD b.1) (R := fun u (b : D × V) => L2.RelV b.2 u) (bs := ys.zip vs) hl.isList (eachOf hlen rv) (readsAll_pick hlen ra rv) (by rw [em]; exact fun x hx y hy => al.1 x hx y hy) ?_ (by rw [hzl]; exact of_decide_eq_true hz) (fun b hb => ?_) fun out ho2 eo => ?_
      · rw [em, pyDL_map]
        unfold sortable at hs
        rcases Bool.or_eq_true_iff.mp hs with hs | hs
        · left
          intro x hx
          obtain ⟨a, ha, rfl⟩ := List.mem_map.mp hx
          have := List.all_eq_true.mp hs a ha
          split at this
          · exact ⟨_, _, by simp [pyD, pyDL]; exact ⟨rfl, rfl⟩⟩
          · cases this
        · right
          intro x hx
          obtain ⟨a, ha, rfl⟩ := List.mem_map.mp hx
          have h2 := List.all_eq_true.mp hs a ha
          have h3 := okDL_mem ho ha
          refine ⟨al.2 _ (by rw [pyDL_map]; exact hx), fun xs e => ?_⟩
          cases a <;> simp [pyD] at e h2
      · have hm : b.1 ∈ ys := by
          rw [← zip_fst hlen]
          exact List.mem_map.mpr ⟨b, hb, rfl⟩
        have := (okD_lay 62 _ (okDL_mem ho hm)).2
        omega
      · obtain ⟨ep, he'⟩ := PyProof.Rows.sortedAll_at s.heap its out.toArray
        have esort : ((ys.zip vs).mergeSort (PySem.W.dataLe false fun b : D × V => pyD b.1)).map (·.1) = sortedD ys := by
          have := List.map_mergeSort (r := PySem.W.dataLe false fun b : D × V => pyD b.1) (s := leD) (f := fun b : D × V => b.1) (l := ys.zip vs) (fun a _ b _ => congrFun (congrFun dataLe_leD a) b)
          rw [this, zip_fst hlen]; rfl
        have hrel := relL_map (fun b hb => relL_zip r2 b ((List.mem_mergeSort (le := PySem.W.dataLe false fun b : D × V => pyD b.1)).mp hb))
        rw [esort] at hrel
        have hlenS : (((ys.zip vs).mergeSort (PySem.W.dataLe false fun b : D × V => pyD b.1)).map (·.2)).length ≤ sizeLine := by
          rw [List.length_map, List.length_mergeSort, hzl]; exact of_decide_eq_true hz
        exact ⟨.ref _, upd H (s.heap.objs.size + 1) (.lst _), I.laid (t' := s.toks) (fun _ _ => PyProof.Rows.sortedAll_old) (Nat.le_succ _) ⟨hlenS, out, ep, each_vals eo, he'⟩, rfl, q _ hrel _ (I.hok.fresh (Nat.le_succ _))⟩
    · cases e
  · cases e
end
end PD

set_option Elab.async false
set_option linter.all false
set_option maxRecDepth 100000
set_option maxHeartbeats 4000000
/-! PdMore: slices of anything, not as a value. -/
namespace PD
open PySem PySem.Spec PyProof.Rows L2
variable [Tabs]

/-- a part of a tuple, a text, or of a list (a new one, kept) -/
def fCutK (d : D) (lo hi : Option Int) (S : Store) : Option (D × Store) := match lstOf d S with
  | some ds => some (.ref S.length, S ++ [.lst (cutD ds lo hi)])
  | none => (fCut d lo hi S).map fun d => (d, S)
/-- .. of a list: a new one that nobody keeps -/
def fCutT (d : D) (lo hi : Option Int) (S : Store) : Option (D × Store) := match lstOf d S with
  | some ds => some (.cl (cutD ds lo hi), S)
  | none => (fCut d lo hi S).map fun d => (d, S)
def mCutG (f : D → Option Int → Option Int → Store → Option (D × Store)) (a : ME) (l u : MO) : ME := fun env S => (a env S).bind fun p => (l env p.2).bind fun q => (u env q.2).bind fun r => f p.1 q.1 r.1 r.2
section
variable {X : Cx} {a : Expr} {lo hi : Option Expr} {ma : ME} {l u : MO} {pos p2 : Pos}
theorem cut_core {K : PySem.W.Frag} {H : Hp} {ρ : List Addr} {S : Store} {x d : D} {v : V} {i j : Option Int} {Q : VK} (s : RelS K H ρ S) (r3 : Rel K H ρ x v) (e4 : fCut x i j S = some d)
    (q : ∀ v H' ρ', Go K H ρ H' ρ' S → Rel K H' ρ' d v → Q v H') : rSlA K v i j H Q ∨ rSlS v i j H Q := by
  unfold fCut at e4
  split at e4
  · cases e4
    obtain ⟨p, vs, rfl, h1, r4⟩ := r3.of_tup
    refine .inl ⟨p, vs, rfl, h1, fun ⟨w1, w2⟩ => ?_, fun _ p n => ?_⟩
    · refine q _ _ _ (.refl s) ?_
      have ew : ∀ ds : List D, vs.length = ds.length → cutD ds i j = ds := fun ds hl => by
        unfold cutD
        rw [← hl, w1, w2, List.drop_zero, Nat.sub_zero, hl, List.take_length]
      rw [ew _ r4.length]
      exact r3
    · obtain ⟨g4, r5⟩ := newTup s (cut_rel (lo := i) (hi := j) r4) n
      exact q _ _ _ g4 r5
  · split at e4
    · cases e4
      cases r3.of_str
      exact .inr ⟨_, rfl, by assumption, q _ _ _ (.refl s) (rel_str _)⟩
    · cases e4
  · cases e4
theorem pm_cutG {f : D → Option Int → Option Int → Store → Option (D × Store)}
    (hf : ∀ (H : Hp) (ρ : List Addr) (S S' : Store) (x d : D) (v : V) (i j : Option Int) (Q : VK), RelS X.K H ρ S → Rel X.K H ρ x v → f x i j S = some (d, S') → (∀ v H' ρ', Go X.K H ρ H' ρ' S' → Rel X.K H' ρ' d v → Q v H') → (rSlA X.K v i j H Q ∨ rSlS v i j H Q) ∨ rSlL X.K v i j H Q)
    (ha : PM X a ma) (hl : PMO X lo l) (hu : PMO X hi u) : PM X (.Subscript a (.Slice lo hi none p2) pos) (mCutG f ma l u) :=
  PEi (pe_slice ((sl_tupA.or sl_str).or sl_list) ha hl hu) fun σ H Q ⟨ρ, env, S, d, S', L, e, q⟩ => by
    obtain ⟨⟨x, S1⟩, e1, e⟩ := bind_some e
    obtain ⟨⟨i, S2⟩, e2, e⟩ := bind_some e
    obtain ⟨⟨j, S3⟩, e3, e⟩ := bind_some e
    refine tM_at L e1 fun v H1 ρ1 g1 r1 => ⟨ρ1, env, S1, i, S2, L.next g1, e2, fun H2 ρ2 g2 => ⟨ρ2, env, S2, j, S3, (L.next g1).next g2, e3, fun H3 ρ3 g3 => ?_⟩⟩
    have g := (g1.trans g2).trans g3
    exact hf H3 ρ3 S3 S' x d v i j _ g3.s (r1.mono (g2.le.trans g3.le)) e fun v H' ρ' g4 r => q v H' ρ' (g.trans g4) r
theorem pm_cutK (ha : PM X a ma) (hl : PMO X lo l) (hu : PMO X hi u) : PM X (.Subscript a (.Slice lo hi none p2) pos) (mCutG fCutK ma l u) :=
  pm_cutG (fun H ρ S S' x d v i j Q s r e q => by
    unfold fCutK at e
    split at e
    · rename_i ds h
      cases e
      obtain ⟨p, vs, rfl, h1, r4⟩ := lst_of s h r
      exact .inr ⟨p, vs, rfl, h1, fun p n => by
        obtain ⟨g, r5⟩ := newLst s (cut_rel (lo := i) (hi := j) r4) n
        exact q _ _ _ g r5⟩
    · obtain ⟨d', e1, e2⟩ := map_some e
      cases e2
      exact .inl (cut_core s r e1 q)) ha hl hu
theorem pm_cutT (ha : PM X a ma) (hl : PMO X lo l) (hu : PMO X hi u) : PM X (.Subscript a (.Slice lo hi none p2) pos) (mCutG fCutT ma l u) :=
  pm_cutG (fun H ρ S S' x d v i j Q s r e q => by
    unfold fCutT at e
    split at e
    · rename_i ds h
      cases e
      obtain ⟨p, vs, rfl, h1, r4⟩ := lst_of s h r
      exact .inr ⟨p, vs, rfl, h1, fun p n => by
        have g2 : Go X.K H ρ (upd H p (.lst (cutV vs i j))) ρ S := Go.tup s n
        exact q _ _ _ g2 (rel_cl ⟨upd_same, notin_of s n⟩ ((cut_rel r4).mono g2.le))⟩
    · obtain ⟨d', e1, e2⟩ := map_some e
      cases e2
      exact .inl (cut_core s r e1 q)) ha hl hu
/-- not x as a value -/
def mNotV (a : ME) : ME := fun env S => (a env S).bind fun p => (truD p.1 p.2).map fun k => (.bl (!k), p.2)
theorem pm_notV (ha : PM X a ma) : PM X (.UnaryOp .Not a pos) (mNotV ma) := PEi (pe_notT ha) fun σ H Q ⟨ρ, env, S, d, S', L, e, q⟩ => by
  obtain ⟨⟨x, S1⟩, e1, e⟩ := bind_some e
  obtain ⟨k, e2, e⟩ := map_some e
  cases e
  exact tM_at L e1 fun v H1 ρ1 g1 r1 => ⟨k, tru_rel g1.s r1 e2, q _ _ _ g1 (rel_bl _)⟩
end

/-- a, b, c = x, y, z (all written) -/
def sPar3 (i j l : Nat) (a : MA) : MS := fun env S => (a env S).bind fun p => match p.1 with
  | [x, y, z] => some (.nx (((env.set i (some x)).set j (some y)).set l (some z)) p.2)
  | _ => none
theorem ps_mpar3 {X : Cx} {i j l : Nat} {x y z : Str} {e1 e2 e3 : Expr} {ma : MA} {px py pz pt pos : Pos} {kt k2 pt2} (hc : X.calm = true) (hN : X.N.Nodup) (hi : X.N[i]? = some x) (hj : X.N[j]? = some y) (hl : X.N[l]? = some z) (hij : i ≠ j) (hil : i ≠ l) (hjl : j ≠ l)
    (hx : X.env.scope.names.lookup x = some .local) (hy : X.env.scope.names.lookup y = some .local) (hz : X.env.scope.names.lookup z = some .local) (ha : PMA X [e1, e2, e3] ma)
    (hw : swappedStores [.Tuple [.Name x px, .Name y py, .Name z pz] kt pt] (.Tuple [e1, e2, e3] k2 pt2) X.env = pure (some [x, y, z]))
    (hs : swapsWithSole [.Tuple [.Name x px, .Name y py, .Name z pz] kt pt] (.Tuple [e1, e2, e3] k2 pt2) pos.line X.env = pure false := by rfl) :
    PMS X (.Assign [.Tuple [.Name x px, .Name y py, .Name z pz] kt pt] (.Tuple [e1, e2, e3] k2 pt2) pos) (sPar3 i j l ma) := PSi (ps_par3 hc hN hi hj hl hij hil hjl hx hy hz ha hw hs) fun D σ H ⟨ρ, env, S, o, L, e, q⟩ => by
  obtain ⟨⟨ds, S1⟩, e1, e⟩ := bind_some e
  dsimp only at e
  split at e
  · rename_i d1 d2 d3
    cases e
    refine tMA_at L e1 fun vs H1 ρ1 g1 r1 => ?_
    obtain ⟨v, u, w, rfl, r2, r3, r4⟩ := relL3 r1
    exact ⟨v, u, w, rfl, q _ _ _ g1 ((((L.e.mono g1.le).set i r2).set j r3).set l r4)⟩
  · cases e

/-! ### names of built-ins -/
theorem bt_len : bootBuiltins "len" = some (.builtin "len") := by decide +kernel
theorem bt_tuple : bootBuiltins "tuple" = some (.type "tuple") := by decide +kernel
theorem bt_int : bootBuiltins "int" = some (.type "int") := by decide +kernel
theorem bt_abs : bootBuiltins "abs" = some (.builtin "abs") := by decide +kernel
theorem bt_str : bootBuiltins "str" = some (.type "str") := by decide +kernel
theorem bt_min : bootBuiltins "min" = some (.builtin "min") := by decide +kernel
theorem bt_max : bootBuiltins "max" = some (.builtin "max") := by decide +kernel
theorem bt_sum : bootBuiltins "sum" = some (.builtin "sum") := by decide +kernel
theorem bt_list : bootBuiltins "list" = some (.type "list") := by decide +kernel
theorem bt_sorted : bootBuiltins "sorted" = some (.builtin "sorted") := by decide +kernel
theorem bt_range : bootBuiltins "range" = some (.type "range") := by decide +kernel
theorem bt_zip : bootBuiltins "zip" = some (.type "zip") := by decide +kernel
theorem bt_isinstance : bootBuiltins "isinstance" = some (.builtin "isinstance") := by decide +kernel
theorem bt_all : bootBuiltins "all" = some (.builtin "all") := by decide +kernel
theorem bt_any : bootBuiltins "any" = some (.builtin "any") := by decide +kernel
theorem bt_bool : bootBuiltins "bool" = some (.type "bool") := by decide +kernel
theorem bt_set : bootBuiltins "set" = some (.type "set") := by decide +kernel
theorem bt_dict : bootBuiltins "dict" = some (.type "dict") := by decide +kernel
theorem bt_enumerate : bootBuiltins "enumerate" = some (.type "enumerate") := by decide +kernel
theorem bt_reversed : bootBuiltins "reversed" = some (.type "reversed") := by decide +kernel
end PD

set_option Elab.async false
set_option linter.all false
set_option maxRecDepth 100000
set_option maxHeartbeats 4000000
/-! PdText: methods of texts; comprehensions of two clauses. -/
namespace PD
open PySem PySem.Spec PyProof.Rows L2
variable [Tabs]

/-! ### texts -/
def fLower : D → FL := fun o ds S => match o, ds with
  | .str a, [] => if a.length ≤ 5592405 then some (.str (Txt.lower a), S) else none
  | _, _ => none
def fUpper : D → FL := fun o ds S => match o, ds with
  | .str a, [] => if a.length ≤ 5592405 then some (.str (Txt.upper a), S) else none
  | _, _ => none
def fFind : D → FL := fun o ds S => match o, ds with
  | .str a, [.str b] => some (.int (Txt.find a b), S)
  | .str a, [.str b, .int i] => some (.int (Txt.find3 a b i), S)
  | _, _ => none
def strsOf : List D → Option (List Str)
  | [] => some []
  | .str x :: r => (strsOf r).map fun l => x :: l
  | _ => none
theorem strs_rel {K : PySem.W.Frag} {H : Hp} {ρ : List Addr} : ∀ {ds : List D} {vs : List V} {ys : List Str}, strsOf ds = some ys → RelL K H ρ ds vs → vs = ys.map V.str
  | [], _, _, e, r => by cases e; cases r; rfl
  | .str x :: ds, _, ys, e, r => by
    obtain ⟨l, e1, e2⟩ := map_some e
    cases e2
    obtain ⟨v, vs, rfl, r1, r2⟩ := r
    cases r1.of_str
    rw [strs_rel e1 r2]; rfl
  | .non :: _, _, _, e, _ => by cases e
  | .bl _ :: _, _, _, e, _ => by cases e
  | .int _ :: _, _, _, e, _ => by cases e
  | .tup _ :: _, _, _, e, _ => by cases e
  | .cl _ :: _, _, _, e, _ => by cases e
  | .fz _ :: _, _, _, e, _ => by cases e
  | .ref _ :: _, _, _, e, _ => by cases e
def fJoin : D → FL := fun o ds S => match o, ds with
  | .str a, [d] => (seqOf d S).bind fun xs => (strsOf xs).bind fun ys => if (ys.map (·.length)).sum + ys.length * a.length ≤ 16777216 then some (.str (Txt.join a ys), S) else none
  | _, _ => none
section
variable {X : Cx}
theorem mt_mlower : MtD X "str.lower" fLower := by
  refine MtR.imp mt_lower fun x xs H Q h => ?_
  obtain ⟨ρ, S, a, ds, d, S', s, ra, rl, e, q⟩ := h
  unfold fLower at e
  split at e
  · split at e
    · cases e; cases ra.of_str; cases rl
      exact ⟨_, rfl, rfl, by assumption, q _ _ _ (.refl s) (rel_str _)⟩
    · cases e
  · cases e
theorem mt_mupper : MtD X "str.upper" fUpper := by
  refine MtR.imp mt_upper fun x xs H Q h => ?_
  obtain ⟨ρ, S, a, ds, d, S', s, ra, rl, e, q⟩ := h
  unfold fUpper at e
  split at e
  · split at e
    · cases e; cases ra.of_str; cases rl
      exact ⟨_, rfl, rfl, by assumption, q _ _ _ (.refl s) (rel_str _)⟩
    · cases e
  · cases e
theorem mt_mfind : MtD X "str.find" fFind := by
  refine MtR.imp (MtR.or mt_find mt_find3) fun x xs H Q h => ?_
  obtain ⟨ρ, S, a, ds, d, S', s, ra, rl, e, q⟩ := h
  unfold fFind at e
  split at e
  · cases e; cases ra.of_str
    obtain ⟨v, rfl, r1⟩ := relL1 rl
    cases r1.of_str
    exact .inl ⟨_, _, rfl, rfl, q _ _ _ (.refl s) (rel_int _)⟩
  · cases e; cases ra.of_str
    obtain ⟨v, u, rfl, r1, r2⟩ := relL2 rl
    cases r1.of_str; cases r2.of_int
    exact .inr ⟨_, _, _, rfl, rfl, q _ _ _ (.refl s) (rel_int _)⟩
  · cases e
theorem mt_mjoin : MtD X "str.join" fJoin := by
  refine MtR.imp mt_join fun x xs H Q h => ?_
  obtain ⟨ρ, S, a, ds, d, S', s, ra, rl, e, q⟩ := h
  unfold fJoin at e
  split at e
  · obtain ⟨zs, e1, e⟩ := bind_some e
    obtain ⟨ys, e2, e⟩ := bind_some e
    split at e
    · cases e; cases ra.of_str
      obtain ⟨v, rfl, r1⟩ := relL1 rl
      obtain ⟨p, vs, rfl, h1, r2⟩ := seq_of s e1 r1
      have hv := strs_rel e2 r2
      subst hv
      exact ⟨_, p, ys, rfl, rfl, h1, by assumption, q _ _ _ (.refl s) (rel_str _)⟩
    · cases e
  · cases e
end

/-! ### comprehensions of two clauses -/
def lc2Go (deps : List Nat) (n : Nat) (g : MG) (t : MT) (it1 : MI) (g1 : MG) (t1 : MT) (elt : ME) (vs1 : List Nat) (env : DEnv) : List D → Store → Option Store
  | [], S => some S
  | d :: r, S => (g d env S).bind fun p => (t p.1 p.2).bind fun q => if q.1 then
      (it1 p.1 q.2).bind fun x => (lcGo x.2.1 n g1 t1 elt (wipeE p.1 vs1) x.1 x.2.2).bind fun S' => if kept deps S S' then lc2Go deps n g t it1 g1 t1 elt vs1 env r S' else none
      else if kept deps S q.2 then lc2Go deps n g t it1 g1 t1 elt vs1 env r q.2 else none
def mLc2 (it : MI) (g : MG) (t : MT) (it1 : MI) (g1 : MG) (t1 : MT) (elt : ME) (vs vs1 : List Nat) : ME := fun env S => (it env S).bind fun p =>
  if kept p.2.1 p.2.2 (p.2.2 ++ [.lst []]) then (lc2Go p.2.1 p.2.2.length g t it1 g1 t1 elt vs1 (wipeE env vs) p.1 (p.2.2 ++ [.lst []])).map fun S' => (.ref p.2.2.length, S') else none
def mLc2T (it : MI) (g : MG) (t : MT) (it1 : MI) (g1 : MG) (t1 : MT) (elt : ME) (vs vs1 : List Nat) : ME := fun env S => (it env S).bind fun p =>
  if kept p.2.1 p.2.2 (p.2.2 ++ [.lst []]) then (lc2Go p.2.1 p.2.2.length g t it1 g1 t1 elt vs1 (wipeE env vs) p.1 (p.2.2 ++ [.lst []])).bind fun S' => tempOf p.2.2 S' else none
theorem wipe_wipe {σ σ' : St} {vs : List Nat} (h : wipe σ' vs = wipe (wipe σ vs) vs) : wipe σ' vs = wipe σ vs := by
  rw [h]
  refine List.ext_getElem? fun j => ?_
  rw [wipe_get, wipe_get]
  by_cases hj : j ∈ vs
  · rw [if_pos hj, if_pos hj]
    cases σ[j]? <;> rfl
  · rw [if_neg hj]
theorem lc2_read {K : PySem.W.Frag} {it it1 : MI} {g g1 : MG} {t t1 : MT} {elt : ME} {vs vs1 : List Nat} {σ : St} {H : Hp} {Q : VK} {ρ : List Addr} {env : DEnv} {S : Store} {items : List D} {deps : List Nat} {S1 S' : Store}
    (L : Lie K σ H ρ env S) (e1 : it env S = some (items, deps, S1)) (hk : kept deps S1 (S1 ++ [.lst []]) = true) (e2 : lc2Go deps S1.length g t it1 g1 t1 elt vs1 (wipeE env vs) items (S1 ++ [.lst []]) = some S')
    (q : ∀ D H1 ρ1 H' ρ', Go K H ρ H1 ρ1 S1 → H1 D = none → Go K (upd H1 D (.lst [])) (ρ1 ++ [D]) H' ρ' S' → Q (.ref D) H') : tLc2 (tMI K it) (tMGw K vs g) (tMT K t) (tMI K it1) (tMGw K vs1 g1) (tMT K t1) (tM K elt) vs vs1 σ H Q := by
  refine ⟨ρ, env, S, items, deps, S1, L, e1, fun J H1 ρ1 g1' Y D nD => ?_⟩
  obtain ⟨gD, _⟩ := newLst (ds := []) g1'.s (RelL.nil) nD
  refine ⟨fun i m H2 => ∃ ρ2 S2, i + m = items.length ∧ Go K (upd H1 D (.lst [])) (ρ1 ++ [D]) H2 ρ2 S2 ∧ kept deps S1 S2 = true ∧ lc2Go deps S1.length g t it1 g1 t1 elt vs1 (wipeE env vs) (items.drop i) S2 = some S',
    ⟨items.length, ρ1 ++ [D], S1 ++ [.lst []], by omega, .refl gD.s, hk, by rw [List.drop_zero]; exact e2⟩, ?_⟩
  rintro i m H2 ⟨ρ2, S2, hl, g2, k2, e3⟩
  have g12 := gD.trans g2
  have L2 : Lie K (wipe σ vs) H2 ρ2 (wipeE env vs) S2 := ⟨((L.e.mono g1'.le).mono g12.le).wipe vs, g2.s⟩
  by_cases hi : i < items.length
  · refine .inr ⟨Y.go i H2 ρ2 S2 g12 k2 hi, ?_⟩
    rw [List.drop_eq_getElem_cons hi, lc2Go] at e3
    obtain ⟨⟨env3, S3⟩, e4, e3⟩ := bind_some e3
    obtain ⟨⟨k, S4⟩, e5, e3⟩ := bind_some e3
    refine ⟨fun H5 => ∃ ρ5 S5, Go K (upd H1 D (.lst [])) (ρ1 ++ [D]) H5 ρ5 S5 ∧ kept deps S1 S5 = true ∧ lc2Go deps S1.length g t it1 g1 t1 elt vs1 (wipeE env vs) (items.drop (i + 1)) S5 = some S',
      fun H5 ⟨ρ5, S5, a1, a2, a3⟩ => ⟨m - 1, by omega, ρ5, S5, by omega, a1, a2, a3⟩, fun x H3 y => ?_⟩
    obtain ⟨d, hd, g3, r3⟩ := Y.yld i H2 ρ2 S2 g12 k2 hi x H3 y
    rw [List.getElem?_eq_getElem hi] at hd
    cases hd
    refine ⟨ρ2, wipeE env vs, S2, _, env3, S3, L2.next g3, r3, e4, fun σ4 H4 ρ4 g4 le4 w4 => ⟨wipe_wipe w4, ?_⟩⟩
    refine tMT_at ⟨le4, g4.s⟩ e5 fun H5 ρ5 g5 => ?_
    have g25 := ((g2.trans g3).trans g4).trans g5
    have L5 : Lie K σ4 H5 ρ5 env3 S4 := ⟨le4.mono g5.le, g5.s⟩
    cases k with
    | false =>
      refine iteF ?_
      dsimp only at e3
      rw [if_neg Bool.false_ne_true] at e3
      split at e3
      · rename_i hk4
        exact ⟨ρ5, S4, g25, kept_trans k2 hk4, e3⟩
      · cases e3
    | true =>
      refine iteT ?_
      dsimp only at e3
      rw [if_pos rfl] at e3
      obtain ⟨⟨its1, deps1, S6⟩, e6, e3⟩ := bind_some e3
      obtain ⟨S9, e9, e3⟩ := bind_some e3
      split at e3
      · rename_i hk9
        refine ⟨ρ5, env3, S4, its1, deps1, S6, L5, e6, fun J1 H6 ρ6 g6 Y1 => ?_⟩
        have g26 := g25.trans g6
        refine ⟨fun j m1 H7 => ∃ ρ7 S7, j + m1 = its1.length ∧ Go K H6 ρ6 H7 ρ7 S7 ∧ kept deps1 S6 S7 = true ∧ lcGo deps1 S1.length g1 t1 elt (wipeE env3 vs1) (its1.drop j) S7 = some S9,
          ⟨its1.length, ρ6, S6, by omega, .refl g6.s, kept_refl _ _, by rw [List.drop_zero]; exact e9⟩, ?_⟩
        rintro j m1 H7 ⟨ρ7, S7, hl7, g7, k7, e7⟩
        have L7 : Lie K (wipe σ4 vs1) H7 ρ7 (wipeE env3 vs1) S7 := ⟨((L5.e.mono g6.le).mono g7.le).wipe vs1, g7.s⟩
        have g27 := g26.trans g7
        by_cases hj : j < its1.length
        · refine .inr ⟨Y1.go j H7 ρ7 S7 g7 k7 hj, ?_⟩
          rw [List.drop_eq_getElem_cons hj, lcGo] at e7
          obtain ⟨⟨env8, S8⟩, e8, e7⟩ := bind_some e7
          obtain ⟨⟨k1, S10⟩, e10, e7⟩ := bind_some e7
          refine ⟨fun H5 => ∃ ρ5 S5, Go K H6 ρ6 H5 ρ5 S5 ∧ kept deps1 S6 S5 = true ∧ lcGo deps1 S1.length g1 t1 elt (wipeE env3 vs1) (its1.drop (j + 1)) S5 = some S9,
            fun H5 ⟨ρ5, S5, a1, a2, a3⟩ => ⟨m1 - 1, by omega, ρ5, S5, by omega, a1, a2, a3⟩, fun x1 H8 y1 => ?_⟩
          obtain ⟨d1, hd1, g8, r8⟩ := Y1.yld j H7 ρ7 S7 g7 k7 hj x1 H8 y1
          rw [List.getElem?_eq_getElem hj] at hd1
          cases hd1
          refine ⟨ρ7, wipeE env3 vs1, S7, _, env8, S8, L7.next g8, r8, e8, fun σ9 H9 ρ9 g9 le9 w9 => ⟨wipe_wipe w9, ?_⟩⟩
          refine tMT_at ⟨le9, g9.s⟩ e10 fun H10 ρ10 g10 => ?_
          have g710 := ((g7.trans g8).trans g9).trans g10
          cases k1 with
          | false =>
            refine iteF ?_
            dsimp only at e7
            rw [if_neg Bool.false_ne_true] at e7
            split at e7
            · rename_i hk4
              exact ⟨ρ10, S10, g710, kept_trans k7 hk4, e7⟩
            · cases e7
          | true =>
            refine iteT ?_
            dsimp only at e7
            rw [if_pos rfl] at e7
            obtain ⟨⟨x11, S11⟩, e11, e7⟩ := bind_some e7
            obtain ⟨S12, e12, e7⟩ := bind_some e7
            refine tM_at ⟨le9.mono g10.le, g10.s⟩ e11 fun v11 H11 ρ11 g11 r11 => ?_
            have g711 := g710.trans g11
            have g211 := g26.trans g711
            unfold putAt at e12
            split at e12
            · rename_i acc hacc
              split at e12
              · rename_i hz
                cases e12
                have hD : ρ11[S1.length]? = some D := by
                  refine pre_get g211.le.pre ?_
                  rw [← g1'.s.len, List.getElem?_append_right (Nat.le_refl _), Nat.sub_self]; rfl
                obtain ⟨vs6, h1, h2⟩ := g211.s.at _ _ D hacc hD
                refine ⟨vs6, h1, by rw [h2.length]; exact hz, ?_⟩
                have g12' := setLst g211.s hacc hD (h2.append (.one r11)) (lstLe g211.s hacc hD)
                split at e7
                · rename_i hk7
                  exact ⟨ρ11, _, g711.trans g12', kept_trans k7 hk7, e7⟩
                · cases e7
              · cases e12
            · cases e12
        · have : j = its1.length := by omega
          subst this
          rw [List.drop_length, lcGo] at e7
          cases e7
          exact .inl ⟨Y1.stop H7 ρ7 _ g7 k7, ρ7, _, g27, kept_trans k2 hk9, e3⟩
      · cases e3
  · have : i = items.length := by omega
    subst this
    rw [List.drop_length, lc2Go] at e3
    cases e3
    exact .inl ⟨Y.stop H2 ρ2 _ g12 k2, q D H1 ρ1 H2 ρ2 g1' nD g2⟩
section
variable {X : Cx} {elt tg iter tg1 iter1 : Expr} {ifs ifs1 : List Expr} {scope : Scope} {own : List (Str × Nat)} {vs1 : List Nat} {pos : Pos} {it it1 : MI} {g g1 : MG} {t t1 : MT} {m : ME}
theorem pm_lc2 (hc : X.calm = true) (hN : X.N.Nodup) (hi : PMI X tg iter it) (ok : BlkOk X.N X.env.scope scope own) (hv : ∀ i ∈ vs1, i ∈ own.map (·.2))
    (hg : ∀ (s : Shared) (H : Hp) (C : Addr) (cl : List (Str × Addr)) (fp : List Addr), PGW (X.blk s H scope (compEnvC scope cl C X.env) fp) (own.map (·.2)) tg g) (ht : ∀ (s : Shared) (H : Hp) (C : Addr) (cl : List (Str × Addr)) (fp : List Addr), PMTs (X.blk s H scope (compEnvC scope cl C X.env) fp) ifs t)
    (hi1 : ∀ (s : Shared) (H : Hp) (C : Addr) (cl : List (Str × Addr)) (fp : List Addr), PMI (X.blk s H scope (compEnvC scope cl C X.env) fp) tg1 iter1 it1)
    (hg1 : ∀ (s : Shared) (H : Hp) (C : Addr) (cl : List (Str × Addr)) (fp : List Addr), PGW (X.blk s H scope (compEnvC scope cl C X.env) fp) vs1 tg1 g1) (ht1 : ∀ (s : Shared) (H : Hp) (C : Addr) (cl : List (Str × Addr)) (fp : List Addr), PMTs (X.blk s H scope (compEnvC scope cl C X.env) fp) ifs1 t1)
    (he : ∀ (s : Shared) (H : Hp) (C : Addr) (cl : List (Str × Addr)) (fp : List Addr), PM (X.blk s H scope (compEnvC scope cl C X.env) fp) elt m) (hs : ∀ x, foldedSetIterable iter X.env x = pure x := by intro _; rfl) (hs1 : ∀ env x, foldedSetIterable iter1 env x = pure x := by intro _ _; rfl) :
    PM X (.ListComp elt [⟨tg, iter, ifs, 0⟩, ⟨tg1, iter1, ifs1, 0⟩] scope pos) (mLc2 it g t it1 g1 t1 m (own.map (·.2)) vs1) :=
  PEi (pe_lc2 hc hN hi ok hv hg ht hi1 hg1 ht1 he hs hs1) fun σ H Q ⟨ρ, env, S, d, S', L, e, q⟩ => by
    obtain ⟨⟨items, deps, S1⟩, e1, e⟩ := bind_some e
    dsimp only at e
    split at e
    · rename_i hk
      obtain ⟨S2, e2, e⟩ := map_some e
      cases e
      refine lc2_read L e1 hk e2 fun D H1 ρ1 H' ρ' g1 nD g2 => ?_
      obtain ⟨g3, r3⟩ := lc_keep g1 nD g2
      exact q _ _ _ g3 r3
    · cases e
theorem pm_lc2T (hc : X.calm = true) (hN : X.N.Nodup) (hi : PMI X tg iter it) (ok : BlkOk X.N X.env.scope scope own) (hv : ∀ i ∈ vs1, i ∈ own.map (·.2))
    (hg : ∀ (s : Shared) (H : Hp) (C : Addr) (cl : List (Str × Addr)) (fp : List Addr), PGW (X.blk s H scope (compEnvC scope cl C X.env) fp) (own.map (·.2)) tg g) (ht : ∀ (s : Shared) (H : Hp) (C : Addr) (cl : List (Str × Addr)) (fp : List Addr), PMTs (X.blk s H scope (compEnvC scope cl C X.env) fp) ifs t)
    (hi1 : ∀ (s : Shared) (H : Hp) (C : Addr) (cl : List (Str × Addr)) (fp : List Addr), PMI (X.blk s H scope (compEnvC scope cl C X.env) fp) tg1 iter1 it1)
    (hg1 : ∀ (s : Shared) (H : Hp) (C : Addr) (cl : List (Str × Addr)) (fp : List Addr), PGW (X.blk s H scope (compEnvC scope cl C X.env) fp) vs1 tg1 g1) (ht1 : ∀ (s : Shared) (H : Hp) (C : Addr) (cl : List (Str × Addr)) (fp : List Addr), PMTs (X.blk s H scope (compEnvC scope cl C X.env) fp) ifs1 t1)
    (he : ∀ (s : Shared) (H : Hp) (C : Addr) (cl : List (Str × Addr)) (fp : List Addr), PM (X.blk s H scope (compEnvC scope cl C X.env) fp) elt m) (hs : ∀ x, foldedSetIterable iter X.env x = pure x := by intro _; rfl) (hs1 : ∀ env x, foldedSetIterable iter1 env x = pure x := by intro _ _; rfl) :
    PM X (.ListComp elt [⟨tg, iter, ifs, 0⟩, ⟨tg1, iter1, ifs1, 0⟩] scope pos) (mLc2T it g t it1 g1 t1 m (own.map (·.2)) vs1) :=
  PEi (pe_lc2 hc hN hi ok hv hg ht hi1 hg1 ht1 he hs hs1) fun σ H Q ⟨ρ, env, S, d, S', L, e, q⟩ => by
    obtain ⟨⟨items, deps, S1⟩, e1, e⟩ := bind_some e
    dsimp only at e
    split at e
    · rename_i hk
      obtain ⟨S2, e2, e⟩ := bind_some e
      refine lc2_read L e1 hk e2 fun D H1 ρ1 H' ρ' g1 nD g2 => ?_
      obtain ⟨g3, r3⟩ := lc_temp g1 nD g2 e
      exact q _ _ _ g3 r3
    · cases e
theorem ps_mlc2 {i : Nat} {y : Str} {py spos : Pos} (hc : X.calm = true) (hN : X.N.Nodup) (hy : X.N[i]? = some y) (hyl : X.env.scope.names.lookup y = some .local)
    (hsw : swapsWith (.ListComp elt [⟨tg, iter, ifs, 0⟩, ⟨tg1, iter1, ifs1, 0⟩] scope pos) (some (.Name y py)) spos.line X.env = pure true) (hi : PMI X tg iter it) (ok : BlkOk X.N X.env.scope scope own) (hv : ∀ i ∈ vs1, i ∈ own.map (·.2))
    (hg : ∀ (s : Shared) (H : Hp) (C : Addr) (cl : List (Str × Addr)) (fp : List Addr), PGW (X.blk s H scope (compEnvC scope cl C X.env) fp) (own.map (·.2)) tg g) (ht : ∀ (s : Shared) (H : Hp) (C : Addr) (cl : List (Str × Addr)) (fp : List Addr), PMTs (X.blk s H scope (compEnvC scope cl C X.env) fp) ifs t)
    (hi1 : ∀ (s : Shared) (H : Hp) (C : Addr) (cl : List (Str × Addr)) (fp : List Addr), PMI (X.blk s H scope (compEnvC scope cl C X.env) fp) tg1 iter1 it1)
    (hg1 : ∀ (s : Shared) (H : Hp) (C : Addr) (cl : List (Str × Addr)) (fp : List Addr), PGW (X.blk s H scope (compEnvC scope cl C X.env) fp) vs1 tg1 g1) (ht1 : ∀ (s : Shared) (H : Hp) (C : Addr) (cl : List (Str × Addr)) (fp : List Addr), PMTs (X.blk s H scope (compEnvC scope cl C X.env) fp) ifs1 t1)
    (he : ∀ (s : Shared) (H : Hp) (C : Addr) (cl : List (Str × Addr)) (fp : List Addr), PM (X.blk s H scope (compEnvC scope cl C X.env) fp) elt m) (hs : ∀ x, foldedSetIterable iter X.env x = pure x := by intro _; rfl) (hs1 : ∀ env x, foldedSetIterable iter1 env x = pure x := by intro _ _; rfl) :
    PMS X (.Assign [.Name y py] (.ListComp elt [⟨tg, iter, ifs, 0⟩, ⟨tg1, iter1, ifs1, 0⟩] scope pos) spos) (sAsg (mLc2 it g t it1 g1 t1 m (own.map (·.2)) vs1) (mgName i)) :=
  PSi (ps_setLc2 hc hN hy hyl hsw hi ok hv hg ht hi1 hg1 ht1 he hs hs1) fun D0 σ H ⟨ρ, env, S, o, L, e, q⟩ => by
    obtain ⟨⟨d, S0⟩, e6, e9⟩ := bind_some e
    obtain ⟨⟨env2, S9⟩, e8, e7⟩ := map_some e9
    cases e7; cases e8
    obtain ⟨⟨items, deps, S1⟩, e1, e5⟩ := bind_some e6
    dsimp only at e5
    split at e5
    · rename_i hk
      obtain ⟨S2, e2, e4⟩ := map_some e5
      cases e4
      refine lc2_read L e1 hk e2 fun D H1 ρ1 H' ρ' g1 nD g2 => ?_
      obtain ⟨g3, r3⟩ := lc_keep g1 nD g2
      exact q _ _ _ g3 ((L.e.mono g3.le).set i r3)
    · cases e5
end
end PD

set_option Elab.async false
set_option linter.all false
set_option maxRecDepth 100000
set_option maxHeartbeats 4000000
/-! PdEnum: enumerate of lists, tuples, texts. -/
namespace PD
open PySem PySem.Spec PyProof.Rows L2

set_option maxHeartbeats 1000000 in
theorem meets_enum1 {v : Value} {o : Obj} {H : Heap → Prop} (B : Begins v o H) :
    Meets (Builtin.«enumerate.__new__» ⟨[.type "enumerate", v], []⟩) (fun _ R s => H s.heap ∧
      R (.ok (.ret (.ref (s.heap.push o).objs.size))) { s with heap := (s.heap.push o).push { cls := .type "enumerate", data := .fields #[.none, .bool false, .ref s.heap.objs.size, rawInt 0, .none, .none] } }) :=
  .of_wp fun prog w A R s h => by
    obtain ⟨hp, g, d, tk, os⟩ := s; obtain ⟨h1, h⟩ := h
    have hsub := sub_enumerate
    have q1 : ∀ {A' : Around} {E : Value → Shared → Prop} {Q : Value → Shared → Prop}, Q (.ref hp.objs.size) ⟨hp.push o, g, d, tk, os⟩ → wpAny (model prog w) A' (pyIter v) Q E ⟨hp, g, d, tk, os⟩ :=
      fun q => B.iter prog w _ _ ⟨hp, g, d, tk, os⟩ _ h1 q
    wp_walk using q1
    refine wpAny_stack_any fun st => wpAny_pure ?_
    split
    · rename_i c _ _ _ _ _
      cases (c == Value.type "enumerate")
      · wp_walk using q1
        exact ⟨_, rfl, h⟩
      · wp_walk using q1
        exact ⟨_, rfl, h⟩
    · wp_walk using q1
      exact ⟨_, rfl, h⟩
theorem enum_begins1 {prog : Program} {w : World} {A : Around} {E : Value → Shared → Prop} {s : Shared} {v : Value} {o : Obj} {H : Heap → Prop} {Q : Value → Shared → Prop} (B : Begins v o H) (h1 : H s.heap)
    (h : ∀ h', IsEnum h' (s.heap.objs.size + 1) s.heap.objs.size 0 .none → h'.get? s.heap.objs.size = some o → h'.objs.size = s.heap.objs.size + 2 →
      (∀ b o, s.heap.get? b = some o → h'.get? b = some o) → Q (.ref (s.heap.objs.size + 1)) { s with heap := h' }) :
    wpAny (model prog w) A (call (.type "enumerate") [v]) Q E s := by
  refine callType_new F.called_enumerate (by decide) (F.typeCall_enumerate_1 _) (F.newCall_enumerate_1 _) (fun obj => F.args_object_init_2 obj _) F.entry_enumerate_new
    (meets_enum1 B) ⟨h1, ?_⟩
  have hz : (s.heap.push o).objs.size = s.heap.objs.size + 1 := Heap.size_push ..
  show _ ∧ _
  rw [hz]
  have he : IsEnum ((s.heap.push o).push { cls := .type "enumerate", data := .fields #[.none, .bool false, .ref s.heap.objs.size, rawInt 0, .none, .none] }) (s.heap.objs.size + 1) s.heap.objs.size 0 .none := by
    have := Heap.get?_push_size (s.heap.push o) (o := { cls := .type "enumerate", data := .fields #[.none, .bool false, .ref s.heap.objs.size, rawInt 0, .none, .none] }) rfl
    rw [hz] at this; exact this
  refine ⟨⟨_, he, rfl⟩, h _ he (Heap.get?_push_of_some _ (Heap.get?_push_size _ B.free)) (by rw [Heap.size_push, hz]) fun b o x => Heap.get?_push_of_some _ (Heap.get?_push_of_some _ x)⟩

/-- the tuple at a, each item in a new pair -/
def IteT (K : PySem.W.Frag) (a : Addr) : It :=
  ⟨fun i H => ∃ (xs : List V) (x : V), SqT K H a xs ∧ xs[i]? = some x, fun i H v H' => ∃ T x, v = .ref T ∧ H T = none ∧ H' = upd H T (.tup [.int (i : Nat), x]) ∧ ∀ xs, SqT K H a xs → xs[i]? = some x, fun i H => ∃ xs : List V, SqT K H a xs ∧ xs.length ≤ i⟩
theorem turn_enumT {P : Program} {w : World} {K : PySem.W.Frag} {elts : List Expr} {kk : Nat} {tpos : Pos} (a e it : Addr) :
    Turn P w K (.Tuple elts kk tpos) (IteT K a) [e, it] e (fun i h => (∃ old, IsEnum h e it ((i : Nat) : Int) old) ∧ h.IsTupleIter it a i ∧ e ≠ it ∧ a ≠ it ∧ e ≠ a) where
  mem := by simp
  obj := fun i h st b hb => by
    obtain ⟨⟨old, he⟩, ⟨o, ho, hc, hd⟩, _⟩ := st
    have e' : b = e ∨ b = it := by simpa using hb
    rcases e' with z | z
    · rw [z]; exact ⟨_, he, fun v q => nomatch q⟩
    · rw [z]; exact ⟨o, ho, fun v q => by rw [hd] at q; cases q⟩
  keep := fun i h h' st k => let ⟨⟨old, he⟩, hi, hne⟩ := st; ⟨⟨old, k e (by simp) _ he⟩, hi.at fun o q => k it (by simp) o q, hne⟩
  item := by
    intro X hP hw hK hc i pins s σ H E I hf st hg
    subst hP hw hK
    obtain ⟨⟨old, he⟩, hit, hne, hai, hea⟩ := st
    obtain ⟨xs, x, hq, hx⟩ := hg
    obtain ⟨its, rv, p, hz⟩ := I.tuple hq
    obtain ⟨u, hu, ru⟩ := rv.get hx
    have hel : e < s.heap.objs.size := Heap.lt_size he
    have hil : it < s.heap.objs.size := by obtain ⟨_, q, _⟩ := hit; exact Heap.lt_size q
    have hlt : i < its.toArray.size := by
      have := (List.getElem?_eq_some_iff.mp hu).1
      simpa using this
    refine wpAny_pyNext_enum_itemD (Draws.tuple (by show X.A.handled = none; exact I.ok.hd hc) it a hai its.toArray) he ⟨hit, show s.heap.IsTuple a its.toArray from p⟩ hlt hne (by simp [hne, hea]) fun x' h' tk hPx ho hst' hT hsz hk => ?_
    obtain rfl : x' = u := by
      have hPx : its.toArray[i]? = some x' := hPx
      rw [List.getElem?_toArray, hu] at hPx
      exact (Option.some.inj hPx).symm
    refine ⟨_, rfl, wpAny_letOwnedTupleGo_enum (s := { s with heap := h', toks := tk + 1 }) ho fun h'' he' sb => ?_⟩
    have hT2 : h''.get? s.heap.objs.size = some { cls := .type "tuple", data := .seq #[.int i tk, x'] } := (sb.2 _ (Nat.ne_of_gt hel)).trans hT
    have new : ObjOk X.prog X.w (upd H s.heap.objs.size (.tup [.int (i : Nat), x])) h'' s.heap.objs.size (.tup [.int (i : Nat), x]) :=
      ⟨by show 2 ≤ sizeLine; decide, [.int i tk, x'], .cons ⟨_, rfl⟩ (.cons ru .nil), ⟨_, hT2, rfl, _, rfl⟩⟩
    have I1 : Inv X pins σ (upd H s.heap.objs.size (.tup [.int (i : Nat), x])) { s with heap := h'', toks := tk + 1 } :=
      I.turnedNew (ch := [e, it]) (fun b ob hb q => (sb.2 b (fun z => hb (by simp [z]))).trans (hk b ob (fun z => hb (by simp [z])) (fun z => hb (by simp [z])) q)) hf (Nat.le_refl _) new
    refine ⟨.ref s.heap.objs.size, _, I1, rfl, ⟨_, x, rfl, I.hok.fresh (Nat.le_refl _), rfl, fun ys hy => by rw [I.tuple_inj hy hq]; exact hx⟩, ⟨⟨x', ?_⟩, hst'.1.at fun o q => (sb.2 it (Ne.symm hne)).trans q, hne, hai, hea⟩, fun b hb => ?_⟩
    · have e1 : ((i + 1 : Nat) : Int) = (i : Int) + 1 := by omega
      rw [e1]; exact he'
    · have hb' : b < s.heap.objs.size := by
        have e' : b = e ∨ b = it := by simpa using hb
        rcases e' with z | z
        · rw [z]; exact hel
        · rw [z]; exact hil
      rw [upd_ne (Nat.ne_of_lt hb')]
      exact (hf b hb).1
  done := by
    intro X hP hw hK hc i pins s σ H E I hf st hg
    subst hP hw hK
    obtain ⟨⟨old, he⟩, hit, hne, hai, hea⟩ := st
    obtain ⟨xs, hq, hx⟩ := hg
    obtain ⟨its, rv, p, hz⟩ := I.tuple hq
    obtain ⟨f0, f1, f2, f3, f4, f5⟩ := hf it (by simp)
    have hl := rv.length
    have hT : s.TypeIs (.ref e) "enumerate" := ⟨_, he, rfl⟩
    unfold pyNext
    refine wpAny_bind (wpAny_attempt (wpAny_callSpecial?_slot (name := Str.ofString "__next__") hT F.slot_enumerate_next
      (wpAny_call_entry F.slot_enumerate_next hT F.entry_enumerate_next ?_ (F.args_enumerate_next_1 _))))
    show wpAny _ _ (field (.ref e) 2 >>= _) _ _ _
    refine wpAny_bind (wpAny_field he rfl (x := .ref it) rfl ?_)
    refine wpAny_bind (wpAny_nextOf_tuple_end (I.ok.hd hc) hit (show s.heap.IsTuple a its.toArray from p) (by simp; omega) fun h' x he' hx' => ?_)
    obtain ⟨o, ho, hcx⟩ := hx'
    refine wpAny_bind (wpAny_isInstance (T := "StopIteration") (b := true) ⟨o, ho, hcx⟩ isSubtype_stop ?_)
    exact wpAny_pure ⟨rfl, I.turned (t' := s.toks) (fun b o hb q => he' b o hb q) f0 f1 f3 f4 f5⟩
  self := fun A i s Q E st h => let ⟨⟨_, he⟩, _⟩ := st; wpAny_pyIter_enum he h
/-- the signs of x, each in a new pair -/
def IteS (x : Str) : It :=
  ⟨fun i _ => i < x.cps.size, fun i H v H' => ∃ T c, v = .ref T ∧ H T = none ∧ x.cps[i]? = some c ∧ H' = upd H T (.tup [.int (i : Nat), .str ⟨#[c]⟩]), fun i _ => x.cps.size ≤ i⟩
theorem turn_enumS {P : Program} {w : World} {K : PySem.W.Frag} {elts : List Expr} {kk : Nat} {tpos : Pos} (x : Str) (t : Tok) (e it : Addr) :
    Turn P w K (.Tuple elts kk tpos) (IteS x) [e, it] e (fun i h => (∃ old, IsEnum h e it ((i : Nat) : Int) old) ∧ h.IsStrIter it (strIterType x) x t i ∧ e ≠ it ∧ i ≤ x.cps.size) where
  mem := by simp
  obj := fun i h st b hb => by
    obtain ⟨⟨old, he⟩, ⟨o, ho, hc, hd⟩, _⟩ := st
    have e' : b = e ∨ b = it := by simpa using hb
    rcases e' with z | z
    · rw [z]; exact ⟨_, he, fun v q => nomatch q⟩
    · rw [z]; exact ⟨o, ho, fun v q => by rw [hd] at q; cases q⟩
  keep := fun i h h' st k => let ⟨⟨old, he⟩, ⟨o, ho, hc, hd⟩, hne⟩ := st; ⟨⟨old, k e (by simp) _ he⟩, ⟨o, k it (by simp) _ ho, hc, hd⟩, hne⟩
  item := by
    intro X hP hw hK hc i pins s σ H E I hf st hg
    subst hP hw hK
    obtain ⟨⟨old, he⟩, hit, hne, hle⟩ := st
    have hg : i < x.cps.size := hg
    have hel : e < s.heap.objs.size := Heap.lt_size he
    have hil : it < s.heap.objs.size := by obtain ⟨_, q, _⟩ := hit; exact Heap.lt_size q
    refine wpAny_pyNext_enum_itemD (Draws.text (by show X.A.handled = none; exact I.ok.hd hc) it x t) he hit hg hne (by simp [hne]) fun x' h' tk hPx ho hst' hT hsz hk => ?_
    obtain ⟨c, u, hcx, rfl⟩ := hPx
    obtain ⟨os', hos1, hos2, hos3⟩ := hst'
    refine ⟨_, rfl, wpAny_letOwnedTupleGo_enum (s := { s with heap := h', toks := tk + 1 }) ho fun h'' he' sb => ?_⟩
    have hT2 : h''.get? s.heap.objs.size = some { cls := .type "tuple", data := .seq #[.int i tk, .str ⟨#[c]⟩ u] } := (sb.2 _ (Nat.ne_of_gt hel)).trans hT
    have new : ObjOk X.prog X.w (upd H s.heap.objs.size (.tup [.int (i : Nat), .str ⟨#[c]⟩])) h'' s.heap.objs.size (.tup [.int (i : Nat), .str ⟨#[c]⟩]) :=
      ⟨by show 2 ≤ sizeLine; decide, [.int i tk, .str ⟨#[c]⟩ u], .cons ⟨_, rfl⟩ (.cons ⟨_, rfl⟩ .nil), ⟨_, hT2, rfl, _, rfl⟩⟩
    have I1 : Inv X pins σ (upd H s.heap.objs.size (.tup [.int (i : Nat), .str ⟨#[c]⟩])) { s with heap := h'', toks := tk + 1 } :=
      I.turnedNew (ch := [e, it]) (fun b ob hb q => (sb.2 b (fun z => hb (by simp [z]))).trans (hk b ob (fun z => hb (by simp [z])) (fun z => hb (by simp [z])) q)) hf (Nat.le_refl _) new
    refine ⟨.ref s.heap.objs.size, _, I1, rfl, ⟨_, c, rfl, I.hok.fresh (Nat.le_refl _), hcx, rfl⟩, ⟨⟨.str ⟨#[c]⟩ u, ?_⟩, ⟨os', (sb.2 it (Ne.symm hne)).trans hos1, hos2, hos3⟩, hne, hg⟩, fun b hb => ?_⟩
    · have e1 : ((i + 1 : Nat) : Int) = (i : Int) + 1 := by omega
      rw [e1]; exact he'
    · have hb' : b < s.heap.objs.size := by
        have e' : b = e ∨ b = it := by simpa using hb
        rcases e' with z | z
        · rw [z]; exact hel
        · rw [z]; exact hil
      rw [upd_ne (Nat.ne_of_lt hb')]
      exact (hf b hb).1
  done := by
    intro X hP hw hK hc i pins s σ H E I hf st hg
    subst hP hw hK
    obtain ⟨⟨old, he⟩, hit, hne, hle⟩ := st
    have hg : x.cps.size ≤ i := hg
    obtain rfl : i = x.cps.size := Nat.le_antisymm hle hg
    obtain ⟨f0, f1, f2, f3, f4, f5⟩ := hf it (by simp)
    exact wpAny_pyNext_enum_endD (Draws.text (by show X.A.handled = none; exact I.ok.hd hc) it x t) he hit fun h' eb => ⟨rfl, I.turned (t' := s.toks) (fun b o hb q => eb b o hb q) f0 f1 f3 f4 f5⟩
  self := fun A i s Q E st h => let ⟨⟨_, he⟩, _⟩ := st; wpAny_pyIter_enum he h

variable [Tabs]
def enumD (xs : List D) : List D := xs.zipIdx.map fun p => .tup [.int (p.2 : Nat), p.1]
theorem enum_len (xs : List D) : (enumD xs).length = xs.length := by simp [enumD]
theorem enum_get {xs : List D} {i : Nat} {d : D} (h : xs[i]? = some d) : (enumD xs)[i]? = some (.tup [.int (i : Nat), d]) := by
  unfold enumD
  rw [List.getElem?_map, List.getElem?_zipIdx, h]
  simp
def iEnumM (m : ME) : MI := fun env S => (m env S).bind fun p => match p.1 with
  | .tup ds => some (enumD ds, [], p.2)
  | .cl ds => some (enumD ds, [], p.2)
  | .str z => some (enumD (signs z), [], p.2)
  | .ref i => match p.2[i]? with
    | some (.lst ds) => some (enumD ds, [i], p.2)
    | _ => none
  | _ => none
theorem y_enumL {K : PySem.W.Frag} {H : Hp} {ρ : List Addr} {S : Store} {a : Addr} {xs : List D} {deps : List Nat} (r1 : Rds K a xs deps H ρ S) : Yields K (Ite K a) (enumD xs) deps H ρ S where
  go := fun i H' ρ' S' g k hi => by
    rw [enum_len] at hi
    obtain ⟨vs, h1, q1⟩ := r1.rd H' ρ' S' g k
    have l1 := q1.length
    exact ⟨vs, vs[i]'(by omega), h1, List.getElem?_eq_getElem _⟩
  yld := fun i H' ρ' S' g k hi v H2 ⟨T, x, ev, n, eH, f1⟩ => by
    subst ev; subst eH
    obtain ⟨vs, h1, q1⟩ := r1.rd H' ρ' S' g k
    obtain ⟨d, hd, rd⟩ := q1.get' (f1 vs h1)
    obtain ⟨g2, r⟩ := newPair g.s n (rel_int (K := K) (H := H') (ρ := ρ') (i : Nat)) rd
    exact ⟨_, enum_get hd, g2, r⟩
  stop := fun H' ρ' S' g k => by
    obtain ⟨vs, h1, q1⟩ := r1.rd H' ρ' S' g k
    have l1 := q1.length
    rw [enum_len]
    exact ⟨vs, h1, by omega⟩
theorem y_enumT {K : PySem.W.Frag} {H : Hp} {ρ : List Addr} {S : Store} {a : Addr} {xs : List D} {vs : List V} (h1 : SqT K H a vs) (r1 : RelL K H ρ xs vs) : Yields K (IteT K a) (enumD xs) [] H ρ S where
  go := fun i H' ρ' S' g k hi => by
    rw [enum_len] at hi
    have l1 := r1.length
    exact ⟨vs, vs[i]'(by omega), g.le.sqt h1, List.getElem?_eq_getElem _⟩
  yld := fun i H' ρ' S' g k hi v H2 ⟨T, x, ev, n, eH, f1⟩ => by
    subst ev; subst eH
    obtain ⟨d, hd, rd⟩ := (r1.mono g.le).get' (f1 vs (g.le.sqt h1))
    obtain ⟨g2, r⟩ := newPair g.s n (rel_int (K := K) (H := H') (ρ := ρ') (i : Nat)) rd
    exact ⟨_, enum_get hd, g2, r⟩
  stop := fun H' ρ' S' g k => by
    have l1 := r1.length
    rw [enum_len]
    exact ⟨vs, g.le.sqt h1, by omega⟩
theorem y_enumS {K : PySem.W.Frag} {H : Hp} {ρ : List Addr} {S : Store} (x : Str) : Yields K (IteS x) (enumD (signs x)) [] H ρ S where
  go := fun i H' ρ' S' g k hi => by
    rw [enum_len] at hi
    have l1 : (signs x).length = x.cps.size := by simp [signs]
    show i < x.cps.size
    omega
  yld := fun i H' ρ' S' g k hi v H2 ⟨T, c, ev, n, hc, eH⟩ => by
    subst ev; subst eH
    obtain ⟨g2, r⟩ := newPair g.s n (rel_int (K := K) (H := H') (ρ := ρ') (i : Nat)) (rel_str (K := K) (H := H') (ρ := ρ') ⟨#[c]⟩)
    exact ⟨_, enum_get (by simp [signs, hc]), g2, r⟩
  stop := fun H' ρ' S' g k => by
    rw [enum_len]
    show x.cps.size ≤ _
    simp [signs]
theorem pi_menum {X : Cx} {e : Expr} {m : ME} {p pos tpos : Pos} {elts : List Expr} {kk : Nat} (hg : Gl X "enumerate") (hm : X.mg "enumerate" = none) (ha : PM X e m) (hs : starEach [e] X.env = (false, eval e X.env) :: starEach [] X.env := by rfl) :
    PMI X (.Tuple elts kk tpos) (.Call (.Name "enumerate" p) [e] [] pos) (iEnumM m) := by
  refine ⟨fun pins s σ H R I h => ?_⟩
  obtain ⟨ρ, env, S, items, deps, S', L, h, q⟩ := h
  obtain ⟨⟨d, S1⟩, e1, h⟩ := bind_some h
  dsimp only at h
  refine Call_ (ld_blt I hg hm boot_enumerate (PyProof.Rows.callWith_type1 (thn ((pa_mcons ha pa_mnil hs).run pos pins s σ H (fun vs H1 => ∃ v ρ1, vs = [v] ∧ Go X.K H ρ H1 ρ1 S1 ∧ Rel X.K H1 ρ1 d v) I (tMA1 L e1 fun v H1 ρ1 g1 r1 => ⟨v, ρ1, rfl, g1, r1⟩)) fun us s1 ⟨vs, H1, I1, r1, v, ρ1, ev, g1, rd⟩ => ?_) hs rfl))
  subst ev
  obtain ⟨u, rfl, ru⟩ := vals1 r1
  have fp2 : ∀ b ∈ [s1.heap.objs.size + 1, s1.heap.objs.size], FpOk X pins H1 b := fun b hb => by
    have e' : b = s1.heap.objs.size + 1 ∨ b = s1.heap.objs.size := by simpa using hb
    have hle : s1.heap.objs.size ≤ b := by
      rcases e' with z | z
      · rw [z]; exact Nat.le_add_right _ _
      · rw [z]; exact Nat.le_refl _
    exact I1.fpOk hle (I1.hok.fresh hle)
  have tup : ∀ ds : List D, d = .tup ds → items = enumD ds → deps = [] → S1 = S' → wpAny (model X.prog X.w) X.A (call (.type "enumerate") [u]) (fun v s => wpAny (model X.prog X.w) X.A (pyIter v) (PIE X pins σ (.Tuple elts kk tpos) R) X.xe s) X.xe s1 := by
    rintro ds rfl rfl rfl rfl
    obtain ⟨a, vs, rfl, h1, q1⟩ := rd.of_tup
    obtain rfl : u = Value.ref a := ru
    obtain ⟨its, rv, p', hz⟩ := I1.tuple h1
    have ht : s1.heap.IsTuple a its.toArray := p'
    obtain ⟨oa, hoa, _⟩ := id ht
    have hal : a < s1.heap.objs.size := Heap.lt_size hoa
    refine enum_begins1 (begins_tuple a its.toArray) ht fun h' he ho hsz hk => wpAny_pyIter_enum he ?_
    have I2 : Inv X pins σ H1 { s1 with heap := h' } := I1.kept (t' := s1.toks) hk
    exact ⟨s1.heap.objs.size + 1, [s1.heap.objs.size + 1, s1.heap.objs.size], _, _, H1, rfl, I2, turn_enumT a (s1.heap.objs.size + 1) s1.heap.objs.size, ⟨⟨.none, he⟩, ⟨_, ho, rfl, rfl⟩, Nat.succ_ne_self _, Nat.ne_of_lt hal, Nat.ne_of_gt (Nat.lt_succ_of_lt hal)⟩, fp2, q _ _ _ g1 (y_enumT h1 q1)⟩
  have lst : ∀ (a : Addr) (xs : List V), v = .ref a → SqL X.K H1 a xs → Yields X.K (Ite X.K a) items deps H1 ρ1 S' → S1 = S' → wpAny (model X.prog X.w) X.A (call (.type "enumerate") [u]) (fun v s => wpAny (model X.prog X.w) X.A (pyIter v) (PIE X pins σ (.Tuple elts kk tpos) R) X.xe s) X.xe s1 := by
    rintro a xs rfl h1 Y rfl
    obtain rfl : u = Value.ref a := ru
    obtain ⟨its, rv, p', hz⟩ := I1.list h1
    refine call_enumerate_list p'.isList fun h' he hit hsz hk => wpAny_pyIter_enum he ?_
    have I2 : Inv X pins σ H1 { s1 with heap := h' } := I1.kept (t' := s1.toks) hk
    exact ⟨s1.heap.objs.size + 1, [s1.heap.objs.size + 1, s1.heap.objs.size], _, _, H1, rfl, I2, turn_enum a (s1.heap.objs.size + 1) s1.heap.objs.size, ⟨⟨.none, he⟩, hit, Nat.succ_ne_self _⟩, fp2, q _ _ _ g1 Y⟩
  split at h
  · cases h
    exact tup _ rfl rfl rfl rfl
  · cases h
    obtain ⟨a, vs, e2, h1, q1⟩ := rd.of_cl
    exact lst a vs e2 (clSq h1) (y_enumL (rds_cl h1 q1)) rfl
  · rename_i z hz
    cases h
    obtain rfl := rd.of_str
    obtain ⟨t, rfl⟩ := (show ∃ t, u = Value.str z t from ru)
    refine enum_begins1 (begins_text z t) trivial fun h' he ho hsz hk => wpAny_pyIter_enum he ?_
    have I2 : Inv X pins σ H1 { s1 with heap := h' } := I1.kept (t' := s1.toks) hk
    exact ⟨s1.heap.objs.size + 1, [s1.heap.objs.size + 1, s1.heap.objs.size], _, _, H1, rfl, I2, turn_enumS z t (s1.heap.objs.size + 1) s1.heap.objs.size, ⟨⟨.none, he⟩, ⟨_, ho, rfl, rfl⟩, Nat.succ_ne_self _, Nat.zero_le _⟩, fp2, q _ _ _ g1 (y_enumS z)⟩
  · split at h
    · rename_i hS
      cases h
      obtain ⟨a, vs, e2, h0, h1, q1⟩ := g1.s.lst hS rd
      exact lst a vs e2 (SqL.of h1) (y_enumL (rds_lst (by simp) hS h0)) rfl
    · cases h
  · cases h

/-! ### list(range(..)) -/
def mListRg (it : MI) : MA := fun env S => (it env S).bind fun p => if decide (p.1.length ≤ 10000000) then some (p.1, p.2.2) else none
def rmV (a c : Int) (n : Nat) : List V := (List.range n).map fun i => V.int (a + (i : Nat) * c)
theorem relL_ramp {K : PySem.W.Frag} {H : Hp} {ρ : List Addr} (a c : Int) (n : Nat) : RelL K H ρ (ramp a c n) (rmV a c n) := by
  unfold ramp rmV
  generalize List.range n = l
  induction l with
  | nil => exact RelL.nil
  | cons x xs ih => exact .cons (rel_int _) ih
theorem vals_rm {a c : Int} {n : Nat} {acc : Array Value} (h : ItemsOf (fun i v => ∃ t, v = .int (a + i * c) t) acc n) : Vals (rmV a c n) acc.toList := by
  have e : acc.toList.length = n := by rw [Array.length_toList]; exact h.1
  unfold rmV
  rw [← e]
  refine vals_of_get acc.toList _ fun j u hj => ?_
  obtain ⟨t, rfl⟩ := h.2 j u (by rw [← hj, Array.getElem?_toList])
  exact ⟨t, rfl⟩
section
variable {X : Cx} {p p2 pos pos2 : Pos}
theorem list_rg {pins : List (Addr × Obj)} {s : Shared} {σ : L2.St} {H : Hp} {Q : VK} {r : Addr} {i j c : Int} {t u v : Tok} {n : Nat} (hc : X.calm = true) (I : Inv X pins σ H s) (hr : IsRange s.heap r i j c t u v) (c2 : Builtin.Range.small i j c = true) (c3 : Builtin.Range.rangeSize i j c = n) (hn : n ≤ 10000000)
    (q : ∀ p, H p = none → Q (.ref p) (upd H p (.lst (rmV i c n)))) : wpAny (model X.prog X.w) X.A (call (.type "list") [.ref r]) (EP X pins σ Q) X.xe s := by
  refine call_list_range (n := n) (I.ok.hd hc) hr c2 c3 (by omega) fun h' tk acc c' hk e' hi => ?_
  refine ⟨.ref s.heap.objs.size, upd H s.heap.objs.size (.lst (rmV i c n)), I.laid hk (Nat.le_refl _) (show ObjOk X.prog X.w _ _ _ (.lst (rmV i c n)) from ⟨?_, acc.toList, c', vals_rm hi, ?_⟩), rfl, q _ (I.hok.fresh (Nat.le_refl _))⟩
  · unfold rmV
    rw [List.length_map, List.length_range, sizeLine_eq]; omega
  · rw [Array.toArray_toList]; exact e'
theorem pn_listRg3 {a b c : Expr} {m n o : ME} (hcalm : X.calm = true) (hg : Gl X "range") (hm : X.mg "range" = none) (hgl : Gl X "list") (hml : X.mg "list" = none) (ha : PM X a m) (hb : PM X b n) (hc : PM X c o)
    (hs3 : starEach [c] X.env = (false, eval c X.env) :: starEach [] X.env := by rfl) (hs2 : starEach [b, c] X.env = (false, eval b X.env) :: starEach [c] X.env := by rfl) (hs : starEach [a, b, c] X.env = (false, eval a X.env) :: starEach [b, c] X.env := by rfl)
    (hpl : (backTo pos (starEach [b, c] X.env)).any (·.1) = false := by rfl)
    (na : starEach [Expr.Call (.Name "range" p) [a, b, c] [] pos] X.env = (false, eval (Expr.Call (.Name "range" p) [a, b, c] [] pos) X.env) :: starEach [] X.env := by rfl) :
    PMN X (.Call (.Name "list" p2) [.Call (.Name "range" p) [a, b, c] [] pos] [] pos2) (mListRg (iRange3 m n o)) := by
  refine ⟨fun pins s σ H Q I h => ?_⟩
  obtain ⟨ρ, env, S, ds, S', L, e, q⟩ := h
  obtain ⟨⟨items, deps, S3⟩, e, ez⟩ := bind_some e
  dsimp only at ez
  split at ez
  · rename_i hz
    cases ez
    have hz := of_decide_eq_true hz
    replace e := bind_some e
    obtain ⟨⟨d, S1⟩, e1, e⟩ := e
    replace e := bind_some e
    obtain ⟨⟨d2, S2⟩, e2, e⟩ := e
    replace e := bind_some e
    obtain ⟨⟨d3, S3'⟩, e3, e⟩ := e
    dsimp only at e
    split at e
    · rename_i i j k
      split at e
      · rename_i hj
        cases e
        unfold rngOk at hj
        simp only [Bool.and_eq_true] at hj
        obtain ⟨⟨⟨h1, h2⟩, h3⟩, h4⟩ := hj
        refine Call_ (ld_blt I hgl hml boot_list (PyProof.Rows.callWith_type1 (args_cons (thn (?_ : wpAny (model X.prog X.w) X.A (eval (Expr.Call (.Name "range" p) [a, b, c] [] pos) X.env) (fun x s' => ∃ r t u v H' ρ', x = .ref r ∧ IsRange s'.heap r i j k t u v ∧ Inv X pins σ H' s' ∧ Go X.K H ρ H' ρ' S') X.xe s) fun x s1 ⟨r, t, u, v, H1, ρ1, ex, hr, I1, g1⟩ => args_nil ?_) na) na))
        · refine Call_ (ld_blt I hg hm boot_range (PyProof.Rows.callWith_type1 (thn ((pa_mcons ha (pa_mcons hb (pa_mcons hc pa_mnil hs3) hs2) hs).run pos pins s σ H (fun vs H1 => vs = [.int i, .int j, .int k] ∧ ∃ ρ1, Go X.K H ρ H1 ρ1 S') I (tMA3 L e1 e2 e3 fun v u w H1 ρ1 g1 r1 r2 r3 => ?_)) fun us s1 ⟨vs, H1, I1, r1, ev, ρ1, g1⟩ => ?_) hs hpl))
          · cases r1.of_int; cases r2.of_int; cases r3.of_int
            exact ⟨rfl, ρ1, g1⟩
          · subst ev
            cases r1 with
            | cons r rr =>
              cases rr with
              | cons r' rr =>
                cases rr with
                | cons r'' rr =>
                  cases rr
                  obtain ⟨t, rfl⟩ := r
                  obtain ⟨t', rfl⟩ := r'
                  obtain ⟨t'', rfl⟩ := r''
                  refine call_range_3 (of_decide_eq_true h1) ?_ (.inl (PyProof.noPylong_small (of_decide_eq_true h2)))
                  exact ⟨_, _, _, _, H1, ρ1, rfl, IsRange.new _ _ _ _ _ _ _, I1.kept (t' := s1.toks) fun b o e => Heap.get?_push_of_some _ e, g1⟩
        · subst ex
          replace hz := of_decide_eq_true hz
          rw [ramp_len] at hz
          refine list_rg (n := (Builtin.Range.rangeSize i j k).toNat) hcalm I1 hr h3 (Int.toNat_of_nonneg (of_decide_eq_true h4)).symm hz fun p n => ?_
          exact q _ H1 ρ1 g1 (relL_ramp _ _ _) p n
      · cases e
    · cases e
  · cases ez
theorem pn_listRg1 {a : Expr} {m : ME} (hcalm : X.calm = true) (hg : Gl X "range") (hm : X.mg "range" = none) (hgl : Gl X "list") (hml : X.mg "list" = none) (ha : PM X a m)
    (hs : starEach [a] X.env = (false, eval a X.env) :: starEach [] X.env := by rfl)
    (na : starEach [Expr.Call (.Name "range" p) [a] [] pos] X.env = (false, eval (Expr.Call (.Name "range" p) [a] [] pos) X.env) :: starEach [] X.env := by rfl) :
    PMN X (.Call (.Name "list" p2) [.Call (.Name "range" p) [a] [] pos] [] pos2) (mListRg (iRange1 m)) := by
  refine ⟨fun pins s σ H Q I h => ?_⟩
  obtain ⟨ρ, env, S, ds, S', L, e, q⟩ := h
  obtain ⟨⟨items, deps, S3⟩, e, ez⟩ := bind_some e
  dsimp only at ez
  split at ez
  · rename_i hz
    cases ez
    have hz := of_decide_eq_true hz
    replace e := bind_some e
    obtain ⟨⟨d, S1⟩, e1, e⟩ := e
    dsimp only at e
    split at e
    · rename_i j
      split at e
      · rename_i hj
        cases e
        have hj := of_decide_eq_true hj
        refine Call_ (ld_blt I hgl hml boot_list (PyProof.Rows.callWith_type1 (args_cons (thn (?_ : wpAny (model X.prog X.w) X.A (eval (Expr.Call (.Name "range" p) [a] [] pos) X.env) (fun x s' => ∃ r t u v H' ρ', x = .ref r ∧ IsRange s'.heap r 0 j 1 t u v ∧ Inv X pins σ H' s' ∧ Go X.K H ρ H' ρ' S') X.xe s) fun x s1 ⟨r, t, u, v, H1, ρ1, ex, hr, I1, g1⟩ => args_nil ?_) na) na))
        · refine Call_ (ld_blt I hg hm boot_range (PyProof.Rows.callWith_type1 (thn ((pa_mcons ha pa_mnil hs).run pos pins s σ H (fun vs H1 => vs = [.int j] ∧ ∃ ρ1, Go X.K H ρ H1 ρ1 S') I (tMA1 L e1 fun v H1 ρ1 g1 r1 => ?_)) fun us s1 ⟨vs, H1, I1, r1, ev, ρ1, g1⟩ => ?_) hs rfl))
          · cases r1.of_int
            exact ⟨rfl, ρ1, g1⟩
          · subst ev
            cases r1 with
            | cons r rr =>
              cases rr
              obtain ⟨t, rfl⟩ := r
              refine call_range_1 ⟨_, _, _, _, H1, ρ1, rfl, IsRange.new _ _ _ _ _ _ _, I1.kept fun b o e => Heap.get?_push_of_some _ e, g1⟩
        · subst ex
          replace hz := of_decide_eq_true hz
          rw [ramp_len] at hz
          refine list_rg (n := j.toNat) hcalm I1 hr (small_one (by omega) (by omega) (by omega) (by omega)) (by rw [rangeSize_nat]; simp) hz fun p n => ?_
          exact q _ H1 ρ1 g1 (relL_ramp _ _ _) p n
      · cases e
    · cases e
  · cases ez
theorem pn_listRg2 {a b : Expr} {m m2 : ME} (hcalm : X.calm = true) (hg : Gl X "range") (hm : X.mg "range" = none) (hgl : Gl X "list") (hml : X.mg "list" = none) (ha : PM X a m) (hb : PM X b m2)
    (hs2 : starEach [b] X.env = (false, eval b X.env) :: starEach [] X.env := by rfl) (hs : starEach [a, b] X.env = (false, eval a X.env) :: starEach [b] X.env := by rfl)
    (hpl : (backTo pos (starEach [b] X.env)).any (·.1) = false := by rfl)
    (na : starEach [Expr.Call (.Name "range" p) [a, b] [] pos] X.env = (false, eval (Expr.Call (.Name "range" p) [a, b] [] pos) X.env) :: starEach [] X.env := by rfl) :
    PMN X (.Call (.Name "list" p2) [.Call (.Name "range" p) [a, b] [] pos] [] pos2) (mListRg (iRange2 m m2)) := by
  refine ⟨fun pins s σ H Q I h => ?_⟩
  obtain ⟨ρ, env, S, ds, S', L, e, q⟩ := h
  obtain ⟨⟨items, deps, S3⟩, e, ez⟩ := bind_some e
  dsimp only at ez
  split at ez
  · rename_i hz
    cases ez
    have hz := of_decide_eq_true hz
    replace e := bind_some e
    obtain ⟨⟨d, S1⟩, e1, e⟩ := e
    replace e := bind_some e
    obtain ⟨⟨d2, S2⟩, e2, e⟩ := e
    dsimp only at e
    split at e
    · rename_i i j
      split at e
      · rename_i hj
        cases e
        rw [Bool.and_eq_true] at hj
        have h1 := of_decide_eq_true hj.1
        have h2 := of_decide_eq_true hj.2
        refine Call_ (ld_blt I hgl hml boot_list (PyProof.Rows.callWith_type1 (args_cons (thn (?_ : wpAny (model X.prog X.w) X.A (eval (Expr.Call (.Name "range" p) [a, b] [] pos) X.env) (fun x s' => ∃ r t u v H' ρ', x = .ref r ∧ IsRange s'.heap r i j 1 t u v ∧ Inv X pins σ H' s' ∧ Go X.K H ρ H' ρ' S') X.xe s) fun x s1 ⟨r, t, u, v, H1, ρ1, ex, hr, I1, g1⟩ => args_nil ?_) na) na))
        · refine Call_ (ld_blt I hg hm boot_range (PyProof.Rows.callWith_type1 (thn ((pa_mcons ha (pa_mcons hb pa_mnil hs2) hs).run pos pins s σ H (fun vs H1 => vs = [.int i, .int j] ∧ ∃ ρ1, Go X.K H ρ H1 ρ1 S') I (tMA2 L e1 e2 fun v u H1 ρ1 g1 r1 r2 => ?_)) fun us s1 ⟨vs, H1, I1, r1, ev, ρ1, g1⟩ => ?_) hs hpl))
          · cases r1.of_int; cases r2.of_int
            exact ⟨rfl, ρ1, g1⟩
          · subst ev
            cases r1 with
            | cons r rr =>
              cases rr with
              | cons r' rr =>
                cases rr
                obtain ⟨t, rfl⟩ := r
                obtain ⟨t', rfl⟩ := r'
                refine call_range_2 ⟨_, _, _, _, H1, ρ1, rfl, IsRange.new _ _ _ _ _ _ _, I1.kept fun b o e => Heap.get?_push_of_some _ e, g1⟩
        · subst ex
          replace hz := of_decide_eq_true hz
          rw [ramp_len] at hz
          refine list_rg (n := (j - i).toNat) hcalm I1 hr (small_one (by omega) (by omega) (by omega) (by omega)) (rangeSize_nat i j) hz fun p n => ?_
          exact q _ H1 ρ1 g1 (relL_ramp _ _ _) p n
      · cases e
    · cases e
  · cases ez
end
end PD

set_option Elab.async false
set_option linter.all false
set_option maxRecDepth 100000
set_option maxHeartbeats 4000000
/-! PdSort: sorted of tuples; tuple and list of texts. -/
namespace PySem.W
open PySem PySem.Spec PyProof.Rows Calls
section
variable {prog : Program} {w : World} {A : Around} {E : Value → Shared → Prop} {s : Shared} {β : Type} {us : List Value} {bs : List β} {enc : β → PyData} {R : Value → β → Prop}
/-- sorted(v), v told by what is collected of it -/
theorem sorted_coll {v : Value} {Q : Value → Shared → Prop}
    (hcoll : ∀ (Q' : List Value → Shared → Prop) (E' : Value → Shared → Prop), (∀ h' tk, (∀ b o, s.heap.get? b = some o → h'.get? b = some o) → Q' us { s with heap := h', toks := tk }) → wpAny (model prog w) A.in1 (collect v) Q' E' s)
    (e : EachIs R us bs) (er : EachIs (fun v b => ∃ as, Reads s.heap v (enc b) as) us bs) (hal : AllAlike (bs.map enc)) (hk : Sortable (bs.map enc)) (hL : bs.length ≤ sizeLine)
    (hu : ∀ b, b ∈ bs → A.units + 2 + (enc b).depth < cLine)
    (h : ∀ (out : List Value) (h1 h' : Heap) (tk : Tok) (ep : Nat), out.length = bs.length → EachIs R out (bs.mergeSort (dataLe false enc)) → (∀ b o, s.heap.get? b = some o → h1.get? b = some o) → (∀ b o, h1.get? b = some o → h'.get? b = some o) →
      h'.get? h1.objs.size = some (seqObj "list" (List.toArray out) ep) → Q (.ref h1.objs.size) { s with heap := h', toks := tk }) : wpAny (model prog w) A (call (.builtin "sorted") [v]) Q E s := by
  refine Calls.call_function_entry kind_sorted plain_sorted entry_sorted (args_sorted1 _) ?_
  unfold Builtin.«sorted»
  refine wpAny_bind (m := checkCount "sorted" 1 1 _) (wpAny_pure ?_)
  refine wpAny_bind (hcoll _ _ fun h1 tk hk1 => ?_)
  have hL' : us.length ≤ sizeLine := by rw [e.length]; exact hL
  refine wpAny_bind (wpAny_newList ?_ hL')
  have hat : (h1.push (seqObj "list" us.toArray 0)).get? h1.objs.size = some (seqObj "list" us.toArray 0) := Heap.get?_push_size _ rfl
  have hkeep : ∀ b o, s.heap.get? b = some o → (sortingHeap (h1.push (seqObj "list" us.toArray 0)) h1.objs.size us).get? b = some o := fun b o q => by
    refine sortingHeap_old ?_ (Heap.get?_push_of_some _ (hk1 b o q))
    exact Nat.ne_of_lt (Heap.lt_size (hk1 b o q))
  have er' : EachIs (fun v b => ∃ as, Reads (sortingHeap (h1.push (seqObj "list" us.toArray 0)) h1.objs.size us) v (enc b) as) us bs := er.mono fun _ _ ⟨as, r⟩ => ⟨as, PyProof.Rows.Reads.keeps hkeep r⟩
  refine wpAny_bind (wpAny_holding (wpAny_call_entry slot_list_sort ⟨_, hat, rfl⟩ entry_list_sort ?body (args_list_sort _)))
  case body =>
    refine list_sort_vals (s := { s with heap := h1.push (seqObj "list" us.toArray 0), toks := tk }) (A := A.in1.in1) (κ := dataKind (sortingHeap (h1.push (seqObj "list" us.toArray 0)) h1.objs.size us) (bs.map enc)) hat
      (SortsAt.data (s := { s with heap := sortingHeap (h1.push (seqObj "list" us.toArray 0)) h1.objs.size us, toks := tk }) (each_map (R := fun v d => ∃ as, Reads (sortingHeap (h1.push (seqObj "list" us.toArray 0)) h1.objs.size us) v d as) enc er') hal hk (bound_map hu)) hL' ⟨.none, rfl, wpAny_pure ⟨_, rfl, ?_⟩⟩
    obtain ⟨ep, hep⟩ := sortedHeap_at (vs := us) (out := (sortVals (dataKind (sortingHeap (h1.push (seqObj "list" us.toArray 0)) h1.objs.size us) (bs.map enc)) false us us).toArray) hat
    refine h _ _ _ _ ep (by rw [sortVals_length false rfl]; exact e.length) (sortVals_data false e er' hal) hk1 (fun b o q => ?_) hep
    rw [sortedHeap_old (Nat.ne_of_lt (Heap.lt_size q)) (Nat.lt_of_lt_of_le (Heap.lt_size q) (by rw [Heap.size_push]; exact Nat.le_succ _))]
    exact Heap.get?_push_of_some _ q
end
end PySem.W

namespace PD
open PySem PySem.Spec PyProof.Rows L2
variable [Tabs]
/-- sorted of a tuple or of a list -/
def fSortedA : FN := fun ds S => match ds with
  | [d] => (seqOf d S).bind fun xs => if okDL 62 xs && alkAll xs && sortable xs && okLen xs.length then some (sortedD xs) else none
  | _ => none
section
variable {X : Cx}
theorem call_sortedA (hu : X.A.units + 70 < cLine) : CallN X (.builtin "sorted") fSortedA := by
  intro pins s σ H xs us Q I r h
  obtain ⟨ρ, S, ds, es, rs, rl, e, q⟩ := h
  unfold fSortedA at e
  split at e
  · rename_i d
    obtain ⟨ys, e1, e⟩ := bind_some e
    split at e
    · rename_i ho
      cases e
      simp only [Bool.and_eq_true] at ho
      obtain ⟨⟨⟨ho, hal⟩, hs⟩, hz⟩ := ho
      obtain ⟨v, rfl, r1⟩ := relL1 rl
      obtain ⟨u, rfl, ru⟩ := vals1 r
      obtain ⟨p, vs, rfl, h1, r2⟩ := seq_of rs e1 r1
      obtain rfl : u = Value.ref p := ru
      have hz' := of_decide_eq_true hz
      obtain ⟨its, rv, hcl⟩ : ∃ its, Vals vs its ∧ ∀ {A : Around} (Q' : List Value → Shared → Prop) (E' : Value → Shared → Prop), (∀ h' tk, (∀ b o, s.heap.get? b = some o → h'.get? b = some o) → Q' its { s with heap := h', toks := tk }) → wpAny (model X.prog X.w) A (collect (.ref p)) Q' E' s := by
        have key : ∀ (its : List Value) (T : String) (o : Obj) (n : Nat), (T = "list" ∨ T = "tuple") → Vals vs its → s.heap.get? p = some o → o.cls = .type T → o.data = .seq its.toArray n →
            ∀ {A : Around} (Q' : List Value → Shared → Prop) (E' : Value → Shared → Prop), (∀ h' tk, (∀ b o, s.heap.get? b = some o → h'.get? b = some o) → Q' its { s with heap := h', toks := tk }) → wpAny (model X.prog X.w) A (collect (.ref p)) Q' E' s := by
          intro its T o n hT rv ho hc hd A Q' E' hq
          refine wpAny_collect_seq p hT ho hc hd (fun h' hk => ?_) (by rw [List.size_toArray, ← rv.length, r2.length]; exact hz')
          exact hq h' s.toks hk
        rcases h1 with h1 | h1
        · obtain ⟨its, rv, hl, _⟩ := I.list h1
          obtain ⟨o, ho, hc, n, hd⟩ := id hl.isList
          exact ⟨its, rv, key its "list" o n (.inl rfl) rv ho hc hd⟩
        · obtain ⟨its, rv, ht, _⟩ := I.tuple h1
          obtain ⟨o, ho, hc, n, hd⟩ := id ht
          exact ⟨its, rv, key its "tuple" o n (.inr rfl) rv ho hc hd⟩
      obtain ⟨as, ra⟩ := Dp.readsAll I _ vs its (dp_ofL 62 _ vs ho r2) rv
      have hlen : ys.length = vs.length := r2.length.symm
      have al := alkAll_py ho hal
      have dep := (okD_layL 62 _ ho).2
      have em : (ys.zip vs).map (fun b => pyD b.1) = pyDL ys := by
        rw [pyDL_map, ← zip_fst hlen, List.map_map, zip_fst hlen]; rfl
      have hzl : (ys.zip vs).length = ys.length := by simp [hlen]
      refine PySem.W.sorted_coll (enc := fun b : D × V => pyD b.1) (R := fun u (b : D × V) => L2.RelV b.2 u) (bs := ys.zip vs) (fun Q' E' hq => hcl Q' E' hq) (eachOf hlen rv) (readsAll_pick hlen ra rv) (by rw [em]; exact fun x hx y hy => al.1 x hx y hy) ?_ (by rw [hzl]; exact hz') (fun b hb => ?_) fun out h1 h' tk ep ho2 eo hk1 hk2 he' => ?_
      · rw [em, pyDL_map]
        unfold sortable at hs
        rcases Bool.or_eq_true_iff.mp hs with hs | hs
        · left
          intro x hx
          obtain ⟨a, ha, rfl⟩ := List.mem_map.mp hx
          have := List.all_eq_true.mp hs a ha
          split at this
          · exact ⟨_, _, by simp [pyD, pyDL]; exact ⟨rfl, rfl⟩⟩
          · cases this
        · right
          intro x hx
          obtain ⟨a, ha, rfl⟩ := List.mem_map.mp hx
          have h2 := List.all_eq_true.mp hs a ha
          have h3 := okDL_mem ho ha
          refine ⟨al.2 _ (by rw [pyDL_map]; exact hx), fun xs e => ?_⟩
          cases a <;> simp [pyD] at e h2
      · have hm : b.1 ∈ ys := by
          rw [← zip_fst hlen]
          exact List.mem_map.mpr ⟨b, hb, rfl⟩
        have := (okD_lay 62 _ (okDL_mem ho hm)).2
        omega
      · have esort : ((ys.zip vs).mergeSort (PySem.W.dataLe false fun b : D × V => pyD b.1)).map (·.1) = sortedD ys := by
          have := List.map_mergeSort (r := PySem.W.dataLe false fun b : D × V => pyD b.1) (s := leD) (f := fun b : D × V => b.1) (l := ys.zip vs) (fun a _ b _ => congrFun (congrFun dataLe_leD a) b)
          rw [this, zip_fst hlen]; rfl
        have hrel := relL_map (fun b hb => relL_zip r2 b ((List.mem_mergeSort (le := PySem.W.dataLe false fun b : D × V => pyD b.1)).mp hb))
        rw [esort] at hrel
        have hlenS : (((ys.zip vs).mergeSort (PySem.W.dataLe false fun b : D × V => pyD b.1)).map (·.2)).length ≤ sizeLine := by
          rw [List.length_map, List.length_mergeSort, hzl]; exact hz'
        have I1 : Inv X pins σ H { s with heap := h1, toks := tk } := I.kept hk1
        exact ⟨.ref _, upd H h1.objs.size (.lst _), I1.laid (t' := tk) hk2 (Nat.le_refl _) ⟨hlenS, out, ep, each_vals eo, he'⟩, rfl, q _ hrel _ (I1.hok.fresh (Nat.le_refl _))⟩
    · cases e
  · cases e

/-- tuple(x), x a text too -/
def fTupleA : FL := fun ds S => match ds with
  | [.str z] => if decide (z.length ≤ 1000000) then some (.tup (signs z), S) else none
  | _ => fTuple ds S
theorem vals_signs {x : Str} {acc : Array Value} (h : ItemsOf (SignAt x) acc x.cps.size) : Vals (x.cps.toList.map fun c => V.str ⟨#[c]⟩) acc.toList := by
  have key : ∀ (cs : List Nat) (us : List Value), us.length = cs.length → (∀ (i : Nat) (u : Value), us[i]? = some u → ∃ c t, cs[i]? = some c ∧ u = Value.str ⟨#[c]⟩ t) → Vals (cs.map fun c => V.str ⟨#[c]⟩) us := by
    intro cs
    induction cs with
    | nil => intro us hl _; rw [List.length_eq_zero_iff.mp hl]; exact .nil
    | cons c cs ih =>
      intro us hl hg
      cases us with
      | nil => simp at hl
      | cons u us =>
        obtain ⟨c', t, h1, rfl⟩ := hg 0 u rfl
        simp at h1
        subst h1
        exact .cons ⟨t, rfl⟩ (ih us (by simpa using hl) fun i u hu => by simpa using hg (i + 1) u (by simpa using hu))
  refine key _ _ (by rw [Array.length_toList, Array.length_toList]; exact h.1) fun i u hu => ?_
  obtain ⟨c, t, h1, h2⟩ := h.2 i u (by rw [← hu, Array.getElem?_toList])
  exact ⟨c, t, by rw [Array.getElem?_toList]; exact h1, h2⟩
theorem relL_signs {K : PySem.W.Frag} {H : Hp} {ρ : List Addr} (x : Str) : RelL K H ρ (signs x) (x.cps.toList.map fun c => V.str ⟨#[c]⟩) := by
  unfold signs
  generalize x.cps.toList = l
  induction l with
  | nil => exact RelL.nil
  | cons c cs ih => exact .cons (rel_str _) ih
theorem call_mtupleA (hc : X.calm = true) : CallD X (.type "tuple") fTupleA := by
  intro pins s σ H xs us Q I r h
  obtain ⟨ρ, S, ds, d, S', rs, rl, e, q⟩ := h
  unfold fTupleA at e
  split at e
  · rename_i z
    split at e
    · rename_i hz
      cases e
      have hz := of_decide_eq_true hz
      obtain ⟨v, rfl, r1⟩ := relL1 rl
      cases r1.of_str
      obtain ⟨u, rfl, ru⟩ := vals1 r
      obtain ⟨t, rfl⟩ := (show ∃ t, u = Value.str z t from ru)
      refine call_tuple_str (I.ok.hd hc) z t (fun h' tk acc hk hacc => ?_) (by show z.length ≤ _; rw [sizeLine_eq]; omega)
      have I2 : Inv X pins σ H { s with heap := h', toks := tk } := I.kept hk
      obtain ⟨g, r3⟩ := newTup rs (relL_signs (K := X.K) (H := H) (ρ := ρ) z) (I2.hok.fresh (Nat.le_refl _))
      refine ⟨.ref h'.objs.size, _, I2.laid (t' := tk) (fun c o e => Heap.get?_push_of_some _ e) (Nat.le_refl _) (show ObjOk X.prog X.w _ _ _ (.tup (z.cps.toList.map fun c => V.str ⟨#[c]⟩)) from ⟨?_, acc.toList, vals_signs hacc, ?_⟩), rfl, q _ _ _ g r3⟩
      · rw [List.length_map, Array.length_toList]
        have hz : z.cps.size ≤ 1000000 := hz
        rw [sizeLine_eq]; omega
      · rw [Array.toArray_toList]; exact IsTup.new _ _
    · cases e
  · exact call_mtuple pins s σ H xs us Q I r ⟨ρ, S, ds, d, S', rs, rl, e, q⟩
/-- list(x), x a text too -/
def fListA : FN := fun ds S => match ds with
  | [.str z] => if decide (z.length ≤ 1000000) then some (signs z) else none
  | _ => fList ds S
theorem call_mlistA (hc : X.calm = true) : CallN X (.type "list") fListA := by
  intro pins s σ H xs us Q I r h
  obtain ⟨ρ, S, ds, es, rs, rl, e, q⟩ := h
  unfold fListA at e
  split at e
  · rename_i z
    split at e
    · rename_i hz
      cases e
      have hz := of_decide_eq_true hz
      obtain ⟨v, rfl, r1⟩ := relL1 rl
      cases r1.of_str
      obtain ⟨u, rfl, ru⟩ := vals1 r
      obtain ⟨t, rfl⟩ := (show ∃ t, u = Value.str z t from ru)
      refine call_list_str (I.ok.hd hc) z t (fun h' tk acc c' hk he hacc => ?_) (by show z.length ≤ _; rw [sizeLine_eq]; omega)
      refine ⟨.ref s.heap.objs.size, upd H s.heap.objs.size (.lst (z.cps.toList.map fun c => V.str ⟨#[c]⟩)), I.laid hk (Nat.le_refl _) (show ObjOk X.prog X.w _ _ _ (.lst _) from ⟨?_, acc.toList, c', vals_signs hacc, ?_⟩), rfl, q _ (relL_signs z) _ (I.hok.fresh (Nat.le_refl _))⟩
      · rw [List.length_map, Array.length_toList]
        have hz : z.cps.size ≤ 1000000 := hz
        rw [sizeLine_eq]; omega
      · rw [Array.toArray_toList]; exact he
    · cases e
  · exact call_mlist pins s σ H xs us Q I r ⟨ρ, S, ds, es, rs, rl, e, q⟩
end
/-- a, b, .. = a list -/
def mgUnl (n : Nat) (t : MGs) : MG := fun d env S => (lstOf d S).bind fun ds => if ds.length = n then t ds env S else none
theorem pg_munl {X : Cx} {pos : Pos} {es : List Expr} {k : Nat} {t : MGs} {n : Nat} (hc : X.calm = true) (h : PMGs X es t)
    (hn : (assignEach es X.env).length = n := by rfl) (hst : (assignEach es X.env).findIdx? (·.1) = none := by rfl) : PMG X (.Tuple es k pos) (mgUnl n t) :=
  PGi (pg_unl hc h hn hst) fun v σ H Q ⟨ρ, env, S, d, env', S', L, r, e, q⟩ => by
    obtain ⟨ds, e1, e⟩ := bind_some e
    split at e
    · rename_i hl
      obtain ⟨p, vs, rfl, h1, r1⟩ := lst_of L.s e1 r
      exact ⟨p, vs, rfl, h1, r1.length.trans hl, ρ, env, S, _, env', S', L, r1, e, q⟩
    · cases e
end PD

set_option Elab.async false
set_option linter.all false
set_option maxRecDepth 100000
set_option maxHeartbeats 4000000
/-! PdGen: generator expressions. -/
namespace PD
open PySem PySem.Spec PyProof.Rows L2
variable [Tabs]

/-- the context of a generator expression's body -/
abbrev gX (X : Cx) (Ag : Around) (s : Shared) (H : Hp) (genv : Env) (fp : List Addr) : Cx :=
  { X with A := Ag, s_0 := s, H_0 := H, env := genv, outer := X.stack, stack := genv :: X.stack, ex := fp, fn := fun _ => false, pn := [], xe := fun _ _ => False }
section
variable {X : Cx} {pins : List (Addr × Obj)} {σ : L2.St} {H : Hp} {s : Shared}
theorem gen_start {scope : Scope} {own : List (Str × Nat)} {fp : List Addr} {code : Value} {Ag : Around} {genv : Env} {s5 : Shared} {m0 : Str → Option Value} (I : Inv X pins σ H s) (ok : BlkOk X.N X.env.scope scope own) (hN : X.N.Nodup) (hfp : ∀ b ∈ fp, FpOk X pins H b ∧ b < s.heap.objs.size)
    (hcell : ∀ y ∈ scope.names, y.2 ≠ .cell) (hge : genv = genEnv scope (cloFrom X.env.cells scope.names []) s.heap.objs.size code builtinsNs X.env) (hA1 : X.calm = true → Ag.handled = none) (hA2 : Ag.frames = some (genv :: X.stack))
    (kp : ∀ b o, s.heap.get? b = some o → s5.heap.get? b = some o) (hns : s5.heap.Ns s.heap.objs.size m0) (hos : s5.os = s.os) (hb : AllBare s5.gens) : Inv (gX X Ag s H genv fp) [] (wipe σ (own.map (·.2))) H s5 := by
  have hfree : ∀ y ∈ scope.names, y.2 = .free → ∃ c, X.env.cells.lookup y.1 = some c := fun y hy e => by
    rcases ok.free y hy e with k | k
    · exact I.ok.has _ (.inl k)
    · exact I.ok.has _ (.inr k)
  have hL : genv.locals = s.heap.objs.size := by rw [hge]; rfl
  have hcl : genv.cells = cloFrom X.env.cells scope.names [] := by rw [hge]; rfl
  have hsc : genv.scope = scope := by rw [hge]; rfl
  have cm : ∀ {y c}, (y, c) ∈ cloFrom X.env.cells scope.names [] → X.env.cells.lookup y = some c ∧ c < s.heap.objs.size := fun {y c} hm => by
    rcases cloFrom_mem hm with hm | ⟨h1, rfl⟩
    · cases hm
    · obtain ⟨c, hc⟩ := hfree _ h1 rfl
      rw [hc]
      obtain ⟨w, z⟩ := I.cell _ _ hc
      exact ⟨rfl, z.lt⟩
  have mem : ∀ {y c}, genv.cells.lookup y = some c → X.env.cells.lookup y = some c ∧ c < s.heap.objs.size := fun {y c} e => by
    rw [hcl] at e
    exact cm (PySem.mem_of_lookup e)
  have look : ∀ {y}, scope.names.lookup y = some .free → ∃ c, genv.cells.lookup y = some c ∧ X.env.cells.lookup y = some c := fun {y} hl => by
    have hy : (y, NameKind.free) ∈ scope.names := PySem.mem_of_lookup hl
    obtain ⟨c', e'⟩ := mem_lookup (cloFrom_has (cells := X.env.cells) (acc := []) hy)
    rw [← hcl] at e'
    exact ⟨c', e', (mem e').1⟩
  have okB : (gX X Ag s H genv fp).Ok := by
    refine ⟨I.ok.mod, by show genv.scope.kind = _; rw [hsc]; exact ok.kind, by show genv.globals = _; rw [hge]; exact I.ok.glob, by show genv.builtins = _; rw [hge]; rfl, by show s.heap.objs.size ≤ genv.locals; rw [hL]; exact Nat.le_refl _,
      fun y z c e1 e2 => I.ok.inj y z c (mem e1).1 (mem e2).1, fun y hy => ?_, fun y c z e => (by cases z), hA1, hA2, .inr ⟨rfl, by show genv.frame = some genv.locals; rw [hge]; rfl⟩, fun b hb => ⟨?_, fun y c e z => ?_⟩, I.bs, Nat.le_trans I.ok.bsz I.sz, fun b o e hb => ?_, fun b hb z => ?_, I.stack, I.stkFree⟩
    · show ∃ c, genv.cells.lookup y = some c
      rcases hy with hy | hy
      · have hy : genv.scope.names.lookup y = some .cell := hy
        rw [hsc] at hy
        exact absurd rfl (hcell _ (PySem.mem_of_lookup hy))
      · have hy : genv.scope.names.lookup y = some .free := hy
        rw [hsc] at hy
        obtain ⟨c, h1, _⟩ := look hy
        exact ⟨c, h1⟩
    · show b ≠ genv.locals
      rw [hL]; exact Nat.ne_of_lt (hfp b hb).2
    · exact (hfp b hb).1.2.2.2.2.1 y c (mem e).1 z
    · rcases (hfp b hb).1.2.2.2.1 with z | z
      · exact I.ok.noex b o e z
      · exact absurd (Nat.lt_of_lt_of_le (Heap.lt_size e) (Nat.le_trans I.ok.bsz z)) (Nat.lt_irrefl _)
    · rcases List.mem_cons.mp (I.stkSub b z) with z | z
      · exact (hfp b hb).1.2.1 z
      · exact (hfp b hb).1.2.2.1 z
  refine ⟨okB, hos, hb, Un.kept kp, ⟨m0, ?_, fun i y av e1 e2 e3 => ?_⟩, fun y c e => ?_, ?_, fun y c e => ?_, fun p hp => ?_, I.hok.kept kp, by rw [wipe_length]; exact I.len⟩
  · show Heap.Ns _ genv.locals _
    rw [hL]; exact hns
  · obtain ⟨e2, hne⟩ := wipe_some e2
    have e3 : Vis genv.scope y := e3
    have hfr : scope.names.lookup y = some .free := by
      have no : ∀ k', scope.names.lookup y = some k' → ¬ (k' = .local ∨ k' = .cell) := fun k' e hh => by
        rcases ok.own _ (PySem.mem_of_lookup e) hh with e' | e'
        · obtain ⟨p, hp, hpy⟩ := List.mem_map.mp e'
          have e3 := ok.ix p hp
          have : p.1 = y := hpy
          rw [this] at e3
          exact hne (List.mem_map.mpr ⟨p, hp, nodup_ix hN e3 e1⟩)
        · exact e' (List.mem_of_getElem? e1)
      unfold Vis at e3
      rw [hsc] at e3
      rcases e3 with e3 | e3 | e3
      · exact absurd (.inl rfl) (no _ e3)
      · exact absurd (.inr rfl) (no _ e3)
      · exact e3
    obtain ⟨m, hn, hl⟩ := I.loc
    have hvis : Vis X.env.scope y := (ok.free _ (PySem.mem_of_lookup hfr) rfl).elim (fun k => .inr (.inl k)) (fun k => .inr (.inr k))
    obtain ⟨w, r, q⟩ := hl i y av e1 e2 hvis
    refine ⟨w, r, .inr ⟨.inr (by show genv.scope.names.lookup y = _; rw [hsc]; exact hfr), ?_⟩⟩
    obtain ⟨c, h1, h2⟩ := look hfr
    rcases q with ⟨k, _⟩ | ⟨_, c', e', z⟩
    · have k : X.env.scope.names.lookup y = some .local := k
      rcases ok.free _ (PySem.mem_of_lookup hfr) rfl with k' | k' <;> rw [show X.env.scope.names.lookup y = _ from k'] at k <;> cases k
    · rw [h2] at e'; cases e'
      exact ⟨c, h1, z.keeps kp⟩
  · obtain ⟨w, z⟩ := I.cell y c (mem e).1
    exact ⟨w, z.keeps kp⟩
  · show H genv.locals = none
    rw [hL]; exact I.hok.fresh (Nat.le_refl _)
  · exact I.freeC y c (mem e).1
  · exact absurd (show p ∈ ([] : List (Addr × Obj)) ++ [] from hp) (by simp)
end

/-! ### what a generator gives, turn by turn -/
def gNext (deps : List Nat) (g : MG) (t : MT) (elt : ME) (env : DEnv) : List D → Store → Option (Option (D × List D) × Store)
  | [], S => some (none, S)
  | d :: r, S => (g d env S).bind fun p => (t p.1 p.2).bind fun q => if q.1 then
      (elt p.1 q.2).bind fun x => if kept deps S x.2 then some (some (x.1, r), x.2) else none
      else if kept deps S q.2 then gNext deps g t elt env r q.2 else none
def gRun (deps : List Nat) (g : MG) (t : MT) (elt : ME) (env : DEnv) (items : List D) (S1 : Store) : Nat → Option (List D × Store)
  | 0 => some (items, S1)
  | k + 1 => (gRun deps g t elt env items S1 k).bind fun p => (gNext deps g t elt env p.1 p.2).bind fun o => match o.1 with
    | some (_, r) => some (r, o.2)
    | none => none
/-- a generator of X that has begun: fixed parts -/
structure GP where
  X : Cx
  Ag : Around
  s3 : Shared
  H1 : Hp
  ρ1 : List Addr
  S1 : Store
  genv : Env
  fp : List Addr
  it : Addr
  tn : Nat → Heap → Prop
  J : It
  vs : List Nat
  σ : L2.St
  env : DEnv
  items : List D
  deps : List Nat
  g : MG
  t : MT
  m : ME
  gz : Nat
  Ss : List Addr
  own : Nat → Hp → List Addr → List (Addr × Obj) → Prop
abbrev GP.Xg (G : GP) : Cx := gX G.X G.Ag G.s3 G.H1 G.genv G.fp
abbrev GP.next (G : GP) : List D → Store → Option (Option (D × List D) × Store) := gNext G.deps G.g G.t G.m (wipeE G.env G.vs)
abbrev GP.run (G : GP) : Nat → Option (List D × Store) := gRun G.deps G.g G.t G.m (wipeE G.env G.vs) G.items G.S1
abbrev GP.N (G : GP) : Nat := G.items.length + 1
/-- between two turns, the next item the i-th; pl: the consumer's own objects, as they stand -/
structure GSt (G : GP) (pl : List (Addr × Obj)) (k i : Nat) (H : Hp) (ρ : List Addr) (S : Store) (s : Shared) : Prop where
  inv : Inv G.Xg pl (wipe G.σ G.vs) H s
  nf : ∀ p ∈ pl, p.1 ∉ G.fp
  tn : G.tn i s.heap
  free : ∀ b ∈ G.fp, H b = none
  go : Go G.X.K G.H1 G.ρ1 H ρ S
  kept : kept G.deps G.S1 S = true
  gz : G.gz ≤ s.gens.size
  own : G.own k H ρ pl
def gY (G : GP) : Protocol := fun m s₀ v s kap => ∃ k r S x r' S', m + k + 1 = G.N ∧ G.run k = some (r, S) ∧ G.next r S = some (some (x, r'), S') ∧
  (∃ i H ρ, r' = G.items.drop i ∧ k + 1 ≤ i ∧ i ≤ G.items.length ∧ (∃ y, L2.RelV y v ∧ Rel G.X.K H ρ x y) ∧ GSt G (pinsAt G.Ss s₀.heap) k i H ρ S' s) ∧
  ∀ s'' i H ρ, r' = G.items.drop i → k + 1 ≤ i → i ≤ G.items.length → GSt G (pinsAt G.Ss s''.heap) (k + 1) i H ρ S' s'' → (∃ o, G.next r' S' = some o) → kap (.send .none) s''
def gP (G : GP) : Nat → Shared → Shared → Prop := fun n s₀ s => ∃ k r S S', n + k = G.N ∧ G.run k = some (r, S) ∧ G.next r S = some (none, S') ∧ ∃ H ρ, Inv G.Xg (pinsAt G.Ss s₀.heap) (wipe G.σ G.vs) H s ∧ Go G.X.K G.H1 G.ρ1 H ρ S' ∧ G.gz ≤ s.gens.size ∧ G.own k H ρ (pinsAt G.Ss s₀.heap)
theorem gRun_succ {G : GP} {k : Nat} {r r' : List D} {S S' : Store} {x : D} (h1 : G.run k = some (r, S)) (h2 : G.next r S = some (some (x, r'), S')) : G.run (k + 1) = some (r', S') := by
  show (G.run k).bind _ = _
  rw [h1, Option.bind_some]
  show (G.next r S).bind _ = _
  rw [h2]; rfl
theorem FpOk.gen {G : GP} {H : Hp} {s : Shared} {σ' : L2.St} {pl : List (Addr × Obj)} (I : Inv G.Xg pl σ' H s) (hf : ∀ p ∈ pl, p.1 ∉ G.fp) (hn : ∀ b ∈ G.fp, H b = none) : ∀ b ∈ G.fp, FpOk G.Xg pl H b := fun b hb =>
  ⟨hn b hb, (I.ok.exf b hb).1, I.ok.exfs b hb, .inl hb, fun x c e => (I.ok.exf b hb).2 x c e, fun p hp => by
    have hp : p ∈ pl := by simpa using hp
    exact fun z => hf p hp (by rw [z]; exact hb)⟩
section
variable {G : GP} {tg iter elt : Expr} {ifs : List Expr} {scope : Scope} {pos : Pos} {A : Around}
theorem seg_genW (hw : ∀ k pl H ρ H' ρ' S', G.own k H ρ pl → Go G.X.K H ρ H' ρ' S' → G.own k H' ρ' pl) (hc : G.X.calm = true) (hA : A.deeper G.genv = G.Ag) (hco : G.genv.scope.isCoroutine = false) (T : Turn G.X.prog G.X.w G.X.K tg G.J G.fp G.it G.tn) (Yl : Yields G.X.K G.J G.items G.deps G.H1 G.ρ1 G.S1)
    (hE : RelE G.X.K G.H1 G.ρ1 G.env G.σ) (pg : PGW G.Xg G.vs tg G.g) (pt : PMTs G.Xg ifs G.t) (pe : PM G.Xg elt G.m) :
    ∀ (j i n k : Nat) (rr : List D) (Sk S : Store) (o : Option (D × List D) × Store) (s₀ s : Shared) (H : Hp) (ρ : List Addr), G.items.length - i = j → i ≤ G.items.length → k ≤ i → n + k = G.N → G.run k = some (rr, Sk) → G.next rr Sk = some o → G.next (G.items.drop i) S = some o →
      GSt G (pinsAt G.Ss s₀.heap) k i H ρ S s → Seg (model G.X.prog G.X.w) A (fun n s₀ r s₁ => r = .ok .next ∧ gP G n s₀ s₁) (gY G) n s₀ (.compLoop (.GeneratorExp elt [⟨tg, iter, ifs, 0⟩] scope pos) 0 (.ref G.it) .none G.genv)
        ((model G.X.prog G.X.w).den (.compLoop (.GeneratorExp elt [⟨tg, iter, ifs, 0⟩] scope pos) 0 (.ref G.it) .none G.genv)) [] s := by
  have hov : A.over (.compLoop (.GeneratorExp elt [⟨tg, iter, ifs, 0⟩] scope pos) 0 (.ref G.it) .none G.genv) [] = G.Xg.A := by
    show _ = G.Ag
    rw [← hA]
    obtain ⟨hd, d, fr, gs, u⟩ := A
    simp [Around.over, Around.deeper, marksOver, frameCount, unitsOf, envsOf, guardsOf, pushEnvs, pushGuards, Code.envs, Code.env?, Code.isFrame, Code.guards, Code.isGuard, Code.weight, Code.frames, Code.isCreation, Code.isCaller, Code.cUnits]
  intro j
  induction j with
  | zero =>
    intro i n k rr Sk S o s₀ s H ρ hj hi hki hnk hr ho hS st
    obtain rfl : i = G.items.length := by omega
    rw [List.drop_length] at hS
    have eo : o = (none, S) := by
      unfold GP.next gNext at hS
      exact (Option.some.inj hS).symm
    subst eo
    show Seg _ A _ _ _ s₀ _ ((compTurn (.GeneratorExp elt [⟨tg, iter, ifs, 0⟩] scope pos) 0 (.ref G.it) .none G.genv).onRaise (leaving G.genv)) [] s
    rw [compTurn_gen, Sem.onRaise_eq_wrap]
    refine seg_bind_wrap (wpAny_standAt ?_)
    refine seg_bind_wrap ?_
    rw [hov]
    refine GenW.wpAny_gsz st.gz (wpAny_mono (T.done G.Xg rfl rfl rfl hc _ (pinsAt G.Ss s₀.heap) s _ H (fun _ _ => False) st.inv (FpOk.gen st.inv st.nf st.free) st.tn (Yl.stop H ρ S st.go st.kept)) (fun r s6 ⟨hr6, I6⟩ hz => ?_) fun _ _ z => z.elim)
    subst hr6
    exact seg_end (.ok .next) ⟨rfl, k, rr, Sk, S, hnk, hr, ho, H, ρ, I6, st.go, hz, st.own⟩
  | succ j ih =>
    intro i n k rr Sk S o s₀ s H ρ hj hi hki hnk hr ho hS st
    have hlt : i < G.items.length := by omega
    have L1 : Lie G.X.K (wipe G.σ G.vs) H ρ (wipeE G.env G.vs) S := ⟨(hE.mono st.go.le).wipe G.vs, st.go.s⟩
    rw [List.drop_eq_getElem_cons hlt] at hS
    unfold GP.next at hS
    rw [gNext] at hS
    obtain ⟨⟨env3, S3⟩, e4, hS⟩ := bind_some hS
    obtain ⟨⟨b, S4⟩, e5, hS⟩ := bind_some hS
    show Seg _ A _ _ _ s₀ _ ((compTurn (.GeneratorExp elt [⟨tg, iter, ifs, 0⟩] scope pos) 0 (.ref G.it) .none G.genv).onRaise (leaving G.genv)) [] s
    rw [compTurn_gen, Sem.onRaise_eq_wrap]
    refine seg_bind_wrap (wpAny_standAt ?_)
    refine seg_bind_wrap ?_
    rw [hov]
    refine GenW.wpAny_gsz st.gz (wpAny_mono (T.item G.Xg rfl rfl rfl hc _ (pinsAt G.Ss s₀.heap) s _ H (fun _ _ => False) st.inv (FpOk.gen st.inv st.nf st.free) st.tn (Yl.go i H ρ S st.go st.kept hlt)) (fun r s6 ⟨u, hr6, h6⟩ hz6 => ?_) fun _ _ z => z.elim)
    subst hr6
    refine seg_bind_wrap ?_
    rw [hov]
    refine GenW.wpAny_gsz hz6 (wpAny_mono h6 (fun _ s7 ⟨x, H7, I7, r7, y7, st7, n7⟩ hz7 => ?_) fun _ _ z => z.elim)
    obtain ⟨d, hd, g3, r3⟩ := Yl.yld i H ρ S st.go st.kept hlt x H7 y7
    rw [List.getElem?_eq_getElem hlt] at hd
    cases hd
    have I7' := I7.pinned (FpOk.gen I7 st.nf n7) (T.obj _ _ st7)
    refine seg_bind_wrap ?_
    rw [hov]
    refine GenW.wpAny_gsz hz7 (wpAny_mono (pg.run _ s7 _ H7 x u (fun σ8 H8 => ∃ ρ8, Go G.X.K H ρ H8 ρ8 S3 ∧ RelE G.X.K H8 ρ8 env3 σ8 ∧ wipe σ8 G.vs = wipe G.σ G.vs) I7' r7 ⟨ρ, wipeE G.env G.vs, S, _, env3, S3, L1.next g3, r3, e4, fun σ8 H8 ρ8 g8 le8 w8 => ⟨ρ8, g3.trans g8, le8, wipe_wipe w8⟩⟩)
      (fun _ s8 ⟨σ8, H8, I8, ρ8, g8, le8, w8⟩ hz8 => ?_) fun _ _ z => z.elim)
    refine seg_bind_wrap ?_
    rw [hov]
    refine GenW.wpAny_gsz hz8 (wpAny_mono (pt.run _ s8 σ8 H8 (fun b' H9 => b' = b ∧ ∃ ρ9, Go G.X.K H8 ρ8 H9 ρ9 S4) I8 (tMT_at ⟨le8, g8.s⟩ e5 fun H9 ρ9 g9 => ⟨rfl, ρ9, g9⟩)) (fun ok s9 ⟨H9, I9, hb9, ρ9, g9⟩ hz9 => ?_) fun _ _ z => z.elim)
    subst hb9
    -- the turn's end
    have fin : ∀ {s' : Shared} {H' : Hp} {ρ' : List Addr} {S' : Store}, Inv G.Xg (pinsAt G.Ss s₀.heap ++ pinsAt G.fp s7.heap) σ8 H' s' → Go G.X.K H9 ρ9 H' ρ' S' → PD.kept G.deps S S' = true → G.gz ≤ s'.gens.size → GSt G (pinsAt G.Ss s₀.heap) k (i + 1) H' ρ' S' s' := fun {s' H' ρ' S'} I' g' k' z' => by
      have pin' : ∀ b ∈ G.fp, ∀ o, s7.heap.get? b = some o → s'.heap.get? b = some o ∧ H' b = none := fun b hb o e =>
        let z := I'.pin (b, o) (List.mem_append_right _ (List.mem_append_right _ (mem_pinsAt hb e)))
        ⟨z.1, z.2.1⟩
      have hl : (wipe G.σ G.vs).length = σ8.length := by rw [← w8, wipe_length]
      refine ⟨(I'.unpinned (pins := pinsAt G.Ss s₀.heap)).weak hl (fun j v e => ?_), st.nf, T.keep _ _ _ st7 fun b hb o e => (pin' b hb o e).1, fun b hb => ?_, ((st.go.trans g8).trans g9).trans g', kept_trans st.kept k', z', hw _ _ _ _ _ _ _ st.own ((g8.trans g9).trans g')⟩
      · rw [← w8] at e
        exact (wipe_some e).1
      · obtain ⟨o, e, _⟩ := T.obj _ _ st7 b hb
        exact (pin' b hb o e).2
    have hco' : ∀ v, yieldOut G.genv v = yieldValue v := fun v => by simp only [yieldOut, hco, Bool.false_eq_true, if_false]
    cases ok with
    | false =>
      simp only [Bool.false_eq_true, if_false]
      dsimp only at hS
      rw [if_neg Bool.false_ne_true] at hS
      split at hS
      · rename_i hk4
        exact seg_again rfl (ih (i + 1) n k rr Sk S4 o s₀ s9 H9 ρ9 (by omega) hlt (by omega) hnk hr ho hS (fin I9 (.refl g9.s) hk4 hz9))
      · cases hS
    | true =>
      dsimp only at hS
      rw [if_pos rfl] at hS
      obtain ⟨⟨x6, S6⟩, e6, hS⟩ := bind_some hS
      split at hS
      · rename_i hk6
        have eo : o = (some (x6, G.items.drop (i + 1)), S6) := (Option.some.inj hS).symm
        subst eo
        simp only [if_true]
        simp only [hco']
        rw [Sem.bind_eq_wrap', Sem.bind_eq_wrap', Sem.wrap_wrap, Sem.wrap_wrap]
        refine seg_wrap ?_
        rw [hov]
        refine GenW.wpAny_gsz hz9 (wpAny_mono (pe.run _ s9 σ8 H9 (fun y H10 => ∃ ρ10, Go G.X.K H9 ρ9 H10 ρ10 S6 ∧ Rel G.X.K H10 ρ10 x6 y) I9 (tM_at ⟨le8.mono g9.le, g9.s⟩ e6 fun v H10 ρ10 g10 r10 => ⟨ρ10, g10, r10⟩)) (fun y s10 ⟨yv, H10, I10, r10, ρ10, g10, rx⟩ hz10 => ?_) fun _ _ z => z.elim)
        have st10 := fin I10 g10 hk6 hz10
        obtain ⟨n, rfl⟩ : ∃ m, n = m + 1 := ⟨n - 1, by unfold GP.N at hnk; omega⟩
        have hr1 := gRun_succ hr ho
        refine seg_at (seg_yield rfl rfl rfl ⟨k, rr, Sk, x6, G.items.drop (i + 1), S6, by omega, hr, ho, ⟨i + 1, H10, ρ10, rfl, by omega, hlt, ⟨yv, r10, rx⟩, st10⟩, fun s'' i2 H2 ρ2 hd2 hk2 hi2 st2 ⟨o2, ho2⟩ => ?_⟩)
        refine seg_again rfl ?_
        obtain rfl : i2 = i + 1 := by
          have := congrArg List.length hd2
          rw [List.length_drop, List.length_drop] at this
          omega
        exact ih (i + 1) n (k + 1) _ S6 S6 o2 s'' s'' H2 ρ2 (by omega) hlt hk2 (by omega) hr1 ho2 ho2 st2
      · cases hS
end

/-! ### a wake -/
theorem inv_gens {X : Cx} {pins : List (Addr × Obj)} {σ : L2.St} {H : Hp} {s : Shared} {g' : Array GenState} (I : Inv X pins σ H s) (hb : AllBare g') : Inv X pins σ H { s with gens := g' } :=
  ⟨I.ok, I.os, hb, I.base, I.loc, I.cell, I.free, I.freeC, I.pin, I.hok, I.len⟩
theorem bare_set {s : Shared} {g : Nat} {x : GenState} (h : AllBare s.gens) (hx : x.bare = true) : AllBare (s.setGen g x).gens := fun y hy => by
  have hy : y ∈ s.gens.setIfInBounds g x := hy
  rcases Array.mem_or_eq_of_mem_setIfInBounds hy with h1 | h1
  · exact h y h1
  · rw [h1]; exact hx
theorem GSt.setGen {G : GP} {pl : List (Addr × Obj)} {k i : Nat} {H : Hp} {ρ : List Addr} {S : Store} {s : Shared} {g : Nat} {x : GenState} (h : GSt G pl k i H ρ S s) (hx : x.bare = true) : GSt G pl k i H ρ S (s.setGen g x) :=
  ⟨inv_gens (g' := (s.setGen g x).gens) h.inv (bare_set h.inv.bare hx), h.nf, h.tn, h.free, h.go, h.kept, by rw [GenW.setGen_size]; exact h.gz, h.own⟩
/-- the generator object a, number gi, ahead of its k-th wake -/
structure GOn (G : GP) (A : Around) (a : Addr) (gi k i : Nat) (H : Hp) (ρ : List Addr) (S : Store) (s : Shared) : Prop where
  isg : s.heap.IsGen a gi
  mem : a ∈ G.Ss
  gz : G.gz = gi + 1
  ki : k ≤ i
  il : i ≤ G.items.length
  run : G.run k = some (G.items.drop i, S)
  st : GSt G (pinsAt G.Ss s.heap) k i H ρ S s
  gs : ∃ gs, s.gens[gi]? = some gs ∧ ∀ s'' i' H' ρ', G.items.drop i = G.items.drop i' → k ≤ i' → i' ≤ G.items.length → GSt G (pinsAt G.Ss s''.heap) k i' H' ρ' S s'' → (∃ o, G.next (G.items.drop i) S = some o) →
    gs.Goes (model G.X.prog G.X.w) A.in1 (fun n s₀ r s₁ => r = .ok .next ∧ gP G n s₀ s₁) (gY G) (G.N - k) (.send .none) s''
theorem pinsAt_same {Ss : List Addr} {h h' : Heap} (k : ∀ p ∈ pinsAt Ss h, h'.get? p.1 = some p.2) (hs : ∀ b ∈ Ss, ∃ o, h.get? b = some o) : pinsAt Ss h' = pinsAt Ss h := by
  unfold pinsAt at k ⊢
  induction Ss with
  | nil => rfl
  | cons b r ih =>
    obtain ⟨o, e⟩ := hs b List.mem_cons_self
    have e' : h'.get? b = some o := k (b, o) (by simp [e])
    simp only [List.filterMap_cons, e, e', Option.map_some]
    rw [ih (fun p hp => k p (by simp [e]; exact .inr (by simpa using hp))) fun c hc => hs c (List.mem_cons_of_mem _ hc)]
/-- behind a wake that gave something: as GOn at k + 1, but what the consumer owns is still that of k -/
structure GMid (G : GP) (A : Around) (a : Addr) (gi k i : Nat) (H : Hp) (ρ : List Addr) (S : Store) (s : Shared) : Prop where
  isg : s.heap.IsGen a gi
  mem : a ∈ G.Ss
  gz : G.gz = gi + 1
  ki : k + 1 ≤ i
  il : i ≤ G.items.length
  run : G.run (k + 1) = some (G.items.drop i, S)
  st : GSt G (pinsAt G.Ss s.heap) k i H ρ S s
  gs : ∃ gs, s.gens[gi]? = some gs ∧ ∀ s'' i' H' ρ', G.items.drop i = G.items.drop i' → k + 1 ≤ i' → i' ≤ G.items.length → GSt G (pinsAt G.Ss s''.heap) (k + 1) i' H' ρ' S s'' → (∃ o, G.next (G.items.drop i) S = some o) →
    gs.Goes (model G.X.prog G.X.w) A.in1 (fun n s₀ r s₁ => r = .ok .next ∧ gP G n s₀ s₁) (gY G) (G.N - (k + 1)) (.send .none) s''
theorem GMid.on {G : GP} {A : Around} {a : Addr} {gi k i : Nat} {H : Hp} {ρ : List Addr} {S : Store} {s : Shared} (h : GMid G A a gi k i H ρ S s) (ho : G.own (k + 1) H ρ (pinsAt G.Ss s.heap)) : GOn G A a gi (k + 1) i H ρ S s :=
  ⟨h.isg, h.mem, h.gz, h.ki, h.il, h.run, ⟨h.st.inv, h.st.nf, h.st.tn, h.st.free, h.st.go, h.st.kept, h.st.gz, ho⟩, h.gs⟩
theorem gen_next {G : GP} {A : Around} {E : Value → Shared → Prop} {s : Shared} {a : Addr} {gi k i : Nat} {H : Hp} {ρ : List Addr} {S : Store} {Q : Option Value → Shared → Prop} {o : Option (D × List D) × Store} (hh : A.handled = none) (hroom : A.depth < recursionLimit)
    (hss : ∀ b ∈ G.Ss, ∃ o, s.heap.get? b = some o) (on : GOn G A a gi k i H ρ S s) (ho : G.next (G.items.drop i) S = some o)
    (hy : ∀ x r' S', o = (some (x, r'), S') → ∀ v y i' H' ρ' s', L2.RelV y v → Rel G.X.K H' ρ' x y → r' = G.items.drop i' → GMid G A a gi k i' H' ρ' S' s' → pinsAt G.Ss s'.heap = pinsAt G.Ss s.heap → Q (some v) s')
    (he : ∀ S', o = (none, S') → ∀ H' ρ' s', Inv G.Xg (pinsAt G.Ss s.heap) (wipe G.σ G.vs) H' s' → Go G.X.K G.H1 G.ρ1 H' ρ' S' → G.own k H' ρ' (pinsAt G.Ss s.heap) → Q none s') : wpAny (model G.X.prog G.X.w) A (pyNext (.ref a)) Q E s := by
  obtain ⟨gs, hgs, hgo⟩ := on.gs
  have hlen : k ≤ G.items.length := Nat.le_trans on.ki on.il
  refine wpAny_pyNext_genexpQ (P := gP G) (Y := gY G) (n := G.N - k) hh on.st.inv.nolimit hroom on.isg hgs (hgo _ i H ρ rfl on.ki on.il (on.st.setGen (g := gi) (x := .running) rfl) ⟨o, ho⟩) (fun v s₁ gs' hb hY => ?_) (fun s₁ hp h' hk => ?_)
  · obtain ⟨k', r, S', x, r', S2, e1, e2, e3, ⟨i', H', ρ', e4, e5, e6, ⟨y, ry, rx⟩, st'⟩, kap⟩ := hY
    obtain rfl : k' = k := by unfold GP.N at e1; omega
    rw [on.run] at e2
    cases e2
    rw [ho] at e3
    cases e3
    have hp : ∀ p ∈ pinsAt G.Ss s.heap, s₁.heap.get? p.1 = some p.2 := fun p hp => (st'.inv.pin p (List.mem_append_right _ hp)).1
    have hpe : pinsAt G.Ss (s₁.setGen gi gs').heap = pinsAt G.Ss s.heap := pinsAt_same hp hss
    obtain ⟨og, nm, qn, hog, hcg⟩ := on.isg
    have hlt : gi < s₁.gens.size := by have := st'.gz; rw [on.gz] at this; omega
    refine hy x r' S2 rfl v y i' H' ρ' _ ry rx e4 ⟨⟨og, nm, qn, hp (a, og) (mem_pinsAt on.mem hog), hcg⟩, on.mem, on.gz, e5, e6, by rw [← e4]; exact gRun_succ on.run ho, ?_, gs', ?_, ?_⟩ hpe
    · rw [hpe]
      exact st'.setGen hb
    · show (s₁.gens.setIfInBounds gi gs')[gi]? = some gs'
      simp [hlt]
    · intro s'' i2 H2 ρ2 hd2 hk2 hi2 st2 hn2
      rw [← e4] at hn2 hd2
      have hz := kap s'' i2 H2 ρ2 hd2 hk2 hi2 st2 hn2
      obtain ⟨m, hm⟩ : ∃ m, G.N - k' = m + 1 := ⟨G.N - k' - 1, by unfold GP.N; omega⟩
      rw [hm] at hz
      rw [show G.N - (k' + 1) = m by omega]
      exact hz
  · obtain ⟨k', r, S', S2, e1, e2, e3, H', ρ', I', g', z', w'⟩ := hp
    obtain rfl : k' = k := by unfold GP.N at e1; omega
    rw [on.run] at e2
    cases e2
    rw [ho] at e3
    cases e3
    have I2 : Inv G.Xg (pinsAt G.Ss s.heap) (wipe G.σ G.vs) H' (s₁.setGen gi .finished) := inv_gens I' (bare_set I'.bare rfl)
    exact he S2 rfl H' ρ' _ (I2.kept (t' := s₁.toks) hk) g' w'

/-! ### the beginning -/
theorem over_gen {A : Around} {elt tg iter : Expr} {ifs : List Expr} {scope : Scope} {pos : Pos} {it : Addr} {genv : Env} : A.over (.compStart (.GeneratorExp elt [⟨tg, iter, ifs, 0⟩] scope pos) 0 (.ref it) .none genv) [] = A.deeper genv := by
  obtain ⟨hd, d, fr, gs, u⟩ := A
  simp [Around.over, Around.deeper, marksOver, frameCount, unitsOf, envsOf, guardsOf, pushEnvs, pushGuards, Code.envs, Code.env?, Code.isFrame, Code.guards, Code.isGuard, Code.weight, Code.frames, Code.isCreation, Code.isCaller, Code.cUnits]
section
variable {G : GP} {tg iter elt : Expr} {ifs : List Expr} {scope : Scope} {pos : Pos} {A : Around}
theorem seg_startW (hw : ∀ k pl H ρ H' ρ' S', G.own k H ρ pl → Go G.X.K H ρ H' ρ' S' → G.own k H' ρ' pl) (hc : G.X.calm = true) (hA : A.deeper G.genv = G.Ag) (hco : G.genv.scope.isCoroutine = false) (T : Turn G.X.prog G.X.w G.X.K tg G.J G.fp G.it G.tn) (Yl : Yields G.X.K G.J G.items G.deps G.H1 G.ρ1 G.S1)
    (hE : RelE G.X.K G.H1 G.ρ1 G.env G.σ) (pg : PGW G.Xg G.vs tg G.g) (pt : PMTs G.Xg ifs G.t) (pe : PM G.Xg elt G.m) {o : Option (D × List D) × Store} {s₀ s : Shared} {H : Hp} {ρ : List Addr} (ho : G.next G.items G.S1 = some o)
    (st : GSt G (pinsAt G.Ss s₀.heap) 0 0 H ρ G.S1 s) : Seg (model G.X.prog G.X.w) A (fun n s₀ r s₁ => r = .ok .next ∧ gP G n s₀ s₁) (gY G) G.N s₀ (.compStart (.GeneratorExp elt [⟨tg, iter, ifs, 0⟩] scope pos) 0 (.ref G.it) .none G.genv)
        ((model G.X.prog G.X.w).den (.compStart (.GeneratorExp elt [⟨tg, iter, ifs, 0⟩] scope pos) 0 (.ref G.it) .none G.genv)) [] s := by
  have loop := seg_genW (iter := iter) (elt := elt) (scope := scope) (pos := pos) hw hc hA hco T Yl hE pg pt pe _ 0 G.N 0 G.items G.S1 G.S1 o s₀ s H ρ rfl (Nat.zero_le _) (Nat.le_refl _) rfl rfl ho (by rw [List.drop_zero]; exact ho) st
  show Seg _ A _ _ _ s₀ _ ((compStart (.GeneratorExp elt [⟨tg, iter, ifs, 0⟩] scope pos) 0 (.ref G.it) .none G.genv).onRaise (leaving G.genv)) [] s
  unfold compStart
  rw [Sem.onRaise_eq_wrap]
  show Seg _ A _ _ _ s₀ _ ((ask >>= _).wrap _ _ _ _) [] s
  refine seg_bind_wrap (wpAny_askSetting ?_)
  split
  · exact seg_again rfl loop
  · first
      | exact seg_bind_wrap (wpAny_rule (seg_bind_wrap (wpAny_standAt (seg_bind_wrap (T.self _ 0 s _ _ st.tn (seg_again rfl loop))))))
      | (refine seg_bind_wrap (wpAny_rule ?_); show Seg _ A _ _ _ s₀ _ ((standAt iter.pos >>= _).wrap _ _ _ _) [] s; exact seg_bind_wrap (wpAny_standAt (seg_bind_wrap (T.self _ 0 s _ _ st.tn (seg_again rfl loop)))))
end
theorem Yields.next {K : PySem.W.Frag} {J : It} {items : List D} {deps : List Nat} {H0 H1 : Hp} {ρ0 ρ1 : List Addr} {S0 S1 : Store} (Y : Yields K J items deps H0 ρ0 S0) (g : Go K H0 ρ0 H1 ρ1 S1) (k : kept deps S0 S1 = true) : Yields K J items deps H1 ρ1 S1 :=
  ⟨fun i H ρ S g2 k2 hi => Y.go i H ρ S (g.trans g2) (kept_trans k k2) hi, fun i H ρ S g2 k2 hi x H' h => Y.yld i H ρ S (g.trans g2) (kept_trans k k2) hi x H' h, fun H ρ S g2 k2 => Y.stop H ρ S (g.trans g2) (kept_trans k k2)⟩
theorem go_tab {K : PySem.W.Frag} {H : Hp} {ρ : List Addr} {S : Store} (s : RelS K H ρ S) {P : Addr} {ps more : Array Value} (h : H P = some (.tbl ps)) (hps : GxR.TabG H P) (ht : TriplesOk (ps ++ more).toList) : Go K H ρ (upd H P (.tbl (ps ++ more))) ρ S := by
  have ne : ∀ a u, H a = some u → (∀ q, u ≠ .tbl q) → a ≠ P := fun a u e hu z => by
    rw [z, h] at e; exact hu ps (Option.some.inj e).symm
  have le : Le H ρ (upd H P (.tbl (ps ++ more))) ρ := ⟨fun a xs e => by rw [upd_ne (ne a _ e fun q z => nomatch z)]; exact e, fun a o u e => by rw [upd_ne (ne a _ e fun q z => nomatch z)]; exact e, List.prefix_refl _,
    fun a vs e n => ⟨by rw [upd_ne (ne a _ e fun q z => nomatch z)]; exact e, n⟩⟩
  refine ⟨le, s.len, s.nd, fun i o a e1 e2 => ?_, fun Q hQ => ?_⟩
  · have q := s.at i o a e1 e2
    refine q.mono le (upd_ne fun z => ?_)
    rw [z] at q
    exact q.noTbl hps
  · by_cases hz : Q = P
    · rw [hz]; exact ⟨_, upd_same, ht⟩
    · obtain ⟨qs, h1, h2⟩ := s.tb Q hQ
      exact ⟨qs, by rw [upd_ne hz]; exact h1, h2⟩
/-- a generator that has been made, not yet woken -/
structure GRdy (X : Cx) (pins : List (Addr × Obj)) (elt tg iter : Expr) (ifs : List Expr) (scope : Scope) (pos : Pos) (σ : L2.St) (env : DEnv) (items : List D) (deps : List Nat) (S1 : Store) (vs : List Nat) (H : Hp) (ρ : List Addr)
    (a : Addr) (gi : Nat) (genv : Env) (fp : List Addr) (itA : Addr) (tn : Nat → Heap → Prop) (J : It) (s3 : Shared) (H3 : Hp) (ρ1 : List Addr) (s5 : Shared) : Prop where
  inv : ∀ Ag : Around, (X.calm = true → Ag.handled = none) → Ag.frames = some (genv :: X.stack) → Inv (gX X Ag s3 H3 genv fp) [] (wipe σ vs) H3 s5
  invX : Inv X pins σ H3 s3
  fpx : ∀ b ∈ fp, FpOk X pins H3 b
  turn : Turn X.prog X.w X.K tg J fp itA tn
  tn0 : tn 0 s5.heap
  yl : Yields X.K J items deps H3 ρ1 S1
  rel : RelE X.K H3 ρ1 env σ
  go : Go X.K H ρ H3 ρ1 S1
  isg : s5.heap.IsGen a gi
  gs : s5.gens[gi]? = some (.fresh (.compStart (.GeneratorExp elt [⟨tg, iter, ifs, 0⟩] scope pos) 0 (.ref itA) .none genv))
  ge : ∃ code, genv = genEnv scope (cloFrom X.env.cells scope.names []) s3.heap.objs.size code builtinsNs X.env
  young : s3.heap.objs.size < a ∧ a < s5.heap.objs.size
  fpl : ∀ b ∈ fp, b < s3.heap.objs.size
section
variable {X : Cx} {pins : List (Addr × Obj)} {s : Shared}
theorem gen_make {c P : Addr} {elt tg iter : Expr} {ifs : List Expr} {scope : Scope} {own : List (Str × Nat)} {gpos : Pos} {it : MI} {σ : L2.St} {H : Hp} {ρ : List Addr} {env : DEnv} {S S1 : Store} {items : List D} {deps : List Nat} {Q' : Value → Shared → Prop} {k : Nat}
    (hr : Room k X.A) (hN : X.N.Nodup) (TB : GxR.TabB X.base X.mg c P) (hP : P ∈ Tabs.ts) (hcode : X.env.code = .ref c) (hi : PMI X tg iter it) (ok : BlkOk X.N X.env.scope scope own) (hco : scope.isCoroutine = false) (hcell : ∀ y ∈ scope.names, y.2 ≠ .cell)
    (h0 : scope.names.lookup (".0" : Str) = some NameKind.local) (hs : ∀ v, genFold iter X.env v = pure v) (I : Inv X pins σ H s) (L : Lie X.K σ H ρ env S) (e1 : it env S = some (items, deps, S1))
    (hQ : ∀ a gi genv fp itA tn J s3 H3 ρ1 s5, GRdy X pins elt tg iter ifs scope gpos σ env items deps S1 (own.map (·.2)) H ρ a gi genv fp itA tn J s3 H3 ρ1 s5 → Q' (.ref a) s5) :
    wpAny (model X.prog X.w) X.A (eval (.GeneratorExp elt [⟨tg, iter, ifs, 0⟩] scope gpos) X.env) Q' X.xe s := by
  have hfree : ∀ y ∈ scope.names, y.2 = .free → ∃ c, X.env.cells.lookup y.1 = some c := fun y hy e => by
    rcases ok.free y hy e with k | k
    · exact I.ok.has _ (.inl k)
    · exact I.ok.has _ (.inr k)
  refine wpAny_GeneratorExp_make hco (closure_ok hfree) hcell h0 ok.kind (by have := hr.dp; omega) ?_ hs
  refine thn (hi.run pins s σ H (fun J H1 => ∃ ρ1, Go X.K H ρ H1 ρ1 S1 ∧ Yields X.K J items deps H1 ρ1 S1) I ⟨ρ, env, S, items, deps, S1, L, e1, fun J H1 ρ1 g1 Y => ⟨ρ1, g1, Y⟩⟩) fun xv s1 hx => thn hx fun itv s2 h2 => ?_
  obtain ⟨itA, fp, tn, J, H2, rfl, I2, T, st2, f2, ρ1, g1, Y⟩ := h2
  obtain ⟨ps, hPt, ht⟩ := g1.s.tb P hP
  have hPg : GxR.TabG H2 P := ⟨ps, hPt, ht⟩
  have hPs : s2.heap.get? P = some { cls := .none, data := .fields ps } := I2.hok P _ hPt
  have cd : PySem.W.CodeHd s2.heap c P := TB.code.keeps fun b u e => I2.bk b u e
  refine ⟨I2.nolimit, ?_⟩
  have cont : ∀ (code : Value) (h3 : Heap) (tk : Nat) (more : Array Value), Heap.ExtBut P s2.heap h3 → s2.heap.objs.size ≤ h3.objs.size → h3.get? P = some { cls := .none, data := .fields (ps ++ more) } → TriplesOk (ps ++ more).toList →
      wpAny (model X.prog X.w) X.A (builtinsFor X.env.globals X.env.builtins) (fun bi s₄ => ∀ h', h'.Ns s₄.heap.objs.size (fun y => if y = ".0" then some (.ref itA) else none) → Heap.SameBut s₄.heap.objs.size (s₄.heap.push { cls := .type "frame", data := .dict #[] }) h' →
          Q' (.ref h'.objs.size) { s₄ with
            gens := s₄.gens.push (.fresh (.compStart (.GeneratorExp elt [⟨tg, iter, ifs, 0⟩] scope gpos) 0 (.ref itA) .none (genEnv scope (cloFrom X.env.cells scope.names []) s₄.heap.objs.size code bi X.env))),
            toks := s₄.toks + 1 + 1 + 1,
            heap := h'.push { cls := .type "generator", data := .fields #[.int s₄.gens.size 0, .str "<genexpr>" (s₄.toks + 1), .str (X.env.qual ++ "<genexpr>") (s₄.toks + 1 + 1)] } }) X.xe { s2 with heap := h3, toks := tk } := by
    intro code h3 tk more hx hsz hP3 ht3
    obtain ⟨bm, ob, b1, b2, b3, b4, b5, b6, b7, b8⟩ := TB.bm
    have keep3 : ∀ b u, b ≠ P → s2.heap.get? b = some u → h3.get? b = some u := fun b u hb e => hx b u hb e
    refine wpAny_builtinsFor (m := X.mg) (by rw [I2.ok.glob]; exact (I2.mod.glob.keeps I2.bk).extBut hx TB.gP) b1 b2 (keep3 _ _ b4 (I2.bk _ _ b5)) b6 b7 b8 ?_
    intro h' hn' hs'
    have I3 : Inv X pins σ (upd H2 P (.tbl (ps ++ more))) { s2 with heap := h3, gens := s2.gens, drawn := s2.drawn, toks := tk } := GxR.inv_tab (more := more) (h' := h3) (g' := s2.gens) (d' := s2.drawn) (t' := tk) I2 hPt (fun b u hb e => keep3 b u hb e) hP3 I2.bare
    have g3 : Go X.K H2 ρ1 (upd H2 P (.tbl (ps ++ more))) ρ1 S1 := go_tab g1.s hPt hPg ht3
    have nP : ∀ b ∈ fp, b ≠ P := fun b hb z => by
      have := (f2 b hb).1
      rw [z, hPt] at this; cases this
    have f3 : ∀ b ∈ fp, FpOk X pins (upd H2 P (.tbl (ps ++ more))) b := fun b hb => ⟨by rw [upd_ne (nP b hb)]; exact (f2 b hb).1, (f2 b hb).2⟩
    have st3 : tn 0 h3 := T.keep _ _ _ st2 fun b hb o e => keep3 b o (nP b hb) e
    have fl : ∀ b ∈ fp, b < h3.objs.size := fun b hb => by
      obtain ⟨o, e, _⟩ := T.obj _ _ st3 b hb
      exact Heap.lt_size e
    have hsz' : h'.objs.size = h3.objs.size + 1 := by rw [hs'.1, Heap.size_push]
    have keep' : ∀ b o, h3.get? b = some o → h'.get? b = some o := fun b o e => hs'.extBut b o (Nat.ne_of_lt (Heap.lt_size e)) (Heap.get?_push_of_some _ e)
    have keep5 : ∀ b o, h3.get? b = some o → (h'.push { cls := .type "generator", data := .fields #[.int s2.gens.size 0, .str "<genexpr>" (tk + 1), .str (X.env.qual ++ "<genexpr>") (tk + 1 + 1)] }).get? b = some o := fun b o e => Heap.get?_push_of_some _ (keep' b o e)
    refine hQ h'.objs.size s2.gens.size _ fp itA tn J { s2 with heap := h3, toks := tk } _ ρ1 _ ⟨fun Ag ha1 ha2 => ?_, I3, f3, T, T.keep _ _ _ st3 fun b hb o e => keep5 b o e, Y.next g3 (kept_refl _ _), (L.e.mono g1.le).mono g3.le, g1.trans g3,
      ⟨_, _, _, Heap.get?_push_size _ rfl, rfl, rfl, rfl⟩, Array.getElem?_push_size .., ⟨code, rfl⟩, ⟨by show h3.objs.size < h'.objs.size; omega, by show h'.objs.size < (h'.push _).objs.size; rw [Heap.size_push]; exact Nat.lt_succ_self _⟩, fl⟩
    exact gen_start (s := { s2 with heap := h3, toks := tk }) I3 ok hN (fun b hb => ⟨f3 b hb, fl b hb⟩) hcell rfl ha1 ha2 keep5 (hn'.push _) rfl (I2.bare.push rfl)
  cases hf : codeAmong gpos ps.toList with
  | none =>
    refine wpAny_genexprCodeX hcode (cd.code hPs ht) (cd.tab hPs) hf fun c' h' tk hx hge hlt hco' _ htab' _ => ?_
    obtain ⟨o1, vs, f1, tf, fl, tg, inF, tx, tt, op, _, _, _, _, _, _, _, _, _, htr, _⟩ := hco'
    exact cont _ h' tk _ hx (Nat.le_trans hge (Nat.le_of_lt hlt)) htab'.2 htr
  | some cv =>
    refine wpAny_genexprCode_hit hcode (cd.code hPs ht) hf ?_
    exact cont cv s2.heap s2.toks #[] (Heap.ExtBut.refl _ _) (Nat.le_refl _) (by simpa using hPs) (by simpa using ht)
end

/-- ready to be woken by a consumer that stands in A; its own objects: extra -/
theorem GRdy.on {X : Cx} {pins : List (Addr × Obj)} {elt tg iter : Expr} {ifs : List Expr} {scope : Scope} {pos : Pos} {σ : L2.St} {env : DEnv} {items : List D} {deps : List Nat} {S1 : Store} {vs : List Nat} {H : Hp} {ρ : List Addr}
    {a : Addr} {gi : Nat} {genv : Env} {fp : List Addr} {itA : Addr} {tn : Nat → Heap → Prop} {J : It} {s3 : Shared} {H3 : Hp} {ρ1 : List Addr} {s5 : Shared} {A : Around} {g : MG} {t : MT} {m : ME} {h' : Heap} {tk : Nat} {extra : List Addr} {own : Nat → Hp → List Addr → List (Addr × Obj) → Prop}
    (R : GRdy X pins elt tg iter ifs scope pos σ env items deps S1 vs H ρ a gi genv fp itA tn J s3 H3 ρ1 s5) (hw : ∀ k pl H ρ H' ρ' S', own k H ρ pl → Go X.K H ρ H' ρ' S' → own k H' ρ' pl) (hw0 : own 0 H3 ρ1 (pinsAt (a :: extra) h')) (hc : X.calm = true) (hh : A.handled = none) (hf : A.frames = some X.stack) (hco : scope.isCoroutine = false)
    (pg : PGW (gX X (A.in1.deeper genv) s3 H3 genv fp) vs tg g) (pt : PMTs (gX X (A.in1.deeper genv) s3 H3 genv fp) ifs t) (pe : PM (gX X (A.in1.deeper genv) s3 H3 genv fp) elt m)
    (hk : ∀ b o, s5.heap.get? b = some o → h'.get? b = some o) (hex : ∀ b ∈ extra, s5.heap.objs.size ≤ b ∧ ∃ o, h'.get? b = some o ∧ ∀ v, o.data ≠ .cell v) :
    GOn ⟨X, A.in1.deeper genv, s3, H3, ρ1, S1, genv, fp, itA, tn, J, vs, σ, env, items, deps, g, t, m, gi + 1, a :: extra, own⟩ A a gi 0 0 H3 ρ1 S1 { s5 with heap := h', toks := tk } := by
  have hA2 : (A.in1.deeper genv).frames = some (genv :: X.stack) := by
    show (A.frames.map (genv :: ·)) = _
    rw [hf]; rfl
  have I5 := R.inv (A.in1.deeper genv) (fun _ => hh) hA2
  have I6 : Inv (gX X (A.in1.deeper genv) s3 H3 genv fp) [] (wipe σ vs) H3 { s5 with heap := h', toks := tk } := I5.kept (t' := tk) hk
  obtain ⟨code, hge⟩ := R.ge
  have hL : genv.locals = s3.heap.objs.size := by rw [hge]; rfl
  have hco' : genv.scope.isCoroutine = false := by rw [hge]; exact hco
  have big : ∀ b ∈ a :: extra, s3.heap.objs.size < b ∧ ∃ o, h'.get? b = some o ∧ ∀ v, o.data ≠ .cell v := fun b hb => by
    rcases List.mem_cons.mp hb with rfl | hb
    · obtain ⟨o, nm, qn, ho, _, hd, _⟩ := R.isg
      exact ⟨R.young.1, o, hk _ _ ho, fun v e => by rw [hd] at e; cases e⟩
    · obtain ⟨h1, h2⟩ := hex b hb
      exact ⟨Nat.lt_of_lt_of_le (Nat.lt_trans R.young.1 R.young.2) h1, h2⟩
  have hpin : ∀ (hh : Heap), (∀ b ∈ a :: extra, ∃ o, hh.get? b = some o ∧ ∀ v, o.data ≠ .cell v) → ∀ p ∈ pinsAt (a :: extra) hh, hh.get? p.1 = some p.2 ∧ H3 p.1 = none ∧ p.1 ≠ genv.locals ∧ p.1 ∉ frs X.stack ∧ ∀ v, p.2.data ≠ .cell v := fun hh hb p hp => by
    obtain ⟨h1, h2⟩ := of_pinsAt hp
    obtain ⟨o, ho, hd⟩ := hb p.1 h1
    rw [h2] at ho; cases ho
    obtain ⟨h3, _⟩ := big p.1 h1
    refine ⟨h2, R.invX.hok.fresh (Nat.le_of_lt h3), by rw [hL]; exact Nat.ne_of_gt h3, fun z => ?_, hd⟩
    obtain ⟨_, o, ho, _⟩ := I5.ok.funs.mem z
    exact absurd (Nat.lt_trans (Heap.lt_size ho) h3) (Nat.lt_irrefl _)
  have nf : ∀ (hh : Heap), ∀ p ∈ pinsAt (a :: extra) hh, p.1 ∉ fp := fun hh p hp z => by
    obtain ⟨h1, _⟩ := of_pinsAt hp
    exact absurd (Nat.lt_trans (R.fpl _ z) (big p.1 h1).1) (Nat.lt_irrefl _)
  refine ⟨R.isg.keeps hk, List.mem_cons_self, rfl, Nat.le_refl _, Nat.zero_le _, rfl, ?_, _, R.gs, ?_⟩
  · refine ⟨I6.pins_of (hpin h' fun b hb => (big b hb).2), nf h', R.turn.keep _ _ _ R.tn0 fun b _ o e => hk b o e, fun b hb => (R.fpx b hb).1,   .refl R.go.s, kept_refl _ _, ?_, ?_⟩
    · show gi + 1 ≤ s5.gens.size
      exact (Array.getElem?_eq_some_iff.mp R.gs).1
    · exact hw0
  · rintro s'' i' H' ρ' hd _ hi' st' ⟨o, ho⟩
    have e0 : i' = 0 ∨ items = [] := by
      have := congrArg List.length hd
      simp only [List.length_drop] at this
      rcases Nat.eq_zero_or_pos items.length with h | h
      · exact .inr (List.length_eq_zero_iff.mp h)
      · left
        have hi' : i' ≤ items.length := hi'
        omega
    have e0 : i' = 0 := by
      rcases e0 with h | h
      · exact h
      · have hi' : i' ≤ items.length := hi'
        rw [h] at hi'; simpa using hi'
    subst e0
    exact ⟨rfl, seg_startW (G := ⟨X, A.in1.deeper genv, s3, H3, ρ1, S1, genv, fp, itA, tn, J, vs, σ, env, items, deps, g, t, m, gi + 1, a :: extra, own⟩) (A := A.in1) hw hc rfl hco' R.turn R.yl R.rel pg pt pe (by rw [List.drop_zero] at ho; exact ho) st'⟩
/-- back in the context of the maker -/
theorem GRdy.back {X : Cx} {pins : List (Addr × Obj)} {elt tg iter : Expr} {ifs : List Expr} {scope : Scope} {pos : Pos} {σ : L2.St} {env : DEnv} {items : List D} {deps : List Nat} {S1 : Store} {vs : List Nat} {H : Hp} {ρ : List Addr}
    {a : Addr} {gi : Nat} {genv : Env} {fp : List Addr} {itA : Addr} {tn : Nat → Heap → Prop} {J : It} {s3 : Shared} {H3 : Hp} {ρ1 : List Addr} {s5 : Shared} {Ag : Around} {pl : List (Addr × Obj)} {σ' : L2.St} {H' : Hp} {s' : Shared}
    (R : GRdy X pins elt tg iter ifs scope pos σ env items deps S1 vs H ρ a gi genv fp itA tn J s3 H3 ρ1 s5) (I : Inv (gX X Ag s3 H3 genv fp) pl σ' H' s') : Inv X pins σ H' s' :=
  R.invX.call' (ch := fp) I.os I.base I.hok I.bare fun b hb => ⟨(R.fpx b hb).2.2.2.1, (R.fpx b hb).2.1, (R.fpx b hb).2.2.2.2.1, (R.fpx b hb).2.2.2.2.2⟩
end PD

set_option Elab.async false
set_option linter.all false
set_option maxRecDepth 100000
set_option maxHeartbeats 4000000
/-! PdGenUse: all, any, tuple of generator expressions. -/
namespace PD
open PySem PySem.Spec PyProof.Rows L2
variable [Tabs]

/-! ### all, any -/
/-- stop: the truth that ends it -/
def gAll (stop : Bool) (deps : List Nat) (g : MG) (t : MT) (m : ME) (env : DEnv) : List D → Store → Option (Bool × Store)
  | [], S => some (!stop, S)
  | d :: r, S => (g d env S).bind fun p => (t p.1 p.2).bind fun q => if q.1 then
      (m p.1 q.2).bind fun x => if kept deps S x.2 then (match x.1 with
        | .bl b => if b = stop then some (stop, x.2) else gAll stop deps g t m env r x.2
        | _ => none) else none
      else if kept deps S q.2 then gAll stop deps g t m env r q.2 else none
theorem gAll_next {stop : Bool} {deps : List Nat} {g : MG} {t : MT} {m : ME} {env : DEnv} : ∀ {r : List D} {S : Store} {b : Bool} {S' : Store}, gAll stop deps g t m env r S = some (b, S') →
    (gNext deps g t m env r S = some (none, S') ∧ b = !stop) ∨ ∃ c r' S2, gNext deps g t m env r S = some (some (.bl c, r'), S2) ∧ r'.length < r.length ∧ if c = stop then (b = stop ∧ S' = S2) else gAll stop deps g t m env r' S2 = some (b, S')
  | [], S, b, S', e => by
    rw [gAll] at e
    cases e
    exact .inl ⟨rfl, rfl⟩
  | d :: r, S, b, S', e => by
    rw [gAll] at e
    obtain ⟨⟨env3, S3⟩, e4, e⟩ := bind_some e
    obtain ⟨⟨k, S4⟩, e5, e⟩ := bind_some e
    rw [gNext, e4, Option.bind_some]
    dsimp only
    rw [e5, Option.bind_some]
    dsimp only at e ⊢
    cases k with
    | false =>
      rw [if_neg Bool.false_ne_true] at e ⊢
      split at e
      · rename_i hk
        rw [if_pos hk]
        rcases gAll_next e with h | ⟨c, r', S2, h1, h2, h3⟩
        · exact .inl h
        · exact .inr ⟨c, r', S2, h1, Nat.lt_succ_of_lt h2, h3⟩
      · cases e
    | true =>
      rw [if_pos rfl] at e ⊢
      obtain ⟨⟨x6, S6⟩, e6, e⟩ := bind_some e
      rw [e6, Option.bind_some]
      dsimp only at e ⊢
      split at e
      · rename_i hk
        rw [if_pos hk]
        split at e
        · rename_i _ c
          refine .inr ⟨c, r, S6, rfl, Nat.lt_succ_self _, ?_⟩
          split at e
          · rename_i hc
            cases e
            rw [if_pos hc]; exact ⟨rfl, rfl⟩
          · rename_i hc
            rw [if_neg hc]; exact e
        · cases e
      · cases e
theorem drop_of {G : GP} {i i' : Nat} (hi : i ≤ G.items.length) (hi' : i' ≤ G.items.length) (h : (G.items.drop i').length < (G.items.drop i).length) : G.items.length - i' < G.items.length - i := by
  rw [List.length_drop, List.length_drop] at h; exact h
/-- the objects that are pinned stand -/
theorem GOn.there {G : GP} {A : Around} {a : Addr} {gi k i : Nat} {H : Hp} {ρ : List Addr} {S : Store} {s : Shared} {pl : List (Addr × Obj)} (hp : pinsAt G.Ss s.heap = pl) (hpl : ∀ b ∈ G.Ss, ∃ o, (b, o) ∈ pl) : ∀ b ∈ G.Ss, ∃ o, s.heap.get? b = some o := fun b hb => by
  obtain ⟨o, ho⟩ := hpl b hb
  rw [← hp] at ho
  exact ⟨o, (of_pinsAt ho).2⟩
section
variable {G : GP} {A : Around} {R : Result → Shared → Prop} {a : Addr} {gi : Nat}
theorem all_loopG (how : ∀ k H ρ pl, G.own k H ρ pl) (hh : A.handled = none) (hroom : A.depth < recursionLimit) {b : Bool} {S' : Store} {pl : List (Addr × Obj)} (hpl : ∀ b ∈ G.Ss, ∃ o, (b, o) ∈ pl) (hR : ∀ H' ρ' s' pl', Inv G.Xg pl' (wipe G.σ G.vs) H' s' → Go G.X.K G.H1 G.ρ1 H' ρ' S' → R (.ok (.ret (.bool b))) s') :
    ∀ (n k i : Nat) (H : Hp) (ρ : List Addr) (S : Store) (s : Shared), G.items.length - i = n → GOn G A.in1 a gi k i H ρ S s → pinsAt G.Ss s.heap = pl → gAll false G.deps G.g G.t G.m (wipeE G.env G.vs) (G.items.drop i) S = some (b, S') →
      codeAny (model G.X.prog G.X.w) A (.builtin "all.loop" ⟨[.ref a], []⟩) R s := by
  intro n
  induction n using Nat.strongRecOn with
  | _ n ih =>
    intro k i H ρ S s hn on hp e
    refine codeAny_builtin F.entry_all_loop ?_
    rw [Around.under_plainId F.plain_all_loop _]
    show wpAny _ A.in1 (pyNext (.ref a) >>= _) _ _ s
    refine wpAny_bind ?_
    rcases gAll_next e with ⟨h1, hb⟩ | ⟨c, r', S2, h1, h2, h3⟩
    · refine gen_next hh hroom (GOn.there (k := k) (i := i) (H := H) (ρ := ρ) (S := S) (A := A) (a := a) (gi := gi) hp hpl) on h1 (fun x r' S2 e2 => by cases e2) fun S2 e2 H' ρ' s' I' g' _ => ?_
      cases e2
      rw [hb] at hR
      exact wpAny_bind (wpAny_rule (wpAny_pure (hR H' ρ' s' _ I' g')))
    · refine gen_next hh hroom (GOn.there (k := k) (i := i) (H := H) (ρ := ρ) (S := S) (A := A) (a := a) (gi := gi) hp hpl) on h1 (fun x r2 S3 e2 v y i' H' ρ' s' ry rx hr2 on' hp' => ?_) fun S2 e2 => by cases e2
      cases e2
      rw [Rel] at rx
      subst rx
      obtain rfl : v = .bool c := ry
      refine wpAny_bind (wpAny_holding (wpAny_truthy_bool ?_))
      refine wpAny_bind (wpAny_letGo ?_)
      cases c with
      | true =>
        simp only [if_true]
        rw [if_neg (by decide)] at h3
        rw [hr2] at h3 h2
        exact wpAny_pure ⟨plainId_quiet F.plain_all_loop _, ih _ (by rw [← hn]; exact drop_of on.il on'.il h2) (k + 1) i' H' ρ' _ s' rfl (on'.on (how _ _ _ _)) (hp'.trans hp) h3⟩
      | false =>
        simp only [Bool.false_eq_true, if_false]
        rw [if_pos rfl] at h3
        obtain ⟨rfl, rfl⟩ := h3
        exact wpAny_bind (wpAny_rule (wpAny_pure (hR H' ρ' s' _ on'.st.inv on'.st.go)))
theorem any_loopG (how : ∀ k H ρ pl, G.own k H ρ pl) (hh : A.handled = none) (hroom : A.depth < recursionLimit) {b : Bool} {S' : Store} {pl : List (Addr × Obj)} (hpl : ∀ b ∈ G.Ss, ∃ o, (b, o) ∈ pl) (hR : ∀ H' ρ' s' pl', Inv G.Xg pl' (wipe G.σ G.vs) H' s' → Go G.X.K G.H1 G.ρ1 H' ρ' S' → R (.ok (.ret (.bool b))) s') :
    ∀ (n k i : Nat) (H : Hp) (ρ : List Addr) (S : Store) (s : Shared), G.items.length - i = n → GOn G A.in1 a gi k i H ρ S s → pinsAt G.Ss s.heap = pl → gAll true G.deps G.g G.t G.m (wipeE G.env G.vs) (G.items.drop i) S = some (b, S') →
      codeAny (model G.X.prog G.X.w) A (.builtin "any.loop" ⟨[.ref a], []⟩) R s := by
  intro n
  induction n using Nat.strongRecOn with
  | _ n ih =>
    intro k i H ρ S s hn on hp e
    refine codeAny_builtin F.entry_any_loop ?_
    rw [Around.under_plainId F.plain_any_loop _]
    show wpAny _ A.in1 (pyNext (.ref a) >>= _) _ _ s
    refine wpAny_bind ?_
    rcases gAll_next e with ⟨h1, hb⟩ | ⟨c, r', S2, h1, h2, h3⟩
    · refine gen_next hh hroom (GOn.there (k := k) (i := i) (H := H) (ρ := ρ) (S := S) (A := A) (a := a) (gi := gi) hp hpl) on h1 (fun x r' S2 e2 => by cases e2) fun S2 e2 H' ρ' s' I' g' _ => ?_
      cases e2
      rw [hb] at hR
      exact wpAny_bind (wpAny_rule (wpAny_pure (hR H' ρ' s' _ I' g')))
    · refine gen_next hh hroom (GOn.there (k := k) (i := i) (H := H) (ρ := ρ) (S := S) (A := A) (a := a) (gi := gi) hp hpl) on h1 (fun x r2 S3 e2 v y i' H' ρ' s' ry rx hr2 on' hp' => ?_) fun S2 e2 => by cases e2
      cases e2
      rw [Rel] at rx
      subst rx
      obtain rfl : v = .bool c := ry
      refine wpAny_bind (wpAny_holding (wpAny_truthy_bool ?_))
      refine wpAny_bind (wpAny_letGo ?_)
      cases c with
      | false =>
        simp only [Bool.false_eq_true, if_false]
        rw [if_neg (by decide)] at h3
        rw [hr2] at h3 h2
        exact wpAny_pure ⟨plainId_quiet F.plain_any_loop _, ih _ (by rw [← hn]; exact drop_of on.il on'.il h2) (k + 1) i' H' ρ' _ s' rfl (on'.on (how _ _ _ _)) (hp'.trans hp) h3⟩
      | true =>
        simp only [if_true]
        rw [if_pos rfl] at h3
        obtain ⟨rfl, rfl⟩ := h3
        exact wpAny_bind (wpAny_rule (wpAny_pure (hR H' ρ' s' _ on'.st.inv on'.st.go)))
end
def mAllG (stop : Bool) (it : MI) (g : MG) (t : MT) (m : ME) (vs : List Nat) : MT := fun env S => (it env S).bind fun p => gAll stop p.2.1 g t m (wipeE env vs) p.1 p.2.2

/-- what a generator expression is made of -/
structure GenOk (X : Cx) (k : Nat) (elt tg iter : Expr) (ifs : List Expr) (scope : Scope) (own : List (Str × Nat)) (it : MI) (g : MG) (t : MT) (m : ME) : Prop where
  calm : X.calm = true
  hr : Room (k + 1) X.A
  nd : X.N.Nodup
  tab : ∃ c P, GxR.TabB X.base X.mg c P ∧ P ∈ Tabs.ts ∧ X.env.code = .ref c
  hi : PMI X tg iter it
  ok : BlkOk X.N X.env.scope scope own
  co : scope.isCoroutine = false
  cell : ∀ y ∈ scope.names, y.2 ≠ .cell
  dot : scope.names.lookup (".0" : Str) = some NameKind.local
  hs : ∀ v, genFold iter X.env v = pure v
  pg : ∀ (Ag : Around) (s : Shared) (H : Hp) (C : Addr) (cl : List (Str × Addr)) (code : Value) (fp : List Addr), Room k Ag → PGW (gX X Ag s H (genEnv scope cl C code builtinsNs X.env) fp) (own.map (·.2)) tg g
  pt : ∀ (Ag : Around) (s : Shared) (H : Hp) (C : Addr) (cl : List (Str × Addr)) (code : Value) (fp : List Addr), Room k Ag → PMTs (gX X Ag s H (genEnv scope cl C code builtinsNs X.env) fp) ifs t
  pe : ∀ (Ag : Around) (s : Shared) (H : Hp) (C : Addr) (cl : List (Str × Addr)) (code : Value) (fp : List Addr), Room k Ag → PM (gX X Ag s H (genEnv scope cl C code builtinsNs X.env) fp) elt m
theorem room_in {k : Nat} {A B : Around} (r : Room (k + 1) A) (h1 : B.handled = A.handled) (h2 : B.depth ≤ A.depth + 1) (h3 : B.units ≤ A.units + 16) : Room k B :=
  ⟨h1.trans r.hd, by have := r.dp; omega, by have := r.un; omega⟩
section
variable {X : Cx} {k : Nat} {elt tg iter : Expr} {ifs : List Expr} {scope : Scope} {own : List (Str × Nat)} {it : MI} {g : MG} {t : MT} {m : ME} {p pos gpos : Pos}
theorem GenOk.run (O : GenOk X k elt tg iter ifs scope own it g t m) {pins : List (Addr × Obj)} {s : Shared} {σ : L2.St} {H : Hp} {ρ : List Addr} {env : DEnv} {S S1 : Store} {items : List D} {deps : List Nat} {Q' : Value → Shared → Prop} (I : Inv X pins σ H s) (L : Lie X.K σ H ρ env S) (e1 : it env S = some (items, deps, S1))
    (hQ : ∀ a gi genv fp itA tn J s3 H3 ρ1 s5, GRdy X pins elt tg iter ifs scope gpos σ env items deps S1 (own.map (·.2)) H ρ a gi genv fp itA tn J s3 H3 ρ1 s5 → Q' (.ref a) s5) :
    wpAny (model X.prog X.w) X.A (eval (.GeneratorExp elt [⟨tg, iter, ifs, 0⟩] scope gpos) X.env) Q' X.xe s := by
  obtain ⟨c, P, TB, hP, hcode⟩ := O.tab
  exact gen_make O.hr O.nd TB hP hcode O.hi O.ok O.co O.cell O.dot O.hs I L e1 hQ
theorem GenOk.onA (O : GenOk X k elt tg iter ifs scope own it g t m) {pins : List (Addr × Obj)} {σ : L2.St} {env : DEnv} {items : List D} {deps : List Nat} {S1 : Store} {H : Hp} {ρ : List Addr}
    {a : Addr} {gi : Nat} {genv : Env} {fp : List Addr} {itA : Addr} {tn : Nat → Heap → Prop} {J : It} {s3 : Shared} {H3 : Hp} {ρ1 : List Addr} {s5 : Shared} {A : Around} {h' : Heap} {tk : Nat} {extra : List Addr} {ow : Nat → Hp → List Addr → List (Addr × Obj) → Prop}
    (R : GRdy X pins elt tg iter ifs scope gpos σ env items deps S1 (own.map (·.2)) H ρ a gi genv fp itA tn J s3 H3 ρ1 s5) (hw : ∀ k pl H ρ H' ρ' S', ow k H ρ pl → Go X.K H ρ H' ρ' S' → ow k H' ρ' pl) (hw0 : ow 0 H3 ρ1 (pinsAt (a :: extra) h')) (hh : A.handled = X.A.handled) (hf : A.frames = X.A.frames) (hd : A.depth ≤ X.A.depth) (hu : A.units ≤ X.A.units + 12)
    (hk : ∀ b o, s5.heap.get? b = some o → h'.get? b = some o) (hex : ∀ b ∈ extra, s5.heap.objs.size ≤ b ∧ ∃ o, h'.get? b = some o ∧ ∀ v, o.data ≠ .cell v) :
    GOn ⟨X, A.in1.deeper genv, s3, H3, ρ1, S1, genv, fp, itA, tn, J, own.map (·.2), σ, env, items, deps, g, t, m, gi + 1, a :: extra, ow⟩ A a gi 0 0 H3 ρ1 S1 { s5 with heap := h', toks := tk } := by
  obtain ⟨code, hge⟩ := R.ge
  have hR : Room k (A.in1.deeper genv) := room_in O.hr hh (by show A.depth + 1 ≤ _; omega) (by show A.units + 1 + 3 ≤ _; omega)
  refine R.on hw hw0 O.calm (hh.trans O.hr.hd) (hf.trans R.invX.ok.frames) O.co ?_ ?_ ?_ hk hex
  · rw [hge] at hR ⊢; exact O.pg _ _ _ _ _ _ _ hR
  · rw [hge] at hR ⊢; exact O.pt _ _ _ _ _ _ _ hR
  · rw [hge] at hR ⊢; exact O.pe _ _ _ _ _ _ _ hR
theorem pm_allG (O : GenOk X k elt tg iter ifs scope own it g t m) (hg : Gl X "all") (hm : X.mg "all" = none)
    (he : starEach [.GeneratorExp elt [⟨tg, iter, ifs, 0⟩] scope gpos] X.env = (false, eval (.GeneratorExp elt [⟨tg, iter, ifs, 0⟩] scope gpos) X.env) :: starEach [] X.env := by rfl) :
    PM X (.Call (.Name "all" p) [.GeneratorExp elt [⟨tg, iter, ifs, 0⟩] scope gpos] [] pos) (mBl (mAllG false it g t m (own.map (·.2)))) := by
  refine ⟨fun pins s σ H Q I h => ?_⟩
  obtain ⟨ρ, env, S, d, S', L, e, q⟩ := h
  obtain ⟨⟨b, S2⟩, e0, e2⟩ := map_some e
  clear e
  cases e2
  obtain ⟨⟨items, deps, S1⟩, e1, e⟩ := bind_some e0
  refine wpAny_Call_Name_kw (ld_blt I hg hm bt_all ?_)
  refine PyProof.Rows.callWith_builtin1 ?_ he (by rfl)
  rw [he]
  show wpAny _ _ (spliced ((false, eval (.GeneratorExp elt [⟨tg, iter, ifs, 0⟩] scope gpos) X.env) :: backTo pos (starEach [] X.env))) _ _ s
  refine Calls.spliced_cons (O.run I L e1 fun a gi genv fp itA tn J s3 H3 ρ1 s5 R => ?_)
  refine Calls.spliced_nil ?_
  refine call_function_tree F.kind_all F.plain_all F.entry_all (F.args_all1 _) ?_
  unfold Builtin.«all»
  refine wpAny_bind (m := oneArg "all" _) (wpAny_pure ?_)
  refine wpAny_bind (wpAny_pyIter_gen R.isg ?_)
  have on := O.onA (A := X.A.in1) (h' := s5.heap) (tk := s5.toks) (extra := []) (ow := fun _ _ _ _ => True) R (fun _ _ _ _ _ _ _ _ _ => trivial) trivial rfl rfl (Nat.le_refl _) (by show X.A.units + 1 ≤ _; omega) (fun _ _ e => e) (fun b hb => by simp at hb)
  refine wpAny_pure ⟨plainId_quiet F.plain_all_loop _, all_loopG (A := X.A) (fun _ _ _ _ => trivial) O.hr.hd (by have := O.hr.dp; omega) (pl := pinsAt [a] s5.heap) (fun b hb => ?_) (fun H' ρ' s' pl' I' g' => ?_) _ 0 0 H3 ρ1 S1 s5 rfl on rfl (by rw [List.drop_zero]; exact e)⟩
  · obtain rfl : b = a := by simpa using hb
    obtain ⟨o, nm, qn, ho, _⟩ := R.isg
    exact ⟨o, mem_pinsAt (by simp) ho⟩
  · exact ⟨.bl b, H', R.back I', rfl, q _ H' ρ' (R.go.trans g') (rel_bl b)⟩
theorem pm_anyG (O : GenOk X k elt tg iter ifs scope own it g t m) (hg : Gl X "any") (hm : X.mg "any" = none)
    (he : starEach [.GeneratorExp elt [⟨tg, iter, ifs, 0⟩] scope gpos] X.env = (false, eval (.GeneratorExp elt [⟨tg, iter, ifs, 0⟩] scope gpos) X.env) :: starEach [] X.env := by rfl) :
    PM X (.Call (.Name "any" p) [.GeneratorExp elt [⟨tg, iter, ifs, 0⟩] scope gpos] [] pos) (mBl (mAllG true it g t m (own.map (·.2)))) := by
  refine ⟨fun pins s σ H Q I h => ?_⟩
  obtain ⟨ρ, env, S, d, S', L, e, q⟩ := h
  obtain ⟨⟨b, S2⟩, e0, e2⟩ := map_some e
  clear e
  cases e2
  obtain ⟨⟨items, deps, S1⟩, e1, e⟩ := bind_some e0
  refine wpAny_Call_Name_kw (ld_blt I hg hm bt_any ?_)
  refine PyProof.Rows.callWith_builtin1 ?_ he (by rfl)
  rw [he]
  show wpAny _ _ (spliced ((false, eval (.GeneratorExp elt [⟨tg, iter, ifs, 0⟩] scope gpos) X.env) :: backTo pos (starEach [] X.env))) _ _ s
  refine Calls.spliced_cons (O.run I L e1 fun a gi genv fp itA tn J s3 H3 ρ1 s5 R => ?_)
  refine Calls.spliced_nil ?_
  refine call_function_tree F.kind_any F.plain_any F.entry_any (F.args_any1 _) ?_
  unfold Builtin.«any»
  refine wpAny_bind (m := oneArg "any" _) (wpAny_pure ?_)
  refine wpAny_bind (wpAny_pyIter_gen R.isg ?_)
  have on := O.onA (A := X.A.in1) (h' := s5.heap) (tk := s5.toks) (extra := []) (ow := fun _ _ _ _ => True) R (fun _ _ _ _ _ _ _ _ _ => trivial) trivial rfl rfl (Nat.le_refl _) (by show X.A.units + 1 ≤ _; omega) (fun _ _ e => e) (fun b hb => by simp at hb)
  refine wpAny_pure ⟨plainId_quiet F.plain_any_loop _, any_loopG (A := X.A) (fun _ _ _ _ => trivial) O.hr.hd (by have := O.hr.dp; omega) (pl := pinsAt [a] s5.heap) (fun b hb => ?_) (fun H' ρ' s' pl' I' g' => ?_) _ 0 0 H3 ρ1 S1 s5 rfl on rfl (by rw [List.drop_zero]; exact e)⟩
  · obtain rfl : b = a := by simpa using hb
    obtain ⟨o, nm, qn, ho, _⟩ := R.isg
    exact ⟨o, mem_pinsAt (by simp) ho⟩
  · exact ⟨.bl b, H', R.back I', rfl, q _ H' ρ' (R.go.trans g') (rel_bl b)⟩
end

/-! ### collected: tuple, join, list -/
def gColl (deps : List Nat) (g : MG) (t : MT) (m : ME) (env : DEnv) : List D → Store → Option (List D × Store)
  | [], S => some ([], S)
  | d :: r, S => (g d env S).bind fun p => (t p.1 p.2).bind fun q => if q.1 then
      (m p.1 q.2).bind fun x => if kept deps S x.2 then (gColl deps g t m env r x.2).map fun y => (x.1 :: y.1, y.2) else none
      else if kept deps S q.2 then gColl deps g t m env r q.2 else none
theorem gColl_next {deps : List Nat} {g : MG} {t : MT} {m : ME} {env : DEnv} : ∀ {r : List D} {S : Store} {xs : List D} {S' : Store}, gColl deps g t m env r S = some (xs, S') →
    (gNext deps g t m env r S = some (none, S') ∧ xs = []) ∨ ∃ x xs' r' S2, gNext deps g t m env r S = some (some (x, r'), S2) ∧ r'.length < r.length ∧ xs = x :: xs' ∧ gColl deps g t m env r' S2 = some (xs', S')
  | [], S, b, S', e => by
    rw [gColl] at e
    cases e
    exact .inl ⟨rfl, rfl⟩
  | d :: r, S, b, S', e => by
    rw [gColl] at e
    obtain ⟨⟨env3, S3⟩, e4, e⟩ := bind_some e
    obtain ⟨⟨k, S4⟩, e5, e⟩ := bind_some e
    rw [gNext, e4, Option.bind_some]
    dsimp only
    rw [e5, Option.bind_some]
    dsimp only at e ⊢
    cases k with
    | false =>
      rw [if_neg Bool.false_ne_true] at e ⊢
      split at e
      · rename_i hk
        rw [if_pos hk]
        rcases gColl_next e with h | ⟨x, xs', r', S2, h1, h2, h3⟩
        · exact .inl h
        · exact .inr ⟨x, xs', r', S2, h1, Nat.lt_succ_of_lt h2, h3⟩
      · cases e
    | true =>
      rw [if_pos rfl] at e ⊢
      obtain ⟨⟨x6, S6⟩, e6, e⟩ := bind_some e
      rw [e6, Option.bind_some]
      dsimp only at e ⊢
      split at e
      · rename_i hk
        rw [if_pos hk]
        obtain ⟨⟨ys, S7⟩, e7, e8⟩ := map_some e
        cases e8
        exact .inr ⟨x6, ys, r, S6, rfl, Nat.lt_succ_self _, rfl, e7⟩
      · cases e
theorem gColl_len {deps : List Nat} {g : MG} {t : MT} {m : ME} {env : DEnv} : ∀ {r : List D} {S : Store} {xs : List D} {S' : Store}, gColl deps g t m env r S = some (xs, S') → xs.length ≤ r.length
  | [], S, b, S', e => by rw [gColl] at e; cases e; exact Nat.le_refl _
  | d :: r, S, b, S', e => by
    rw [gColl] at e
    obtain ⟨⟨env3, S3⟩, e4, e⟩ := bind_some e
    obtain ⟨⟨k, S4⟩, e5, e⟩ := bind_some e
    dsimp only at e
    split at e
    · obtain ⟨⟨x6, S6⟩, e6, e⟩ := bind_some e
      dsimp only at e
      split at e
      · obtain ⟨⟨ys, S7⟩, e7, e8⟩ := map_some e
        cases e8
        exact Nat.succ_le_succ (gColl_len e7)
      · cases e
    · split at e
      · exact Nat.le_succ_of_le (gColl_len e)
      · cases e
/-- the consumer writes its own object -/
theorem GMid.write {G : GP} {tg : Expr} (TR : Turn G.X.prog G.X.w G.X.K tg G.J G.fp G.it G.tn) {A : Around} {a : Addr} {gi k i : Nat} {H : Hp} {ρ : List Addr} {S : Store} {s : Shared} {T : Addr} {o o' : Obj} {h' : Heap} {tk : Nat} (on : GMid G A a gi k i H ρ S s) (hT : T ∈ G.Ss) (ha : T ≠ a) (hs : G.s3.heap.objs.size ≤ T) (ho : s.heap.get? T = some o)
    (hk : ∀ b u, b ≠ T → s.heap.get? b = some u → h'.get? b = some u) (ho' : h'.get? T = some o') (hd : ∀ v, o'.data ≠ .cell v) (hall : ∀ b ∈ G.Ss, ∃ u, s.heap.get? b = some u) (hown : G.own (k + 1) H ρ (pinsAt G.Ss h')) : GOn G A a gi (k + 1) i H ρ S { s with heap := h', toks := tk } := by
  have I := on.st.inv
  obtain ⟨_, p2, p3, p4, p5⟩ := I.pin (T, o) (List.mem_append_right _ (mem_pinsAt hT ho))
  have I0 : Inv G.Xg [] (wipe G.σ G.vs) H s := I.pins_of fun p hp => by simp at hp
  have I1 : Inv G.Xg [] (wipe G.σ G.vs) H { s with heap := h', toks := tk } := I0.turned (it := T) hk p2 p3 (.inr hs) (fun x c e z => by
    obtain ⟨v, ob, hob, hdc⟩ := I.cell x c e
    rw [z, ho] at hob
    cases hob
    exact p5 _ hdc) fun p hp => absurd (show p ∈ ([] : List (Addr × Obj)) ++ [] from hp) (by simp)
  have kT : T ∉ G.fp := on.st.nf (T, o) (mem_pinsAt hT ho)
  obtain ⟨og, nm, qn, hog, hcg⟩ := on.isg
  refine ⟨⟨og, nm, qn, hk _ _ (Ne.symm ha) hog, hcg⟩, on.mem, on.gz, on.ki, on.il, on.run, ⟨I1.pins_of fun p hp => ?_, fun p hp => ?_, ?_, on.st.free, on.st.go, on.st.kept, on.st.gz, hown⟩, on.gs⟩
  · obtain ⟨h1, h2⟩ := of_pinsAt hp
    obtain ⟨u, hu⟩ := hall p.1 h1
    obtain ⟨_, q2, q3, q4, q5⟩ := I.pin (p.1, u) (List.mem_append_right _ (mem_pinsAt h1 hu))
    refine ⟨h2, q2, q3, q4, ?_⟩
    by_cases hz : p.1 = T
    · have h2 : h'.get? p.1 = some p.2 := h2
      rw [hz, ho'] at h2
      rw [← Option.some.inj h2]
      exact hd
    · have h2 : h'.get? p.1 = some p.2 := h2
      rw [hk _ _ hz hu] at h2
      rw [← Option.some.inj h2]
      exact q5
  · obtain ⟨h1, _⟩ := of_pinsAt hp
    obtain ⟨u, hu⟩ := hall p.1 h1
    exact on.st.nf (p.1, u) (mem_pinsAt h1 hu)
  · exact TR.keep _ _ _ on.st.tn fun b hb u hu => hk b u (fun z => kT (by rw [← z]; exact hb)) hu
/-- what stands in the consumer's list: the first k of all -/
def ownL (K : PySem.W.Frag) (T : Addr) (all : List D) (k : Nat) (H : Hp) (ρ : List Addr) (pl : List (Addr × Obj)) : Prop := ∃ acc c vs, (T, lstObj acc c) ∈ pl ∧ Vals vs acc.toList ∧ RelL K H ρ (all.take k) vs
theorem ownL_mono {K : PySem.W.Frag} {T : Addr} {all : List D} : ∀ k pl H ρ H' ρ' S', ownL K T all k H ρ pl → Go K H ρ H' ρ' S' → ownL K T all k H' ρ' pl := fun _ _ _ _ _ _ _ ⟨acc, c, vs, h1, h2, h3⟩ g => ⟨acc, c, vs, h1, h2, h3.mono g.le⟩
section
variable {G : GP} {A : Around} {R : Result → Shared → Prop} {a : Addr} {gi : Nat}
theorem ext_loopG {tg : Expr} (TR : Turn G.X.prog G.X.w G.X.K tg G.J G.fp G.it G.tn) (hh : A.handled = none) (hroom : A.depth < recursionLimit) {T : Addr} {all : List D} (how : G.own = ownL G.X.K T all) (ha : T ≠ a) (hs : G.s3.heap.objs.size ≤ T) (hSs : G.Ss = [a, T]) {res : Value} {S' : Store} (hz : all.length ≤ sizeLine)
    (hR : ∀ H' ρ' s' acc c vs pl, Inv G.Xg pl (wipe G.σ G.vs) H' s' → Go G.X.K G.H1 G.ρ1 H' ρ' S' → s'.heap.get? T = some (lstObj acc c) → Vals vs acc.toList → RelL G.X.K H' ρ' all vs → R (.ok (.ret res)) s') :
    ∀ (n k i : Nat) (H : Hp) (ρ : List Addr) (S : Store) (s : Shared), G.items.length - i = n → GOn G A.in1 a gi k i H ρ S s → k ≤ all.length →
      gColl G.deps G.g G.t G.m (wipeE G.env G.vs) (G.items.drop i) S = some (all.drop k, S') →
      codeAny (model G.X.prog G.X.w) A (.builtin "list.extend.loop" ⟨[.ref T, .ref a, res], []⟩) R s := by
  have hT : T ∈ G.Ss := by rw [hSs]; simp
  intro n
  induction n using Nat.strongRecOn with
  | _ n ih =>
    intro k i H ρ S s hn on hka e
    have ow := on.st.own
    rw [how] at ow
    obtain ⟨acc, c, vs, hm, rv, rl⟩ := ow
    have hob : s.heap.get? T = some (lstObj acc c) := (of_pinsAt hm).2
    have there : ∀ b ∈ G.Ss, ∃ o, s.heap.get? b = some o := fun b hb => by
      rw [hSs] at hb
      rcases List.mem_cons.mp hb with rfl | hb
      · obtain ⟨o, nm, qn, ho, _⟩ := on.isg; exact ⟨o, ho⟩
      · obtain rfl : b = T := by simpa using hb
        exact ⟨_, hob⟩
    refine codeAny_builtin F.entry_extend_loop ?_
    rw [Around.under_plainId F.plain_extend_loop _]
    show wpAny _ A.in1 (pyNext (.ref a) >>= _) _ _ s
    refine wpAny_bind ?_
    rcases gColl_next e with ⟨h1, hb⟩ | ⟨x, xs', r', S2, h1, h2, h3, h4⟩
    · refine gen_next hh hroom there on h1 (fun x r' S2 e2 => by cases e2) fun S2 e2 H' ρ' s' I' g' w' => ?_
      cases e2
      rw [how] at w'
      obtain ⟨acc', c', vs', hm', rv', rl'⟩ := w'
      have hob' : s'.heap.get? T = some (lstObj acc' c') := (I'.pin _ (List.mem_append_right _ hm')).1
      have hk : all.length ≤ k := by
        have := congrArg List.length hb
        rw [List.length_drop] at this
        simp at this
        omega
      rw [List.take_of_length_le hk] at rl'
      exact wpAny_pure (hR H' ρ' s' acc' c' vs' _ I' g' hob' rv' rl')
    · refine gen_next hh hroom there on h1 (fun x2 r2 S3 e2 v y i' H' ρ' s' ry rx hr2 on' hp' => ?_) fun S2 e2 => by cases e2
      cases e2
      have hkl : k < all.length := by
        have := congrArg List.length h3
        rw [List.length_drop] at this
        simp at this
        omega
      have hx : all[k]? = some x := by
        have h5 : (all.drop k)[0]? = some x := by rw [h3]; rfl
        rwa [List.getElem?_drop, Nat.add_zero] at h5
      have hd1 : all.drop (k + 1) = xs' := by
        have h5 := congrArg List.tail h3
        rwa [List.tail_drop] at h5
      have w' := on'.st.own
      rw [how] at w'
      obtain ⟨acc', c', vs', hm', rv', rl'⟩ := w'
      have hob' : s'.heap.get? T = some (lstObj acc' c') := (of_pinsAt hm').2
      have there' : ∀ b ∈ G.Ss, ∃ o, s'.heap.get? b = some o := fun b hb => by
        obtain ⟨o, ho⟩ := there b hb
        have := mem_pinsAt hb ho
        rw [← hp'] at this
        exact ⟨o, (of_pinsAt this).2⟩
      have hsz : acc'.size = k := by
        have h7 := rv'.length
        have h8 := rl'.length
        rw [List.length_take] at h8
        simp at h7
        omega
      show wpAny _ A.in1 (updateSeq T (·.push v) >>= _) _ _ _
      refine wpAny_bind ?_
      refine wpAny_updateSeq hob' rfl (wpAny_pure ⟨plainId_quiet F.plain_extend_loop _, ?_⟩) (by rw [hsz]; omega) (by show (acc'.push v).size ≤ sizeLine + 1; rw [Array.size_push, hsz]; omega)
      have hnew := Heap.get?_update_self (Obj.mapSeq (·.push v)) hob' rfl
      rw [hr2] at h4 h2
      refine ih _ (by rw [← hn]; exact drop_of on.il on'.il h2) (k + 1) i' H' ρ' _ _ rfl (on'.write TR (tk := s'.toks) hT ha hs hob' (fun b u hb q => (Heap.get?_update_other _ _ (Ne.symm hb)).trans q) hnew (fun v e => by cases e) there' ?_) hkl (by rw [hd1]; exact h4)
      rw [how]
      refine ⟨acc'.push v, _, vs' ++ [y], mem_pinsAt hT hnew, ?_, ?_⟩
      · rw [Array.toList_push]
        exact rv'.append (.cons ry .nil)
      · rw [List.take_add_one, hx]
        exact rl'.append (.one rx)
end

section
variable {X : Cx} {k : Nat} {elt tg iter : Expr} {ifs : List Expr} {scope : Scope} {own : List (Str × Nat)} {it : MI} {g : MG} {t : MT} {m : ME} {p pos gpos : Pos}
theorem collectG (O : GenOk X k elt tg iter ifs scope own it g t m) {pins : List (Addr × Obj)} {σ : L2.St} {env : DEnv} {items all : List D} {deps : List Nat} {S1 S' : Store} {H : Hp} {ρ : List Addr}
    {a : Addr} {gi : Nat} {genv : Env} {fp : List Addr} {itA : Addr} {tn : Nat → Heap → Prop} {J : It} {s3 : Shared} {H3 : Hp} {ρ1 : List Addr} {s5 : Shared} {A : Around} {Q : List Value → Shared → Prop} {E : Value → Shared → Prop}
    (R : GRdy X pins elt tg iter ifs scope gpos σ env items deps S1 (own.map (·.2)) H ρ a gi genv fp itA tn J s3 H3 ρ1 s5) (hh : A.handled = X.A.handled) (hf : A.frames = X.A.frames) (hd : A.depth ≤ X.A.depth) (hu : A.units ≤ X.A.units + 11) (hz : all.length ≤ sizeLine)
    (e : gColl deps g t m (wipeE env (own.map (·.2))) items S1 = some (all, S'))
    (hQ : ∀ H' ρ' s' vs us, Inv X pins σ H' s' → Go X.K H ρ H' ρ' S' → Vals vs us → RelL X.K H' ρ' all vs → Q us s') : wpAny (model X.prog X.w) A (collect (.ref a)) Q E s5 := by
  have hT : s5.TypeIs (.ref a) "generator" := R.isg.typeIs
  unfold collect
  refine wpAny_bind (wpAny_runValue (codeAny_builtin F.entry_proto_collect ?_))
  rw [Around.under_plainId F.plain_proto_collect _]
  show wpAny _ A.in1 (newList [] >>= fun l => again (.builtin "list.__iadd__" ⟨[l, .ref a], []⟩)) _ _ s5
  refine wpAny_bind (wpAny_newObj_type ?_)
  refine wpAny_pure ⟨plainId_quiet F.plain_list_iadd _, codeAny_builtin F.entry_list_iadd ?_⟩
  rw [Around.under_plainId F.plain_list_iadd _]
  have hIg : (s5.heap.push { cls := .type "list", data := .seq ([] : List Value).toArray }).IsGen a gi := R.isg.keeps fun b o e => Heap.get?_push_of_some _ e
  have hSI : s5.heap.objs.size ≠ a := fun z => absurd R.young.2 (by rw [← z]; exact Nat.lt_irrefl _)
  show wpAny _ A.in1 (Builtin.List.listExtendWith (.ref s5.heap.objs.size) (.ref a) (.ref s5.heap.objs.size)) _ _ _
  unfold Builtin.List.listExtendWith
  refine wpAny_bind (wpAny_typeOf hIg.typeIs ?_)
  have h1 : Builtin.List.listSameRef (.ref s5.heap.objs.size) (.ref a) = false := by simp [Builtin.List.listSameRef, hSI]
  have h2 : (Value.type "generator" == Value.type "list") = false := by decide
  have h3 : (Value.type "generator" == Value.type "tuple") = false := by decide
  simp only [h1, h2, h3, Bool.or_false, Bool.false_eq_true, if_false]
  refine wpAny_bind (wpAny_pyIter_gen hIg ?_)
  refine wpAny_bind (wpAny_holding ?_)
  unfold Builtin.List.listLengthHint
  refine wpAny_bind (wpAny_specialOf hIg.typeIs F.gen_no_len ?_)
  show wpAny _ A.in1 (specialOf (Value.ref a) (Str.ofString "__length_hint__") >>= _) _ _ _
  refine wpAny_bind (wpAny_specialOf hIg.typeIs F.gen_no_hint ?_)
  refine wpAny_pure ?_
  show wpAny _ A.in1 (rule "list.extend.makes-room" >>= fun _ => Builtin.List.listTouch (.ref s5.heap.objs.size) >>= fun _ =>
    again (.builtin "list.extend.loop" ⟨[.ref s5.heap.objs.size, .ref a, .ref s5.heap.objs.size], []⟩)) _ _ _
  refine wpAny_bind (wpAny_rule ?_)
  have hS₁ : (s5.heap.push { cls := .type "list", data := .seq ([] : List Value).toArray }).get? s5.heap.objs.size = some { cls := .type "list", data := .seq ([] : List Value).toArray } := Heap.get?_push_size _ rfl
  refine wpAny_bind ?_
  show wpAny _ A.in1 (updateSeq s5.heap.objs.size (·.push .none) >>= fun _ => updateSeq s5.heap.objs.size (·.pop)) _ _ _
  refine wpAny_bind (wpAny_updateSeq hS₁ rfl ?_)
  have hS₂ := Heap.get?_update_self (Obj.mapSeq (·.push Value.none)) hS₁ rfl
  refine wpAny_updateSeq hS₂ rfl ?_
  have hS₃ := Heap.get?_update_self (Obj.mapSeq (·.pop)) hS₂ rfl
  have oth : ∀ b o, s5.heap.get? b = some o →
      (((s5.heap.push { cls := .type "list", data := .seq ([] : List Value).toArray }).update s5.heap.objs.size (Obj.mapSeq (·.push Value.none))).update s5.heap.objs.size (Obj.mapSeq (·.pop))).get? b = some o :=
    fun b o e => by
      have hb : s5.heap.objs.size ≠ b := Nat.ne_of_gt (Heap.lt_size e)
      exact (Heap.get?_update_other _ _ hb).trans ((Heap.get?_update_other _ _ hb).trans (Heap.get?_push_of_some _ e))
  have on := O.onA (A := A.in1) (tk := s5.toks) (extra := [s5.heap.objs.size]) (ow := ownL X.K s5.heap.objs.size all) R ownL_mono ⟨#[], _, [], mem_pinsAt (by simp) hS₃, .nil, RelL.nil⟩ hh hf hd (by show A.units + 1 ≤ _; omega) oth (fun b hb => by
    obtain rfl : b = s5.heap.objs.size := by simpa using hb
    exact ⟨Nat.le_refl _, _, hS₃, fun v z => by cases z⟩)
  refine wpAny_pure ⟨plainId_quiet F.plain_extend_loop _, ext_loopG (A := A) (T := s5.heap.objs.size) (all := all) (S' := S') R.turn (hh.trans O.hr.hd) (by have := O.hr.dp; show A.depth < _; omega) rfl hSI (Nat.le_of_lt (Nat.lt_trans R.young.1 R.young.2)) rfl hz (fun H' ρ' s' acc c vs pl I' g' hob rv rl => ?_)
    _ 0 0 H3 ρ1 S1 _ rfl on (Nat.zero_le _) (by rw [List.drop_zero, List.drop_zero]; exact e)⟩
  show wpAny _ A (load s5.heap.objs.size >>= _) _ _ s'
  refine wpAny_bind (wpAny_load hob ?_)
  exact wpAny_pure (hQ H' ρ' s' vs acc.toList (R.back I') (R.go.trans g') rv rl)
end

/-- tuple(.. for ..) -/
def mTupG (it : MI) (g : MG) (t : MT) (m : ME) (vs : List Nat) : ME := fun env S => (it env S).bind fun p => (gColl p.2.1 g t m (wipeE env vs) p.1 p.2.2).bind fun q => if okLen q.1.length then some (.tup q.1, q.2) else none
/-- sep.join(.. for ..) -/
def mJoinG (o : ME) (it : MI) (g : MG) (t : MT) (m : ME) (vs : List Nat) : ME := fun env S => (o env S).bind fun w => (it env w.2).bind fun p => (gColl p.2.1 g t m (wipeE env vs) p.1 p.2.2).bind fun q => match w.1 with
  | .str a => (strsOf q.1).bind fun ys => if JoinOk a ys && okLen ys.length then some (.str (Txt.join a ys), q.2) else none
  | _ => none
section
variable {X : Cx} {k : Nat} {elt tg iter : Expr} {ifs : List Expr} {scope : Scope} {own : List (Str × Nat)} {it : MI} {g : MG} {t : MT} {m : ME} {p pos gpos : Pos}
theorem pm_tupG (O : GenOk X k elt tg iter ifs scope own it g t m) (hg : Gl X "tuple") (hm : X.mg "tuple" = none)
    (he : starEach [.GeneratorExp elt [⟨tg, iter, ifs, 0⟩] scope gpos] X.env = (false, eval (.GeneratorExp elt [⟨tg, iter, ifs, 0⟩] scope gpos) X.env) :: starEach [] X.env := by rfl) :
    PM X (.Call (.Name "tuple" p) [.GeneratorExp elt [⟨tg, iter, ifs, 0⟩] scope gpos] [] pos) (mTupG it g t m (own.map (·.2))) := by
  refine ⟨fun pins s σ H Q I h => ?_⟩
  obtain ⟨ρ, env, S, d, S', L, e0, q⟩ := h
  obtain ⟨⟨items, deps, S1⟩, e1, e⟩ := bind_some e0
  clear e0
  obtain ⟨⟨all, S2⟩, e2, e⟩ := bind_some e
  dsimp only at e
  split at e
  · rename_i hz
    cases e
    have hz := of_decide_eq_true hz
    refine wpAny_Call_Name_kw (ld_blt I hg hm bt_tuple ?_)
    refine PyProof.Rows.callWith_type1 ?_ he (by rfl)
    rw [he]
    show wpAny _ _ (spliced ((false, eval (.GeneratorExp elt [⟨tg, iter, ifs, 0⟩] scope gpos) X.env) :: backTo pos (starEach [] X.env))) _ _ s
    refine Calls.spliced_cons (O.run I L e1 fun a gi genv fp itA tn J s3 H3 ρ1 s5 R => ?_)
    refine Calls.spliced_nil ?_
    refine callType_codes (Q₁ := fun obj s₁ => s₁.TypeIs obj "tuple" ∧ EP X pins σ Q obj s₁) F.called_tuple (F.typeCall_tuple_1 _) F.entry_object_init ?_ fun obj s₁ h₁ => ?_
    · refine codeAny_of_tree ?_
      show wpAny _ X.A.in1.in1 (do checkBuiltinCall "tuple.__new__" ⟨[.type "tuple", .ref a], []⟩; again (.builtin "tuple.__new__" ⟨[.type "tuple", .ref a], []⟩)) _ _ s5
      refine wpAny_bind (wpAny_of_eq (F.newCall_tuple_1 _) (wpAny_pure ⟨plainId_quiet F.plain_tuple_new _, codeAny_builtin F.entry_tuple_new ?_⟩))
      rw [Around.under_plainId F.plain_tuple_new _]
      have hsub := sub_tuple_self
      have hinit := init_tuple_lookup
      have hmh := madeHere_tuple
      have hTI : s5.TypeIs (.ref a) "generator" := R.isg.typeIs
      wp_walk using wpAny_typeOf hTI, collectG (A := X.A.in1.in1) O R rfl rfl (Nat.le_refl _) (by show X.A.units + 1 + 1 ≤ _; omega) hz e2
      intro H' ρ' s' vs us I' g' rv rl
      show wpAny _ _ (Builtin.Tuple.tupleExact us.toArray >>= fun v => ret v) _ _ _
      unfold Builtin.Tuple.tupleExact
      have hl : us.length ≤ sizeLine := by rw [← rv.length, rl.length]; exact hz
      refine wpAny_bind (wpAny_newObj_type ?_ (by show us.toArray.size ≤ sizeLine; simpa using hl))
      refine wpAny_pure ?_
      obtain ⟨g2, r2⟩ := newTup g'.s rl (I'.hok.fresh (Nat.le_refl _))
      have z := q (.ref s'.heap.objs.size) _ ρ' (g'.trans g2) r2
      refine ⟨⟨_, Heap.get?_push_size _ rfl, rfl⟩, .ref s'.heap.objs.size, _, I'.laid (t' := s'.toks) (o := .tup vs) (fun b ob q => Heap.get?_push_of_some _ q) (Nat.le_refl _) ?_, rfl, z⟩
      exact ⟨by rw [rl.length]; exact hz, us, rv, IsTup.new _ _⟩
    · exact ⟨h₁.1, F.args_object_init_2 obj _, object_init_meets F.called_tuple.init.lookup F.called_tuple.made (by decide) X.prog X.w X.A.in1 _ s₁ ⟨h₁.1, rfl, h₁.2⟩⟩
  · cases e
end

theorem strs_vals : ∀ {ys : List Str} {us : List Value}, Vals (ys.map V.str) us → ∃ l : List (Str × Tok), strValues l = us ∧ l.map (·.1) = ys
  | [], _, r => by
    cases r
    exact ⟨[], rfl, rfl⟩
  | y :: ys, _, r => by
    cases r with
    | cons h t =>
      obtain ⟨tk, rfl⟩ := (show ∃ t, _ = Value.str y t from h)
      obtain ⟨l, h1, h2⟩ := strs_vals t
      exact ⟨(y, tk) :: l, by rw [← h1]; rfl, by rw [List.map_cons, h2]⟩
section
variable {X : Cx} {k : Nat} {o elt tg iter : Expr} {ifs : List Expr} {scope : Scope} {own : List (Str × Nat)} {mo : ME} {it : MI} {g : MG} {t : MT} {m : ME} {apos cpos gpos : Pos}
theorem pm_joinG (O : GenOk X k elt tg iter ifs scope own it g t m) (ho : PM X o mo) (hbase : attributeBase o "join" X.env (eval o X.env) = eval o X.env := by rfl)
    (hfew : ((backTo cpos (starEach [.GeneratorExp elt [⟨tg, iter, ifs, 0⟩] scope gpos] X.env)).all (fun x => !x.1) && (backToKw cpos (keywordEach [] X.env)).all (fun x => x.1.isSome)
      && decide (([.GeneratorExp elt [⟨tg, iter, ifs, 0⟩] scope gpos] : List Expr).length + ([] : List Keyword).length + (if ([] : List Keyword).isEmpty then 0 else 1) < 30)) = true := by rfl)
    (hline : (apos.endLine == cpos.line) = true := by rfl)
    (he : starEach [.GeneratorExp elt [⟨tg, iter, ifs, 0⟩] scope gpos] X.env = (false, eval (.GeneratorExp elt [⟨tg, iter, ifs, 0⟩] scope gpos) X.env) :: starEach [] X.env := by rfl)
    (hplain : (backTo cpos (starEach [] X.env)).any (·.1) = false := by rfl) :
    PM X (.Call (.Attribute o "join" apos) [.GeneratorExp elt [⟨tg, iter, ifs, 0⟩] scope gpos] [] cpos) (mJoinG mo it g t m (own.map (·.2))) := by
  refine ⟨fun pins s σ H Q I h => ?_⟩
  obtain ⟨ρ, env, S, d, S', L, e0, q⟩ := h
  obtain ⟨⟨w, S0⟩, ew, e⟩ := bind_some e0
  clear e0
  obtain ⟨⟨items, deps, S1⟩, e1, e⟩ := bind_some e
  obtain ⟨⟨all, S2⟩, e2, e⟩ := bind_some e
  dsimp only at e
  cases w with
  | str sep =>
    dsimp only at e
    obtain ⟨ys, e3, e⟩ := bind_some e
    split at e
    · rename_i hz
      cases e
      rw [Bool.and_eq_true] at hz
      refine wpAny_Call_method_late hbase hfew hline rfl (thn (ho.run pins s σ H (fun v H1 => ∃ ρ1, Go X.K H ρ H1 ρ1 S0 ∧ v = .str sep) I (tM_at L ew fun v H1 ρ1 g1 r1 => ⟨ρ1, g1, r1.of_str⟩)) fun v s1 ⟨x', H1, I1, r1, ρ1, g1, ex⟩ => ?_)
      subst ex
      obtain ⟨tk, rfl⟩ := (show ∃ t, v = Value.str sep t from r1)
      refine ⟨"str", _, PySem.F.plainAttrs_str, PySem.F.slot_str_join, PySem.F.type_str_join, typeIs_str _ _ _, (fun _ e => nomatch e), ?_⟩
      rw [he]
      refine Calls.callWith_builtin (by show (false || (backTo cpos (starEach [] X.env)).any (·.1)) = false; rw [hplain] <;> rfl) (Calls.evalArgs_plain ?_)
      show wpAny _ _ (spliced ((false, eval (.GeneratorExp elt [⟨tg, iter, ifs, 0⟩] scope gpos) X.env) :: backTo cpos (starEach [] X.env))) _ _ s1
      refine Calls.spliced_cons (O.run I1 (L.next g1) e1 fun a gi genv fp itA tn J s3 H3 ρ3 s5 R => ?_)
      refine Calls.spliced_nil ?_
      show wpAny _ X.A (call (.builtin "str.join") [.str sep tk, .ref a]) _ _ s5
      refine wpAny_call (codeAny_call_builtin F.slot_str_join.plain F.entry_str_join (F.slot_str_join.check _ _ _ _ _ _ _ _ (typeIs_str _ _ _) (F.args_str_join_2 _ _) ?_))
      rw [join_tree_other]
      refine wpAny_bind (wpAny_typeOf R.isg.typeIs ?_)
      show wpAny _ X.A.in1 ((pyIter (.ref a)).tryCatch _ >>= fun it => collect it >>= fun items => joinTail sep items) _ _ s5
      refine wpAny_bind (wpAny_tryCatch (wpAny_pyIter_gen R.isg ?_))
      have hlen : all.length = ys.length := by
        have key : ∀ {ds : List D} {ys : List Str}, strsOf ds = some ys → ds.length = ys.length := by
          intro ds
          induction ds with
          | nil => intro ys e; cases e; rfl
          | cons d ds ih =>
            intro ys e
            cases d <;> (first | cases e | skip)
            obtain ⟨l, h1, h2⟩ := map_some e
            cases h2
            simp [ih h1]
        exact key e3
      refine wpAny_bind (collectG (A := X.A.in1) O R rfl rfl (Nat.le_refl _) (by show X.A.units + 1 ≤ _; omega) (by rw [hlen]; exact of_decide_eq_true hz.2) e2 fun H' ρ' s' vs us I' g' rv rl => ?_)
      have hv := strs_rel e3 rl
      subst hv
      obtain ⟨l, hl1, hl2⟩ := strs_vals rv
      subst hl1
      have hok : JoinOk sep (l.map (·.1)) = true := by rw [hl2]; exact hz.1
      unfold JoinOk at hok
      rw [Bool.not_eq_true'] at hok
      have gj : Gives (joinTail sep (strValues l)) (joinMade sep l) := by
        have g0 := gives_joinTail sep l hok
        cases l with
        | nil => exact g0
        | cons p r => cases r with
          | nil => exact g0
          | cons q r' => exact g0
      refine gj X.prog X.w X.A (wants (EP X pins σ Q) X.xe) s' (post_join l ⟨joinFit_length hok, fun t' kk => ?_⟩)
      rw [hl2]
      exact ⟨.str _, H', I'.tok kk, ⟨t', rfl⟩, q _ _ ρ' (g1.trans g') (rel_str _)⟩
    · cases e
  | _ => cases e
end
end PD

set_option Elab.async false
set_option linter.all false
set_option maxRecDepth 100000
set_option maxHeartbeats 4000000
/-! PdPlain: reckoning with meanings, in plain Lean. -/
namespace PD
open PySem PySem.Spec PyProof.Rows L2
variable [Tabs]

/-! ### one step at a time (no step by rfl alone: the kernel would try to reckon) -/
@[simp high] theorem ob_some {α β : Type} (a : α) (f : α → Option β) : (some a).bind f = f a := id rfl
@[simp high] theorem ob_none {α β : Type} (f : α → Option β) : (none : Option α).bind f = none := id rfl
@[simp high] theorem om_some {α β : Type} (a : α) (f : α → β) : (some a).map f = some (f a) := id rfl
@[simp high] theorem om_none {α β : Type} (f : α → β) : (none : Option α).map f = none := id rfl
section
variable {env : DEnv} {S : Store}
@[simp] theorem ev_var (i : Nat) : mVar i env S = match env[i]? with
  | some (some d) => some (d, S)
  | _ => none := id rfl
@[simp] theorem ev_C (d : D) : mC d env S = some (d, S) := id rfl
@[simp] theorem ev_2 (f : F2) (a b : ME) : m2 f a b env S = (a env S).bind fun p => (b env p.2).bind fun q => f p.1 q.1 q.2 := id rfl
@[simp] theorem ev_1 (f : F1) (a : ME) : m1 f a env S = (a env S).bind fun p => f p.1 p.2 := id rfl
@[simp] theorem ev_cmp (f : C2) (a b : ME) : mCmp f a b env S = (a env S).bind fun p => (b env p.2).bind fun q => (f p.1 q.1 q.2).map fun k => (k, q.2) := id rfl
@[simp] theorem ev_bl (t : MT) : mBl t env S = (t env S).map fun p => (.bl p.1, p.2) := id rfl
@[simp] theorem ev_tru (a : ME) : mTru a env S = (a env S).bind fun p => (truD p.1 p.2).map fun k => (k, p.2) := id rfl
@[simp] theorem ev_and (t u : MT) : mAnd t u env S = (t env S).bind fun p => if p.1 then u env p.2 else some (false, p.2) := id rfl
@[simp] theorem ev_or (t u : MT) : mOr t u env S = (t env S).bind fun p => if p.1 then some (true, p.2) else u env p.2 := id rfl
@[simp] theorem ev_not (t : MT) : mNot t env S = (t env S).map fun p => (!p.1, p.2) := id rfl
@[simp] theorem ev_notV (a : ME) : mNotV a env S = (a env S).bind fun p => (truD p.1 p.2).map fun k => (.bl (!k), p.2) := id rfl
@[simp] theorem ev_if (t : MT) (a b : ME) : mIf t a b env S = (t env S).bind fun p => if p.1 then a env p.2 else b env p.2 := id rfl
@[simp] theorem ev_andV (a b : ME) : mAndV a b env S = (a env S).bind fun p => (truD p.1 p.2).bind fun k => if k then b env p.2 else some p := id rfl
@[simp] theorem ev_orV (a b : ME) : mOrV a b env S = (a env S).bind fun p => (truD p.1 p.2).bind fun k => if k then some p else b env p.2 := id rfl
@[simp] theorem ev_nil : mNil env S = some ([], S) := id rfl
@[simp] theorem ev_cons (a : ME) (r : MA) : mCons a r env S = (a env S).bind fun p => (r env p.2).map fun q => (p.1 :: q.1, q.2) := id rfl
@[simp] theorem ev_tup (a : MA) : mTup a env S = (a env S).bind fun p => if okLen p.1.length then some (.tup p.1, p.2) else none := id rfl
@[simp] theorem ev_tmp (a : MA) : mTmp a env S = (a env S).map fun p => (.cl p.1, p.2) := id rfl
@[simp] theorem ev_new (a : MA) : mNew a env S = (a env S).map fun p => (.ref p.2.length, p.2 ++ [.lst p.1]) := id rfl
@[simp] theorem ev_lst (a : MA) : mLst a env S = (a env S).bind fun p => if okLen p.1.length then some p else none := id rfl
@[simp] theorem ev_call (f : FL) (a : MA) : mCall f a env S = (a env S).bind fun p => f p.1 p.2 := id rfl
@[simp] theorem ev_callN (f : FN) (a : MA) : mCallN f a env S = (a env S).bind fun p => (f p.1 p.2).map fun ds => (ds, p.2) := id rfl
@[simp] theorem ev_fn (n : Nat) (φ : FL) (a : MA) : mFn n φ a env S = (a env S).bind fun p => if p.1.length = n then φ p.1 p.2 else none := id rfl
@[simp] theorem ev_isi (T : String) (a : ME) : mIsi T a env S = (a env S).bind fun p => (tyD p.1 p.2).map fun t => (.bl (isiB t T), p.2) := id rfl
@[simp] theorem ev_meth (T : String) (f : D → FL) (o : ME) (a : MA) : mMeth T f o a env S = (o env S).bind fun p => if tyD p.1 p.2 = some T then (a env p.2).bind fun q => f p.1 q.1 q.2 else none := id rfl
@[simp] theorem ev_cutG (f : D → Option Int → Option Int → Store → Option (D × Store)) (a : ME) (l u : MO) : mCutG f a l u env S = (a env S).bind fun p => (l env p.2).bind fun q => (u env q.2).bind fun r => f p.1 q.1 r.1 r.2 := id rfl
@[simp] theorem ev_noPart : mNoPart env S = some (none, S) := id rfl
@[simp] theorem ev_part (a : ME) : mPart a env S = (a env S).bind fun p => match p.1 with
  | .int i => some (some i, p.2)
  | _ => none := id rfl
@[simp] theorem ev_yes : mYes env S = some (true, S) := id rfl
@[simp] theorem ev_gName (i : Nat) (d : D) : mgName i d env S = some (env.set i (some d), S) := id rfl
@[simp] theorem ev_gNil (ds : List D) : mgNil ds env S = match ds with
  | [] => some (env, S)
  | _ => none := id rfl
@[simp] theorem ev_gCons (g : MG) (r : MGs) (d : D) (ds : List D) : mgCons g r (d :: ds) env S = (g d env S).bind fun p => r ds p.1 p.2 := id rfl
@[simp] theorem ev_gTup (n : Nat) (g : MGs) (d : D) : mgTup n g d env S = match d with
  | .tup ds => if ds.length = n then g ds env S else none
  | _ => none := id rfl
@[simp] theorem ev_gSub (o i : ME) (d : D) : mgSub o i d env S = (o env S).bind fun p => (i env p.2).bind fun q => match p.1, q.1 with
  | .ref j, .int k => match q.2[j]? with
    | some (.lst xs) => (ixN xs.length k).map fun m => (env, q.2.set j (.lst (xs.set m d)))
    | _ => none
  | _, _ => none := id rfl
@[simp] theorem ev_pass : sPass env S = some (.nx env S) := id rfl
@[simp] theorem ev_break : sBreak env S = some (.bk env S) := id rfl
@[simp] theorem ev_cont : sCont env S = some (.ct env S) := id rfl
@[simp] theorem ev_expr (m : ME) : sExpr m env S = (m env S).map fun p => .nx env p.2 := id rfl
@[simp] theorem ev_ret (m : ME) : sRet m env S = (m env S).map fun p => .rt p.1 p.2 := id rfl
@[simp] theorem ev_retN : sRetN env S = some (.rt .non S) := id rfl
@[simp] theorem ev_sif (t : MT) (a b : MS) : sIf t a b env S = (t env S).bind fun p => if p.1 then a env p.2 else b env p.2 := id rfl
@[simp] theorem ev_asg (m : ME) (g : MG) : sAsg m g env S = (m env S).bind fun p => (g p.1 env p.2).map fun q => .nx q.1 q.2 := id rfl
@[simp] theorem ev_par2 (i j : Nat) (a : MA) : sPar2 i j a env S = (a env S).bind fun p => match p.1 with
  | [x, y] => some (.nx ((env.set i (some x)).set j (some y)) p.2)
  | _ => none := id rfl
@[simp] theorem ev_par3 (i j l : Nat) (a : MA) : sPar3 i j l a env S = (a env S).bind fun p => match p.1 with
  | [x, y, z] => some (.nx (((env.set i (some x)).set j (some y)).set l (some z)) p.2)
  | _ => none := id rfl
@[simp] theorem ev_aug (f : F2) (i : Nat) (m : ME) : sAug f i m env S = match env[i]? with
  | some (some x) => (m env S).bind fun p => (f x p.1 p.2).map fun q => .nx (env.set i (some q.1)) q.2
  | _ => none := id rfl
@[simp] theorem ev_for (it : MI) (g : MG) (b : MS) : sFor it g b env S = (it env S).bind fun p => forGo p.2.1 g b p.1 env p.2.2 := id rfl
@[simp] theorem ev_range1 (a : ME) : iRange1 a env S = (a env S).bind fun p => match p.1 with
  | .int j => if small62 j then some (ramp 0 1 j.toNat, [], p.2) else none
  | _ => none := id rfl
@[simp] theorem ev_range2 (a b : ME) : iRange2 a b env S = (a env S).bind fun p => (b env p.2).bind fun q => match p.1, q.1 with
  | .int i, .int j => if small62 i && small62 j then some (ramp i 1 (j - i).toNat, [], q.2) else none
  | _, _ => none := id rfl
@[simp] theorem ev_iseq (m : ME) : iSeq m env S = (m env S).bind fun p => match p.1 with
  | .tup ds => some (ds, [], p.2)
  | .cl ds => some (ds, [], p.2)
  | .str z => some (signs z, [], p.2)
  | .ref i => match p.2[i]? with
    | some (.lst ds) => some (ds, [i], p.2)
    | _ => none
  | _ => none := id rfl
/-- x comes to y (kept apart from =, so that simp reckons x alone) -/
structure Is {α : Type} (x : Option α) (y : α) : Prop where
  eq : x = some y
theorem Is.mk' {α : Type} {y : α} : Is (some y) y := ⟨rfl⟩
/-- the first statement goes on -/
theorem seq_nx {a b : MS} {env' : DEnv} {S' : Store} {r : Option Out} (h : Is (a env S) (.nx env' S')) (h2 : b env' S' = r) : sSeq a b env S = r := by
  unfold sSeq; rw [h.eq]; exact h2
theorem seq_rt {a b : MS} {d : D} {S' : Store} (h : a env S = some (.rt d S')) : sSeq a b env S = some (.rt d S') := by
  unfold sSeq; rw [h]; rfl
theorem ev_seq (a b : MS) : sSeq a b env S = (a env S).bind fun o => match o with
  | .nx env' S' => b env' S'
  | o => some o := id rfl
@[simp] theorem ev_lcT (it : MI) (g : MG) (t : MT) (elt : ME) (vs : List Nat) : mLcT it g t elt vs env S = (it env S).bind fun p =>
  if kept p.2.1 p.2.2 (p.2.2 ++ [.lst []]) then (lcGo p.2.1 p.2.2.length g t elt (wipeE env vs) p.1 (p.2.2 ++ [.lst []])).bind fun S' => tempOf p.2.2 S' else none := id rfl
@[simp] theorem ev_lc (it : MI) (g : MG) (t : MT) (elt : ME) (vs : List Nat) : mLc it g t elt vs env S = (it env S).bind fun p =>
  if kept p.2.1 p.2.2 (p.2.2 ++ [.lst []]) then (lcGo p.2.1 p.2.2.length g t elt (wipeE env vs) p.1 (p.2.2 ++ [.lst []])).map fun S' => (.ref p.2.2.length, S') else none := id rfl
end
@[simp] theorem forGo_nil {deps : List Nat} {g : MG} {b : MS} {env : DEnv} {S : Store} : forGo deps g b [] env S = some (.nx env S) := id rfl
@[simp] theorem kept_nil (S S' : Store) : kept [] S S' = true := id rfl
theorem kept_same {deps : List Nat} {S S' : Store} (h : ∀ i ∈ deps, S'[i]? = S[i]?) : kept deps S S' = true := by
  unfold kept
  rw [List.all_eq_true]
  exact fun i hi => decide_eq_true (h i hi)
theorem sizeL : (10000000 : Nat) ≤ sizeLine := by rw [sizeLine_eq]; decide
theorem okLen_of {n : Nat} (h : n ≤ 10000000) : okLen n = true := decide_eq_true (Nat.le_trans h sizeL)

/-! ### loops -/
/-- a turn of a for goes on -/
def Turns (g : MG) (b : MS) (deps : List Nat) (d : D) (env : DEnv) (S : Store) (env' : DEnv) (S' : Store) : Prop :=
  ∃ env1 S1, g d env S = some (env1, S1) ∧ (b env1 S1 = some (.nx env' S') ∨ b env1 S1 = some (.ct env' S')) ∧ kept deps S S' = true
theorem for_inv {deps : List Nat} {g : MG} {b : MS} {items : List D} (P : Nat → DEnv → Store → Prop)
    (step : ∀ i d, items[i]? = some d → ∀ env S, P i env S → ∃ env' S', Turns g b deps d env S env' S' ∧ P (i + 1) env' S') :
    ∀ {env : DEnv} {S : Store}, P 0 env S → ∃ env' S', forGo deps g b items env S = some (.nx env' S') ∧ P items.length env' S' := by
  induction items generalizing P with
  | nil => exact fun h => ⟨_, _, rfl, h⟩
  | cons d r ih =>
    intro env S h
    obtain ⟨env1, S1, ⟨env2, S2, e1, e2, e3⟩, p1⟩ := step 0 d rfl env S h
    obtain ⟨env', S', e4, p2⟩ := ih (fun i => P (i + 1)) (fun i d hi env S p => step (i + 1) d (by simpa using hi) env S p) p1
    refine ⟨env', S', ?_, p2⟩
    rw [forGo, e1, Option.bind_some]
    rcases e2 with e2 | e2
    · rw [e2, Option.bind_some]
      dsimp only
      rw [if_pos e3]; exact e4
    · rw [e2, Option.bind_some]
      dsimp only
      rw [if_pos e3]; exact e4
theorem Turns.nx {g : MG} {b : MS} {deps : List Nat} {d : D} {env env1 env' : DEnv} {S S1 S' : Store} (h1 : g d env S = some (env1, S1)) (h2 : Is (b env1 S1) (.nx env' S')) (h3 : kept deps S S' = true) : Turns g b deps d env S env' S' := ⟨env1, S1, h1, .inl h2.eq, h3⟩
/-- the turns of a comprehension, over a front store T that it may change -/
def LcTurn (g : MG) (t : MT) (elt : ME) (deps : List Nat) (env : DEnv) (d : D) (T : Store) (acc : List D) (T' : Store) (acc' : List D) : Prop :=
  ∃ env1 b S1, g d env (T ++ [.lst acc]) = some (env1, T ++ [.lst acc]) ∧ t env1 (T ++ [.lst acc]) = some (b, S1) ∧
    ((b = false ∧ S1 = T' ++ [.lst acc] ∧ acc' = acc) ∨ (b = true ∧ ∃ x, elt env1 S1 = some (x, T' ++ [.lst acc]) ∧ acc' = acc ++ [x])) ∧ T'.length = T.length ∧ ∀ i ∈ deps, T'[i]? = T[i]? ∧ i < T.length
theorem lc_inv {deps : List Nat} {n : Nat} {g : MG} {t : MT} {elt : ME} {env : DEnv} {items : List D} (P : Nat → List D → Store → Prop) (hn : items.length ≤ 1000000)
    (step : ∀ i d, items[i]? = some d → ∀ acc T, P i acc T → T.length = n → acc.length ≤ i → ∃ acc' T', LcTurn g t elt deps env d T acc T' acc' ∧ P (i + 1) acc' T') :
    ∀ {T : Store}, P 0 [] T → T.length = n → ∃ acc T', lcGo deps n g t elt env items (T ++ [.lst []]) = some (T' ++ [.lst acc]) ∧ P items.length acc T' ∧ T'.length = n ∧ acc.length ≤ items.length := by
  have key : ∀ (r : List D) (i : Nat) (acc : List D) (T : Store), items.drop i = r → i ≤ items.length → P i acc T → T.length = n → acc.length ≤ i → ∃ acc' T', lcGo deps n g t elt env r (T ++ [.lst acc]) = some (T' ++ [.lst acc']) ∧ P items.length acc' T' ∧ T'.length = n ∧ acc'.length ≤ items.length := by
    intro r
    induction r with
    | nil =>
      intro i acc T hd hi h hT ha
      have : i = items.length := by
        have := congrArg List.length hd
        rw [List.length_drop] at this
        simp at this
        omega
      subst this
      exact ⟨acc, T, rfl, h, hT, ha⟩
    | cons d r ih =>
      intro i acc T hd hi h hT ha
      have hlt : i < items.length := by
        have := congrArg List.length hd
        rw [List.length_drop] at this
        simp at this
        omega
      have hx : items[i]? = some d := by
        have h2 : (items.drop i)[0]? = some d := by rw [hd]; rfl
        rwa [List.getElem?_drop, Nat.add_zero] at h2
      have hr : items.drop (i + 1) = r := by
        have h2 := congrArg List.tail hd
        rwa [List.tail_drop] at h2
      obtain ⟨acc1, T1, ⟨env1, b, S1, e1, e2, e3, e4, e5⟩, p1⟩ := step i d hx acc T h hT ha
      have hk : ∀ x : O, kept deps (T ++ [.lst acc]) (T1 ++ [x]) = true := fun x => kept_same fun j hj => by
        obtain ⟨h1, h2⟩ := e5 j hj
        rw [List.getElem?_append_left (by rw [e4]; exact h2), List.getElem?_append_left h2, h1]
      have hl : (T1 ++ [O.lst acc])[n]? = some (.lst acc) := by
        rw [List.getElem?_append_right (by omega), show n - T1.length = 0 by omega]; rfl
      rcases e3 with ⟨rfl, rfl, rfl⟩ | ⟨rfl, x, e3, rfl⟩
      · obtain ⟨acc', T', e6, p2⟩ := ih (i + 1) _ T1 hr hlt p1 (by omega) (by omega)
        refine ⟨acc', T', ?_, p2⟩
        rw [lcGo, e1, Option.bind_some]
        dsimp only
        rw [e2, Option.bind_some]
        dsimp only
        rw [if_neg Bool.false_ne_true, if_pos (hk _)]
        exact e6
      · obtain ⟨acc', T', e6, p2⟩ := ih (i + 1) _ T1 hr hlt p1 (by omega) (by rw [List.length_append]; simp; omega)
        refine ⟨acc', T', ?_, p2⟩
        rw [lcGo, e1, Option.bind_some]
        dsimp only
        rw [e2, Option.bind_some]
        dsimp only
        rw [if_pos rfl, e3, Option.bind_some]
        have hp : putAt n x (T1 ++ [.lst acc]) = some (T1 ++ [.lst (acc ++ [x])]) := by
          unfold putAt
          rw [hl]
          dsimp only
          rw [if_pos (by have := sizeL; omega)]
          rw [List.set_append_right _ _ (by omega), show n - T1.length = 0 by omega]; rfl
        dsimp only
        rw [hp, Option.bind_some, if_pos (hk _)]
        exact e6
  intro T h hT
  exact key items 0 [] T (List.drop_zero) (Nat.zero_le _) h hT (Nat.zero_le _)
theorem keepLo_refl (n : Nat) : ∀ S X : Store, keepLo n S (S ++ X) = true
  | [], X => by cases X <;> rfl
  | o :: S, X => by rw [List.cons_append, keepLo, keepLo_refl n S X]; simp
theorem keepLo_refl' (n : Nat) (S : Store) : keepLo n S S = true := by
  have := keepLo_refl n S []
  rwa [List.append_nil] at this
theorem keepLo_append {n : Nat} : ∀ {A A' : Store} (B : Store), A'.length = A.length → keepLo n A A' = true → keepLo n (A ++ B) (A' ++ B) = true
  | [], [], B, _, _ => keepLo_refl' n B
  | a :: A, a' :: A', B, hl, h => by
    rw [keepLo, Bool.and_eq_true] at h
    rw [List.cons_append, List.cons_append, keepLo, Bool.and_eq_true]
    exact ⟨h.1, keepLo_append B (by simpa using hl) h.2⟩
theorem temp_of {T T' : Store} {acc : List D} (hl : T'.length = T.length) (h1 : D.loL T.length acc = true) (h2 : keepLo T.length T T' = true) : tempOf T (T' ++ [.lst acc]) = some (.cl acc, T') := by
  unfold tempOf
  rw [List.getElem?_append_right (by omega), show T.length - T'.length = 0 by omega]
  simp only [List.getElem?_cons_zero]
  have h3 : keepLo T.length T (T' ++ [.lst acc]) = true := by
    have key : ∀ {n : Nat} (A A' X : Store), A'.length = A.length → keepLo n A A' = true → keepLo n A (A' ++ X) = true := by
      intro n A
      induction A with
      | nil => intro A' X _ _; cases (A' ++ X) <;> rfl
      | cons a A ih =>
        intro A' X hl h
        cases A' with
        | nil => cases hl
        | cons a' A' =>
          rw [keepLo, Bool.and_eq_true] at h
          rw [List.cons_append, keepLo, Bool.and_eq_true]
          exact ⟨h.1, ih A' X (by simpa using hl) h.2⟩
    exact key T T' _ hl h2
  rw [h1, h3]
  simp [← hl]
theorem trunc_len {S0 S : Store} {d : D} (h : S.length = S0.length) : trunc S0 S d = S := by
  unfold trunc
  split
  · rw [← h, List.take_length]
  · rfl
theorem trunc_app {S0 X : Store} {d : D} (h : d.lo S0.length = true) : trunc S0 (S0 ++ X) d = S0 := by
  unfold trunc
  rw [h, keepLo_refl]
  simp
theorem trunc_ref {S X : Store} {i : Nat} (h : S.length ≤ i) : trunc S X (.ref i) = X := by
  unfold trunc
  have : (D.ref i).lo S.length = false := by simp [D.lo]; omega
  rw [this]; rfl

/-! ### operators at known shapes -/
section
variable {S : Store}
@[simp] theorem ev_cInt2 (p : Int → Int → Bool) (z : Str → Str → Bool) (f : D → D → Bool) (i j : Int) : cInt2 (cInt p z) f (.int i) (.int j) S = some (p i j) := id rfl
@[simp] theorem ev_cInt2s (p : Int → Int → Bool) (z : Str → Str → Bool) (f : D → D → Bool) (x y : Str) : cInt2 (cInt p z) f (.str x) (.str y) S = some (z x y) := id rfl
@[simp] theorem ev_cEqI (i j : Int) : cEq (.int i) (.int j) S = some (i == j) := by
  unfold cEq scalD eqD; rfl
@[simp] theorem ev_cEqB (i j : Bool) : cEq (.bl i) (.bl j) S = some (i == j) := by
  unfold cEq scalD eqD; rfl
@[simp] theorem ev_cEqS (i j : Str) : cEq (.str i) (.str j) S = some (i == j) := by
  unfold cEq scalD eqD; rfl
@[simp] theorem ev_cEqNI (j : Int) : cEq .non (.int j) S = some false := by
  unfold cEq scalD eqD; rfl
@[simp] theorem ev_cNe (a b : D) : cNe a b S = (cEq a b S).map (!·) := id rfl
@[simp] theorem ev_isN (a : D) : cIs a .non S = some (decide (a = .non)) := by cases a <;> rfl
@[simp] theorem ev_isB (a b : Bool) : cIs (.bl a) (.bl b) S = some (decide (a = b)) := id rfl
@[simp] theorem ev_isNot (a b : D) : cIsNot a b S = (cIs a b S).map (!·) := id rfl
@[simp] theorem ev_fAdd (i j : Int) : fAdd (.int i) (.int j) S = some (.int (i + j), S) := id rfl
@[simp] theorem ev_fAddT (i j : Int) : fAddT (.int i) (.int j) S = some (.int (i + j), S) := id rfl
@[simp] theorem ev_fSub (i j : Int) : fSub (.int i) (.int j) S = some (.int (i - j), S) := id rfl
@[simp] theorem ev_smallF (i : Int) : smallF i = decide (-18446744073709551616 < i ∧ i < 18446744073709551616) := id rfl
@[simp] theorem ev_small62 (i : Int) : small62 i = decide (-4611686018427387904 ≤ i ∧ i < 4611686018427387904) := id rfl
theorem ev_fMul (i j : Int) : fMul (.int i) (.int j) S = if smallF i || smallF j then some (.int (i * j), S) else none := id rfl
@[simp] theorem ev_fMulR (i j : Int) (h : -18446744073709551616 < j ∧ j < 18446744073709551616) : fMul (.int i) (.int j) S = some (.int (i * j), S) := by
  rw [ev_fMul, if_pos]; simp [h]
@[simp] theorem ev_fMulL (i j : Int) (h : -18446744073709551616 < i ∧ i < 18446744073709551616) : fMul (.int i) (.int j) S = some (.int (i * j), S) := by
  rw [ev_fMul, if_pos]; simp [h]
@[simp] theorem ev_fDiv (i j : Int) (h : 0 < j ∧ j < 1073741824) : fDiv (.int i) (.int j) S = some (.int (i / j), S) := by
  show (if decide (0 < j ∧ j < 1073741824) then some (D.int (i / j), S) else none) = _
  rw [if_pos (decide_eq_true h)]
@[simp] theorem ev_fMod (i j : Int) (h : 0 < j) : fMod (.int i) (.int j) S = some (.int (i % j), S) := by
  show (if decide (0 < j) then some (D.int (i % j), S) else none) = _
  rw [if_pos (decide_eq_true h)]
@[simp] theorem ev_fPow18 : fPow (.int 10) (.int 18) S = some (.int 1000000000000000000, S) := id rfl
@[simp] theorem ev_fNeg (i : Int) : fNeg (.int i) S = some (.int (-i), S) := id rfl
@[simp] theorem ev_fInt (i : Int) : fInt [.int i] S = some (.int i, S) := id rfl
@[simp] theorem ev_fAbs (i : Int) : fAbs [.int i] S = some (.int (if i < 0 then -i else i), S) := id rfl
@[simp] theorem ev_lenT (ds : List D) : fLen [.tup ds] S = some (.int ds.length, S) := id rfl
@[simp] theorem ev_lenC (ds : List D) : fLen [.cl ds] S = some (.int ds.length, S) := id rfl
@[simp] theorem ev_lenF (ds : List D) : fLen [.fz ds] S = some (.int ds.length, S) := id rfl
@[simp] theorem ev_lenR (i : Nat) : fLen [.ref i] S = match S[i]? with
  | some (.lst xs) => some (.int xs.length, S)
  | _ => none := id rfl
@[simp] theorem ev_tyN : tyD .non S = some "NoneType" := id rfl
@[simp] theorem ev_tyB (b : Bool) : tyD (.bl b) S = some "bool" := id rfl
@[simp] theorem ev_tyI (b : Int) : tyD (.int b) S = some "int" := id rfl
@[simp] theorem ev_tyS (b : Str) : tyD (.str b) S = some "str" := id rfl
@[simp] theorem ev_tyT (b : List D) : tyD (.tup b) S = some "tuple" := id rfl
@[simp] theorem ev_tyC (b : List D) : tyD (.cl b) S = some "list" := id rfl
@[simp] theorem ev_truB (b : Bool) : truD (.bl b) S = some b := id rfl
@[simp] theorem ev_truI (b : Int) : truD (.int b) S = some (b != 0) := id rfl
@[simp] theorem ev_truN : truD .non S = some false := id rfl
theorem atI_nat' {α : Type} (xs : List α) (i : Nat) : atI xs (i : Int) = xs[i]? := by
  unfold atI ixN
  by_cases h : i < xs.length
  · rw [if_pos (by omega), if_pos (by omega)]; rfl
  · rw [if_pos (by omega), if_neg (by omega), List.getElem?_eq_none (by omega)]; rfl
theorem atI_zero' {α : Type} (xs : List α) : atI xs 0 = xs[0]? := atI_nat' xs 0
theorem atI_one' {α : Type} (xs : List α) : atI xs 1 = xs[1]? := atI_nat' xs 1
theorem atI_lit {α : Type} (xs : List α) (n : Nat) [OfNat Int n] : True := trivial
@[simp] theorem ev_ixT (ds : List D) (i : Int) : fIx (.tup ds) (.int i) S = (atI ds i).map fun d => (d, S) := id rfl
@[simp] theorem ev_ixC (ds : List D) (i : Int) : fIx (.cl ds) (.int i) S = (atI ds i).map fun d => (d, S) := id rfl
@[simp] theorem ev_ixF (ds : List D) (i : Int) : fIx (.fz ds) (.int i) S = (atI ds i).map fun d => (d, S) := id rfl
@[simp] theorem ev_ixR (j : Nat) (i : Int) : fIx (.ref j) (.int i) S = match S[j]? with
  | some (.lst ds) => (atI ds i).map fun d => (d, S)
  | _ => none := id rfl
@[simp] theorem ev_min2 (i j : Int) : fMin [.int i, .int j] S = some (.int (if j < i then j else i), S) := id rfl
@[simp] theorem ev_max2 (i j : Int) : fMax [.int i, .int j] S = some (.int (if i < j then j else i), S) := id rfl
@[simp] theorem ev_tupL (ds : List D) : fTuple [.cl ds] S = some (.tup ds, S) := id rfl
@[simp] theorem ev_tupT (ds : List D) : fTuple [.tup ds] S = some (.tup ds, S) := id rfl
@[simp] theorem ev_tupR (i : Nat) (ds : List D) (h : S[i]? = some (.lst ds)) : fTuple [.ref i] S = some (.tup ds, S) := by
  show (seqOf (.ref i) S).map _ = _
  simp [seqOf, lstOf, h]
end

/-! ### runs: x comes to something that P takes -/
structure Ex {α : Type} (x : Option α) (P : α → Prop) : Prop where
  ex : ∃ y, x = some y ∧ P y
theorem Ex.of {α : Type} {x : Option α} {y : α} {P : α → Prop} (h : Is x y) (p : P y) : Ex x P := ⟨y, h.eq, p⟩
theorem Ex.mk' {α : Type} {y : α} {P : α → Prop} (p : P y) : Ex (some y) P := ⟨y, rfl, p⟩
theorem Ex.imp {α : Type} {x : Option α} {P Q : α → Prop} (h : Ex x P) (i : ∀ y, P y → Q y) : Ex x Q := let ⟨⟨y, e, p⟩⟩ := h; ⟨y, e, i y p⟩
/-- behind a statement -/
def Then (b : MS) (Q : Out → Prop) : Out → Prop
  | .nx env S => Ex (b env S) Q
  | o => Q o
section
variable {env env' : DEnv} {S S' : Store} {Q : Out → Prop}
theorem ex_seq {a b : MS} (h : Is (a env S) (.nx env' S')) (h2 : Ex (b env' S') Q) : Ex (sSeq a b env S) Q := by
  obtain ⟨y, e, p⟩ := h2
  exact ⟨y, seq_nx h e, p⟩
theorem ex_then {a b : MS} (h : Ex (a env S) (Then b Q)) : Ex (sSeq a b env S) Q := by
  obtain ⟨y, e, p⟩ := h
  cases y with
  | nx env1 S1 =>
    obtain ⟨z, e2, q⟩ := p
    exact ⟨z, seq_nx ⟨e⟩ e2, q⟩
  | rt d S1 => exact ⟨_, seq_rt e, p⟩
  | bk env1 S1 => exact ⟨.bk env1 S1, by unfold sSeq; rw [e]; rfl, p⟩
  | ct env1 S1 => exact ⟨.ct env1 S1, by unfold sSeq; rw [e]; rfl, p⟩
theorem ex_if {t : MT} {a b : MS} {k : Bool} (h : Is (t env S) (k, S')) (h2 : Ex ((if k then a else b) env S') Q) : Ex (sIf t a b env S) Q := by
  obtain ⟨y, e, p⟩ := h2
  refine ⟨y, ?_, p⟩
  rw [ev_sif, h.eq]
  cases k <;> exact e
/-- the goal of a turn -/
def Nx (deps : List Nat) (S : Store) (P : DEnv → Store → Prop) : Out → Prop
  | .nx env' S' => kept deps S S' = true ∧ P env' S'
  | .ct env' S' => kept deps S S' = true ∧ P env' S'
  | _ => False
theorem for_ex {deps : List Nat} {g : MG} {b : MS} {items : List D} (P : Nat → DEnv → Store → Prop) (h0 : P 0 env S)
    (step : ∀ i d, items[i]? = some d → ∀ env S, P i env S → ∃ env1 S1, g d env S = some (env1, S1) ∧ Ex (b env1 S1) (Nx deps S (P (i + 1))))
    (fin : ∀ env' S', P items.length env' S' → Q (.nx env' S')) : Ex (forGo deps g b items env S) Q := by
  obtain ⟨env', S', e, p⟩ := for_inv (deps := deps) (g := g) (b := b) (items := items) P (fun i d hi env S p => by
    obtain ⟨env1, S1, e1, ⟨y, e2, q⟩⟩ := step i d hi env S p
    cases y with
    | nx env2 S2 => exact ⟨env2, S2, ⟨env1, S1, e1, .inl e2, q.1⟩, q.2⟩
    | ct env2 S2 => exact ⟨env2, S2, ⟨env1, S1, e1, .inr e2, q.1⟩, q.2⟩
    | rt _ _ => exact q.elim
    | bk _ _ => exact q.elim) h0
  exact ⟨_, e, fin _ _ p⟩
theorem ex_for {it : MI} {g : MG} {b : MS} {items : List D} {deps : List Nat} (h : Is (it env S) (items, deps, S')) (h2 : Ex (forGo deps g b items env S') Q) : Ex (sFor it g b env S) Q := by
  obtain ⟨y, e, p⟩ := h2
  refine ⟨y, ?_, p⟩
  rw [ev_for, h.eq]
  exact e
/-- a turn of an explicit walk -/
theorem ex_turn {deps : List Nat} {g : MG} {b : MS} {d : D} {r : List D} {env1 : DEnv} {S1 : Store} (h : g d env S = some (env1, S1)) (h2 : Ex (b env1 S1) (Nx deps S fun env' S' => Ex (forGo deps g b r env' S') Q)) : Ex (forGo deps g b (d :: r) env S) Q := by
  obtain ⟨y, e, p⟩ := h2
  cases y with
  | nx env2 S2 =>
    obtain ⟨k, ⟨z, e2, q⟩⟩ := p
    refine ⟨z, ?_, q⟩
    rw [forGo, h, Option.bind_some]
    dsimp only
    rw [e, Option.bind_some]
    dsimp only
    rw [if_pos k]; exact e2
  | ct env2 S2 =>
    obtain ⟨k, ⟨z, e2, q⟩⟩ := p
    refine ⟨z, ?_, q⟩
    rw [forGo, h, Option.bind_some]
    dsimp only
    rw [e, Option.bind_some]
    dsimp only
    rw [if_pos k]; exact e2
  | rt _ _ => exact p.elim
  | bk _ _ => exact p.elim
/-- what a def gives -/
theorem run_of {np ns : Nat} {b : MS} {ds : List D} {P : D → Store → Prop} (hl : ds.length = np) (h : Ex (b (ds.map some ++ List.replicate (ns - np) none) S) fun o => match o with
    | .rt d S' => P d (trunc S S' d)
    | .nx _ S' => P .non (trunc S S' .non)
    | _ => False) : ∃ d S', runBody np ns b ds S = some (d, S') ∧ P d S' := by
  obtain ⟨y, e, p⟩ := h
  unfold runBody
  rw [if_pos hl, e, Option.bind_some]
  cases y with
  | nx _ S1 => exact ⟨_, _, rfl, p⟩
  | rt d S1 => exact ⟨_, _, rfl, p⟩
  | bk _ _ => exact p.elim
  | ct _ _ => exact p.elim
/-- .. when the value is known and the store is as it was, but for what is behind -/
theorem run_eq {np ns : Nat} {b : MS} {ds : List D} {d : D} (hl : ds.length = np) (hd : d.lo S.length = true) (h : Ex (b (ds.map some ++ List.replicate (ns - np) none) S) fun o => ∃ X, o = .rt d (S ++ X)) : runBody np ns b ds S = some (d, S) := by
  obtain ⟨y, e, X, rfl⟩ := h
  unfold runBody
  rw [if_pos hl, e, Option.bind_some]
  simp only [trunc_app hd]
end

/-! ### order and rows of numbers -/
def zs (ns : List Int) : List D := ns.map .int
theorem zs_app (ns : List Int) (i : Int) : zs ns ++ [.int i] = zs (ns ++ [i]) := by simp [zs]
theorem pyDL_zs (ns : List Int) : pyDL (zs ns) = ns.map .int := by
  rw [pyDL_map, zs, List.map_map]
  exact List.map_congr_left fun x _ => by simp [pyD]
theorem ltD_rows (xs ys : List Int) : ltD (.tup (zs xs)) (.tup (zs ys)) = decide (xs < ys) := by
  rw [← PySem.W.dataLt_ints]
  unfold ltD
  simp only [pyD, pyDL_zs]
  rfl
theorem ltD_int (i j : Int) : ltD (.int i) (.int j) = decide (i < j) := by
  unfold ltD
  simp only [pyD]
  exact PySem.W.dataLt_int i j
theorem alkD_rows (xs ys : List Int) : alkD (.tup (zs xs)) (.tup (zs ys)) = true := by
  unfold alkD
  simp only [pyD, pyDL_zs, PySem.W.alike]
  exact PySem.W.alike_ints xs ys
theorem alkD_int (i j : Int) : alkD (.int i) (.int j) = true := by
  unfold alkD
  simp [pyD, PySem.W.alike]
theorem okDL_zs (n : Nat) : ∀ xs : List Int, okDL n (zs xs) = true
  | [] => by simp [zs, okDL]
  | x :: xs => by
    show okDL n (.int x :: zs xs) = true
    rw [okDL, okDL_zs n xs]
    simp [okD]
theorem okD_row (n : Nat) (xs : List Int) : okD (n + 1) (.tup (zs xs)) = true := by rw [okD]; exact okDL_zs n xs
theorem tupsOk_rows (xs ys : List Int) : tupsOk (.tup (zs xs)) (.tup (zs ys)) = true := by
  unfold tupsOk
  rw [okD_row, okD_row, alkD_rows]; rfl
def rowsOf (rs : List (List Int)) : List D := rs.map fun r => .tup (zs r)
theorem okDL_rows (n : Nat) : ∀ rs : List (List Int), okDL (n + 1) (rowsOf rs) = true
  | [] => by simp [rowsOf, okDL]
  | x :: xs => by
    show okDL (n + 1) (.tup (zs x) :: rowsOf xs) = true
    rw [okDL, okDL_rows n xs, okD_row]; rfl
theorem alkAll_rows (rs : List (List Int)) : alkAll (rowsOf rs) = true := by
  unfold alkAll rowsOf
  simp [List.all_eq_true, alkD_rows]
theorem alkAll_zs (rs : List Int) : alkAll (zs rs) = true := by
  unfold alkAll zs
  simp [List.all_eq_true, alkD_int]
theorem leastD_rows (r : List Int) (rs : List (List Int)) : leastD (.tup (zs r)) (rowsOf rs) = .tup (zs (rs.foldl (fun a y => if y < a then y else a) r)) := by
  unfold leastD rowsOf
  induction rs generalizing r with
  | nil => rfl
  | cons x xs ih =>
    rw [List.map_cons, List.foldl_cons, List.foldl_cons, ltD_rows]
    by_cases h : x < r
    · rw [if_pos (decide_eq_true h), if_pos h]; exact ih x
    · rw [if_neg (by simpa using h), if_neg h]; exact ih r
theorem mostD_zs (r : Int) (rs : List Int) : mostD (.int r) (zs rs) = .int (rs.foldl max r) := by
  unfold mostD zs
  induction rs generalizing r with
  | nil => rfl
  | cons x xs ih =>
    rw [List.map_cons, List.foldl_cons, List.foldl_cons, ltD_int]
    by_cases h : r < x
    · rw [if_pos (decide_eq_true h), show max r x = x by omega]; exact ih x
    · rw [if_neg (by simpa using h), show max r x = r by omega]; exact ih r
theorem leastD_zs (r : Int) (rs : List Int) : leastD (.int r) (zs rs) = .int (rs.foldl min r) := by
  unfold leastD zs
  induction rs generalizing r with
  | nil => rfl
  | cons x xs ih =>
    rw [List.map_cons, List.foldl_cons, List.foldl_cons, ltD_int]
    by_cases h : x < r
    · rw [if_pos (decide_eq_true h), show min r x = x by omega]; exact ih x
    · rw [if_neg (by simpa using h), show min r x = r by omega]; exact ih r
theorem foldl_max_spec (r : Int) (rs : List Int) : r ≤ rs.foldl max r ∧ (∀ x ∈ rs, x ≤ rs.foldl max r) ∧ (rs.foldl max r = r ∨ rs.foldl max r ∈ rs) := by
  induction rs generalizing r with
  | nil => simp
  | cons x xs ih =>
    rw [List.foldl_cons]
    obtain ⟨h1, h2, h3⟩ := ih (max r x)
    refine ⟨by omega, fun y hy => ?_, ?_⟩
    · rcases List.mem_cons.mp hy with rfl | hy
      · omega
      · exact h2 y hy
    · rcases h3 with h3 | h3
      · rw [h3]
        rcases Int.le_total r x with h | h
        · rw [show max r x = x by omega]; exact .inr List.mem_cons_self
        · exact .inl (by omega)
      · exact .inr (List.mem_cons_of_mem _ h3)
theorem best_rows {S : Store} {d : D} {r : List Int} {rs : List (List Int)} (h : seqOf d S = some (.tup (zs r) :: rowsOf rs)) : fBestL leastD [d] S = some (.tup (zs (rs.foldl (fun a y => if y < a then y else a) r)), S) := by
  unfold fBestL fBest
  simp only [h, ob_some]
  have h1 : okDL 62 (.tup (zs r) :: rowsOf rs) = true := okDL_rows 61 (r :: rs)
  have h2 : alkAll (.tup (zs r) :: rowsOf rs) = true := alkAll_rows (r :: rs)
  rw [h1, h2, leastD_rows]; rfl
theorem best_max {S : Store} {d : D} {r : Int} {rs : List Int} (h : seqOf d S = some (.int r :: zs rs)) : fBestL mostD [d] S = some (.int (rs.foldl max r), S) := by
  unfold fBestL fBest
  simp only [h, ob_some]
  have h1 : okDL 62 (.int r :: zs rs) = true := okDL_zs 62 (r :: rs)
  have h2 : alkAll (.int r :: zs rs) = true := alkAll_zs (r :: rs)
  rw [h1, h2, mostD_zs]; rfl

@[simp] theorem ev_lt2 {S : Store} (a b c d : Int) : cLtT (.tup [.int a, .int b]) (.tup [.int c, .int d]) S = some (decide (a < c ∨ (a = c ∧ b < d))) := by
  show cInt2 cLt (fun a b => ltD a b) (.tup (zs [a, b])) (.tup (zs [c, d])) S = _
  unfold cInt2
  rw [tupsOk_rows, if_pos rfl]
  show some (ltD (.tup (zs [a, b])) (.tup (zs [c, d]))) = _
  rw [ltD_rows]
  congr 1
  exact decide_eq_decide.mpr (by simp [List.cons_lt_cons_iff])
theorem len_cons {α : Type} {r : List α} {n : Nat} (h : r.length = n + 1) : ∃ x t, r = x :: t ∧ t.length = n := by
  cases r with
  | nil => simp at h
  | cons x t => exact ⟨x, t, rfl, by simpa using h⟩
/-- a kept sum of a list of the store and one that nobody keeps -/
@[simp] theorem ev_addRC {S : Store} {i : Nat} {xs ys : List D} (h : S[i]? = some (.lst xs)) (hl : xs.length + ys.length ≤ 10000000) : fAdd (.ref i) (.cl ys) S = some (.ref S.length, S ++ [.lst (xs ++ ys)]) := by
  show ((lstOf (.ref i) S).bind fun x => (lstOf (.cl ys) S).bind fun y => if x.length + y.length ≤ sizeLine then some (D.ref S.length, S ++ [O.lst (x ++ y)]) else none) = _
  simp only [lstOf, h, ob_some]
  rw [if_pos (Nat.le_trans hl sizeL)]

/-! ### stores that grow -/
@[simp] theorem get_off {α : Type} (S X : List α) (i : Nat) : (S ++ X)[S.length + i]? = X[i]? := by
  rw [List.getElem?_append_right (by omega), Nat.add_sub_cancel_left]
@[simp] theorem get_off0 {α : Type} (S X : List α) : (S ++ X)[S.length]? = X[0]? := get_off S X 0
@[simp] theorem set_off {α : Type} (S X : List α) (i : Nat) (v : α) : (S ++ X).set (S.length + i) v = S ++ X.set i v := by
  rw [List.set_append_right _ _ (by omega), Nat.add_sub_cancel_left]
@[simp] theorem set_off0 {α : Type} (S X : List α) (v : α) : (S ++ X).set S.length v = S ++ X.set 0 v := set_off S X 0 v
theorem get_more {α : Type} {S X : List α} {i : Nat} {o : α} (h : S[i]? = some o) : (S ++ X)[i]? = some o := by
  rw [List.getElem?_append_left (List.getElem?_eq_some_iff.mp h).1]; exact h
theorem ev_forCons {deps : List Nat} {g : MG} {b : MS} {d : D} {r : List D} {env : DEnv} {S : Store} : forGo deps g b (d :: r) env S = (g d env S).bind fun p => (b p.1 p.2).bind fun o => match o with
    | .nx env' S' => if kept deps S S' then forGo deps g b r env' S' else none
    | .ct env' S' => if kept deps S S' then forGo deps g b r env' S' else none
    | .bk env' S' => some (.nx env' S')
    | .rt d S' => some (.rt d S') := id rfl
theorem ev_lcNil {deps : List Nat} {n : Nat} {g : MG} {t : MT} {elt : ME} {env : DEnv} {S : Store} : lcGo deps n g t elt env [] S = some S := id rfl
theorem ev_lcCons {deps : List Nat} {n : Nat} {g : MG} {t : MT} {elt : ME} {env : DEnv} {d : D} {r : List D} {S : Store} : lcGo deps n g t elt env (d :: r) S = (g d env S).bind fun p => (t p.1 p.2).bind fun q => if q.1 then
      (elt p.1 q.2).bind fun x => (putAt n x.1 x.2).bind fun S' => if kept deps S S' then lcGo deps n g t elt env r S' else none
      else if kept deps S q.2 then lcGo deps n g t elt env r q.2 else none := id rfl
@[simp] theorem ev_putAt {S : Store} {n : Nat} {x : D} {acc : List D} (h : S[n]? = some (.lst acc)) (hl : acc.length < 10000000) : putAt n x S = some (S.set n (.lst (acc ++ [x]))) := by
  unfold putAt
  rw [h]
  simp only []
  rw [if_pos (by have := sizeL; omega)]
/-- what was made on top of T and is not known -/
theorem temp_pure {T : Store} {acc : List D} (h : D.loL T.length acc = true) : tempOf T (T ++ [.lst acc]) = some (.cl acc, T) := temp_of rfl h (keepLo_refl' _ _)
theorem loL_scal {n : Nat} {ds : List D} (h : ∀ d ∈ ds, d.lo n = true) : D.loL n ds = true := by
  induction ds with
  | nil => rfl
  | cons d ds ih =>
    rw [D.loL, h d List.mem_cons_self, ih fun e m => h e (List.mem_cons_of_mem _ m)]; rfl
end PD

set_option Elab.async false
set_option linter.all false
set_option maxRecDepth 100000
set_option maxHeartbeats 4000000
/-! PdLaw: the defs that the laws share. -/
namespace PD
open PySem PySem.Spec PyProof.Rows L2
variable [Tabs]
def bCell : MS :=
  (sSeq (sIf (mCmp cLtT (mVar 1) (mCall fLen (mCons (mVar 0) mNil))) (sRet (m2 fIx (mVar 0) (mVar 1))) sPass)
  (sRet (mC (.int 0))))
def bDig60 : MS :=
  (sIf (mCmp cGtT (mVar 5) (mC (.int 0))) (sSeq (sExpr (mMeth "list" fAppend (mVar 3) (mCons (m2 fMod (mCall fInt (mCons (mVar 5) mNil)) (mC (.int 1000))) mNil)))
  (sAsg (m2 fDiv (mVar 5) (mC (.int 1000))) (mgName 5))) sPass)
def bDig12 : MS :=
  (sSeq (sAsg (m2 fMod (mCall fInt (mCons (m2 fAddT (m2 fAddT (m2 fMul (mVar 7) (mC (.int 16807))) (m2 fMul (mC (.int 7)) (mVar 6))) (mC (.int 1))) mNil)) (mC (.int 2147483647))) (mgName 7))
  (sExpr (mMeth "list" fAppend (mVar 3) (mCons (m2 fMod (mCall fInt (mCons (m2 fDiv (mVar 7) (mC (.int 997))) mNil)) (mC (.int 1000))) mNil))))
def bDigT : MS :=
  (sIf (mCmp cGeT (mVar 5) (m2 fPow (mC (.int 10)) (mC (.int 18)))) (sFor (iRange1 (mC (.int 60))) (mgName 6) bDig60) (sSeq (sAsg (m2 fMod (mCall fInt (mCons (m2 fAddT (m2 fAddT (m2 fMul (mVar 5) (mC (.int 48271))) (m2 fMul (mVar 4) (mC (.int 69621)))) (mC (.int 11))) mNil)) (mC (.int 2147483647))) (mgName 7))
  (sFor (iRange1 (mC (.int 12))) (mgName 6) bDig12)))
def bDigS : MS :=
  (sSeq (sIf (mCmp cLtT (mVar 5) (mC (.int 0))) (sAsg (m2 fSub (mC (.int 1)) (m2 fMul (mC (.int 2)) (mVar 5))) (mgName 5)) sPass)
  bDigT)
def bDigK (c : FL) : MS :=
  (sSeq (sAsg (mFn 2 c (mCons (mVar 0) (mCons (mVar 4) mNil))) (mgName 5))
  bDigS)
def bDigits (c : FL) : MS :=
  (sSeq (sAsg (mNew (mLst mNil)) (mgName 3))
  (sSeq (sFor (iRange2 (mVar 1) (mVar 2)) (mgName 4) (bDigK c))
  (sRet (mVar 3))))
def bDraw : MS :=
  (sSeq (sAsg (m2 fIx (mVar 0) (mC (.int 1))) (mgName 2))
  (sSeq (sAsg (m2 fAdd (mVar 2) (mC (.int 1))) (mgSub (mVar 0) (mC (.int 1))))
  (sSeq (sIf (mCmp cLtT (mVar 2) (mCall fLen (mCons (m2 fIx (mVar 0) (mC (.int 0))) mNil))) (sRet (m2 fMod (mCall fInt (mCons (m2 fIx (m2 fIx (mVar 0) (mC (.int 0))) (mVar 2)) mNil)) (mVar 1))) sPass)
  (sRet (mC (.int 0))))))
def bSameK (f : FL) : MS :=
  (sIf (mNot (mTru (mFn 2 f (mCons (m2 fIx (mVar 0) (mVar 2)) (mCons (m2 fIx (mVar 1) (mVar 2)) mNil))))) (sRet (mC (.bl false))) sPass)
def bSame (f : FL) : MS :=
  (sSeq (sIf (mTru (mIsi "tuple" (mVar 1))) (sSeq (sIf (mOr (mNot (mTru (mIsi "tuple" (mVar 0)))) (mCmp cNe (mCall fLen (mCons (mVar 0) mNil)) (mCall fLen (mCons (mVar 1) mNil)))) (sRet (mC (.bl false))) sPass)
  (sSeq (sFor (iRange1 (mCall fLen (mCons (mVar 1) mNil))) (mgName 2) (bSameK f))
  (sRet (mC (.bl true))))) sPass)
  (sSeq (sIf (mCmp cIs (mVar 1) (mC .non)) (sRet (mBl (mCmp cIs (mVar 0) (mC .non)))) sPass)
  (sSeq (sIf (mTru (mIsi "bool" (mVar 1))) (sRet (mAndV (mIsi "bool" (mVar 0)) (mBl (mCmp cEq (mVar 0) (mVar 1))))) sPass)
  (sSeq (sIf (mTru (mIsi "int" (mVar 1))) (sRet (mAndV (mIsi "int" (mVar 0)) (mAndV (mNotV (mIsi "bool" (mVar 0))) (mBl (mCmp cEq (mVar 0) (mVar 1)))))) sPass)
  (sRet (mAndV (mIsi "str" (mVar 0)) (mBl (mCmp cEq (mVar 0) (mVar 1)))))))))
def bBox (dg : FL) : MS :=
  (sRet (mNew (mLst (mCons (mFn 3 dg (mCons (mVar 0) (mCons (mVar 1) (mCons (mVar 2) mNil)))) (mCons (mC (.int 0)) (mCons (mC (.int 0)) (mCons (mC (.int 0)) (mCons (mC (.int 0)) (mCons (mNew (mLst mNil)) mNil)))))))))

/-! ### the cell -/
def isScript (sc : D) (ns : List Int) : Prop := sc = .fz (ns.map .int)
def cellV (ns : List Int) (k : Int) : Int := (ns[k.toNat]?).getD 0
theorem cell_eq {ns : List Int} {k : Nat} (hl : ns.length ≤ 1000000) {S : Store} : runBody 2 2 bCell [.fz (ns.map .int), .int k] S = some (.int (cellV ns k), S) := by
  unfold runBody bCell
  by_cases h : k < ns.length
  · have h' : (k : Int) < ns.length := by omega
    simp [ev_seq, fLen, cInt2, tupsOk, cInt, h', fIx, atI_nat', cellV, trunc_len, h]
  · have h' : ¬ (k : Int) < ns.length := by omega
    simp [ev_seq, fLen, cInt2, tupsOk, cInt, h', cellV, trunc_len, List.getElem?_eq_none (show ns.length ≤ k by omega)]

/-! ### the digits -/
theorem get_last {S : Store} {o : O} : (S ++ [o])[S.length]? = some o := by
  rw [List.getElem?_append_right (Nat.le_refl _), Nat.sub_self]; rfl
theorem set_last {S : Store} {o p : O} : (S ++ [o]).set S.length p = S ++ [p] := by
  rw [List.set_append_right _ _ (Nat.le_refl _), Nat.sub_self]; rfl
@[simp] theorem ev_append_last {S : Store} {ds : List D} {d : D} (h : ds.length < 10000000) : fAppend (.ref S.length) [d] (S ++ [.lst ds]) = some (.non, S ++ [.lst (ds ++ [d])]) := by
  unfold fAppend
  simp only [get_last, set_last]
  rw [if_pos (by have := sizeL; omega)]
@[simp] theorem ev_ty_last {S : Store} {ds : List D} : tyD (.ref S.length) (S ++ [.lst ds]) = some "list" := by
  unfold tyD
  simp only [get_last]
theorem dig60 {S : Store} {e0 e1 e2 e4 e6 e7 : Option D} {cell : Int} {ds : List Int} {m : Nat} (hl : ds.length ≤ m) (hm : m ≤ 100000) :
    ∃ cell' ds' e6', forGo [] (mgName 6) bDig60 (ramp 0 1 60) [e0, e1, e2, some (.ref S.length), e4, some (.int cell), e6, e7] (S ++ [.lst (zs ds)]) = some (.nx [e0, e1, e2, some (.ref S.length), e4, some (.int cell'), e6', e7] (S ++ [.lst (zs ds')])) ∧ ds'.length ≤ m + 60 := by
  obtain ⟨env', S', h, cell', ds', e6', rfl, rfl, hh⟩ := for_inv (deps := []) (g := mgName 6) (b := bDig60) (items := ramp 0 1 60)
    (fun i env T => ∃ cell' ds' e6', env = [e0, e1, e2, some (.ref S.length), e4, some (.int cell'), e6', e7] ∧ T = S ++ [.lst (zs ds')] ∧ ds'.length ≤ m + i) (fun i d hi env T ⟨c, ds, e6, h1, h2, h3⟩ => by
      subst h1 h2
      have hi60 : i < 60 := by
        have := (List.getElem?_eq_some_iff.mp hi).1
        rwa [ramp_len] at this
      by_cases hc : 0 < c
      · refine ⟨_, _, .nx rfl (h2 := by
          unfold bDig60
          simp [ev_seq, hc, zs_app, show (zs ds).length < 10000000 by simp [zs]; omega]; exact .mk') rfl, _, _, _, rfl, rfl, ?_⟩
        simp; omega
      · refine ⟨_, _, .nx rfl (h2 := by
          unfold bDig60
          simp [ev_seq, hc]; exact .mk') rfl, _, _, _, rfl, rfl, ?_⟩
        omega) ⟨cell, ds, e6, rfl, rfl, by omega⟩
  exact ⟨cell', ds', e6', h, by rwa [ramp_len] at hh⟩
theorem ramp_at {lo c : Int} {n i : Nat} {d : D} (h : (ramp lo c n)[i]? = some d) : d = .int (lo + (i : Nat) * c) ∧ i < n := by
  have hi : i < n := by
    have := (List.getElem?_eq_some_iff.mp h).1
    rwa [ramp_len] at this
  rw [ramp_get hi] at h
  exact ⟨(Option.some.inj h).symm, hi⟩
theorem dig12 {S : Store} {e0 e1 e2 e4 e5 e6 : Option D} {seed : Int} {ds : List Int} {m : Nat} (hl : ds.length ≤ m) (hm : m ≤ 100000) :
    ∃ seed' ds' e6', forGo [] (mgName 6) bDig12 (ramp 0 1 12) [e0, e1, e2, some (.ref S.length), e4, e5, e6, some (.int seed)] (S ++ [.lst (zs ds)]) = some (.nx [e0, e1, e2, some (.ref S.length), e4, e5, e6', some (.int seed')] (S ++ [.lst (zs ds')])) ∧ ds'.length ≤ m + 60 := by
  obtain ⟨env', S', h, seed', ds', e6', rfl, rfl, hh⟩ := for_inv (deps := []) (g := mgName 6) (b := bDig12) (items := ramp 0 1 12)
    (fun i env T => ∃ seed' ds' e6', env = [e0, e1, e2, some (.ref S.length), e4, e5, e6', some (.int seed')] ∧ T = S ++ [.lst (zs ds')] ∧ ds'.length ≤ m + i) (fun i d hi env T ⟨c, ds, e6, h1, h2, h3⟩ => by
      subst h1 h2
      obtain ⟨rfl, hi12⟩ := ramp_at hi
      refine ⟨_, _, .nx rfl (h2 := by
          unfold bDig12
          simp [ev_seq, zs_app, show (zs ds).length < 10000000 by simp [zs]; omega]; exact .mk') rfl, _, _, _, rfl, rfl, ?_⟩
      simp; omega) ⟨seed, ds, e6, rfl, rfl, by omega⟩
  exact ⟨seed', ds', e6', h, by rw [ramp_len] at hh; omega⟩
theorem digT {S : Store} {e0 e1 e2 e6 e7 : Option D} {k : Nat} {cl : Int} {ds : List Int} {m : Nat} (hl : ds.length ≤ m) (hm : m ≤ 100000) :
    ∃ e4' e5' e6' e7' ds', bDigT [e0, e1, e2, some (.ref S.length), some (.int k), some (.int cl), e6, e7] (S ++ [.lst (zs ds)]) = some (.nx [e0, e1, e2, some (.ref S.length), e4', e5', e6', e7'] (S ++ [.lst (zs ds')])) ∧ ds'.length ≤ m + 60 := by
  unfold bDigT
  by_cases h18 : (1000000000000000000 : Int) ≤ cl
  · obtain ⟨cell', ds', e6', h, hh⟩ := dig60 (S := S) (e0 := e0) (e1 := e1) (e2 := e2) (e4 := some (.int k)) (e6 := e6) (e7 := e7) (cell := cl) hl hm
    refine ⟨_, _, _, _, ds', Eq.trans ?_ h, hh⟩
    simp [h18]
  · obtain ⟨cell', ds', e6', h, hh⟩ := dig12 (S := S) (e0 := e0) (e1 := e1) (e2 := e2) (e4 := some (.int k)) (e6 := e6) (e5 := some (.int cl)) (seed := (cl * 48271 + k * 69621 + 11) % 2147483647) hl hm
    refine ⟨_, _, _, _, ds', Eq.trans ?_ h, hh⟩
    simp [h18, ev_seq]
theorem digS {S : Store} {e0 e1 e2 e6 e7 : Option D} {k : Nat} {cl : Int} {ds : List Int} {m : Nat} (hl : ds.length ≤ m) (hm : m ≤ 100000) :
    ∃ e4' e5' e6' e7' ds', bDigS [e0, e1, e2, some (.ref S.length), some (.int k), some (.int cl), e6, e7] (S ++ [.lst (zs ds)]) = some (.nx [e0, e1, e2, some (.ref S.length), e4', e5', e6', e7'] (S ++ [.lst (zs ds')])) ∧ ds'.length ≤ m + 60 := by
  by_cases h0 : cl < 0
  · obtain ⟨_, _, _, _, ds', h, h2⟩ := digT (S := S) (e0 := e0) (e1 := e1) (e2 := e2) (e6 := e6) (e7 := e7) (k := k) (cl := 1 - 2 * cl) hl hm
    exact ⟨_, _, _, _, ds', seq_nx (by simp [h0]; exact .mk') h, h2⟩
  · obtain ⟨_, _, _, _, ds', h, h2⟩ := digT (S := S) (e0 := e0) (e1 := e1) (e2 := e2) (e6 := e6) (e7 := e7) (k := k) (cl := cl) hl hm
    exact ⟨_, _, _, _, ds', seq_nx (by simp [h0]; exact .mk') h, h2⟩
theorem digits_eq {sc : D} {f : Nat → Int} {c : FL} (hc : ∀ (k : Nat) (T : Store), c [sc, .int k] T = some (.int (f k), T)) {n : Nat} (hn : n ≤ 100) (S : Store) :
    ∃ ds : List Int, runBody 3 8 (bDigits c) [sc, .int 0, .int n] S = some (.ref S.length, S ++ [.lst (zs ds)]) ∧ ds.length ≤ 6000 := by
  obtain ⟨env', S', h, ds', e4, e5, e6, e7, rfl, rfl, hh⟩ := for_inv (deps := []) (g := mgName 4) (b := bDigK c) (items := ramp 0 1 n)
    (fun i env T => ∃ ds' e4 e5 e6 e7, env = [some sc, some (.int 0), some (.int n), some (.ref S.length), e4, e5, e6, e7] ∧ T = S ++ [.lst (zs ds')] ∧ ds'.length ≤ 60 * i) (fun i d hi env T ⟨ds, e4, e5, e6, e7, h1, h2, h3⟩ => by
      subst h1 h2
      obtain ⟨rfl, hi2⟩ := ramp_at hi
      obtain ⟨e4', e5', e6', e7', ds', h, h5⟩ := digS (S := S) (e0 := some sc) (e1 := some (.int 0)) (e2 := some (.int n)) (e6 := e6) (e7 := e7) (k := i) (cl := f i) h3 (by omega)
      exact ⟨_, _, .nx rfl (h2 := ⟨seq_nx (by simp [hc]; exact .mk') h⟩) rfl, ds', e4', e5', e6', e7', rfl, rfl, by omega⟩) ⟨[], none, none, none, none, rfl, rfl, by simp⟩
  refine ⟨ds', ?_, by rw [ramp_len] at hh; omega⟩
  have h' : forGo [] (mgName 4) (bDigK c) (ramp 0 1 n) [some sc, some (.int 0), some (.int n), some (.ref S.length), none, none, none, none] (S ++ [.lst []]) = _ := h
  have h62 : (-4611686018427387904 : Int) ≤ n ∧ (n : Int) < 4611686018427387904 := by omega
  unfold runBody bDigits
  simp [ev_seq, okLen_of, h62, h', trunc_ref]

/-! ### the box and what is drawn of it -/
def bx (ds : List Int) (at' : Nat) : Store := [.lst (zs ds), .lst [], .lst [.ref 0, .int at', .int 0, .int 0, .int 0, .ref 1]]
def dr (ds : List Int) (at' : Nat) (many : Int) : Int := (ds[at']?.getD 0) % many
theorem bx_len (ds : List Int) (a : Nat) : (bx ds a).length = 3 := id rfl
theorem dr_lt {ds : List Int} {a : Nat} {many : Int} (h : 0 < many) : 0 ≤ dr ds a many ∧ dr ds a many < many := ⟨Int.emod_nonneg _ (by omega), Int.emod_lt_of_pos _ h⟩
theorem box_eq {sc : D} {n : Nat} {dg : FL} {ds : List Int} (h : ∀ S : Store, S = [] → dg [sc, .int 0, .int n] S = some (.ref S.length, S ++ [.lst (zs ds)])) :
    runBody 3 3 (bBox dg) [sc, .int 0, .int n] [] = some (.ref 2, bx ds 0) := by
  unfold runBody bBox
  simp [h, okLen_of, trunc_ref, bx]
theorem draw_eq {ds : List Int} {a : Nat} {many : Int} (hm : 0 < many) (G : Store) : runBody 2 3 bDraw [.ref 2, .int many] (bx ds a ++ G) = some (.int (dr ds a many), bx ds (a + 1) ++ G) := by
  unfold runBody bDraw
  by_cases h : a < ds.length
  · have h' : (a : Int) < ds.length := by omega
    have e1 : ∀ h : a < (zs ds).length, (zs ds)[a] = .int ds[a] := fun _ => by simp [zs]
    have e2 : (zs ds).length = ds.length := by simp [zs]
    simp [ev_seq, bx, atI_one', atI_zero', atI_nat', ixN, h', e1, e2, hm, dr, h, trunc_len]
  · have h' : ¬ (a : Int) < ds.length := by omega
    have e2 : (zs ds).length = ds.length := by simp [zs]
    simp [ev_seq, bx, atI_one', atI_zero', atI_nat', ixN, h', e2, hm, dr, trunc_len, List.getElem?_eq_none (show ds.length ≤ a by omega)]

/-! ### sameness -/
mutual
/-- tuples of numbers, texts, truth values, None; at most n deep -/
def treeD : Nat → D → Bool
  | _, .non | _, .bl _ | _, .int _ | _, .str _ => true
  | 0, .tup _ => false
  | n + 1, .tup ds => decide (ds.length ≤ 1000000) && treeDL n ds
  | _, _ => false
def treeDL : Nat → List D → Bool
  | _, [] => true
  | n, d :: ds => treeD n d && treeDL n ds
end
theorem treeDL_at {n : Nat} : ∀ {ds : List D} {i : Nat} {d : D}, treeDL n ds = true → ds[i]? = some d → treeD n d = true
  | [], _, _, _, e => by simp at e
  | x :: xs, 0, d, h, e => by
    simp at e; subst e
    rw [treeDL, Bool.and_eq_true] at h
    exact h.1
  | x :: xs, i + 1, d, h, e => by
    rw [treeDL, Bool.and_eq_true] at h
    exact treeDL_at (i := i) h.2 (by simpa using e)
/-- f tells a tree from itself at depth n -/
def SameAt (n : Nat) (f : FL) : Prop := ∀ d : D, treeD n d = true → ∀ S : Store, f [d, d] S = some (.bl true, S)
theorem isi_tt : isiB "tuple" "tuple" = true := by decide
theorem isi_self (x : String) : isiB x x = true := by simp [isiB]
theorem same_flat {f : FL} {d : D} (h : treeD 0 d = true) (S : Store) : runBody 2 3 (bSame f) [d, d] S = some (.bl true, S) := by
  unfold runBody bSame
  cases d <;> (first | (simp [treeD] at h; done) | skip) <;> simp [ev_seq, isiB, trunc_len]
theorem same_zero {f : FL} : SameAt 0 (runBody 2 3 (bSame f)) := fun d h S => same_flat h S
theorem same_succ {n : Nat} {f : FL} (hf : SameAt n f) : SameAt (n + 1) (runBody 2 3 (bSame f)) := by
  intro d h S
  by_cases h0 : treeD 0 d = true
  · exact same_flat h0 S
  · cases d <;> (first | (simp [treeD] at h0 h; done) | skip)
    rename_i ds
    rw [treeD, Bool.and_eq_true] at h
    have hl := of_decide_eq_true h.1
    obtain ⟨env', S', hgo, e2, rfl, rfl⟩ := for_inv (deps := []) (g := mgName 2) (b := bSameK f) (items := ramp 0 1 ds.length)
      (fun i env T => ∃ e2, env = [some (.tup ds), some (.tup ds), e2] ∧ T = S) (fun i d hi env T ⟨e2, h1, h2⟩ => by
        subst h1 h2
        obtain ⟨rfl, hi2⟩ := ramp_at hi
        have e1 : ds[i]? = some ds[i] := List.getElem?_eq_getElem hi2
        have e3 := hf ds[i] (treeDL_at h.2 e1) T
        refine ⟨_, _, .nx rfl (h2 := by
          unfold bSameK
          simp [atI_nat', e1, e3]; exact .mk') rfl, _, rfl, rfl⟩) ⟨none, rfl, rfl⟩
    unfold runBody bSame
    have h62 : (-4611686018427387904 : Int) ≤ ds.length ∧ (ds.length : Int) < 4611686018427387904 := by omega
    simp [ev_seq, isiB, h62, hgo, trunc_len]
theorem SameAt.mono {m n : Nat} {f : FL} (h : SameAt n f) (hm : ∀ d, treeD m d = true → treeD n d = true) : SameAt m f := fun d hd S => h d (hm d hd) S

/-! ### drawing -/
/-- Φ draws of the box that has ds -/
def Draws (ds : List Int) (f : FL) : Prop := ∀ (a : Nat) (many : Int) (G : Store), 0 < many → f [.ref 2, .int many] (bx ds a ++ G) = some (.int (dr ds a many), bx ds (a + 1) ++ G)
theorem draws_eq (ds : List Int) : Draws ds (runBody 2 3 bDraw) := fun a many G h => draw_eq h G
abbrev mDraw (f : FL) (m : Int) : ME := mFn 2 f (mCons (mVar 1) (mCons (mC (.int m)) mNil))
theorem ex_draw {ds : List Int} {f : FL} (hd : Draws ds f) {a : Nat} {G : Store} {m : Int} (hm : 0 < m) {b : MS} {i : Nat} {e0 : Option D} {env : DEnv} {Q : Out → Prop}
    (h : ∀ v, 0 ≤ v → v < m → Ex (b ((e0 :: some (.ref 2) :: env).set i (some (.int v))) (bx ds (a + 1) ++ G)) Q) : Ex (sSeq (sAsg (mDraw f m) (mgName i)) b (e0 :: some (.ref 2) :: env) (bx ds a ++ G)) Q := by
  obtain ⟨h1, h2⟩ := dr_lt (ds := ds) (a := a) hm
  refine ex_seq ⟨?_⟩ (h (dr ds a m) h1 h2)
  simp [hd a m G hm]
theorem draw_is {ds : List Int} {f : FL} (hd : Draws ds f) {a : Nat} {G : Store} {m : Int} (hm : 0 < m) {e0 : Option D} {env : DEnv} : mDraw f m (e0 :: some (.ref 2) :: env) (bx ds a ++ G) = some (.int (dr ds a m), bx ds (a + 1) ++ G) := by
  simp [hd a m G hm]
/-- a list of what is drawn -/
theorem lc_draws {ds : List Int} {f : FL} (hd : Draws ds f) {a : Nat} {G : Store} {m : Int} (hm : 0 < m) {c : Nat} (hc : c ≤ 1000000) {j : Nat} {e0 : Option D} {env : DEnv} (hj : 2 ≤ j) :
    ∃ vs : List Int, lcGo [] (bx ds a ++ G).length (mgName j) mYes (mDraw f m) (e0 :: some (.ref 2) :: env) (ramp 0 1 c) ((bx ds a ++ G) ++ [.lst []]) = some ((bx ds (a + c) ++ G) ++ [.lst (zs vs)]) ∧ vs.length = c ∧ ∀ v ∈ vs, 0 ≤ v ∧ v < m := by
  obtain ⟨acc, T', h, ⟨vs, rfl, h2, h3, rfl⟩, h4, h5⟩ := lc_inv (deps := []) (n := (bx ds a ++ G).length) (g := mgName j) (t := mYes) (elt := mDraw f m) (env := e0 :: some (.ref 2) :: env) (items := ramp 0 1 c)
    (fun i acc T => ∃ vs : List Int, acc = zs vs ∧ vs.length = i ∧ (∀ v ∈ vs, 0 ≤ v ∧ v < m) ∧ T = bx ds (a + i) ++ G) (by rw [ramp_len]; exact hc) (fun i d hi acc T ⟨vs, h1, h2, h3, h4⟩ hT ha => by
      subst h1 h4
      obtain ⟨rfl, hi2⟩ := ramp_at hi
      have hs : ∃ env', (e0 :: some (D.ref 2) :: env).set j (some (.int (0 + (i : Nat) * 1))) = e0 :: some (.ref 2) :: env' := by
        obtain ⟨j, rfl⟩ : ∃ k, j = k + 2 := ⟨j - 2, by omega⟩
        exact ⟨_, rfl⟩
      obtain ⟨env', he⟩ := hs
      have e : mDraw f m (e0 :: some (.ref 2) :: env') (bx ds (a + i) ++ (G ++ [.lst (zs vs)])) = _ := draw_is hd hm
      rw [← List.append_assoc, ← List.append_assoc] at e
      refine ⟨_, bx ds (a + i + 1) ++ G, ⟨e0 :: some (.ref 2) :: env', true, _, ?_, ?_, .inr ⟨rfl, _, e, rfl⟩, by simp [bx_len], by simp⟩, vs ++ [dr ds (a + i) m], ?_, by simp [h2], ?_, rfl⟩
      · rw [ev_gName, he]
      · rfl
      · rw [zs_app]
      · intro v hv
        rcases List.mem_append.mp hv with hv | hv
        · exact h3 v hv
        · simp at hv
          subst hv
          exact dr_lt hm) ⟨[], rfl, rfl, by simp, rfl⟩ rfl
  rw [ramp_len] at h h2
  exact ⟨vs, h, h2, h3⟩
theorem keepLo_bx {ds : List Int} {a b n : Nat} (hn : 2 ≤ n) (G : Store) : keepLo n (bx ds a ++ G) (bx ds b ++ G) = true := by
  refine keepLo_append G (by simp [bx_len]) ?_
  simp [bx, keepLo, O.lo, D.loL, D.lo]
  right; omega
theorem loL_zs (n : Nat) (vs : List Int) : D.loL n (zs vs) = true := by
  induction vs with
  | nil => rfl
  | cons v vs ih =>
    show (D.lo n (.int v) && D.loL n (zs vs)) = true
    rw [ih]; rfl
theorem temp_draws {ds : List Int} {a b : Nat} {G : Store} {vs : List Int} : tempOf (bx ds a ++ G) ((bx ds b ++ G) ++ [.lst (zs vs)]) = some (.cl (zs vs), bx ds b ++ G) :=
  temp_of (by simp [bx_len]) (loL_zs _ _) (keepLo_bx (by simp [bx_len]; omega) G)

theorem loL_rows (n : Nat) (rs : List (List Int)) : D.loL n (rowsOf rs) = true := loL_scal fun d m => by
  obtain ⟨r, _, rfl⟩ := List.mem_map.mp m
  exact loL_zs n r
/-- if not _law_same(A, B): return False -/
theorem ex_chk {n : Nat} {f : FL} (hf : SameAt n f) {A B : ME} {b r : MS} {env : DEnv} {S S1 S2 : Store} {d : D} {Q : Out → Prop} (hA : Is (A env S) (d, S1)) (hB : Is (B env S1) (d, S2)) (ht : treeD n d = true) (h : Ex (b env S2) Q) :
    Ex (sSeq (sIf (mNot (mTru (mFn 2 f (mCons A (mCons B mNil))))) r sPass) b env S) Q := by
  refine ex_seq ⟨?_⟩ h
  simp [hA.eq, hB.eq, hf d ht]

/-- name = tuple([_law_draw(box, m) for k in range(_law_draw(box, c))]) -/
theorem ex_drawsT {ds : List Int} {f : FL} (hd : Draws ds f) {a : Nat} {G : Store} {m c : Int} (hm : 0 < m) (hc : 0 < c ∧ c ≤ 1000) {b : MS} {i j : Nat} (hj : 2 ≤ j) {e0 : Option D} {env : DEnv} {Q : Out → Prop}
    (h : ∀ (vs : List Int) (a' : Nat), (vs.length : Int) < c → (∀ v ∈ vs, 0 ≤ v ∧ v < m) → Ex (b ((e0 :: some (.ref 2) :: env).set i (some (.tup (zs vs)))) (bx ds a' ++ G)) Q) :
    Ex (sSeq (sAsg (mCall fTuple (mCons (mLcT (iRange1 (mDraw f c)) (mgName j) mYes (mDraw f m) [j]) mNil)) (mgName i)) b (e0 :: some (.ref 2) :: env) (bx ds a ++ G)) Q := by
  obtain ⟨j, rfl⟩ : ∃ k, j = k + 2 := ⟨j - 2, by omega⟩
  obtain ⟨h1, h2⟩ := dr_lt (ds := ds) (a := a) hc.1
  obtain ⟨vs, h3, h4, h5⟩ := lc_draws hd (a := a + 1) (G := G) (m := m) hm (c := (dr ds a c).toNat) (by omega) (j := j + 2) (e0 := e0) (env := env.set j none) (by omega)
  have e1 := draw_is hd (a := a) (G := G) (m := c) hc.1 (e0 := e0) (env := env)
  refine ex_seq ⟨?_⟩ (h vs (a + 1 + (dr ds a c).toNat) (by omega) h5)
  rw [ev_asg, ev_call, ev_cons, ev_lcT, ev_range1, e1]
  simp only [ob_some]
  have e2 : small62 (dr ds a c) = true := by
    rw [ev_small62]; exact decide_eq_true (by omega)
  rw [if_pos e2]
  simp only [ob_some, kept_nil]
  rw [if_pos trivial]
  have e3 : wipeE (e0 :: some (D.ref 2) :: env) [j + 2] = e0 :: some (.ref 2) :: env.set j none := rfl
  rw [e3, h3]
  simp only [ob_some, temp_draws, ev_nil, om_some, ev_tupL, ev_gName]

/-! ### the end -/
theorem script_sq {K : PySem.W.Frag} {H : Hp} {a : Addr} {xs : List V} (hO : ∀ xs, H a ≠ some (.lst xs)) (h : SqL K H a xs) : SqF K H a xs := by
  rcases h with (h | ⟨o, h⟩) | h
  · exact absurd h (hO _)
  · exact .inl ⟨o, h⟩
  · exact .inr h
theorem relL_ints {K : PySem.W.Frag} {H : Hp} {ρ : List Addr} : ∀ ns : List Int, RelL K H ρ (ns.map .int) (ns.map V.int)
  | [] => RelL.nil
  | n :: ns => .cons (rel_int n) (relL_ints ns)
theorem only_lst {H : Hp} {a : Addr} (hO : Only H) : ∀ xs, H a ≠ some (.lst xs) := fun xs h => by
  rcases hO a with z | ⟨o, ys, z⟩
  · rw [h] at z; cases z
  · rw [h] at z; cases z
/-- the law's promise from its meaning -/
theorem end_gen {K : PySem.W.Frag} {H : Hp} {a : Addr} {ns : List Int} {φ : FL} (hT : ∀ P ∈ Tabs.ts, GxR.TabG H P) (hO : ∀ xs, H a ≠ some (.lst xs)) (hS : SqL K H a (ns.map V.int)) (h : ∃ S', φ [.fz (ns.map .int)] [] = some (.bl true, S')) :
    spD K 1 φ [.ref a] H (fun v _ => v = .bl true) fun _ _ _ => False := by
  obtain ⟨S', e⟩ := h
  refine ⟨[], [], [.fz (ns.map .int)], .bl true, S', ⟨rfl, .nil, fun i o a e1 _ => by simp at e1, hT⟩, .one ?_, rfl, e, fun v H' ρ' g r => r.of_bl⟩
  rw [Rel]
  exact ⟨a, _, rfl, script_sq hO hS, relL_ints ns⟩
end PD

set_option Elab.async false
set_option linter.all false
set_option maxRecDepth 100000
set_option maxHeartbeats 4000000
/-! PdEnd: the end of a law whose defs hold generator expressions. -/
namespace PD
open PySem PySem.Spec PyProof.Rows L2 LamX
/-- the table of every recorded def is empty at the head -/
def AllTab (q : Program) (K : PySem.W.Frag) (mg : Str → Option Value) (h : Heap) : Prop := ∀ (x : Str) (fa : Addr), ((recsOf q).any fun e => e.name == x) = true → mg x = some (.ref fa) → OwnTab K fa h
theorem walk_ofAll {l : PySem.W.OpenLaw} {n k : Nat} {q : Program} {loose : List Str} {XP : (Str → Option Value) → Heap → Prop} {YP : World → Heap → Prop} {d : DefRec} {K : Params → PySem.W.Frag} {CX : World → CXT} {x : Str}
    (hn : l.most = some n) (hn2 : n ≤ sizeLine) (hdf : d.params.defaults = []) (hr : Room k callerA) (hY : ∀ (w : World) (h : Heap), YP w h → (K w.params).In h)
    (F : ∀ (w : World) (mg : Str → Option Value) (fa : Addr) (h : Heap), YP w h → (K w.params).In h → h.Ns mainGlobals mg → mg d.name = some (.ref fa) → AllTab q (K w.params) mg h → LawAtS l w (K w.params) (CX w) k n x mg fa h)
    (hCX : ∀ (w : World) (H : Hp) (s : Shared) (e : Value) (s' : Shared), CX w [] H s (fun _ _ _ => False) e s' → False) :
    PySem.W.WalkO q loose XP YP l.row.toRowW d [] (fun f vs => PySem.call f vs) := by
  refine Att.attach_callB hn hdf fun w s₀ s₁ mg mb fa o pm cd doc a vs ns G Y ho hd hcd hmg hobj hints hlen hbits hg => ?_
  have KX := hY w _ Y
  have own : AllTab q (K w.params) mg s₁.heap := fun y fy hrec hy c P o1 fd1 e dd vs1 sl k1 k2 k3 k4 k5 => by
    obtain ⟨dL, hm, hn1⟩ := List.any_eq_true.mp hrec
    have hn2 : dL.name = y := beq_iff_eq.mp hn1
    obtain ⟨a', o', fd', c', P', h1, h2, h3, h4, h5, h6⟩ := G.T.tab dL hm
    rw [hn2, hy] at h1
    cases h1
    have g1 := KX _ _ k1
    rw [g1] at h2
    cases h2
    rw [k2] at h3
    cases h3
    rw [k3] at h4
    cases h4
    obtain ⟨⟨oc, vc, e1, _, e3, e4⟩, hP⟩ := h6
    have g2 := KX _ _ k4
    rw [g2] at e1
    cases e1
    cases e3
    rw [k5] at e4
    cases e4
    exact hP
  obtain ⟨fd, cs, sp, hT, nT, C, hb, hsp, hF⟩ := F w mg fa _ Y KX G.T.g hmg own
  exact law_callTs KX G.T.g G.T.b G.T.builtins G.T.nolimit hg hT nT C G.T.bmain hobj hints (Nat.le_trans hlen hn2) hr hF hb (fun H hH hS => hsp H a ns hlen hbits hH hS) fun H e s' => hCX w H s₁ e s'
/-- the script, as the law gets it -/
def Scr (sc : D) (ns : List Int) : Prop := sc = .fz (ns.map .int) ∨ sc = .cl (ns.map .int)
theorem cell_sc {sc : D} {ns : List Int} {k : Nat} (hs : Scr sc ns) (hl : ns.length ≤ 1000000) {S : Store} [Tabs] : runBody 2 2 bCell [sc, .int k] S = some (.int (cellV ns k), S) := by
  rcases hs with rfl | rfl
  · exact cell_eq hl
  · unfold runBody bCell
    by_cases h : k < ns.length
    · have h' : (k : Int) < ns.length := by omega
      simp [ev_seq, fLen, cInt2, tupsOk, cInt, h', fIx, atI_nat', cellV, trunc_len, h]
    · have h' : ¬ (k : Int) < ns.length := by omega
      simp [ev_seq, fLen, cInt2, tupsOk, cInt, h', cellV, trunc_len, List.getElem?_eq_none (show ns.length ≤ k by omega)]
/-- the law's promise from its meaning -/
theorem end_sc [Tabs] {K : PySem.W.Frag} {H : Hp} {a : Addr} {ns : List Int} {φ : FL} (hT : ∀ P ∈ Tabs.ts, GxR.TabG H P) (hS : SqL K H a (ns.map V.int)) (h : ∀ sc, Scr sc ns → ∃ S', φ [sc] [] = some (.bl true, S')) :
    spD K 1 φ [.ref a] H (fun v _ => v = .bl true) fun _ _ _ => False := by
  have s0 : RelS K H [] [] := ⟨rfl, .nil, fun i o a e1 _ => by simp at e1, hT⟩
  have fin : ∀ sc, Scr sc ns → Rel K H [] sc (.ref a) → spD K 1 φ [.ref a] H (fun v _ => v = .bl true) fun _ _ _ => False := fun sc hs hr => by
    obtain ⟨S', e⟩ := h sc hs
    exact ⟨[], [], [sc], .bl true, S', s0, .one hr, rfl, e, fun v H' ρ' g r => r.of_bl⟩
  rcases hS with (hS | ⟨o, hS⟩) | hS
  · refine fin (.cl (ns.map .int)) (.inr rfl) ?_
    rw [Rel]
    exact ⟨a, _, rfl, ⟨hS, by simp⟩, relL_ints ns⟩
  · refine fin (.fz (ns.map .int)) (.inl rfl) ?_
    rw [Rel]
    exact ⟨a, _, rfl, .inl ⟨o, hS⟩, relL_ints ns⟩
  · refine fin (.fz (ns.map .int)) (.inl rfl) ?_
    rw [Rel]
    exact ⟨a, _, rfl, .inr hS, relL_ints ns⟩
theorem gtab {base : Heap} {mg : Str → Option Value} {c P : Addr} (t : LamX.TabB base mg c P) : GxR.TabB base mg c P := ⟨t.code, t.bm, t.gP⟩
/-- the box of a law -/
theorem box_sc [Tabs] {ns : List Int} (hl : ns.length ≤ 63) {sc : D} (hs : Scr sc ns) {c dg : FL} (hc : c = runBody 2 2 bCell) (hg : dg = runBody 3 8 (bDigits c)) : ∃ ds, runBody 3 3 (bBox dg) [sc, .int 0, .int 62] [] = some (.ref 2, bx ds 0) := by
  obtain ⟨ds, hds, _⟩ := digits_eq (sc := sc) (c := c) (f := fun j => cellV ns j) (fun j T => by rw [hc]; exact cell_sc hs (by omega)) (n := 62) (by decide) []
  exact ⟨ds, box_eq (n := 62) fun S hS => by subst hS; rw [hg]; exact hds⟩
end PD

set_option Elab.async false
set_option linter.all false
set_option maxRecDepth 100000
set_option maxHeartbeats 4000000
/-! PdTool: what the plain laws lean on. -/
namespace PD
open PySem PySem.Spec PyProof.Rows L2
variable [Tabs]

@[simp] theorem wipeE_nil (env : DEnv) : wipeE env [] = env := id rfl
@[simp] theorem wipeE_cons (env : DEnv) (v : Nat) (vs : List Nat) : wipeE env (v :: vs) = (wipeE env vs).set v none := id rfl
@[simp] theorem bx_get {ds : List Int} {a j : Nat} {G : Store} : (bx ds a ++ G)[3 + j]? = G[j]? := by
  rw [List.getElem?_append_right (by rw [bx_len]; omega), bx_len, Nat.add_sub_cancel_left]
@[simp] theorem bx_set {ds : List Int} {a j : Nat} {G : Store} {o : O} : (bx ds a ++ G).set (3 + j) o = bx ds a ++ G.set j o := by
  rw [List.set_append_right _ _ (by rw [bx_len]; omega), bx_len, Nat.add_sub_cancel_left]
@[simp] theorem bx_length {ds : List Int} {a : Nat} {G : Store} : (bx ds a ++ G).length = 3 + G.length := by rw [List.length_append, bx_len]
@[simp] theorem bx_len3 {ds : List Int} {a : Nat} : (bx ds a).length = 3 := id rfl
@[simp] theorem get_end {G : Store} {o : O} : (G ++ [o])[G.length]? = some o := by simp
theorem get_old {G X : Store} {j : Nat} {o : O} (h : G[j]? = some o) : (G ++ X)[j]? = some o := get_more h
theorem get_lt {α : Type} {G : List α} {j : Nat} {o : α} (h : G[j]? = some o) : j < G.length := (List.getElem?_eq_some_iff.mp h).1
theorem set_old {G X : Store} {j : Nat} {o : O} (h : j < G.length) : (G ++ X).set j o = G.set j o ++ X := by rw [List.set_append_left _ _ h]
theorem set_get {G : Store} {j : Nat} {o : O} (h : j < G.length) : (G.set j o)[j]? = some o := List.getElem?_set_self h
theorem set_ne {G : Store} {i j : Nat} {o : O} (h : i ≠ j) : (G.set i o)[j]? = G[j]? := List.getElem?_set_ne h

/-! ### typed rows -/
theorem map_get {α β : Type} {xs : List α} {e : α → β} {i : Nat} {d : β} (h : (xs.map e)[i]? = some d) : ∃ x, xs[i]? = some x ∧ d = e x := by
  rw [List.getElem?_map] at h
  obtain ⟨l, h1, h2⟩ := map_some h
  exact ⟨l, h1, h2.symm⟩
theorem typed {α : Type} {ds : List D} {e : α → D} {P : α → Prop} (h : ∀ d ∈ ds, ∃ v, d = e v ∧ P v) : ∃ vs : List α, ds = vs.map e ∧ ∀ v ∈ vs, P v := by
  induction ds with
  | nil => exact ⟨[], rfl, by simp⟩
  | cons d ds ih =>
    obtain ⟨v, rfl, hv⟩ := h d List.mem_cons_self
    obtain ⟨vs, rfl, hvs⟩ := ih fun d hd => h d (List.mem_cons_of_mem _ hd)
    refine ⟨v :: vs, rfl, fun w hw => ?_⟩
    rcases List.mem_cons.mp hw with rfl | hw
    · exact hv
    · exact hvs w hw
theorem ramp_map (lo c : Int) (n : Nat) : ramp lo c n = (List.range n).map fun i => D.int (lo + (i : Nat) * c) := id rfl

theorem filter_tt {α : Type} (xs : List α) : xs.filter (fun _ => true) = xs := by simp
/-! ### comprehensions that leave the store alone -/
theorem lcGo_pure {α : Type} {deps : List Nat} {g : MG} {t : MT} {elt : ME} {env : DEnv} {S1 : Store} (hdep : ∀ i ∈ deps, i < S1.length) {e : α → D} {p : α → Bool} {f : α → D} : ∀ (xs : List α) (acc : List D),
    (∀ x ∈ xs, ∀ X : O, ∃ env1, g (e x) env (S1 ++ [X]) = some (env1, S1 ++ [X]) ∧ t env1 (S1 ++ [X]) = some (p x, S1 ++ [X]) ∧ (p x = true → elt env1 (S1 ++ [X]) = some (f x, S1 ++ [X]))) → acc.length + xs.length ≤ 1000000 →
    lcGo deps S1.length g t elt env (xs.map e) (S1 ++ [.lst acc]) = some (S1 ++ [.lst (acc ++ (xs.filter p).map f)])
  | [], acc, _, _ => by rw [List.map_nil, List.filter_nil, List.map_nil, List.append_nil, ev_lcNil]
  | x :: xs, acc, h, hl => by
    have hk : ∀ X Y : O, kept deps (S1 ++ [X]) (S1 ++ [Y]) = true := fun X Y => kept_same fun i hi => by
      rw [List.getElem?_append_left (hdep i hi), List.getElem?_append_left (hdep i hi)]
    obtain ⟨env1, h1, h2, h3⟩ := h x List.mem_cons_self (.lst acc)
    rw [List.length_cons] at hl
    rw [List.map_cons, ev_lcCons, h1, ob_some]
    dsimp only
    rw [h2, ob_some]
    dsimp only
    cases hp : p x with
    | false =>
      rw [if_neg Bool.false_ne_true, if_pos (hk _ _), lcGo_pure hdep xs acc (fun y hy => h y (List.mem_cons_of_mem _ hy)) (by omega)]
      rw [List.filter_cons_of_neg (by rw [hp]; exact Bool.false_ne_true)]
    | true =>
      rw [if_pos rfl, h3 hp, ob_some]
      dsimp only
      rw [ev_putAt get_last (by omega), ob_some, set_last, if_pos (hk _ _), lcGo_pure hdep xs (acc ++ [f x]) (fun y hy => h y (List.mem_cons_of_mem _ hy)) (by rw [List.length_append]; simp; omega)]
      rw [List.filter_cons_of_pos hp, List.map_cons, List.append_assoc]; rfl
section
variable {α : Type} {it : MI} {g : MG} {t : MT} {elt : ME} {vs : List Nat} {env : DEnv} {S S1 : Store} {deps : List Nat} {e : α → D} {xs : List α}
theorem lcT_pure (p : α → Bool) (f : α → D) (hit : it env S = some (xs.map e, deps, S1)) (hn : xs.length ≤ 1000000) (hdep : ∀ i ∈ deps, i < S1.length)
    (h : ∀ x ∈ xs, ∀ X : O, ∃ env1, g (e x) (wipeE env vs) (S1 ++ [X]) = some (env1, S1 ++ [X]) ∧ t env1 (S1 ++ [X]) = some (p x, S1 ++ [X]) ∧ (p x = true → elt env1 (S1 ++ [X]) = some (f x, S1 ++ [X])))
    (hlo : ∀ x ∈ xs, p x = true → (f x).lo S1.length = true) : mLcT it g t elt vs env S = some (.cl ((xs.filter p).map f), S1) := by
  rw [ev_lcT, hit, ob_some]
  dsimp only
  rw [if_pos (kept_same fun i hi => List.getElem?_append_left (hdep i hi)), lcGo_pure hdep xs [] h (by simpa using hn), ob_some, List.nil_append]
  exact temp_pure (loL_scal fun d m => by
    obtain ⟨x, hx, rfl⟩ := List.mem_map.mp m
    obtain ⟨h1, h2⟩ := List.mem_filter.mp hx
    exact hlo x h1 h2)
theorem lc_pure (p : α → Bool) (f : α → D) (hit : it env S = some (xs.map e, deps, S1)) (hn : xs.length ≤ 1000000) (hdep : ∀ i ∈ deps, i < S1.length)
    (h : ∀ x ∈ xs, ∀ X : O, ∃ env1, g (e x) (wipeE env vs) (S1 ++ [X]) = some (env1, S1 ++ [X]) ∧ t env1 (S1 ++ [X]) = some (p x, S1 ++ [X]) ∧ (p x = true → elt env1 (S1 ++ [X]) = some (f x, S1 ++ [X]))) :
    mLc it g t elt vs env S = some (.ref S1.length, S1 ++ [.lst ((xs.filter p).map f)]) := by
  rw [ev_lc, hit, ob_some]
  dsimp only
  rw [if_pos (kept_same fun i hi => List.getElem?_append_left (hdep i hi)), lcGo_pure hdep xs [] h (by simpa using hn), om_some, List.nil_append]
/-- .. without a test -/
theorem lcT_map (f : α → D) (hit : it env S = some (xs.map e, deps, S1)) (hn : xs.length ≤ 1000000) (hdep : ∀ i ∈ deps, i < S1.length)
    (h : ∀ x ∈ xs, ∀ X : O, ∃ env1, g (e x) (wipeE env vs) (S1 ++ [X]) = some (env1, S1 ++ [X]) ∧ elt env1 (S1 ++ [X]) = some (f x, S1 ++ [X]))
    (hlo : ∀ x ∈ xs, (f x).lo S1.length = true) : mLcT it g mYes elt vs env S = some (.cl (xs.map f), S1) := by
  have := lcT_pure (t := mYes) (fun _ => true) f hit hn hdep (fun x hx X => by
    obtain ⟨env1, h1, h2⟩ := h x hx X
    exact ⟨env1, h1, rfl, fun _ => h2⟩) fun x hx _ => hlo x hx
  rwa [filter_tt] at this
theorem lc_map (f : α → D) (hit : it env S = some (xs.map e, deps, S1)) (hn : xs.length ≤ 1000000) (hdep : ∀ i ∈ deps, i < S1.length)
    (h : ∀ x ∈ xs, ∀ X : O, ∃ env1, g (e x) (wipeE env vs) (S1 ++ [X]) = some (env1, S1 ++ [X]) ∧ elt env1 (S1 ++ [X]) = some (f x, S1 ++ [X])) :
    mLc it g mYes elt vs env S = some (.ref S1.length, S1 ++ [.lst (xs.map f)]) := by
  have := lc_pure (t := mYes) (fun _ => true) f hit hn hdep (fun x hx X => by
    obtain ⟨env1, h1, h2⟩ := h x hx X
    exact ⟨env1, h1, rfl, fun _ => h2⟩)
  rwa [filter_tt] at this
end

/-! ### generator expressions that leave the store alone -/
theorem gColl_pure {α : Type} {deps : List Nat} {g : MG} {t : MT} {m : ME} {env : DEnv} {S1 : Store} {e : α → D} {p : α → Bool} {f : α → D} : ∀ (xs : List α),
    (∀ x ∈ xs, ∃ env1, g (e x) env S1 = some (env1, S1) ∧ t env1 S1 = some (p x, S1) ∧ (p x = true → m env1 S1 = some (f x, S1))) → gColl deps g t m env (xs.map e) S1 = some ((xs.filter p).map f, S1)
  | [], _ => rfl
  | x :: xs, h => by
    have hk : kept deps S1 S1 = true := kept_same fun i hi => rfl
    have ih := gColl_pure (deps := deps) xs fun y hy => h y (List.mem_cons_of_mem _ hy)
    obtain ⟨env1, h1, h2, h3⟩ := h x List.mem_cons_self
    rw [List.map_cons, gColl, h1, ob_some]
    dsimp only
    rw [h2, ob_some]
    dsimp only
    cases hp : p x with
    | false =>
      rw [if_neg Bool.false_ne_true, if_pos hk, ih, List.filter_cons_of_neg (by rw [hp]; exact Bool.false_ne_true)]
    | true =>
      rw [if_pos rfl, h3 hp, ob_some]
      dsimp only
      rw [if_pos hk, ih, om_some, List.filter_cons_of_pos hp, List.map_cons]
theorem gAll_pure {α : Type} {stop : Bool} {deps : List Nat} {g : MG} {t : MT} {m : ME} {env : DEnv} {S1 : Store} {e : α → D} {p f : α → Bool} : ∀ (xs : List α),
    (∀ x ∈ xs, ∃ env1, g (e x) env S1 = some (env1, S1) ∧ t env1 S1 = some (p x, S1) ∧ (p x = true → m env1 S1 = some (.bl (f x), S1))) → gAll stop deps g t m env (xs.map e) S1 = some (if stop then (xs.filter p).any f else (xs.filter p).all f, S1)
  | [], _ => by cases stop <;> rfl
  | x :: xs, h => by
    have hk : kept deps S1 S1 = true := kept_same fun i hi => rfl
    have ih := gAll_pure (stop := stop) (deps := deps) xs fun y hy => h y (List.mem_cons_of_mem _ hy)
    obtain ⟨env1, h1, h2, h3⟩ := h x List.mem_cons_self
    rw [List.map_cons, gAll, h1, ob_some]
    dsimp only
    rw [h2, ob_some]
    dsimp only
    cases hp : p x with
    | false =>
      rw [if_neg Bool.false_ne_true, if_pos hk, ih, List.filter_cons_of_neg (by rw [hp]; exact Bool.false_ne_true)]
    | true =>
      rw [if_pos rfl, h3 hp, ob_some]
      dsimp only
      rw [if_pos hk, List.filter_cons_of_pos hp]
      cases stop <;> cases hf : f x <;> simp [ih, hf]
section
variable {α : Type} {it : MI} {g : MG} {t : MT} {m : ME} {vs : List Nat} {env : DEnv} {S S1 : Store} {deps : List Nat} {e : α → D} {xs : List α}
theorem all_pure (p f : α → Bool) (hit : it env S = some (xs.map e, deps, S1)) (h : ∀ x ∈ xs, ∃ env1, g (e x) (wipeE env vs) S1 = some (env1, S1) ∧ t env1 S1 = some (p x, S1) ∧ (p x = true → m env1 S1 = some (.bl (f x), S1))) :
    mAllG false it g t m vs env S = some ((xs.filter p).all f, S1) := by
  unfold mAllG
  rw [hit, ob_some]
  exact gAll_pure (stop := false) xs h
theorem any_pure (p f : α → Bool) (hit : it env S = some (xs.map e, deps, S1)) (h : ∀ x ∈ xs, ∃ env1, g (e x) (wipeE env vs) S1 = some (env1, S1) ∧ t env1 S1 = some (p x, S1) ∧ (p x = true → m env1 S1 = some (.bl (f x), S1))) :
    mAllG true it g t m vs env S = some ((xs.filter p).any f, S1) := by
  unfold mAllG
  rw [hit, ob_some]
  exact gAll_pure (stop := true) xs h
theorem all_map (f : α → Bool) (hit : it env S = some (xs.map e, deps, S1)) (h : ∀ x ∈ xs, ∃ env1, g (e x) (wipeE env vs) S1 = some (env1, S1) ∧ m env1 S1 = some (.bl (f x), S1)) :
    mAllG false it g mYes m vs env S = some (xs.all f, S1) := by
  have := all_pure (t := mYes) (fun _ => true) f hit fun x hx => by
    obtain ⟨env1, h1, h2⟩ := h x hx
    exact ⟨env1, h1, rfl, fun _ => h2⟩
  rwa [filter_tt] at this
theorem any_map (f : α → Bool) (hit : it env S = some (xs.map e, deps, S1)) (h : ∀ x ∈ xs, ∃ env1, g (e x) (wipeE env vs) S1 = some (env1, S1) ∧ m env1 S1 = some (.bl (f x), S1)) :
    mAllG true it g mYes m vs env S = some (xs.any f, S1) := by
  have := any_pure (t := mYes) (fun _ => true) f hit fun x hx => by
    obtain ⟨env1, h1, h2⟩ := h x hx
    exact ⟨env1, h1, rfl, fun _ => h2⟩
  rwa [filter_tt] at this
theorem tup_pure (p : α → Bool) (f : α → D) (hit : it env S = some (xs.map e, deps, S1)) (hn : xs.length ≤ 1000000) (h : ∀ x ∈ xs, ∃ env1, g (e x) (wipeE env vs) S1 = some (env1, S1) ∧ t env1 S1 = some (p x, S1) ∧ (p x = true → m env1 S1 = some (f x, S1))) :
    mTupG it g t m vs env S = some (.tup ((xs.filter p).map f), S1) := by
  unfold mTupG
  rw [hit, ob_some]
  dsimp only
  rw [gColl_pure xs h, ob_some, if_pos (okLen_of ?_)]
  rw [List.length_map]
  have := List.length_filter_le p xs
  omega
theorem tup_map (f : α → D) (hit : it env S = some (xs.map e, deps, S1)) (hn : xs.length ≤ 1000000) (h : ∀ x ∈ xs, ∃ env1, g (e x) (wipeE env vs) S1 = some (env1, S1) ∧ m env1 S1 = some (f x, S1)) :
    mTupG it g mYes m vs env S = some (.tup (xs.map f), S1) := by
  have := tup_pure (t := mYes) (fun _ => true) f hit hn fun x hx => by
    obtain ⟨env1, h1, h2⟩ := h x hx
    exact ⟨env1, h1, rfl, fun _ => h2⟩
  rwa [filter_tt] at this
end

/-! ### loops -/
/-- the goal of a turn that may leave the loop -/
def NxR (deps : List Nat) (S : Store) (P : DEnv → Store → Prop) (Q : Out → Prop) : Out → Prop
  | .nx env' S' => kept deps S S' = true ∧ P env' S'
  | .ct env' S' => kept deps S S' = true ∧ P env' S'
  | .rt d S' => Q (.rt d S')
  | .bk env' S' => Q (.nx env' S')
section
variable {env : DEnv} {S : Store} {Q : Out → Prop} {α : Type}
theorem for_pre {deps : List Nat} {g : MG} {b : MS} {e : α → D} : ∀ {xs : List α} (P : List α → DEnv → Store → Prop) {env : DEnv} {S : Store} (_ : P [] env S)
    (_ : ∀ pre x post, xs = pre ++ x :: post → ∀ env S, P pre env S → ∃ env1 S1, g (e x) env S = some (env1, S1) ∧ Ex (b env1 S1) (NxR deps S (P (pre ++ [x])) Q))
    (_ : ∀ env' S', P xs env' S' → Q (.nx env' S')), Ex (forGo deps g b (xs.map e) env S) Q
  | [], P, env, S, h0, _, fin => ⟨.nx env S, rfl, fin _ _ h0⟩
  | x :: xs, P, env, S, h0, step, fin => by
    obtain ⟨env1, S1, e1, ⟨o, e2, q⟩⟩ := step [] x xs rfl env S h0
    have ih : ∀ env' S', P [x] env' S' → Ex (forGo deps g b (xs.map e) env' S') Q := fun env' S' h => for_pre (xs := xs) (fun pre => P (x :: pre)) h (fun pre y post hy env S hP => step (x :: pre) y post (by rw [hy]; rfl) env S hP) fin
    rw [List.map_cons]
    cases o with
    | nx env2 S2 =>
      obtain ⟨⟨z, e3, q3⟩⟩ := ih env2 S2 q.2
      exact ⟨z, by rw [ev_forCons, e1, ob_some]; dsimp only; rw [e2, ob_some]; dsimp only; rw [if_pos q.1]; exact e3, q3⟩
    | ct env2 S2 =>
      obtain ⟨⟨z, e3, q3⟩⟩ := ih env2 S2 q.2
      exact ⟨z, by rw [ev_forCons, e1, ob_some]; dsimp only; rw [e2, ob_some]; dsimp only; rw [if_pos q.1]; exact e3, q3⟩
    | rt d S2 => exact ⟨.rt d S2, by rw [ev_forCons, e1, ob_some]; dsimp only; rw [e2, ob_some], q⟩
    | bk env2 S2 => exact ⟨.nx env2 S2, by rw [ev_forCons, e1, ob_some]; dsimp only; rw [e2, ob_some], q⟩
/-- for target in it: body -/
theorem ex_forp {it : MI} {g : MG} {b : MS} {xs : List α} {e : α → D} {deps : List Nat} {S1 : Store} (h : Is (it env S) (xs.map e, deps, S1)) (P : List α → DEnv → Store → Prop) (h0 : P [] env S1)
    (step : ∀ pre x post, xs = pre ++ x :: post → ∀ env S, P pre env S → ∃ env1 S1, g (e x) env S = some (env1, S1) ∧ Ex (b env1 S1) (NxR deps S (P (pre ++ [x])) Q))
    (fin : ∀ env' S', P xs env' S' → Q (.nx env' S')) : Ex (sFor it g b env S) Q := ex_for h (for_pre P h0 step fin)
/-- .. the first statement of a row -/
theorem ex_forq {it : MI} {g : MG} {b r : MS} {xs : List α} {e : α → D} {deps : List Nat} {S1 : Store} (h : Is (it env S) (xs.map e, deps, S1)) (P : List α → DEnv → Store → Prop) (h0 : P [] env S1)
    (step : ∀ pre x post, xs = pre ++ x :: post → ∀ env S, P pre env S → ∃ env1 S1, g (e x) env S = some (env1, S1) ∧ Ex (b env1 S1) (NxR deps S (P (pre ++ [x])) (Then r Q)))
    (fin : ∀ env' S', P xs env' S' → Ex (r env' S') Q) : Ex (sSeq (sFor it g b) r env S) Q := ex_then (ex_forp h P h0 step fin)
/-- the goal of a turn of a while -/
def NxW (m : Nat) (P : Nat → DEnv → Store → Prop) (Q : Out → Prop) : Out → Prop
  | .nx env' S' => ∃ m', m' < m ∧ P m' env' S'
  | .ct env' S' => ∃ m', m' < m ∧ P m' env' S'
  | .rt d S' => Q (.rt d S')
  | .bk env' S' => Q (.nx env' S')
theorem whGo_ex {t : MT} {b : MS} (P : Nat → DEnv → Store → Prop) (step : ∀ m env S, P m env S → ∃ k, t env S = some (k, S) ∧ (k = false → Q (.nx env S)) ∧ (k = true → Ex (b env S) (NxW m P Q))) :
    ∀ (m n : Nat) (env : DEnv) (S : Store), m < n → P m env S → Ex (whGo t b n env S) Q := by
  intro m
  induction m using Nat.strongRecOn with
  | _ m ih =>
    intro n env S hn h
    obtain ⟨n, rfl⟩ : ∃ k, n = k + 1 := ⟨n - 1, by omega⟩
    obtain ⟨k, e1, h1, h2⟩ := step m env S h
    cases k with
    | false => exact ⟨.nx env S, by rw [whGo, e1, ob_some]; rfl, h1 rfl⟩
    | true =>
      obtain ⟨o, e2, q⟩ := h2 rfl
      cases o with
      | nx env2 S2 =>
        obtain ⟨m', hm, hp⟩ := q
        obtain ⟨⟨z, e3, q3⟩⟩ := ih m' hm n env2 S2 (by omega) hp
        exact ⟨z, by rw [whGo, e1, ob_some]; dsimp only; rw [if_pos rfl, e2, ob_some]; exact e3, q3⟩
      | ct env2 S2 =>
        obtain ⟨m', hm, hp⟩ := q
        obtain ⟨⟨z, e3, q3⟩⟩ := ih m' hm n env2 S2 (by omega) hp
        exact ⟨z, by rw [whGo, e1, ob_some]; dsimp only; rw [if_pos rfl, e2, ob_some]; exact e3, q3⟩
      | rt d S2 => exact ⟨.rt d S2, by rw [whGo, e1, ob_some]; dsimp only; rw [if_pos rfl, e2, ob_some], q⟩
      | bk env2 S2 => exact ⟨.nx env2 S2, by rw [whGo, e1, ob_some]; dsimp only; rw [if_pos rfl, e2, ob_some], q⟩
theorem ex_while {t : MT} {b : MS} {m : Nat} (P : Nat → DEnv → Store → Prop) (hm : m < 1000000) (h0 : P m env S) (step : ∀ m env S, P m env S → ∃ k, t env S = some (k, S) ∧ (k = false → Q (.nx env S)) ∧ (k = true → Ex (b env S) (NxW m P Q))) :
    Ex (sWhile t b env S) Q := by
  unfold sWhile
  exact whGo_ex P step m wTurns env S (by unfold wTurns; exact hm) h0
theorem ex_whileq {t : MT} {b r : MS} {m : Nat} (P : Nat → DEnv → Store → Prop) (hm : m < 1000000) (h0 : P m env S) (step : ∀ m env S, P m env S → ∃ k, t env S = some (k, S) ∧ (k = false → Ex (r env S) Q) ∧ (k = true → Ex (b env S) (NxW m P (Then r Q)))) :
    Ex (sSeq (sWhile t b) r env S) Q := ex_then (ex_while P hm h0 step)
/-- the last statement hands back -/
theorem ex_ret {m : ME} {d : D} {S' : Store} (h : Is (m env S) (d, S')) (q : Q (.rt d S')) : Ex (sRet m env S) Q := ⟨.rt d S', by rw [ev_ret, h.eq, om_some], q⟩
theorem ex_if1 {t : MT} {a b : MS} {S' : Store} (h : Is (t env S) (true, S')) (h2 : Ex (a env S') Q) : Ex (sIf t a b env S) Q := ex_if h h2
theorem ex_if0 {t : MT} {a b : MS} {S' : Store} (h : Is (t env S) (false, S')) (h2 : Ex (b env S') Q) : Ex (sIf t a b env S) Q := ex_if h h2
end

/-! ### what is drawn -/
section
variable {ds : List Int} {G : Store} {α : Type} {g : MG} {elt : ME} {e : α → D} {R : D → Prop} {vs : List Nat} {it : MI} {env : DEnv} {S : Store} {xs : List α}
theorem lcGo_dr {env : DEnv} : ∀ (xs : List α) (a : Nat) (acc : List D), (∀ x ∈ xs, ∀ (a : Nat) (X : O), ∃ env1, g (e x) env (bx ds a ++ (G ++ [X])) = some (env1, bx ds a ++ (G ++ [X])) ∧ ∃ d a', elt env1 (bx ds a ++ (G ++ [X])) = some (d, bx ds a' ++ (G ++ [X])) ∧ R d) →
    acc.length + xs.length ≤ 1000000 → ∃ l a', lcGo [] (3 + G.length) g mYes elt env (xs.map e) (bx ds a ++ (G ++ [.lst acc])) = some (bx ds a' ++ (G ++ [.lst (acc ++ l)])) ∧ l.length = xs.length ∧ ∀ d ∈ l, R d
  | [], a, acc, _, _ => ⟨[], a, by rw [List.map_nil, ev_lcNil, List.append_nil], rfl, by simp⟩
  | x :: xs, a, acc, h, hl => by
    obtain ⟨env1, h1, d, a1, h2, hR⟩ := h x List.mem_cons_self a (.lst acc)
    rw [List.length_cons] at hl
    obtain ⟨l, a', h3, h4, h5⟩ := lcGo_dr xs a1 (acc ++ [d]) (fun y hy => h y (List.mem_cons_of_mem _ hy)) (by rw [List.length_append]; simp; omega)
    refine ⟨d :: l, a', ?_, by simp [h4], fun c hc => ?_⟩
    · rw [List.map_cons, ev_lcCons, h1, ob_some]
      dsimp only
      rw [show mYes env1 (bx ds a ++ (G ++ [.lst acc])) = some (true, bx ds a ++ (G ++ [.lst acc])) from rfl, ob_some]
      dsimp only
      rw [if_pos rfl, h2, ob_some]
      dsimp only
      rw [ev_putAt (acc := acc) (by rw [bx_get]; exact get_end) (by omega), ob_some, bx_set, set_last, if_pos (kept_nil _ _), h3, List.append_assoc]; rfl
    · rcases List.mem_cons.mp hc with rfl | hc
      · exact hR
      · exact h5 c hc
theorem lcT_dr {a : Nat} (R : D → Prop) (hit : it env S = some (xs.map e, [], bx ds a ++ G)) (hn : xs.length ≤ 1000000) (hlo : ∀ d, R d → d.lo (3 + G.length) = true)
    (h : ∀ x ∈ xs, ∀ (a : Nat) (X : O), ∃ env1, g (e x) (wipeE env vs) (bx ds a ++ (G ++ [X])) = some (env1, bx ds a ++ (G ++ [X])) ∧ ∃ d a', elt env1 (bx ds a ++ (G ++ [X])) = some (d, bx ds a' ++ (G ++ [X])) ∧ R d) :
    ∃ l a', mLcT it g mYes elt vs env S = some (.cl l, bx ds a' ++ G) ∧ l.length = xs.length ∧ ∀ d ∈ l, R d := by
  obtain ⟨l, a', h3, h4, h5⟩ := lcGo_dr (ds := ds) (G := G) (R := R) xs a [] h (by simpa using hn)
  refine ⟨l, a', ?_, h4, h5⟩
  rw [ev_lcT, hit, ob_some]
  dsimp only
  rw [if_pos (kept_nil _ _), List.append_assoc, bx_length, h3, ob_some, List.nil_append, ← List.append_assoc]
  exact temp_of (by simp [bx_len]) (loL_scal fun d hd => by rw [bx_length]; exact hlo d (h5 d hd)) (keepLo_bx (by rw [bx_length]; omega) G)
theorem lc_dr {a : Nat} (R : D → Prop) (hit : it env S = some (xs.map e, [], bx ds a ++ G)) (hn : xs.length ≤ 1000000)
    (h : ∀ x ∈ xs, ∀ (a : Nat) (X : O), ∃ env1, g (e x) (wipeE env vs) (bx ds a ++ (G ++ [X])) = some (env1, bx ds a ++ (G ++ [X])) ∧ ∃ d a', elt env1 (bx ds a ++ (G ++ [X])) = some (d, bx ds a' ++ (G ++ [X])) ∧ R d) :
    ∃ l a', mLc it g mYes elt vs env S = some (.ref (3 + G.length), bx ds a' ++ (G ++ [.lst l])) ∧ l.length = xs.length ∧ ∀ d ∈ l, R d := by
  obtain ⟨l, a', h3, h4, h5⟩ := lcGo_dr (ds := ds) (G := G) (R := R) xs a [] h (by simpa using hn)
  refine ⟨l, a', ?_, h4, h5⟩
  rw [ev_lc, hit, ob_some]
  dsimp only
  rw [if_pos (kept_nil _ _), List.append_assoc, bx_length, h3, om_some, List.nil_append]
theorem trunc_bx {a a' : Nat} {X : Store} {d : D} (h : d.lo (3 + G.length) = true) : trunc (bx ds a ++ G) (bx ds a' ++ (G ++ X)) d = bx ds a' ++ G := by
  unfold trunc
  have key : ∀ {n : Nat} (A A' X : Store), A'.length = A.length → keepLo n A A' = true → keepLo n A (A' ++ X) = true := by
    intro n A
    induction A with
    | nil => intro A' X _ _; cases (A' ++ X) <;> rfl
    | cons a A ih =>
      intro A' X hl h
      cases A' with
      | nil => cases hl
      | cons a' A' =>
        rw [keepLo, Bool.and_eq_true] at h
        rw [List.cons_append, keepLo, Bool.and_eq_true]
        exact ⟨h.1, ih A' X (by simpa using hl) h.2⟩
  have h1 : keepLo (bx ds a ++ G).length (bx ds a ++ G) (bx ds a' ++ (G ++ X)) = true := by
    rw [← List.append_assoc]
    exact key _ _ _ (by simp [bx_len]) (keepLo_bx (by rw [bx_length]; omega) G)
  rw [bx_length, h, Bool.true_and, ← bx_length (ds := ds) (a := a), h1, if_pos rfl, ← List.append_assoc]
  rw [show (bx ds a ++ G).length = (bx ds a' ++ G).length by simp [bx_len], List.take_left]
/-- a def that draws -/
theorem run_dr {np ns : Nat} {b : MS} {as : List D} {a : Nat} {P : D → Prop} (hl : as.length = np) (hlo : ∀ d, P d → d.lo (3 + G.length) = true) (h : Ex (b (as.map some ++ List.replicate (ns - np) none) (bx ds a ++ G)) fun o => ∃ d a' X, o = .rt d (bx ds a' ++ (G ++ X)) ∧ P d) :
    ∃ d a', runBody np ns b as (bx ds a ++ G) = some (d, bx ds a' ++ G) ∧ P d := by
  obtain ⟨y, e, d, a', X, rfl, hP⟩ := h
  refine ⟨d, a', ?_, hP⟩
  unfold runBody
  rw [if_pos hl, e, Option.bind_some]
  simp only [trunc_bx (hlo d hP)]
end
@[simp] theorem intsOf_zs (ns : List Int) : intsOf (zs ns) = some ns := by
  induction ns with
  | nil => rfl
  | cons n ns ih =>
    show (intsOf (zs ns)).map _ = _
    rw [ih]; rfl
@[simp] theorem zs_len (ns : List Int) : (zs ns).length = ns.length := by simp [zs]
@[simp] theorem ev_sumC {S : Store} (ns : List Int) : fSum [.cl (zs ns)] S = some (.int ns.sum, S) := by
  show ((lstOf (.cl (zs ns)) S).bind fun xs => (intsOf xs).map fun ns => (D.int ns.sum, S)) = _
  rw [show lstOf (.cl (zs ns)) S = some (zs ns) from rfl, ob_some, intsOf_zs, om_some]
theorem sumR {S : Store} {i : Nat} {ns : List Int} (h : S[i]? = some (.lst (zs ns))) : fSum [.ref i] S = some (.int ns.sum, S) := by
  show ((lstOf (.ref i) S).bind fun xs => (intsOf xs).map fun ns => (D.int ns.sum, S)) = _
  simp only [lstOf, h, ob_some, intsOf_zs, om_some]
theorem atI_nth {α : Type} {xs : List α} {i : Int} (h0 : 0 ≤ i) (h1 : i < xs.length) : ∃ x, atI xs i = some x ∧ x ∈ xs ∧ xs[i.toNat]? = some x := by
  obtain ⟨n, rfl⟩ := Int.eq_ofNat_of_zero_le h0
  have hn : n < xs.length := by omega
  refine ⟨xs[n], ?_, List.getElem_mem hn, by simp [hn]⟩
  show atI xs (n : Int) = _
  rw [atI_nat', List.getElem?_eq_getElem hn]
theorem atI_last {α : Type} (xs : List α) : atI xs (-1) = xs.getLast? := by
  unfold atI ixN
  rcases xs with _ | ⟨x, xs⟩
  · rfl
  · rw [if_neg (by omega), if_pos (by rw [List.length_cons]; omega), List.getLast?_eq_getElem?, ob_some, List.length_cons, show ((-1 : Int) + ((xs.length + 1 : Nat) : Int)).toNat = xs.length + 1 - 1 by omega]
@[simp] theorem atI_one_app {α : Type} (xs : List α) (x : α) : atI (xs ++ [x]) (-1) = some x := by rw [atI_last, List.getLast?_concat]
theorem fIx_nth {S : Store} {xs : List D} {i : Int} (h0 : 0 ≤ i) (h1 : i < xs.length) : ∃ x, fIx (.cl xs) (.int i) S = some (x, S) ∧ x ∈ xs := by
  obtain ⟨x, h, m, _⟩ := atI_nth h0 h1
  exact ⟨x, by rw [ev_ixC, h, om_some], m⟩

/-! ### cuts -/
theorem sIx_pos {n d : Nat} {a : Int} (h : 0 ≤ a) : HT.sIx n d (some a) = min a.toNat n := by
  show (if a < 0 then (a + (n : Int)).toNat else min a.toNat n) = _
  rw [if_neg (by omega)]
theorem drop_min {α : Type} (xs : List α) (a : Nat) : xs.drop (min a xs.length) = xs.drop a := by
  rcases Nat.le_total a xs.length with h | h
  · rw [Nat.min_eq_left h]
  · rw [Nat.min_eq_right h, List.drop_length, List.drop_of_length_le h]
theorem cut_from {α : Type} {xs : List α} {a : Int} (ha : 0 ≤ a) : cutD xs (some a) none = xs.drop a.toNat := by
  unfold cutD
  rw [sIx_pos ha, drop_min, HT.sIx_none, List.take_of_length_le]
  rw [List.length_drop]; omega
theorem cut_to {α : Type} {xs : List α} {b : Int} (hb : 0 ≤ b) : cutD xs none (some b) = xs.take b.toNat := by
  unfold cutD
  rw [sIx_pos hb, HT.sIx_none, List.drop_zero, Nat.sub_zero]
  rcases Nat.le_total b.toNat xs.length with h | h
  · rw [Nat.min_eq_left h]
  · rw [Nat.min_eq_right h, List.take_length, List.take_of_length_le h]
theorem cut_ab {α : Type} {xs : List α} {a b : Int} (ha : 0 ≤ a) (hb : 0 ≤ b) : cutD xs (some a) (some b) = (xs.drop a.toNat).take (b.toNat - a.toNat) := by
  unfold cutD
  rw [sIx_pos ha, sIx_pos hb, drop_min]
  refine List.ext_getElem? fun i => ?_
  rw [List.getElem?_take, List.getElem?_take, List.getElem?_drop]
  by_cases h1 : i < min b.toNat xs.length - min a.toNat xs.length
  · rw [if_pos h1, if_pos (by omega)]
  · rw [if_neg h1]
    by_cases h2 : i < b.toNat - a.toNat
    · rw [if_pos h2, List.getElem?_eq_none (by omega)]
    · rw [if_neg h2]
theorem cut_1 {α : Type} (xs : List α) : cutD xs (some 1) none = xs.tail := by rw [cut_from (by decide)]; simp
theorem cut_2 {α : Type} (xs : List α) : cutD xs (some 2) none = xs.drop 2 := cut_from (by decide)
theorem cut_3 {α : Type} (xs : List α) : cutD xs (some 3) none = xs.drop 3 := cut_from (by decide)
theorem cut_t1 {α : Type} (xs : List α) : cutD xs none (some 1) = xs.take 1 := cut_to (by decide)
theorem cut_t2 {α : Type} (xs : List α) : cutD xs none (some 2) = xs.take 2 := cut_to (by decide)
section
variable {S : Store}
@[simp] theorem ev_cutTT (ds : List D) (lo hi : Option Int) : fCutT (.tup ds) lo hi S = some (.tup (cutD ds lo hi), S) := id rfl
@[simp] theorem ev_cutTK (ds : List D) (lo hi : Option Int) : fCutK (.tup ds) lo hi S = some (.tup (cutD ds lo hi), S) := id rfl
@[simp] theorem ev_cutTC (ds : List D) (lo hi : Option Int) : fCutT (.cl ds) lo hi S = some (.cl (cutD ds lo hi), S) := id rfl
@[simp] theorem ev_cutTR (ds : List D) (i : Nat) (lo hi : Option Int) (h : S[i]? = some (.lst ds)) : fCutT (.ref i) lo hi S = some (.cl (cutD ds lo hi), S) := by
  unfold fCutT; simp [lstOf, h]
@[simp] theorem ev_cutKR (ds : List D) (i : Nat) (lo hi : Option Int) (h : S[i]? = some (.lst ds)) : fCutK (.ref i) lo hi S = some (.ref S.length, S ++ [.lst (cutD ds lo hi)]) := by
  unfold fCutK; simp [lstOf, h]
@[simp] theorem ev_truT (ds : List D) : truD (.tup ds) S = some (!ds.isEmpty) := id rfl
@[simp] theorem ev_truC (ds : List D) : truD (.cl ds) S = some (!ds.isEmpty) := id rfl
@[simp] theorem ev_truR (ds : List D) (i : Nat) (h : S[i]? = some (.lst ds)) : truD (.ref i) S = some (!ds.isEmpty) := by simp [truD, h]
@[simp] theorem ev_tyR (ds : List D) (i : Nat) (h : S[i]? = some (.lst ds)) : tyD (.ref i) S = some "list" := by simp [tyD, h]
@[simp] theorem ev_append {i : Nat} {ds : List D} {d : D} (h : S[i]? = some (.lst ds)) (hl : ds.length < 10000000) : fAppend (.ref i) [d] S = some (.non, S.set i (.lst (ds ++ [d]))) := by
  unfold fAppend
  simp only [h]
  rw [if_pos (by have := sizeL; omega)]
@[simp] theorem ev_addTT {xs ys : List D} (hl : xs.length + ys.length ≤ 10000000) : fAdd (.tup xs) (.tup ys) S = some (.tup (xs ++ ys), S) := by
  show (if xs.length + ys.length ≤ sizeLine then some (D.tup (xs ++ ys), S) else none) = _
  rw [if_pos (Nat.le_trans hl sizeL)]
@[simp] theorem ev_addT_II (i j : Int) : fAddT (.int i) (.int j) S = some (.int (i + j), S) := id rfl
@[simp] theorem ev_addT_TT {xs ys : List D} (hl : xs.length + ys.length ≤ 10000000) : fAddT (.tup xs) (.tup ys) S = some (.tup (xs ++ ys), S) := by
  show fAdd (.tup xs) (.tup ys) S = _
  exact ev_addTT hl
@[simp] theorem ev_addT_CC {xs ys : List D} (hl : xs.length + ys.length ≤ 10000000) : fAddT (.cl xs) (.cl ys) S = some (.cl (xs ++ ys), S) := by
  show (if xs.length + ys.length ≤ sizeLine then some (D.cl (xs ++ ys), S) else none) = _
  rw [if_pos (Nat.le_trans hl sizeL)]
@[simp] theorem ev_addT_CR {xs ys : List D} {i : Nat} (h : S[i]? = some (.lst ys)) (hl : xs.length + ys.length ≤ 10000000) : fAddT (.cl xs) (.ref i) S = some (.cl (xs ++ ys), S) := by
  unfold fAddT
  simp only [lstOf, h]
  rw [if_pos (Nat.le_trans hl sizeL)]
@[simp] theorem ev_addT_RC {xs ys : List D} {i : Nat} (h : S[i]? = some (.lst xs)) (hl : xs.length + ys.length ≤ 10000000) : fAddT (.ref i) (.cl ys) S = some (.cl (xs ++ ys), S) := by
  unfold fAddT
  simp only [lstOf, h]
  rw [if_pos (Nat.le_trans hl sizeL)]
@[simp] theorem ev_cEqIS (i : Int) (x : Str) : cEq (.int i) (.str x) S = some false := by unfold cEq scalD eqD; rfl
@[simp] theorem ev_cEqSI (i : Int) (x : Str) : cEq (.str x) (.int i) S = some false := by unfold cEq scalD eqD; rfl
@[simp] theorem ev_cEqNS (x : Str) : cEq .non (.str x) S = some false := by unfold cEq scalD eqD; rfl
@[simp] theorem ev_cEqSN (x : Str) : cEq (.str x) .non S = some false := by unfold cEq scalD eqD; rfl
@[simp] theorem ev_cEqNN : cEq .non .non S = some true := by unfold cEq scalD eqD; rfl
end
@[simp] theorem ev_zipI {env : DEnv} {S : Store} (a b : ME) : PD.iZip a b env S = (a env S).bind fun p => (b env p.2).bind fun q => match p.1, q.1 with
  | .tup x, .tup y => some (pairs x y, [], q.2)
  | .cl x, .cl y => some (pairs x y, [], q.2)
  | .ref i, .ref j => match q.2[i]?, q.2[j]? with
    | some (.lst x), some (.lst y) => some (pairs x y, [i, j], q.2)
    | _, _ => none
  | .ref i, .cl y => match q.2[i]? with
    | some (.lst x) => some (pairs x y, [i], q.2)
    | _ => none
  | .cl x, .ref j => match q.2[j]? with
    | some (.lst y) => some (pairs x y, [j], q.2)
    | _ => none
  | _, _ => none := id rfl
theorem pairs_zs (xs ys : List Int) : pairs (zs xs) (zs ys) = (xs.zip ys).map fun p => .tup [.int p.1, .int p.2] := by
  unfold pairs zs
  induction xs generalizing ys with
  | nil => rfl
  | cons x xs ih =>
    cases ys with
    | nil => rfl
    | cons y ys => simp [ih]
theorem zs_drop (xs : List Int) (n : Nat) : (zs xs).drop n = zs (xs.drop n) := by simp [zs]
theorem zs_tail (xs : List Int) : (zs xs).tail = zs xs.tail := by simp [zs]
theorem zs_take (xs : List Int) (n : Nat) : (zs xs).take n = zs (xs.take n) := by simp [zs]
theorem zs_get (xs : List Int) (i : Nat) : (zs xs)[i]? = xs[i]?.map .int := by simp [zs]

/-! ### indexes -/
@[simp] theorem atI_ofNat {α : Type} (xs : List α) (n : Nat) : atI xs (no_index (OfNat.ofNat n : Int)) = xs[(OfNat.ofNat n : Nat)]? := atI_nat' xs n
/-- the i-th number -/
def nth (xs : List Int) (i : Nat) : Int := xs[i]?.getD 0
theorem nth_get {xs : List Int} {i : Nat} (h : i < xs.length) : xs[i]? = some (nth xs i) := by
  unfold nth
  rw [List.getElem?_eq_getElem h]; rfl
theorem zs_nth {xs : List Int} {i : Nat} (h : i < xs.length) : (zs xs)[i]? = some (.int (nth xs i)) := by
  rw [zs, List.getElem?_map, nth_get h]; rfl
theorem zip_tail_all {xs : List Int} {q : Int × Int → Bool} : (xs.zip xs.tail).all q = (List.range (xs.length - 1)).all fun i => q (nth xs i, nth xs (i + 1)) := by
  unfold nth
  rw [Bool.eq_iff_iff, List.all_eq_true, List.all_eq_true]
  constructor
  · intro h i hi
    rw [List.mem_range] at hi
    refine h _ ?_
    rw [List.mem_iff_getElem]
    refine ⟨i, by simp; omega, ?_⟩
    rw [List.getElem_zip, List.getElem_tail]
    rw [List.getElem?_eq_getElem (by omega), List.getElem?_eq_getElem (by omega)]; rfl
  · intro h p hp
    obtain ⟨i, hi, e⟩ := List.mem_iff_getElem.mp hp
    have hi : i < xs.length - 1 := by simp at hi; omega
    have h2 := h i (List.mem_range.mpr hi)
    rw [List.getElem?_eq_getElem (by omega), List.getElem?_eq_getElem (by omega)] at h2
    rw [List.getElem_zip, List.getElem_tail] at e
    rw [← e]; exact h2
theorem atI_map_last {α β : Type} {f : α → β} {xs : List α} {x : α} (h : xs.getLast? = some x) : atI (xs.map f) (-1) = some (f x) := by rw [atI_last, List.getLast?_map, h]; rfl

/-! ### loops by the slots that they write -/
def setL : DEnv → List Nat → List (Option D) → DEnv
  | env, w :: ws, x :: xs => setL (env.set w x) ws xs
  | env, _, _ => env
@[simp] theorem setL_nil (env : DEnv) (xs : List (Option D)) : setL env [] xs = env := by cases xs <;> rfl
@[simp] theorem setL_cons (env : DEnv) (w : Nat) (ws : List Nat) (x : Option D) (xs : List (Option D)) : setL env (w :: ws) (x :: xs) = setL (env.set w x) ws xs := id rfl
theorem len1 {α : Type} {xs : List α} (h : xs.length = 1) : ∃ a, xs = [a] := by
  obtain ⟨a, t, rfl, h'⟩ := len_cons h
  exact ⟨a, by rw [List.length_eq_zero_iff.mp h']⟩
theorem len2 {α : Type} {xs : List α} (h : xs.length = 2) : ∃ a b, xs = [a, b] := by
  obtain ⟨a, t, rfl, h'⟩ := len_cons h
  obtain ⟨b, rfl⟩ := len1 h'
  exact ⟨a, b, rfl⟩
theorem len3 {α : Type} {xs : List α} (h : xs.length = 3) : ∃ a b c, xs = [a, b, c] := by
  obtain ⟨a, t, rfl, h'⟩ := len_cons h
  obtain ⟨b, c, rfl⟩ := len2 h'
  exact ⟨a, b, c, rfl⟩
theorem len4 {α : Type} {xs : List α} (h : xs.length = 4) : ∃ a b c d, xs = [a, b, c, d] := by
  obtain ⟨a, t, rfl, h'⟩ := len_cons h
  obtain ⟨b, c, d, rfl⟩ := len3 h'
  exact ⟨a, b, c, d, rfl⟩
theorem len5 {α : Type} {xs : List α} (h : xs.length = 5) : ∃ a b c d e, xs = [a, b, c, d, e] := by
  obtain ⟨a, t, rfl, h'⟩ := len_cons h
  obtain ⟨b, c, d, e, rfl⟩ := len4 h'
  exact ⟨a, b, c, d, e, rfl⟩
/-- env, but for the slots ws, with P of those -/
def Sl (env : DEnv) (ws : List Nat) (P : List (Option D) → Store → Prop) : DEnv → Store → Prop := fun env' S' => ∃ xs, xs.length = ws.length ∧ env' = setL env ws xs ∧ P xs S'
section
variable {α : Type} {env : DEnv} {S : Store} {Q : Out → Prop} {it : MI} {g : MG} {b r : MS} {xs : List α} {e : α → D} {deps : List Nat} {S1 : Store}
theorem ex_forw (ws : List Nat) (h : Is (it env S) (xs.map e, deps, S1)) (P : List α → List (Option D) → Store → Prop) (h0 : Sl env ws (P []) env S1)
    (step : ∀ pre x post, xs = pre ++ x :: post → ∀ ys, ys.length = ws.length → ∀ T, P pre ys T → ∃ env1 S1, g (e x) (setL env ws ys) T = some (env1, S1) ∧ Ex (b env1 S1) (NxR deps T (Sl env ws (P (pre ++ [x]))) (Then r Q)))
    (fin : ∀ ys, ys.length = ws.length → ∀ S', P xs ys S' → Ex (r (setL env ws ys) S') Q) : Ex (sSeq (sFor it g b) r env S) Q :=
  ex_forq h (fun pre env' S' => Sl env ws (P pre) env' S') h0 (by
    rintro pre x post hx env' T ⟨ys, hl, rfl, hp⟩
    exact step pre x post hx ys hl T hp) (by
    rintro env' S' ⟨ys, hl, rfl, hp⟩
    exact fin ys hl S' hp)
/-- .. as the last statement -/
theorem ex_forv (ws : List Nat) (h : Is (it env S) (xs.map e, deps, S1)) (P : List α → List (Option D) → Store → Prop) (h0 : Sl env ws (P []) env S1)
    (step : ∀ pre x post, xs = pre ++ x :: post → ∀ ys, ys.length = ws.length → ∀ T, P pre ys T → ∃ env1 S1, g (e x) (setL env ws ys) T = some (env1, S1) ∧ Ex (b env1 S1) (NxR deps T (Sl env ws (P (pre ++ [x]))) Q))
    (fin : ∀ ys, ys.length = ws.length → ∀ S', P xs ys S' → Q (.nx (setL env ws ys) S')) : Ex (sFor it g b env S) Q :=
  ex_forp h (fun pre env' S' => Sl env ws (P pre) env' S') h0 (by
    rintro pre x post hx env' T ⟨ys, hl, rfl, hp⟩
    exact step pre x post hx ys hl T hp) (by
    rintro env' S' ⟨ys, hl, rfl, hp⟩
    exact fin ys hl S' hp)
end
/-- a turn has gone on -/
theorem nx_sl {deps : List Nat} {T T' : Store} {env env' : DEnv} {ws : List Nat} {P : List (Option D) → Store → Prop} {Q : Out → Prop} (ys : List (Option D)) (hl : ys.length = ws.length) (he : env' = setL env ws ys) (hk : kept deps T T' = true) (hp : P ys T') : NxR deps T (Sl env ws P) Q (.nx env' T') := ⟨hk, ys, hl, he, hp⟩
theorem ex_nx {b : MS} {deps : List Nat} {T T' : Store} {env env' env1 : DEnv} {S1 : Store} {ws : List Nat} {P : List (Option D) → Store → Prop} {Q : Out → Prop} (h : Is (b env1 S1) (.nx env' T')) (ys : List (Option D)) (hl : ys.length = ws.length) (he : env' = setL env ws ys) (hk : kept deps T T' = true) (hp : P ys T') : Ex (b env1 S1) (NxR deps T (Sl env ws P) Q) :=
  .of h (nx_sl ys hl he hk hp)

section
variable {ds : List Int} {G : Store} {α : Type} {g : MG} {elt : ME} {e : α → D} {vs : List Nat} {it : MI} {env : DEnv} {S : Store} {xs : List α} {Q : Out → Prop} {b : MS} {i : Nat} {a : Nat}
/-- name = tuple([.. for ..]), each item drawn -/
theorem ex_tupDr (R : D → Prop) (hit : Is (it env S) (xs.map e, [], bx ds a ++ G)) (hn : xs.length ≤ 1000000) (hlo : ∀ d, R d → d.lo (3 + G.length) = true)
    (h : ∀ x ∈ xs, ∀ (a : Nat) (X : O), ∃ env1, g (e x) (wipeE env vs) (bx ds a ++ (G ++ [X])) = some (env1, bx ds a ++ (G ++ [X])) ∧ ∃ d a', elt env1 (bx ds a ++ (G ++ [X])) = some (d, bx ds a' ++ (G ++ [X])) ∧ R d)
    (hq : ∀ l a', l.length = xs.length → (∀ d ∈ l, R d) → Ex (b (env.set i (some (.tup l))) (bx ds a' ++ G)) Q) : Ex (sSeq (sAsg (mCall fTuple (mCons (mLcT it g mYes elt vs) mNil)) (mgName i)) b env S) Q := by
  obtain ⟨l, a', h1, h2, h3⟩ := lcT_dr R hit.eq hn hlo h
  refine ex_seq ⟨?_⟩ (hq l a' h2 h3)
  rw [ev_asg, ev_call, ev_cons, h1]
  simp
/-- name = [.. for ..], each item drawn -/
theorem ex_lcDr (R : D → Prop) (hit : Is (it env S) (xs.map e, [], bx ds a ++ G)) (hn : xs.length ≤ 1000000)
    (h : ∀ x ∈ xs, ∀ (a : Nat) (X : O), ∃ env1, g (e x) (wipeE env vs) (bx ds a ++ (G ++ [X])) = some (env1, bx ds a ++ (G ++ [X])) ∧ ∃ d a', elt env1 (bx ds a ++ (G ++ [X])) = some (d, bx ds a' ++ (G ++ [X])) ∧ R d)
    (hq : ∀ l a', l.length = xs.length → (∀ d ∈ l, R d) → Ex (b (env.set i (some (.ref (3 + G.length)))) (bx ds a' ++ (G ++ [O.lst l]))) Q) : Ex (sSeq (sAsg (mLc it g mYes elt vs) (mgName i)) b env S) Q := by
  obtain ⟨l, a', h1, h2, h3⟩ := lc_dr R hit.eq hn h
  refine ex_seq ⟨?_⟩ (hq l a' h2 h3)
  rw [ev_asg, h1]
  simp
end
theorem ints_of {l : List D} (h : ∀ d ∈ l, ∃ i, d = .int i) : ∃ ns, l = zs ns := by
  obtain ⟨vs, h1, _⟩ := typed (e := D.int) (P := fun _ => True) fun d hd => let ⟨i, hi⟩ := h d hd; ⟨i, hi, trivial⟩
  exact ⟨vs, h1⟩
/-- if not _law_same(A, B): return False, as the last statement -/
theorem ex_chk1 {n : Nat} {f : FL} (hf : SameAt n f) {A B : ME} {r : MS} {env : DEnv} {S S1 S2 : Store} {d : D} {Q : Out → Prop} (hA : Is (A env S) (d, S1)) (hB : Is (B env S1) (d, S2)) (ht : treeD n d = true) (h : Q (.nx env S2)) :
    Ex (sIf (mNot (mTru (mFn 2 f (mCons A (mCons B mNil))))) r sPass env S) Q := by
  refine ⟨.nx env S2, ?_, h⟩
  simp [hA.eq, hB.eq, hf d ht]
/-- return _law_same(A, B) -/
theorem ex_same {n : Nat} {f : FL} (hf : SameAt n f) {A B : ME} {env : DEnv} {S S1 S2 : Store} {d : D} {Q : Out → Prop} (hA : Is (A env S) (d, S1)) (hB : Is (B env S1) (d, S2)) (ht : treeD n d = true) (h : Q (.rt (.bl true) S2)) :
    Ex (sRet (mFn 2 f (mCons A (mCons B mNil))) env S) Q := by
  refine ⟨.rt (.bl true) S2, ?_, h⟩
  simp [hA.eq, hB.eq, hf d ht]
theorem treeDL_zs (n : Nat) (ns : List Int) : treeDL n (zs ns) = true := by
  induction ns with
  | nil => rfl
  | cons x xs ih =>
    show treeDL n (.int x :: zs xs) = true
    rw [treeDL, ih]
    cases n <;> rfl
theorem treeD_zs (n : Nat) (ns : List Int) (h : ns.length ≤ 1000000) : treeD (n + 1) (.tup (zs ns)) = true := by
  rw [treeD, treeDL_zs, zs_len]
  simp [h]
theorem rng_ok {i j c : Int} (hi : -1000000 ≤ i ∧ i ≤ 1000000) (hj : -1000000 ≤ j ∧ j ≤ 1000000) (hc : 0 < c ∧ c < 1000000) : rngOk i j c = true ∧ (Builtin.Range.rangeSize i j c).toNat ≤ 10000000 := by
  have hs : Builtin.Range.rangeSize i j c = if i < j then (j - i - 1) / c + 1 else 0 := by
    unfold Builtin.Range.rangeSize
    rw [if_pos hc.1]
  have h0 : i < j → 0 ≤ (j - i - 1) / c ∧ (j - i - 1) / c ≤ j - i - 1 := fun h => ⟨Int.ediv_nonneg (by omega) (by omega), Int.ediv_le_self _ (by omega)⟩
  have h1 : 0 ≤ Builtin.Range.rangeSize i j c ∧ Builtin.Range.rangeSize i j c ≤ 2000000 := by
    rw [hs]; split
    · have := h0 (by assumption); omega
    · omega
  refine ⟨?_, by omega⟩
  unfold rngOk
  simp only [Bool.and_eq_true, decide_eq_true_eq]
  refine ⟨⟨⟨by omega, by omega⟩, ?_⟩, h1.1⟩
  unfold Builtin.Range.small
  simp only [Builtin.Range.rangeFitsLong, Bool.and_eq_true, Bool.or_eq_true, decide_eq_true_eq, beq_iff_eq]
  refine ⟨⟨⟨⟨⟨by omega, by omega⟩, by omega, by omega⟩, by omega, by omega⟩, by omega, by omega⟩, .inr ?_⟩
  rw [if_pos hc.1, Bool.and_eq_true]
  exact ⟨decide_eq_true (by omega), decide_eq_true (by omega)⟩
@[simp] theorem ev_listRg {env : DEnv} {S : Store} (it : MI) : mListRg it env S = (it env S).bind fun p => if decide (p.1.length ≤ 10000000) then some (p.1, p.2.2) else none := id rfl
@[simp] theorem ev_range3 {env : DEnv} {S : Store} (a b c : ME) : iRange3 a b c env S = (a env S).bind fun p => (b env p.2).bind fun q => (c env q.2).bind fun r => match p.1, q.1, r.1 with
  | .int i, .int j, .int k => if rngOk i j k then some (ramp i k (Builtin.Range.rangeSize i j k).toNat, [], r.2) else none
  | _, _, _ => none := id rfl
@[simp] theorem ev_enumM {env : DEnv} {S : Store} (m : ME) : iEnumM m env S = (m env S).bind fun p => match p.1 with
  | .tup ds => some (enumD ds, [], p.2)
  | .cl ds => some (enumD ds, [], p.2)
  | .str z => some (enumD (PD.signs z), [], p.2)
  | .ref i => match p.2[i]? with
    | some (.lst ds) => some (enumD ds, [i], p.2)
    | _ => none
  | _ => none := id rfl
theorem enum_map {α : Type} (e : α → D) (xs : List α) : enumD (xs.map e) = xs.zipIdx.map fun p => .tup [.int (p.2 : Nat), e p.1] := by
  unfold enumD
  rw [List.zipIdx_map, List.map_map]; rfl
theorem pairs_map {α β : Type} (e : α → D) (f : β → D) (xs : List α) (ys : List β) : pairs (xs.map e) (ys.map f) = (xs.zip ys).map fun p => .tup [e p.1, f p.2] := by
  unfold pairs
  induction xs generalizing ys with
  | nil => rfl
  | cons x xs ih =>
    cases ys with
    | nil => rfl
    | cons y ys => simp [ih]
@[simp] theorem ev_addCC {S : Store} {xs ys : List D} (hl : xs.length + ys.length ≤ 10000000) : fAdd (.cl xs) (.cl ys) S = some (.ref S.length, S ++ [.lst (xs ++ ys)]) := by
  show ((lstOf (.cl xs) S).bind fun x => (lstOf (.cl ys) S).bind fun y => if x.length + y.length ≤ sizeLine then some (D.ref S.length, S ++ [O.lst (x ++ y)]) else none) = _
  simp only [lstOf, ob_some]
  rw [if_pos (Nat.le_trans hl sizeL)]
theorem rng_le {i j c : Int} (hc : 0 < c) : Builtin.Range.rangeSize i j c ≤ if i < j then j - i else 0 := by
  unfold Builtin.Range.rangeSize
  rw [if_pos hc]
  split
  · have : (j - i - 1) / c ≤ j - i - 1 := Int.ediv_le_self _ (by omega)
    omega
  · omega
theorem set_same {α : Type} {T : List α} {j : Nat} {o : α} (h : T[j]? = some o) : T.set j o = T := by
  refine List.ext_getElem? fun i => ?_
  by_cases hi : i = j
  · subst hi
    rw [List.getElem?_set_self (List.getElem?_eq_some_iff.mp h).1, h]
  · rw [List.getElem?_set_ne (Ne.symm hi)]
theorem zip_tail_range {α : Type} (l : List α) (d : α) : l.zip l.tail = (List.range (l.length - 1)).map fun i => (l[i]?.getD d, l[i + 1]?.getD d) := by
  refine List.ext_getElem (by simp) fun i h1 h2 => ?_
  have h3 : i < l.length - 1 := by simpa using h2
  rw [List.getElem_zip, List.getElem_tail, List.getElem_map, List.getElem_range, List.getElem?_eq_getElem (by omega), List.getElem?_eq_getElem (by omega)]; rfl
theorem get_some {α : Type} {l : List α} {i : Nat} (d : α) (h : i < l.length) : l[i]? = some (l[i]?.getD d) := by rw [List.getElem?_eq_getElem h]; rfl
@[simp] theorem ev_gUnl {env : DEnv} {S : Store} (n : Nat) (t : MGs) (d : D) : mgUnl n t d env S = (lstOf d S).bind fun ds => if ds.length = n then t ds env S else none := id rfl
@[simp] theorem ev_tupAS {S : Store} (z : Str) (h : z.length ≤ 1000000) : fTupleA [.str z] S = some (.tup (PD.signs z), S) := by
  unfold fTupleA
  simp only []
  rw [if_pos (decide_eq_true h)]
@[simp] theorem ev_tupAC {S : Store} (ds : List D) : fTupleA [.cl ds] S = some (.tup ds, S) := id rfl
@[simp] theorem ev_tupAT {S : Store} (ds : List D) : fTupleA [.tup ds] S = some (.tup ds, S) := id rfl
@[simp] theorem ev_lstOfC {S : Store} (ds : List D) : lstOf (.cl ds) S = some ds := id rfl
@[simp] theorem ev_seqOfC {S : Store} (ds : List D) : seqOf (.cl ds) S = some ds := id rfl
@[simp] theorem ev_seqOfT {S : Store} (ds : List D) : seqOf (.tup ds) S = some ds := id rfl
theorem seqOfR {S : Store} {i : Nat} {ds : List D} (h : S[i]? = some (.lst ds)) : seqOf (.ref i) S = some ds := by
  show lstOf (.ref i) S = _
  simp only [lstOf, h]
/-- sorted of numbers -/
theorem sortable_zs (ns : List Int) : sortable (zs ns) = true := by
  unfold sortable
  rw [Bool.or_eq_true]
  right
  rw [List.all_eq_true]
  intro d hd
  obtain ⟨n, _, rfl⟩ := List.mem_map.mp hd
  rfl
theorem sortedD_zs (ns : List Int) : sortedD (zs ns) = zs (ns.mergeSort fun a b => decide (a ≤ b)) := by
  unfold sortedD zs
  have := List.map_mergeSort (r := fun a b : Int => decide (a ≤ b)) (s := leD) (f := D.int) (l := ns) (fun a _ b _ => by
    show decide (a ≤ b) = !ltD (.int b) (.int a)
    rw [ltD_int]
    by_cases h : a ≤ b <;> simp [h] <;> omega)
  exact this.symm
theorem sortedA_zs {S : Store} {d : D} {ns : List Int} (h : seqOf d S = some (zs ns)) (hl : ns.length ≤ 1000000) : fSortedA [d] S = some (zs (ns.mergeSort fun a b => decide (a ≤ b))) := by
  unfold fSortedA
  simp only [h, ob_some]
  rw [okDL_zs, alkAll_zs, sortable_zs, okLen_of (by rw [zs_len]; omega), sortedD_zs]; rfl

/-! ### chosen by draws -/
section
variable {ds : List Int} {G : Store} {α : Type} {g : MG} {t : MT} {elt : ME} {e f : α → D} {vs : List Nat} {it : MI} {env : DEnv} {S : Store} {xs : List α} {Q : Out → Prop} {b : MS} {i : Nat} {a : Nat}
theorem lcGo_drF {env : DEnv} : ∀ (xs : List α) (a : Nat) (acc : List D), (∀ x ∈ xs, ∀ (a : Nat) (X : O), ∃ env1, g (e x) env (bx ds a ++ (G ++ [X])) = some (env1, bx ds a ++ (G ++ [X])) ∧ ∃ k a1, t env1 (bx ds a ++ (G ++ [X])) = some (k, bx ds a1 ++ (G ++ [X])) ∧ (k = true → elt env1 (bx ds a1 ++ (G ++ [X])) = some (f x, bx ds a1 ++ (G ++ [X])))) →
    acc.length + xs.length ≤ 1000000 → ∃ (ys : List α) (a' : Nat), lcGo [] (3 + G.length) g t elt env (xs.map e) (bx ds a ++ (G ++ [.lst acc])) = some (bx ds a' ++ (G ++ [.lst (acc ++ ys.map f)])) ∧ ys.Sublist xs
  | [], a, acc, _, _ => ⟨[], a, by rw [List.map_nil, ev_lcNil, List.map_nil, List.append_nil], .slnil⟩
  | x :: xs, a, acc, h, hl => by
    obtain ⟨env1, h1, k, a1, h2, h3⟩ := h x List.mem_cons_self a (.lst acc)
    rw [List.length_cons] at hl
    cases k with
    | false =>
      obtain ⟨ys, a', h4, h5⟩ := lcGo_drF xs a1 acc (fun y hy => h y (List.mem_cons_of_mem _ hy)) (by omega)
      refine ⟨ys, a', ?_, .cons _ h5⟩
      rw [List.map_cons, ev_lcCons, h1, ob_some]
      dsimp only
      rw [h2, ob_some]
      dsimp only
      rw [if_neg Bool.false_ne_true, if_pos (kept_nil _ _), h4]
    | true =>
      obtain ⟨ys, a', h4, h5⟩ := lcGo_drF xs a1 (acc ++ [f x]) (fun y hy => h y (List.mem_cons_of_mem _ hy)) (by rw [List.length_append]; simp; omega)
      refine ⟨x :: ys, a', ?_, .cons₂ _ h5⟩
      rw [List.map_cons, ev_lcCons, h1, ob_some]
      dsimp only
      rw [h2, ob_some]
      dsimp only
      rw [if_pos rfl, h3 rfl, ob_some]
      dsimp only
      rw [ev_putAt (acc := acc) (by rw [bx_get]; exact get_end) (by omega), ob_some, bx_set, set_last, if_pos (kept_nil _ _), h4, List.map_cons, List.append_assoc]; rfl
/-- name = tuple([f(x) for x in xs if drawn]) -/
theorem ex_tupDrF (f : α → D) (hit : Is (it env S) (xs.map e, [], bx ds a ++ G)) (hn : xs.length ≤ 1000000) (hlo : ∀ x, (f x).lo (3 + G.length) = true)
    (h : ∀ x ∈ xs, ∀ (a : Nat) (X : O), ∃ env1, g (e x) (wipeE env vs) (bx ds a ++ (G ++ [X])) = some (env1, bx ds a ++ (G ++ [X])) ∧ ∃ k a1, t env1 (bx ds a ++ (G ++ [X])) = some (k, bx ds a1 ++ (G ++ [X])) ∧ (k = true → elt env1 (bx ds a1 ++ (G ++ [X])) = some (f x, bx ds a1 ++ (G ++ [X]))))
    (hq : ∀ (ys : List α) (a' : Nat), ys.Sublist xs → Ex (b (env.set i (some (.tup (ys.map f)))) (bx ds a' ++ G)) Q) : Ex (sSeq (sAsg (mCall fTuple (mCons (mLcT it g t elt vs) mNil)) (mgName i)) b env S) Q := by
  obtain ⟨ys, a', h3, h4⟩ := lcGo_drF (ds := ds) (G := G) (f := f) xs a [] h (by simpa using hn)
  refine ex_seq ⟨?_⟩ (hq ys a' h4)
  rw [ev_asg, ev_call, ev_cons, ev_lcT, hit.eq, ob_some]
  dsimp only
  rw [if_pos (kept_nil _ _), List.append_assoc, bx_length, h3, ob_some, List.nil_append, ← List.append_assoc]
  rw [temp_of (T := bx ds a ++ G) (by simp) (loL_scal fun d hd => by
    obtain ⟨x, _, rfl⟩ := List.mem_map.mp hd
    rw [bx_length]; exact hlo x) (keepLo_bx (by rw [bx_length]; omega) G)]
  simp
end
@[simp] theorem ev_inZs {S : Store} (i : Int) (ns : List Int) : cIn (.int i) (.tup (zs ns)) S = some (decide (i ∈ ns)) := by
  have h1 : (zs ns).all flatD = true := by
    rw [List.all_eq_true]
    intro d hd
    obtain ⟨n, _, rfl⟩ := List.mem_map.mp hd
    rfl
  have h2 : ((zs ns).any fun z => eqD z (.int i)) = decide (i ∈ ns) := by
    rw [Bool.eq_iff_iff, List.any_eq_true, decide_eq_true_eq]
    constructor
    · rintro ⟨d, hd, he⟩
      obtain ⟨n, hn, rfl⟩ := List.mem_map.mp hd
      unfold eqD at he
      have : n = i := by simpa using he
      rw [← this]; exact hn
    · intro h
      refine ⟨.int i, List.mem_map.mpr ⟨i, h, rfl⟩, ?_⟩
      unfold eqD; simp
  show (if flatD (.int i) && (zs ns).all flatD then some ((zs ns).any fun z => eqD z (.int i)) else none) = _
  rw [h1, h2]; rfl
@[simp] theorem ev_notIn {S : Store} (a b : D) : cNotIn a b S = (cIn a b S).map (!·) := id rfl
theorem sort2 (a b : Int) : [a, b].mergeSort (fun a b => decide (a ≤ b)) = [if a ≤ b then a else b, if a ≤ b then b else a] := by
  refine List.Perm.eq_of_pairwise (le := fun a b : Int => a ≤ b) (fun a b _ _ h1 h2 => Int.le_antisymm h1 h2) ?_ ?_ ?_
  · have := List.pairwise_mergeSort (le := fun a b : Int => decide (a ≤ b)) (fun a b c h1 h2 => by simp at *; omega) (fun a b => by simp; omega) [a, b]
    exact this.imp fun h => by simpa using h
  · split <;> simp <;> omega
  · refine (List.mergeSort_perm _ _).trans ?_
    split
    · exact List.Perm.refl _
    · exact List.Perm.swap ..
/-- rising rows with the same numbers are the same -/
theorem rise_eq {a b : List Int} (ha : a.Pairwise (· < ·)) (hb : b.Pairwise (· < ·)) (h : ∀ x, x ∈ a ↔ x ∈ b) : a = b := by
  have hn : ∀ {l : List Int}, l.Pairwise (· < ·) → l.Nodup := fun h => h.imp fun h => by omega
  refine List.Perm.eq_of_pairwise (le := fun a b : Int => a ≤ b) (fun a b _ _ h1 h2 => Int.le_antisymm h1 h2) (ha.imp fun h => by omega) (hb.imp fun h => by omega) ?_
  exact (List.perm_ext_iff_of_nodup (hn ha) (hn hb)).mpr h

/-! ### texts -/
theorem str_len (z : Str) : z.length = z.cps.toList.length := by rw [Array.length_toList]; rfl
theorem cutS_list (z : Str) (lo hi : Option Int) : (cutS z lo hi).cps.toList = cutD z.cps.toList lo hi := by
  unfold cutS cutD
  rw [str_len]
theorem cutD_map {α β : Type} (f : α → β) (xs : List α) (lo hi : Option Int) : cutD (xs.map f) lo hi = (cutD xs lo hi).map f := by
  unfold cutD
  rw [List.length_map, List.map_take, List.map_drop]
theorem signs_cut (z : Str) (lo hi : Option Int) : PD.signs (cutS z lo hi) = cutD (PD.signs z) lo hi := by
  unfold PD.signs
  rw [cutS_list, cutD_map]
theorem cutD_len {α : Type} (xs : List α) (lo hi : Option Int) : (cutD xs lo hi).length ≤ xs.length := by
  unfold cutD
  rw [List.length_take, List.length_drop]; omega
theorem cutS_len (z : Str) (lo hi : Option Int) : (cutS z lo hi).length ≤ z.length := by
  rw [str_len, str_len, cutS_list]; exact cutD_len _ _ _
@[simp] theorem ev_cutTS {S : Store} (z : Str) (lo hi : Option Int) (h : z.length ≤ 1000000) : fCutT (.str z) lo hi S = some (.str (cutS z lo hi), S) := by
  show (fCut (.str z) lo hi S).map _ = _
  show ((if z.length ≤ sizeLine then some (D.str (cutS z lo hi)) else none).map fun d => (d, S)) = _
  rw [if_pos (by have := sizeL; omega)]; rfl
@[simp] theorem ev_cutKS {S : Store} (z : Str) (lo hi : Option Int) (h : z.length ≤ 1000000) : fCutK (.str z) lo hi S = some (.str (cutS z lo hi), S) := by
  show (fCut (.str z) lo hi S).map _ = _
  show ((if z.length ≤ sizeLine then some (D.str (cutS z lo hi)) else none).map fun d => (d, S)) = _
  rw [if_pos (by have := sizeL; omega)]; rfl
theorem range_filter_lt {n g : Nat} (hg : g ≤ n) (p : Nat → Bool) : (List.range n).filter (fun k => decide (k < g) && p k) = (List.range g).filter p := by
  obtain ⟨m, rfl⟩ : ∃ m, n = g + m := ⟨n - g, by omega⟩
  rw [List.range_add, List.filter_append]
  have h1 : ((List.range m).map (g + ·)).filter (fun k => decide (k < g) && p k) = [] := by
    rw [List.filter_eq_nil_iff]
    intro k hk
    obtain ⟨j, _, rfl⟩ := List.mem_map.mp hk
    have : ¬ g + j < g := by omega
    simp [this]
  rw [h1, List.append_nil]
  refine List.filter_congr fun k hk => ?_
  rw [List.mem_range] at hk
  simp [hk]
theorem range_filter_ge {n g : Nat} (hg : g ≤ n) (p : Nat → Bool) : (List.range n).filter (fun k => decide (g ≤ k) && p k) = ((List.range (n - g)).map (g + ·)).filter p := by
  obtain ⟨m, rfl⟩ : ∃ m, n = g + m := ⟨n - g, by omega⟩
  rw [List.range_add, List.filter_append, Nat.add_sub_cancel_left]
  have h1 : (List.range g).filter (fun k => decide (g ≤ k) && p k) = [] := by
    rw [List.filter_eq_nil_iff]
    intro k hk
    rw [List.mem_range] at hk
    simp; omega
  rw [h1, List.nil_append]
  refine List.filter_congr fun k hk => ?_
  obtain ⟨j, _, rfl⟩ := List.mem_map.mp hk
  simp
theorem zipIdx_range {α : Type} (xs : List α) (d : α) : xs.zipIdx = (List.range xs.length).map fun k => (xs[k]?.getD d, k) := by
  refine List.ext_getElem (by simp) fun i h1 h2 => ?_
  have h3 : i < xs.length := by simpa using h2
  rw [List.getElem_zipIdx, List.getElem_map, List.getElem_range, List.getElem?_eq_getElem h3]
  simp
theorem zip_range {α β : Type} (xs : List α) (ys : List β) (a : α) (b : β) (h : xs.length = ys.length) : xs.zip ys = (List.range xs.length).map fun k => (xs[k]?.getD a, ys[k]?.getD b) := by
  refine List.ext_getElem (by simp [h]) fun i h1 h2 => ?_
  have h3 : i < xs.length := by simpa using h2
  rw [List.getElem_zip, List.getElem_map, List.getElem_range, List.getElem?_eq_getElem h3, List.getElem?_eq_getElem (by omega)]; rfl

/-! ### comprehensions that leave the store alone, as statements -/
section
variable {α : Type} {it : MI} {g : MG} {t : MT} {elt : ME} {vs : List Nat} {env : DEnv} {S S1 : Store} {deps : List Nat} {e : α → D} {xs : List α} {Q : Out → Prop} {b : MS} {i : Nat}
/-- name = [f(x) for x in xs if p(x)] -/
theorem ex_lcP (p : α → Bool) (f : α → D) (hit : Is (it env S) (xs.map e, deps, S1)) (hn : xs.length ≤ 1000000) (hdep : ∀ i ∈ deps, i < S1.length)
    (h : ∀ x ∈ xs, ∀ X : O, ∃ env1, g (e x) (wipeE env vs) (S1 ++ [X]) = some (env1, S1 ++ [X]) ∧ t env1 (S1 ++ [X]) = some (p x, S1 ++ [X]) ∧ (p x = true → elt env1 (S1 ++ [X]) = some (f x, S1 ++ [X])))
    (hq : Ex (b (env.set i (some (.ref S1.length))) (S1 ++ [O.lst ((xs.filter p).map f)])) Q) : Ex (sSeq (sAsg (mLc it g t elt vs) (mgName i)) b env S) Q := by
  refine ex_seq ⟨?_⟩ hq
  rw [ev_asg, lc_pure p f hit.eq hn hdep h]; rfl
theorem ex_lcM (f : α → D) (hit : Is (it env S) (xs.map e, deps, S1)) (hn : xs.length ≤ 1000000) (hdep : ∀ i ∈ deps, i < S1.length)
    (h : ∀ x ∈ xs, ∀ X : O, ∃ env1, g (e x) (wipeE env vs) (S1 ++ [X]) = some (env1, S1 ++ [X]) ∧ elt env1 (S1 ++ [X]) = some (f x, S1 ++ [X]))
    (hq : Ex (b (env.set i (some (.ref S1.length))) (S1 ++ [O.lst (xs.map f)])) Q) : Ex (sSeq (sAsg (mLc it g mYes elt vs) (mgName i)) b env S) Q := by
  refine ex_seq ⟨?_⟩ hq
  rw [ev_asg, lc_map f hit.eq hn hdep h]; rfl
/-- name = tuple([f(x) for x in xs if p(x)]) -/
theorem ex_tupP (p : α → Bool) (f : α → D) (hit : Is (it env S) (xs.map e, deps, S1)) (hn : xs.length ≤ 1000000) (hdep : ∀ i ∈ deps, i < S1.length)
    (h : ∀ x ∈ xs, ∀ X : O, ∃ env1, g (e x) (wipeE env vs) (S1 ++ [X]) = some (env1, S1 ++ [X]) ∧ t env1 (S1 ++ [X]) = some (p x, S1 ++ [X]) ∧ (p x = true → elt env1 (S1 ++ [X]) = some (f x, S1 ++ [X])))
    (hlo : ∀ x ∈ xs, p x = true → (f x).lo S1.length = true)
    (hq : Ex (b (env.set i (some (.tup ((xs.filter p).map f)))) S1) Q) : Ex (sSeq (sAsg (mCall fTuple (mCons (mLcT it g t elt vs) mNil)) (mgName i)) b env S) Q := by
  refine ex_seq ⟨?_⟩ hq
  rw [ev_asg, ev_call, ev_cons, lcT_pure p f hit.eq hn hdep h hlo]; rfl
theorem ex_tupM (f : α → D) (hit : Is (it env S) (xs.map e, deps, S1)) (hn : xs.length ≤ 1000000) (hdep : ∀ i ∈ deps, i < S1.length)
    (h : ∀ x ∈ xs, ∀ X : O, ∃ env1, g (e x) (wipeE env vs) (S1 ++ [X]) = some (env1, S1 ++ [X]) ∧ elt env1 (S1 ++ [X]) = some (f x, S1 ++ [X]))
    (hlo : ∀ x ∈ xs, (f x).lo S1.length = true)
    (hq : Ex (b (env.set i (some (.tup (xs.map f)))) S1) Q) : Ex (sSeq (sAsg (mCall fTuple (mCons (mLcT it g mYes elt vs) mNil)) (mgName i)) b env S) Q := by
  refine ex_seq ⟨?_⟩ hq
  rw [ev_asg, ev_call, ev_cons, lcT_map f hit.eq hn hdep h hlo]; rfl
/-- name = len([.. for x in xs if p(x)]) -/
theorem ex_lenP (p : α → Bool) (f : α → D) (hit : Is (it env S) (xs.map e, deps, S1)) (hn : xs.length ≤ 1000000) (hdep : ∀ i ∈ deps, i < S1.length)
    (h : ∀ x ∈ xs, ∀ X : O, ∃ env1, g (e x) (wipeE env vs) (S1 ++ [X]) = some (env1, S1 ++ [X]) ∧ t env1 (S1 ++ [X]) = some (p x, S1 ++ [X]) ∧ (p x = true → elt env1 (S1 ++ [X]) = some (f x, S1 ++ [X])))
    (hlo : ∀ x ∈ xs, p x = true → (f x).lo S1.length = true)
    (hq : Ex (b (env.set i (some (.int (xs.filter p).length))) S1) Q) : Ex (sSeq (sAsg (mCall fLen (mCons (mLcT it g t elt vs) mNil)) (mgName i)) b env S) Q := by
  refine ex_seq ⟨?_⟩ hq
  rw [ev_asg, ev_call, ev_cons, lcT_pure p f hit.eq hn hdep h hlo]
  simp
end
end PD

set_option Elab.async false
set_option linter.all false
set_option maxRecDepth 100000
set_option maxHeartbeats 4000000
/-! PdTxt: texts as lists of signs: lower, find, cuts, join; comprehensions of two clauses. -/
namespace PD
open PySem PySem.Spec PyProof.Rows L2
open PySem.Builtin.Str (occurrences subAt)
variable [Tabs]
abbrev TS (l : List Nat) : Str := SX.S l
abbrev low (l : List Nat) : List Nat := l.map PyProof.Rows.lo1
/-- w stands at i -/
def mch (w a : List Nat) (i : Nat) : Bool := (a.drop i).take w.length == w
theorem ts_len (l : List Nat) : (TS l).length = l.length := SX.S_len l
theorem ts_cps (l : List Nat) : (TS l).cps.toList = l := by simp [SX.S]
theorem ts_beq (a b : List Nat) : (TS a == TS b) = (a == b) := SX.S_beq a b
theorem ts_cat (a b : List Nat) : TS a ++ TS b = TS (a ++ b) := SX.S_cat a b
theorem ts_ext {x : Str} {l : List Nat} (h : x.cps.toList = l) : x = TS l := by subst h; exact (SX.S_tl x).symm
theorem ts_cut (a : List Nat) (lo hi : Option Int) : cutS (TS a) lo hi = TS (cutD a lo hi) := ts_ext (by rw [cutS_list])
theorem ev_lower {S : Store} {a : List Nat} (h : a.all (· < 128) = true) (hl : a.length ≤ 1000000) : fLower (.str (TS a)) [] S = some (.str (TS (low a)), S) := by
  have : (TS a).length ≤ 5592405 := by rw [ts_len]; omega
  show (if (TS a).length ≤ 5592405 then some (D.str (Txt.lower (TS a)), S) else none) = _
  rw [if_pos this, SX.lower_S h]
theorem ev_upper {S : Store} {a : List Nat} (h : a.all (· < 128) = true) (hl : a.length ≤ 1000000) : fUpper (.str (TS a)) [] S = some (.str (TS (a.map PyProof.Rows.up1)), S) := by
  have : (TS a).length ≤ 5592405 := by rw [ts_len]; omega
  show (if (TS a).length ≤ 5592405 then some (D.str (Txt.upper (TS a)), S) else none) = _
  rw [if_pos this, SX.upper_S h]
theorem all128 {a b : List Nat} (h : ∀ c ∈ a, c ∈ b) (hb : b.all (· < 128) = true) : a.all (· < 128) = true := List.all_eq_true.mpr fun c hc => List.all_eq_true.mp hb c (h c hc)
/-! ### find -/
theorem occ_done (s sub : Str) (hi : Nat) : ∀ (l : List Nat) (st : Array Nat × Nat), st.1.size = 1 → (forIn l st (StrLaws.occBody s sub hi 1)).run = st
  | [], _, _ => rfl
  | i :: l, st, h => by
    rw [List.forIn_cons]
    unfold StrLaws.occBody
    have h1 : ¬ (((st.fst.size < 1 ∧ st.snd ≤ i) ∧ i + sub.length ≤ hi) ∧ subAt s sub i = true) := fun c => by omega
    rw [if_neg h1]
    exact occ_done s sub hi l st h
theorem occ_find (s sub : Str) (hi : Nat) : ∀ (l : List Nat) (free : Nat), (∀ i ∈ l, free ≤ i) → (forIn l ((#[] : Array Nat), free) (StrLaws.occBody s sub hi 1)).run.1.toList = (l.find? fun i => decide (i + sub.length ≤ hi) && subAt s sub i).toList
  | [], _, _ => rfl
  | i :: l, free, hf => by
    rw [List.forIn_cons]
    unfold StrLaws.occBody
    have ha : free ≤ i := hf i (List.mem_cons_self ..)
    by_cases hc : i + sub.length ≤ hi ∧ subAt s sub i = true
    · have c1 : ((((#[] : Array Nat), free).fst.size < 1 ∧ ((#[] : Array Nat), free).snd ≤ i) ∧ i + sub.length ≤ hi) ∧ subAt s sub i = true := ⟨⟨⟨by simp, ha⟩, hc.1⟩, hc.2⟩
      rw [if_pos c1, List.find?_cons_of_pos (by simp [hc.1, hc.2])]
      have := occ_done s sub hi l ((#[] : Array Nat).push i, i + sub.length) (by simp)
      exact (congrArg (fun st : Array Nat × Nat => st.1.toList) this).trans (by simp)
    · have c2 : ¬ (((((#[] : Array Nat), free).fst.size < 1 ∧ ((#[] : Array Nat), free).snd ≤ i) ∧ i + sub.length ≤ hi) ∧ subAt s sub i = true) := fun h => hc ⟨h.1.2, h.2⟩
      rw [if_neg c2, List.find?_cons_of_neg (by simpa using hc)]
      exact occ_find s sub hi l free fun j hj => hf j (List.mem_cons_of_mem _ hj)
def findI (w a : List Nat) (p : Nat) : Int := (((List.range' p (a.length - p)).find? (mch w a)).map fun (i : Nat) => (i : Int)).getD (-1)
theorem mch_le {w a : List Nat} {i : Nat} (hw : w ≠ []) (h : mch w a i = true) : i + w.length ≤ a.length := by
  have h := eq_of_beq h
  have h2 := congrArg List.length h
  rw [List.length_take, List.length_drop] at h2
  have : 0 < w.length := List.length_pos_iff.mpr hw
  omega
theorem occ_ts {w a : List Nat} (hw : w ≠ []) {p : Nat} (hp : p ≤ a.length) : occurrences (TS a) (TS w) p (TS a).length 1 = ((List.range' p (a.length - p)).find? (mch w a)).toList := by
  rw [StrLaws.occ_eq, occ_find _ _ _ _ _ (fun i hi => by rw [List.mem_range'] at hi; omega), ts_len, ts_len]
  have e : (fun i => decide (i + w.length ≤ a.length) && subAt (TS a) (TS w) i) = mch w a := by
    funext i
    have e2 : subAt (TS a) (TS w) i = mch w a i := by
      rw [StrLaws.subAt_eq, ts_len]; rfl
    rw [e2]
    cases h : mch w a i
    · simp
    · simp [mch_le hw h]
  rw [e, show a.length + 1 - p = (a.length - p) + 1 by omega, List.range'_concat, List.find?_append]
  have : mch w a (p + 1 * (a.length - p)) = false := by
    cases h : mch w a (p + 1 * (a.length - p))
    · rfl
    · have := mch_le hw h
      have : 0 < w.length := List.length_pos_iff.mpr hw
      omega
  rw [List.find?_cons_of_neg (by rw [this]; exact Bool.false_ne_true), List.find?_nil, Option.or_none]
theorem ev_find {S : Store} {w a : List Nat} (hw : w ≠ []) : fFind (.str (TS a)) [.str (TS w)] S = some (.int (findI w a 0), S) := by
  show some (D.int (Txt.find (TS a) (TS w)), S) = _
  unfold Txt.find findI
  rw [occ_ts hw (Nat.zero_le _)]
  cases (List.range' 0 (a.length - 0)).find? (mch w a) <;> rfl
theorem ev_find3 {S : Store} {w a : List Nat} (hw : w ≠ []) {p : Nat} (hp : p ≤ a.length) : fFind (.str (TS a)) [.str (TS w), .int (p : Int)] S = some (.int (findI w a p), S) := by
  show some (D.int (Txt.find3 (TS a) (TS w) p), S) = _
  unfold Txt.find3 findI
  have e : fromIndex (TS a).length (p : Int) = p := by unfold fromIndex; rw [if_neg (by omega)]; omega
  rw [e, occ_ts hw hp]
  cases (List.range' p (a.length - p)).find? (mch w a) <;> rfl
/-! ### join -/
theorem strsOf_map (ys : List (List Nat)) : strsOf (ys.map fun l => D.str (TS l)) = some (ys.map TS) := by
  induction ys with
  | nil => rfl
  | cons y ys ih => rw [List.map_cons, strsOf, ih]; rfl
theorem ev_join {S : Store} {d : D} {b : List Nat} {ys : List (List Nat)} (h : seqOf d S = some (ys.map fun l => D.str (TS l))) (hl : (ys.map List.length).sum + ys.length * b.length ≤ 1000000) : fJoin (.str (TS b)) [d] S = some (.str (TS (TL.joinL b ys)), S) := by
  show (seqOf d S).bind (fun xs => (strsOf xs).bind fun ys => if (ys.map (·.length)).sum + ys.length * (TS b).length ≤ 16777216 then some (D.str (Txt.join (TS b) ys), S) else none) = _
  have e : ((ys.map TS).map (·.length)) = ys.map List.length := SX.lens ys
  rw [h, ob_some, strsOf_map, ob_some, e, List.length_map, ts_len, if_pos (by omega), SX.join_S]
theorem joinL_nil : ∀ (ys : List (List Nat)), TL.joinL [] ys = ys.flatten
  | [] => rfl
  | [y] => by simp [TL.joinL]
  | x :: y :: r => by
    have := joinL_nil (y :: r)
    simp [TL.joinL] at this ⊢
    exact this
/-! ### a text's signs -/
@[simp] theorem ev_ixS {S : Store} (a : List Nat) (i : Int) (hl : a.length ≤ 1000000) : fIx (.str (TS a)) (.int i) S = (atI a i).map fun c => (.str (TS [c]), S) := by
  have : (TS a).length ≤ sizeLine := by rw [ts_len, sizeLine_eq]; omega
  show (if (TS a).length ≤ sizeLine then _ else none) = _
  rw [if_pos this]
@[simp] theorem ev_lenS {S : Store} (a : List Nat) (h : a.length ≤ 1000000) : fLen [.str (TS a)] S = some (.int a.length, S) := by
  have : (TS a).length ≤ sizeLine := by rw [ts_len, sizeLine_eq]; omega
  show (if (TS a).length ≤ sizeLine then some (D.int ((TS a).length : Nat), S) else none) = _
  rw [if_pos this, ts_len]
@[simp] theorem ev_cEqTS {S : Store} (a b : List Nat) : cEq (.str (TS a)) (.str (TS b)) S = some (a == b) := by rw [ev_cEqS, ts_beq]
@[simp] theorem ev_cutTl {S : Store} (a : List Nat) (lo hi : Option Int) (h : a.length ≤ 1000000) : fCutT (.str (TS a)) lo hi S = some (.str (TS (cutD a lo hi)), S) := by
  rw [ev_cutTS _ _ _ (by rw [ts_len]; exact h), ts_cut]
@[simp] theorem ev_cutKl {S : Store} (a : List Nat) (lo hi : Option Int) (h : a.length ≤ 1000000) : fCutK (.str (TS a)) lo hi S = some (.str (TS (cutD a lo hi)), S) := by
  rw [ev_cutKS _ _ _ (by rw [ts_len]; exact h), ts_cut]
theorem ev_addS {S : Store} (a b : List Nat) (h : a.length + b.length ≤ 1000000) : fAdd (.str (TS a)) (.str (TS b)) S = some (.str (TS (a ++ b)), S) := by
  have : (TS a).length + (TS b).length ≤ sizeLine := by rw [ts_len, ts_len, sizeLine_eq]; omega
  unfold fAdd
  first
    | (simp [this, ts_cat]; done)
    | (rw [if_pos this, ts_cat])
theorem ev_addTS {S : Store} (a b : List Nat) (h : a.length + b.length ≤ 1000000) : fAddT (.str (TS a)) (.str (TS b)) S = some (.str (TS (a ++ b)), S) := ev_addS a b h
/-! ### comprehensions of two clauses -/
theorem lc2Go_pure {α β : Type} {deps : List Nat} {g g1 : MG} {t t1 : MT} {it1 : MI} {elt : ME} {vs1 : List Nat} {env : DEnv} {S1 : Store} (hdep : ∀ i ∈ deps, i < S1.length) {e : α → D} {ys : α → List β} {e1 : β → D} {f : α → β → D} {p1 : α → β → Bool} : ∀ (xs : List α) (acc : List D),
    (∀ x ∈ xs, ∀ X : O, ∃ env1 deps1, g (e x) env (S1 ++ [X]) = some (env1, S1 ++ [X]) ∧ t env1 (S1 ++ [X]) = some (true, S1 ++ [X]) ∧ it1 env1 (S1 ++ [X]) = some ((ys x).map e1, deps1, S1 ++ [X]) ∧ (∀ i ∈ deps1, i < S1.length) ∧
      ∀ y ∈ ys x, ∀ X : O, ∃ env2, g1 (e1 y) (wipeE env1 vs1) (S1 ++ [X]) = some (env2, S1 ++ [X]) ∧ t1 env2 (S1 ++ [X]) = some (p1 x y, S1 ++ [X]) ∧ (p1 x y = true → elt env2 (S1 ++ [X]) = some (f x y, S1 ++ [X]))) →
    acc.length + (xs.map fun x => (ys x).length).sum ≤ 1000000 →
    lc2Go deps S1.length g t it1 g1 t1 elt vs1 env (xs.map e) (S1 ++ [.lst acc]) = some (S1 ++ [.lst (acc ++ xs.flatMap fun x => ((ys x).filter (p1 x)).map (f x))])
  | [], acc, _, _ => by simp [lc2Go]
  | x :: xs, acc, h, hl => by
    have hk : ∀ X Y : O, kept deps (S1 ++ [X]) (S1 ++ [Y]) = true := fun X Y => kept_same fun i hi => by
      rw [List.getElem?_append_left (hdep i hi), List.getElem?_append_left (hdep i hi)]
    obtain ⟨env1, deps1, h1, h2, h3, h4, h5⟩ := h x List.mem_cons_self (.lst acc)
    rw [List.map_cons, List.sum_cons] at hl
    rw [List.map_cons, lc2Go, h1, ob_some]
    dsimp only
    rw [h2, ob_some]
    dsimp only
    rw [if_pos rfl, h3, ob_some]
    dsimp only
    have := lcGo_pure (deps := deps1) (env := wipeE env1 vs1) (g := g1) (t := t1) (elt := elt) (S1 := S1) h4 (e := e1) (p := p1 x) (f := f x) (ys x) acc (fun y hy X => h5 y hy X) (by omega)
    have hfl := List.length_filter_le (p1 x) (ys x)
    rw [this, ob_some, if_pos (hk _ _), lc2Go_pure hdep xs _ (fun z hz => h z (List.mem_cons_of_mem _ hz)) (by rw [List.length_append, List.length_map]; omega)]
    rw [List.flatMap_cons, List.append_assoc]
section
variable {α β : Type} {it it1 : MI} {g g1 : MG} {t t1 : MT} {elt : ME} {vs vs1 : List Nat} {env : DEnv} {S S1 : Store} {deps : List Nat} {e : α → D} {xs : List α} {ys : α → List β} {e1 : β → D}
theorem lc2_pure (p1 : α → β → Bool) (f : α → β → D) (hit : it env S = some (xs.map e, deps, S1)) (hdep : ∀ i ∈ deps, i < S1.length)
    (h : ∀ x ∈ xs, ∀ X : O, ∃ env1 deps1, g (e x) (wipeE env vs) (S1 ++ [X]) = some (env1, S1 ++ [X]) ∧ t env1 (S1 ++ [X]) = some (true, S1 ++ [X]) ∧ it1 env1 (S1 ++ [X]) = some ((ys x).map e1, deps1, S1 ++ [X]) ∧ (∀ i ∈ deps1, i < S1.length) ∧
      ∀ y ∈ ys x, ∀ X : O, ∃ env2, g1 (e1 y) (wipeE env1 vs1) (S1 ++ [X]) = some (env2, S1 ++ [X]) ∧ t1 env2 (S1 ++ [X]) = some (p1 x y, S1 ++ [X]) ∧ (p1 x y = true → elt env2 (S1 ++ [X]) = some (f x y, S1 ++ [X])))
    (hl : (xs.map fun x => (ys x).length).sum ≤ 1000000) : mLc2 it g t it1 g1 t1 elt vs vs1 env S = some (.ref S1.length, S1 ++ [.lst (xs.flatMap fun x => ((ys x).filter (p1 x)).map (f x))]) := by
  unfold mLc2
  rw [hit, ob_some]
  dsimp only
  rw [if_pos (kept_same fun i hi => List.getElem?_append_left (hdep i hi)), lc2Go_pure hdep xs [] h (by simpa using hl), om_some, List.nil_append]
theorem lc2T_pure (p1 : α → β → Bool) (f : α → β → D) (hit : it env S = some (xs.map e, deps, S1)) (hdep : ∀ i ∈ deps, i < S1.length)
    (h : ∀ x ∈ xs, ∀ X : O, ∃ env1 deps1, g (e x) (wipeE env vs) (S1 ++ [X]) = some (env1, S1 ++ [X]) ∧ t env1 (S1 ++ [X]) = some (true, S1 ++ [X]) ∧ it1 env1 (S1 ++ [X]) = some ((ys x).map e1, deps1, S1 ++ [X]) ∧ (∀ i ∈ deps1, i < S1.length) ∧
      ∀ y ∈ ys x, ∀ X : O, ∃ env2, g1 (e1 y) (wipeE env1 vs1) (S1 ++ [X]) = some (env2, S1 ++ [X]) ∧ t1 env2 (S1 ++ [X]) = some (p1 x y, S1 ++ [X]) ∧ (p1 x y = true → elt env2 (S1 ++ [X]) = some (f x y, S1 ++ [X])))
    (hl : (xs.map fun x => (ys x).length).sum ≤ 1000000) (hlo : ∀ x ∈ xs, ∀ y ∈ ys x, p1 x y = true → (f x y).lo S1.length = true) : mLc2T it g t it1 g1 t1 elt vs vs1 env S = some (.cl (xs.flatMap fun x => ((ys x).filter (p1 x)).map (f x)), S1) := by
  unfold mLc2T
  rw [hit, ob_some]
  dsimp only
  rw [if_pos (kept_same fun i hi => List.getElem?_append_left (hdep i hi)), lc2Go_pure hdep xs [] h (by simpa using hl), ob_some, List.nil_append]
  exact temp_pure (loL_scal fun d m => by
    obtain ⟨x, hx, m⟩ := List.mem_flatMap.mp m
    obtain ⟨y, hy, rfl⟩ := List.mem_map.mp m
    obtain ⟨h1, h2⟩ := List.mem_filter.mp hy
    exact hlo x hx y h1 h2)
end
end PD

set_option Elab.async false
set_option linter.all false
set_option maxRecDepth 100000
set_option maxHeartbeats 4000000
/-! PdExtra: tuple(range(..)), a list turned round. -/
namespace PD
open PySem PySem.Spec PyProof.Rows L2
variable [Tabs]
/-! ### tuple(range(a, b)) -/
def mTupRg (it : MI) : ME := fun env S => (it env S).bind fun p => if decide (p.1.length ≤ 10000000) then some (.tup p.1, p.2.2) else none
@[simp] theorem ev_tupRg {env : DEnv} {S : Store} (it : MI) : mTupRg it env S = (it env S).bind fun p => if decide (p.1.length ≤ 10000000) then some (.tup p.1, p.2.2) else none := id rfl
section
variable {X : Cx} {p p2 pos pos2 : Pos}
theorem tuple_rg {pins : List (Addr × Obj)} {s : Shared} {σ : L2.St} {H : Hp} {Q : VK} {r : Addr} {i j c : Int} {t u v : Tok} {n : Nat} (hc : X.calm = true) (I : Inv X pins σ H s) (hr : IsRange s.heap r i j c t u v) (c2 : Builtin.Range.small i j c = true) (c3 : Builtin.Range.rangeSize i j c = n) (hn : n ≤ 10000000)
    (q : ∀ p, H p = none → Q (.ref p) (upd H p (.tup (rmV i c n)))) : wpAny (model X.prog X.w) X.A (call (.type "tuple") [.ref r]) (EP X pins σ Q) X.xe s := by
  refine call_tuple_range (n := n) (I.ok.hd hc) hr c2 c3 (by omega) fun h' tk acc hk hi => ?_
  have I2 : Inv X pins σ H { s with heap := h', toks := tk } := I.kept hk
  refine ⟨.ref h'.objs.size, _, I2.laid (t' := tk) (fun c o e => Heap.get?_push_of_some _ e) (Nat.le_refl _) (show ObjOk X.prog X.w _ _ _ (.tup (rmV i c n)) from ⟨?_, acc.toList, vals_rm hi, ?_⟩), rfl, q _ (I2.hok.fresh (Nat.le_refl _))⟩
  · unfold rmV
    rw [List.length_map, List.length_range, sizeLine_eq]; omega
  · rw [Array.toArray_toList]; exact IsTup.new _ _
theorem pm_tupRg2 {a b : Expr} {m m2 : ME} (hcalm : X.calm = true) (hg : Gl X "range") (hm : X.mg "range" = none) (hgl : Gl X "tuple") (hml : X.mg "tuple" = none) (ha : PM X a m) (hb : PM X b m2)
    (hs2 : starEach [b] X.env = (false, eval b X.env) :: starEach [] X.env := by rfl) (hs : starEach [a, b] X.env = (false, eval a X.env) :: starEach [b] X.env := by rfl)
    (hpl : (backTo pos (starEach [b] X.env)).any (·.1) = false := by rfl)
    (na : starEach [Expr.Call (.Name "range" p) [a, b] [] pos] X.env = (false, eval (Expr.Call (.Name "range" p) [a, b] [] pos) X.env) :: starEach [] X.env := by rfl) :
    PM X (.Call (.Name "tuple" p2) [.Call (.Name "range" p) [a, b] [] pos] [] pos2) (mTupRg (iRange2 m m2)) := by
  refine ⟨fun pins s σ H Q I h => ?_⟩
  obtain ⟨ρ, env, S, d0, S', L, e, q⟩ := h
  obtain ⟨⟨items, deps, S3⟩, e, ez⟩ := bind_some e
  dsimp only at ez
  split at ez
  · rename_i hz
    cases ez
    have hz := of_decide_eq_true hz
    replace e := bind_some e
    obtain ⟨⟨d, S1⟩, e1, e⟩ := e
    replace e := bind_some e
    obtain ⟨⟨d2, S2⟩, e2, e⟩ := e
    dsimp only at e
    split at e
    · rename_i i j
      split at e
      · rename_i hj
        cases e
        rw [Bool.and_eq_true] at hj
        have h1 := of_decide_eq_true hj.1
        have h2 := of_decide_eq_true hj.2
        refine Call_ (ld_blt I hgl hml boot_tuple (PyProof.Rows.callWith_type1 (args_cons (thn (?_ : wpAny (model X.prog X.w) X.A (eval (Expr.Call (.Name "range" p) [a, b] [] pos) X.env) (fun x s' => ∃ r t u v H' ρ', x = .ref r ∧ IsRange s'.heap r i j 1 t u v ∧ Inv X pins σ H' s' ∧ Go X.K H ρ H' ρ' S') X.xe s) fun x s1 ⟨r, t, u, v, H1, ρ1, ex, hr, I1, g1⟩ => args_nil ?_) na) na))
        · refine Call_ (ld_blt I hg hm boot_range (PyProof.Rows.callWith_type1 (thn ((pa_mcons ha (pa_mcons hb pa_mnil hs2) hs).run pos pins s σ H (fun vs H1 => vs = [.int i, .int j] ∧ ∃ ρ1, Go X.K H ρ H1 ρ1 S') I (tMA2 L e1 e2 fun v u H1 ρ1 g1 r1 r2 => ?_)) fun us s1 ⟨vs, H1, I1, r1, ev, ρ1, g1⟩ => ?_) hs hpl))
          · cases r1.of_int; cases r2.of_int
            exact ⟨rfl, ρ1, g1⟩
          · subst ev
            cases r1 with
            | cons r rr =>
              cases rr with
              | cons r' rr =>
                cases rr
                obtain ⟨t, rfl⟩ := r
                obtain ⟨t', rfl⟩ := r'
                refine call_range_2 ⟨_, _, _, _, H1, ρ1, rfl, IsRange.new _ _ _ _ _ _ _, I1.kept fun b o e => Heap.get?_push_of_some _ e, g1⟩
        · subst ex
          replace hz := of_decide_eq_true hz
          rw [ramp_len] at hz
          refine tuple_rg (n := (j - i).toNat) hcalm I1 hr (small_one (by omega) (by omega) (by omega) (by omega)) (rangeSize_nat i j) hz fun p n => ?_
          obtain ⟨g, r3⟩ := newTup g1.s (relL_ramp i 1 (j - i).toNat) n
          exact q _ _ _ (g1.trans g) r3
      · cases e
    · cases e
  · cases ez
end
/-! ### a list turned round -/
theorem fm_some {α β : Type} {f : α → Option β} {g : α → β} : ∀ l : List α, (∀ x ∈ l, f x = some (g x)) → l.filterMap f = l.map g
  | [], _ => rfl
  | x :: l, h => by rw [List.filterMap_cons, h x List.mem_cons_self, List.map_cons, fm_some l fun y hy => h y (List.mem_cons_of_mem _ hy)]
theorem pick_back (xs : Array Value) : ((List.range xs.size).map fun (k : Nat) => ((xs.size : Int) - 1 + -1 * (k : Int)).toNat).filterMap (xs[·]?) = xs.toList.reverse := by
  have e : (List.range xs.size).map (fun (k : Nat) => ((xs.size : Int) - 1 + -1 * (k : Int)).toNat) = (List.range xs.size).map fun k => xs.size - 1 - k := by
    refine List.map_congr_left fun k _ => ?_
    omega
  rw [e, List.filterMap_map]
  refine List.ext_getElem? fun j => ?_
  have h : (List.range xs.size).filterMap ((fun x => xs[x]?) ∘ fun k => xs.size - 1 - k) = (List.range xs.size).map fun k => xs[xs.size - 1 - k]?.getD .none := by
    refine fm_some _ fun k hk => ?_
    rw [List.mem_range] at hk
    have : xs.size - 1 - k < xs.size := by omega
    simp [this]
  rw [h]
  by_cases hj : j < xs.size
  · rw [List.getElem?_map, List.getElem?_range hj, List.getElem?_reverse (by simpa using hj)]
    have : xs.size - 1 - j < xs.size := by omega
    simp [this]
  · rw [List.getElem?_eq_none (by simp; omega), List.getElem?_eq_none (by simp; omega)]
theorem slicePick_rev (items : Array Value) : slicePick items none none (some (-1)) = items.toList.reverse.toArray := by
  unfold slicePick
  have e : sliceBounds none none (some (-1)) items.size = ((items.size : Int) - 1, -1, -1) := by
    simp [sliceBounds]
  rw [e]
  unfold sliceRange
  have e2 : (if (-1 : Int) > 0 then (if (items.size : Int) - 1 < -1 then (-1 - ((items.size : Int) - 1) + -1 - 1) / -1 else 0) else (if (items.size : Int) - 1 > -1 then ((items.size : Int) - 1 - -1 - -1 - 1) / (- -1) else 0)).toNat = items.size := by
    rw [if_neg (by decide)]
    split
    · rw [show (- -1 : Int) = 1 by decide, Int.ediv_one]; omega
    · omega
  dsimp only
  rw [e2, pick_back]
def mRev (a : ME) : MA := fun env S => (a env S).bind fun p => (lstOf p.1 p.2).map fun ds => (ds.reverse, p.2)
@[simp] theorem ev_rev {env : DEnv} {S : Store} (a : ME) : mRev a env S = (a env S).bind fun p => (lstOf p.1 p.2).map fun ds => (ds.reverse, p.2) := id rfl
section
variable {X : Cx} {e st : Expr} {m : ME} {pos p2 : Pos}
theorem relL_rev {K : PySem.W.Frag} {H : Hp} {ρ : List Addr} : ∀ {ds : List D} {vs : List V}, RelL K H ρ ds vs → RelL K H ρ ds.reverse vs.reverse
  | [], _, r => by cases r; exact RelL.nil
  | d :: ds, _, r => by
    obtain ⟨v, vs, rfl, r1, r2⟩ := r
    rw [List.reverse_cons, List.reverse_cons]
    exact (relL_rev r2).append (.one r1)
theorem vals_rev {vs : List V} {its : List Value} (r : Vals vs its) : Vals vs.reverse its.reverse := by
  induction r with
  | nil => exact .nil
  | cons h _ ih =>
    rw [List.reverse_cons, List.reverse_cons]
    exact ih.append (.cons h .nil)
theorem pn_rev (he : PM X e m) (hst : PMO X (some st) (mPart (m1 fNeg (mC (.int 1))))) : PMN X (.Subscript e (.Slice none none (some st) p2) pos) (mRev m) := by
  refine ⟨fun pins s σ H Q I h => ?_⟩
  obtain ⟨ρ, env, S, ds, S', L, ev, q⟩ := h
  obtain ⟨⟨d, S1⟩, e1, ev⟩ := bind_some ev
  obtain ⟨xs, e2, ev⟩ := map_some ev
  cases ev
  refine Subscript_ (thn (he.run pins s σ H (fun v H1 => ∃ ρ1, Go X.K H ρ H1 ρ1 S1 ∧ Rel X.K H1 ρ1 d v) I ⟨ρ, env, S, d, S1, L, e1, fun v H1 ρ1 g r => ⟨ρ1, g, r⟩⟩) fun v s1 ⟨x, H1, I1, r1, ρ1, g1, rr⟩ => ?_)
  refine wpAny_Slice ?_
  rw [evalPart_none]
  refine wpAny_pure ?_
  refine wpAny_pure ?_
  refine thn (hst.run pins s1 σ H1 (fun o H2 => o = some (-1) ∧ ∃ ρ2, Go X.K H1 ρ1 H2 ρ2 S1) I1 ⟨ρ1, env, S1, some (-1), S1, L.next g1, rfl, fun H2 ρ2 g => ⟨rfl, ρ2, g⟩⟩) fun vst s2 ⟨o, H2, I2, pst, ho, ρ2, g2⟩ => ?_
  subst ho
  have g := g1.trans g2
  obtain ⟨a, vs, rfl, hS, rl⟩ := lst_of g.s e2 (rr.mono g2.le)
  have r1' : v = .ref a := r1
  subst r1'
  obtain ⟨its, r, ht, hz⟩ := I2.list hS
  have I4 : Inv X pins σ H2 { s2 with heap := s2.heap.push { cls := .type "slice", data := .fields #[.none, .none, vst] } } := I2.kept (t' := s2.toks) fun b ob q => Heap.get?_push_of_some _ q
  have ht4 := ht.isList.push { cls := .type "slice", data := .fields #[.none, .none, vst] }
  show wpAny (model X.prog X.w) X.A (subscriptTail e (.Slice none none (some st) p2) (.ref a) (.ref s2.heap.objs.size)) _ X.xe { s2 with heap := s2.heap.push { cls := .type "slice", data := .fields #[.none, .none, vst] } }
  refine tail_any (ops := [.ref a, .ref s2.heap.objs.size]) (T := "list") (s := { s2 with heap := s2.heap.push { cls := .type "slice", data := .fields #[.none, .none, vst] } }) ht4.typeIs slot_list_getitem.lookup ?_ (by with_unfolding_all rfl)
  refine wpAny_getItem_list_slice ht4 (Heap.IsSliceOf.new ..) .none .none pst (by simp) ?_ (by rw [List.size_toArray, ← r.length]; exact hz)
  rw [slicePick_rev]
  refine ⟨.ref _, _, I4.laid (t' := s2.toks) (o := .lst vs.reverse) (fun b ob q => Heap.get?_push_of_some _ q) (Nat.le_refl _) ?_, rfl, ?_⟩
  · exact ⟨by rw [List.length_reverse]; exact hz, _, 0, vals_rev r, Heap.get?_push_size _ rfl⟩
  · exact q _ H2 ρ2 g (relL_rev rl) _ (I4.hok.fresh (Nat.le_refl _))
end

/-! ### t += u -/
theorem noI_tuple_add : typeLookup (.type "tuple") (dunderI "add") = pure none := by rw [typeLookup_type, builtinLookup_eq_fast]; kernel_rfl
theorem iconcat_meets {prog : Program} {w : World} {A : Around} {E : Value → Shared → Prop} {s : Shared} {T id : String} {B : Builtin} {a b : Value} {S : PySem.Spec} {Q : Value → Shared → Prop} (ha : s.TypeIs a T) (hb : s.TypeIs b T)
    (hno : typeLookup (.type T) (dunderI "add") = pure none) (hfill : fillsNumberSlot (.type T) "add" = pure false) (hseq : seqSlot? (.type T) "__add__" = pure (some (.builtin id))) (slot : Slot T "__add__" id)
    (entry : entryFor table id = some B) (args : argsOk id ⟨[a, b], []⟩) (g : Meets (B ⟨[a, b], []⟩) S) (h : S A (wants Q E) s) : wpAny (model prog w) A (inplaceOp .Add a b) Q E s :=
  wpAny_inplaceOp_concat ha hb hno hfill hseq (call_meets slot ha entry args g h)
section
variable {prog : Program} {w : World} {A : Around} {E : Value → Shared → Prop} {s : Shared}
theorem icat_tup0 {t b : Addr} {ws : List Value} {Q : Value → Shared → Prop} (ht : IsTup s.heap t ([] : List Value).toArray) (hb : IsTup s.heap b ws.toArray) (h : Q (.ref b) s) : wpAny (model prog w) A (inplaceOp .Add (.ref t) (.ref b)) Q E s := by
  obtain ⟨⟨cls, dd, data, sl⟩, ho, hc, n, hd⟩ := id ht
  obtain ⟨⟨cls2, dd2, data2, sl2⟩, ho2, hc2, n2, hd2⟩ := id hb
  simp only at hc hd hc2 hd2
  subst hc hd hc2 hd2
  exact iconcat_meets ⟨_, ho, rfl⟩ ⟨_, ho2, rfl⟩ noI_tuple_add noFill_tuple_add seq_tuple_add PySem.F.slot_tuple_add PySem.F.entry_tuple_add (PySem.F.args_tuple_add_2 _ _)
    (tuple_addW0 t b ([] : List Value).toArray ws.toArray n n2 dd dd2 sl sl2 (by simp)) ⟨ho, ho2, h⟩
theorem icat_tup {t b : Addr} {vs ws : List Value} {Q : Value → Shared → Prop} (ht : IsTup s.heap t vs.toArray) (hb : IsTup s.heap b ws.toArray) (hv : vs ≠ [])
    (h1 : ws = [] → Q (.ref t) s) (h2 : ws ≠ [] → Q (.ref s.heap.objs.size) { s with heap := s.heap.push { cls := .type "tuple", data := .seq (vs ++ ws).toArray } })
    (hsz : vs.length + ws.length ≤ sizeLine) : wpAny (model prog w) A (inplaceOp .Add (.ref t) (.ref b)) Q E s := by
  obtain ⟨⟨cls, dd, data, sl⟩, ho, hc, n, hd⟩ := id ht
  obtain ⟨⟨cls2, dd2, data2, sl2⟩, ho2, hc2, n2, hd2⟩ := id hb
  simp only at hc hd hc2 hd2
  subst hc hd hc2 hd2
  have e : vs.toArray ++ ws.toArray = (vs ++ ws).toArray := by simp
  by_cases hw : ws = []
  · exact iconcat_meets ⟨_, ho, rfl⟩ ⟨_, ho2, rfl⟩ noI_tuple_add noFill_tuple_add seq_tuple_add PySem.F.slot_tuple_add PySem.F.entry_tuple_add (PySem.F.args_tuple_add_2 _ _)
      (tuple_addW1 t b vs.toArray ws.toArray n n2 dd dd2 sl sl2 (by simpa using hv) (by simp [hw])) ⟨ho, ho2, h1 hw⟩
  · refine iconcat_meets ⟨_, ho, rfl⟩ ⟨_, ho2, rfl⟩ noI_tuple_add noFill_tuple_add seq_tuple_add PySem.F.slot_tuple_add PySem.F.entry_tuple_add (PySem.F.args_tuple_add_2 _ _)
      (tuple_addW2 t b vs.toArray ws.toArray n n2 dd dd2 sl sl2 (by simpa using hv) (by simpa using hw) (by rw [List.size_toArray, List.size_toArray]; exact hsz)) ⟨ho, ho2, ?_⟩
    rw [e]
    exact h2 hw
end
section
variable {X : Cx}
theorem iop_catA : OpR X (inplaceOp .Add) (rCatA X.K) := by
  intro pins s σ H x y v u Q I rx ry h
  obtain ⟨a, b, xs, ys, rfl, rfl, ha, hb, hz, q0, q1, q2⟩ := h
  cases rx
  cases ry
  obtain ⟨its, r1, p1, _⟩ := I.tuple ha
  obtain ⟨its2, r2, p2, _⟩ := I.tuple hb
  by_cases hx : xs = []
  · subst hx
    cases r1
    exact icat_tup0 p1 p2 ⟨.ref b, H, I, rfl, q0 rfl⟩
  · refine icat_tup p1 p2 (fun z => hx (r1.nil_iff.mp z)) (fun z => ⟨.ref a, H, I, rfl, q1 hx (r2.nil_iff.mp z)⟩) (fun z => ?_) (by rw [← r1.length, ← r2.length]; exact hz)
    refine ⟨.ref s.heap.objs.size, _, I.laid (t' := s.toks) (o := .tup (xs ++ ys)) (fun b ob q => Heap.get?_push_of_some _ q) (Nat.le_refl _) ?_, rfl, q2 hx (fun w => z (r2.nil_iff.mpr w)) _ (I.hok.fresh (Nat.le_refl _))⟩
    exact ⟨by rw [List.length_append]; exact hz, _, r1.append r2, IsTup.new _ _⟩
/-- a += b, tuples too -/
def fIAddA : F2 := fun a b S => match a, b with
  | .tup x, .tup y => if x.length + y.length ≤ sizeLine then some (.tup (x ++ y), S) else none
  | _, _ => fIAdd a b S
theorem ip_maddA : IpD X .Add fIAddA := by
  refine OpR.imp (iop_catA.or ip_madd) fun x y H Q h => ?_
  obtain ⟨ρ, S, a, b, d, S', s, ra, rb, e, q⟩ := h
  unfold fIAddA at e
  split at e
  · rename_i z w
    split at e
    · rename_i hl
      cases e
      obtain ⟨p, vs, rfl, h1, r1⟩ := ra.of_tup
      obtain ⟨p', vs', rfl, h2, r2⟩ := rb.of_tup
      have l1 := r1.length
      have l2 := r2.length
      refine .inl ⟨p, p', vs, vs', rfl, rfl, h1, h2, by omega, fun e => ?_, fun _ e => ?_, fun _ _ p n => ?_⟩
      · subst e
        have : z = [] := List.length_eq_zero_iff.mp (by simpa using l1.symm)
        subst this
        exact q _ _ _ (.refl s) (by simpa using rb)
      · subst e
        have : w = [] := List.length_eq_zero_iff.mp (by simpa using l2.symm)
        subst this
        exact q _ _ _ (.refl s) (by simpa using ra)
      · obtain ⟨g, r⟩ := newTup s (r1.append r2) n
        exact q _ _ _ g r
    · cases e
  · exact .inr ⟨ρ, S, a, b, d, S', s, ra, rb, e, q⟩
end
@[simp] theorem ev_iaddAI {S : Store} (i j : Int) : fIAddA (.int i) (.int j) S = some (.int (i + j), S) := id rfl
theorem ev_iaddAT {S : Store} {xs ys : List D} (hl : xs.length + ys.length ≤ 10000000) : fIAddA (.tup xs) (.tup ys) S = some (.tup (xs ++ ys), S) := by
  show (if xs.length + ys.length ≤ sizeLine then _ else none) = _
  rw [if_pos (Nat.le_trans hl sizeL)]
theorem ev_iaddAS {S : Store} (a b : List Nat) (h : a.length + b.length ≤ 1000000) : fIAddA (.str (TS a)) (.str (TS b)) S = some (.str (TS (a ++ b)), S) := by
  have : (TS a).length + (TS b).length ≤ sizeLine := by rw [ts_len, ts_len, sizeLine_eq]; omega
  show (if (TS a).length + (TS b).length ≤ sizeLine then some (D.str (TS a ++ TS b), S) else none) = _
  rw [if_pos this, ts_cat]

/-! ### == of lists -/
theorem ceq_lst {S : Store} {a b : D} {ds : List D} (ha : norm a S = some (.cl ds)) (hb : norm b S = some (.cl ds)) (hs : scalD a b = false) (ok : okDL 63 ds = true) (he : eqDL ds ds = true) : cEq a b S = some true := by
  unfold cEq
  rw [hs, if_neg Bool.false_ne_true, ha, ob_some, hb, ob_some]
  have h1 : okD 64 (.cl ds) = true := by unfold okD; exact ok
  have h2 : eqD (.cl ds) (.cl ds) = true := by unfold eqD; exact he
  rw [h1, h2]; rfl
theorem norm_ref {S : Store} {j : Nat} {ds : List D} (h : S[j]? = some (.lst ds)) : norm (.ref j) S = some (.cl ds) := by
  unfold norm
  simp only [h]
theorem okDL_strs (n : Nat) {xs : List Str} (h : ∀ x ∈ xs, PyData.strOk x = true) : okDL n (xs.map D.str) = true := by
  induction xs with
  | nil => rfl
  | cons x xs ih =>
    rw [List.map_cons, okDL, ih fun y hy => h y (List.mem_cons_of_mem _ hy)]
    cases n <;> simp [okD, h x List.mem_cons_self]
theorem eqDL_strs (xs : List Str) : eqDL (xs.map D.str) (xs.map D.str) = true := by
  induction xs with
  | nil => rfl
  | cons x xs ih =>
    rw [List.map_cons, eqDL, ih]
    unfold eqD
    simp
theorem ev_addCRk {S : Store} {i : Nat} {xs ys : List D} (h : S[i]? = some (.lst ys)) (hl : xs.length + ys.length ≤ 10000000) : fAdd (.cl xs) (.ref i) S = some (.ref S.length, S ++ [.lst (xs ++ ys)]) := by
  have : xs.length + ys.length ≤ sizeLine := Nat.le_trans hl sizeL
  unfold fAdd
  simp [lstOf, h, this]
theorem treeD_strs (n : Nat) (xs : List Str) (h : xs.length ≤ 1000000) : treeD (n + 1) (.tup (xs.map D.str)) = true := by
  have h2 : treeDL n (xs.map D.str) = true := by
    clear h
    induction xs with
    | nil => rfl
    | cons x xs ih => rw [List.map_cons, treeDL, ih]; cases n <;> rfl
  rw [treeD, h2, List.length_map]; simp [h]
theorem ev_inS1 {S : Store} (x y : Str) : cIn (.str x) (.tup [.str y]) S = some (y == x) := by
  show (if flatD (.str x) && [D.str y].all flatD then some ([D.str y].any fun z => eqD z (.str x)) else none) = _
  have : eqD (.str y) (.str x) = (y == x) := by unfold eqD; rfl
  simp [flatD, this]
@[simp] theorem ev_in0 {S : Store} (x : Str) : cIn (.str x) (.tup []) S = some false := by
  show (if flatD (.str x) && ([] : List D).all flatD then some (([] : List D).any fun z => eqD z (.str x)) else none) = _
  simp [flatD]
end PD

namespace K98
open PySem PySem.Spec PyProof.Rows L2 PD
def topS (i : Nat) : Stmt := PySem.Challenge.pw_pagehouse_k98_whole_outlines_and_branche.main.body.getD i (.Pass ⟨0, 0, 0, 0⟩)
abbrev s_names_in : Stmt := topS 1
abbrev N_names_in : List Str := ["branch", "found", "node"]
abbrev p_names_in : List Str := ["branch"]
abbrev s_rows_of : Stmt := topS 2
abbrev N_rows_of : List Str := ["branches", "shut", "found", "branch"]
abbrev p_rows_of : List Str := ["branches", "shut"]
abbrev s_add_rows : Stmt := topS 3
abbrev N_add_rows : List Str := ["branch", "level", "shut", "found", "mark", "node"]
abbrev p_add_rows : List Str := ["branch", "level", "shut", "found"]
abbrev s_ways_to : Stmt := topS 4
abbrev N_ways_to : List Str := ["branches", "name", "branch", "inner"]
abbrev p_ways_to : List Str := ["branches", "name"]
abbrev s_outline : Stmt := topS 6
abbrev N_outline : List Str := ["headings"]
abbrev p_outline : List Str := ["headings"]
abbrev s_grown : Stmt := topS 7
abbrev N_grown : List Str := ["headings", "start", "end", "found", "place", "following"]
abbrev p_grown : List Str := ["headings", "start", "end"]
abbrev s_parents : Stmt := topS 8
abbrev N_parents : List Str := ["headings", "found", "place", "level", "_", "ahead", "other"]
abbrev p_parents : List Str := ["headings"]
abbrev s_numbers : Stmt := topS 9
abbrev N_numbers : List Str := ["headings", "found", "above", "place", "parent", "elder", "other"]
abbrev p_numbers : List Str := ["headings"]
abbrev s_raised : Stmt := topS 10
abbrev N_raised : List Str := ["headings", "rows", "row", "_", "text"]
abbrev p_raised : List Str := ["headings"]
abbrev s_cut_at : Stmt := topS 11
abbrev N_cut_at : List Str := ["headings", "place", "level", "end"]
abbrev p_cut_at : List Str := ["headings", "place"]
abbrev s_l_box : Stmt := topS 13
abbrev N_l_box : List Str := ["script", "first", "last"]
abbrev p_l_box : List Str := ["script", "first", "last"]
abbrev s_l_digits : Stmt := topS 14
abbrev N_l_digits : List Str := ["script", "first", "last", "digits", "k", "cell", "turn", "seed"]
abbrev p_l_digits : List Str := ["script", "first", "last"]
abbrev s_l_cell : Stmt := topS 15
abbrev N_l_cell : List Str := ["script", "k"]
abbrev p_l_cell : List Str := ["script", "k"]
abbrev s_l_headings : Stmt := topS 16
abbrev N_l_headings : List Str := ["box", "most", "found", "k"]
abbrev p_l_headings : List Str := ["box", "most"]
abbrev s_l_draw : Stmt := topS 17
abbrev N_l_draw : List Str := ["box", "many", "at"]
abbrev p_l_draw : List Str := ["box", "many"]
abbrev s_l_same : Stmt := topS 18
abbrev N_l_same : List Str := ["actual", "expected", "k"]
abbrev p_l_same : List Str := ["actual", "expected"]
abbrev s_l_branches : Stmt := topS 19
abbrev N_l_branches : List Str := ["nodes", "place", "inner"]
abbrev p_l_branches : List Str := ["nodes"]
abbrev s_law : Stmt := topS 20
abbrev N_law : List Str := ["script", "box", "headings", "branches", "rows", "levels", "above", "k", "way", "at", "turn", "gone", "left", "j", "row", "names", "branch"]
abbrev p_law : List Str := ["script"]
inductive Ix where
  | names_in
  | rows_of
  | add_rows
  | ways_to
  | outline
  | grown
  | parents
  | numbers
  | raised
  | cut_at
  | l_box
  | l_digits
  | l_cell
  | l_headings
  | l_draw
  | l_same
  | l_branches
  | law
/-! ### what the defs mean -/
def L_names_in_1 (Φ : Ix → FL) : MS :=
  (sAug fIAddA 1 (mFn 1 (Φ .names_in) (mCons (mVar 2) mNil)))
def b_names_in (Φ : Ix → FL) : MS :=
  (sSeq (sAsg (mTup (mCons (m2 fIx (mVar 0) (mC (.int 0))) mNil)) (mgName 1))
  (sSeq (sFor (iSeq (m2 fIx (mVar 0) (mC (.int 1)))) (mgName 2) (L_names_in_1 Φ))
  (sRet (mVar 1))))
def L_rows_of_1 (Φ : Ix → FL) : MS :=
  (sExpr (mFn 4 (Φ .add_rows) (mCons (mVar 3) (mCons (mC (.int 0)) (mCons (mVar 1) (mCons (mVar 2) mNil))))))
def b_rows_of (Φ : Ix → FL) : MS :=
  (sSeq (sAsg (mNew (mLst mNil)) (mgName 2))
  (sSeq (sFor (iSeq (mVar 0)) (mgName 3) (L_rows_of_1 Φ))
  (sRet (mCall fTuple (mCons (mVar 2) mNil)))))
def L_add_rows_1 (Φ : Ix → FL) : MS :=
  (sExpr (mFn 4 (Φ .add_rows) (mCons (mVar 5) (mCons (m2 fAdd (mVar 1) (mC (.int 1))) (mCons (mVar 2) (mCons (mVar 3) mNil))))))
def b_add_rows (Φ : Ix → FL) : MS :=
  (sSeq (sAsg (mIf (mNot (mTru (m2 fIx (mVar 0) (mC (.int 1))))) (mC (.str "leaf")) (mIf (mCmp cIn (m2 fIx (mVar 0) (mC (.int 0))) (mVar 2)) (mC (.str "shut")) (mC (.str "open")))) (mgName 4))
  (sSeq (sExpr (mMeth "list" fAppend (mVar 3) (mCons (mTup (mCons (m2 fIx (mVar 0) (mC (.int 0))) (mCons (mVar 1) (mCons (mVar 4) mNil)))) mNil)))
  (sIf (mCmp cEq (mVar 4) (mC (.str "open"))) (sFor (iSeq (m2 fIx (mVar 0) (mC (.int 1)))) (mgName 5) (L_add_rows_1 Φ)) sPass)))
def L_ways_to_1 (Φ : Ix → FL) : MS :=
  (sSeq (sIf (mCmp cEq (m2 fIx (mVar 2) (mC (.int 0))) (mVar 1)) (sRet (mTup mNil)) sPass)
  (sSeq (sAsg (mFn 2 (Φ .ways_to) (mCons (m2 fIx (mVar 2) (mC (.int 1))) (mCons (mVar 1) mNil))) (mgName 3))
  (sIf (mCmp cIsNot (mVar 3) (mC .non)) (sRet (m2 fAdd (mTup (mCons (m2 fIx (mVar 2) (mC (.int 0))) mNil)) (mVar 3))) sPass)))
def b_ways_to (Φ : Ix → FL) : MS :=
  (sSeq (sFor (iSeq (mVar 0)) (mgName 2) (L_ways_to_1 Φ))
  (sRet (mC .non)))
def b_outline (Φ : Ix → FL) : MS :=
  (sRet (mCall fTuple (mCons (mFn 3 (Φ .grown) (mCons (mVar 0) (mCons (mC (.int 0)) (mCons (mCall fLen (mCons (mVar 0) mNil)) mNil)))) mNil)))
def L_grown_1 (Φ : Ix → FL) : MS :=
  (sAug fIAddA 5 (mC (.int 1)))
def L_grown_2 (Φ : Ix → FL) : MS :=
  (sSeq (sAsg (m2 fAdd (mVar 4) (mC (.int 1))) (mgName 5))
  (sSeq (sWhile (mAnd (mCmp cLtT (mVar 5) (mVar 2)) (mCmp cGtT (m2 fIx (m2 fIx (mVar 0) (mVar 5)) (mC (.int 0))) (m2 fIx (m2 fIx (mVar 0) (mVar 4)) (mC (.int 0))))) (L_grown_1 Φ))
  (sSeq (sExpr (mMeth "list" fAppend (mVar 3) (mCons (mTup (mCons (mVar 4) (mCons (mCall fTuple (mCons (mFn 3 (Φ .grown) (mCons (mVar 0) (mCons (m2 fAdd (mVar 4) (mC (.int 1))) (mCons (mVar 5) mNil)))) mNil)) mNil))) mNil)))
  (sAsg (mVar 5) (mgName 4)))))
def b_grown (Φ : Ix → FL) : MS :=
  (sSeq (sAsg (mNew (mLst mNil)) (mgName 3))
  (sSeq (sAsg (mVar 1) (mgName 4))
  (sSeq (sWhile (mCmp cLtT (mVar 4) (mVar 2)) (L_grown_2 Φ))
  (sRet (mVar 3)))))
def L_parents_1 (Φ : Ix → FL) : MS :=
  (sSeq (sAsg (mLc (iRange1 (mVar 2)) (mgName 6) (mCmp cLtT (m2 fIx (m2 fIx (mVar 0) (mVar 6)) (mC (.int 0))) (mVar 3)) (mVar 6) [6]) (mgName 5))
  (sExpr (mMeth "list" fAppend (mVar 1) (mCons (mIf (mTru (mVar 5)) (m2 fIx (mVar 5) (m1 fNeg (mC (.int 1)))) (mC .non)) mNil))))
def b_parents (Φ : Ix → FL) : MS :=
  (sSeq (sAsg (mNew (mLst mNil)) (mgName 1))
  (sSeq (sFor (iEnumM (mVar 0)) (mgTup 2 (mgCons (mgName 2) (mgCons (mgTup 2 (mgCons (mgName 3) (mgCons (mgName 4) mgNil))) mgNil))) (L_parents_1 Φ))
  (sRet (mCall fTuple (mCons (mVar 1) mNil)))))
def L_numbers_1 (Φ : Ix → FL) : MS :=
  (sSeq (sAsg (mCall fLen (mCons (mLcT (iRange1 (mVar 3)) (mgName 6) (mCmp cEq (m2 fIx (mVar 2) (mVar 6)) (mVar 4)) (mVar 6) [6]) mNil)) (mgName 5))
  (sExpr (mMeth "list" fAppend (mVar 1) (mCons (m2 fAdd (mIf (mCmp cIs (mVar 4) (mC .non)) (mTup mNil) (m2 fIx (mVar 1) (mVar 4))) (mTup (mCons (m2 fAdd (mVar 5) (mC (.int 1))) mNil))) mNil))))
def b_numbers (Φ : Ix → FL) : MS :=
  (sSeq (sAsg (mNew (mLst mNil)) (mgName 1))
  (sSeq (sAsg (mFn 1 (Φ .parents) (mCons (mVar 0) mNil)) (mgName 2))
  (sSeq (sFor (iEnumM (mVar 2)) (mgTup 2 (mgCons (mgName 3) (mgCons (mgName 4) mgNil))) (L_numbers_1 Φ))
  (sRet (mCall fTuple (mCons (mVar 1) mNil))))))
def b_raised (Φ : Ix → FL) : MS :=
  (sSeq (sAsg (mFn 1 (Φ .numbers) (mCons (mVar 0) mNil)) (mgName 1))
  (sRet (mTupG (iZip (mVar 1) (mVar 0)) (mgTup 2 (mgCons (mgName 2) (mgCons (mgTup 2 (mgCons (mgName 3) (mgCons (mgName 4) mgNil))) mgNil))) mYes (mTup (mCons (mCall fLen (mCons (mVar 2) mNil)) (mCons (mVar 4) mNil))) [2, 3, 4])))
def L_cut_at_1 (Φ : Ix → FL) : MS :=
  (sAug fIAddA 3 (mC (.int 1)))
def b_cut_at (Φ : Ix → FL) : MS :=
  (sSeq (sAsg (m2 fIx (m2 fIx (mVar 0) (mVar 1)) (mC (.int 0))) (mgName 2))
  (sSeq (sAsg (m2 fAdd (mVar 1) (mC (.int 1))) (mgName 3))
  (sSeq (sWhile (mAnd (mCmp cLtT (mVar 3) (mCall fLen (mCons (mVar 0) mNil))) (mCmp cGtT (m2 fIx (m2 fIx (mVar 0) (mVar 3)) (mC (.int 0))) (mVar 2))) (L_cut_at_1 Φ))
  (sRet (mTupRg (iRange2 (mVar 1) (mVar 3)))))))
def b_l_box (Φ : Ix → FL) : MS :=
  (sRet (mNew (mLst (mCons (mFn 3 (Φ .l_digits) (mCons (mVar 0) (mCons (mVar 1) (mCons (mVar 2) mNil)))) (mCons (mC (.int 0)) (mCons (mC (.int 0)) (mCons (mC (.int 0)) (mCons (mC (.int 0)) (mCons (mNew (mLst mNil)) mNil)))))))))
def b_l_digits (Φ : Ix → FL) : MS :=
  (sSeq (sAsg (mNew (mLst mNil)) (mgName 3))
  (sSeq (sFor (iRange2 (mVar 1) (mVar 2)) (mgName 4) (sSeq (sAsg (mFn 2 (Φ .l_cell) (mCons (mVar 0) (mCons (mVar 4) mNil))) (mgName 5))
  (sSeq (sIf (mCmp cLtT (mVar 5) (mC (.int 0))) (sAsg (m2 fSub (mC (.int 1)) (m2 fMul (mC (.int 2)) (mVar 5))) (mgName 5)) sPass)
  (sIf (mCmp cGeT (mVar 5) (m2 fPow (mC (.int 10)) (mC (.int 18)))) (sFor (iRange1 (mC (.int 60))) (mgName 6) (sIf (mCmp cGtT (mVar 5) (mC (.int 0))) (sSeq (sExpr (mMeth "list" fAppend (mVar 3) (mCons (m2 fMod (mCall fInt (mCons (mVar 5) mNil)) (mC (.int 1000))) mNil)))
  (sAsg (m2 fDiv (mVar 5) (mC (.int 1000))) (mgName 5))) sPass)) (sSeq (sAsg (m2 fMod (mCall fInt (mCons (m2 fAddT (m2 fAddT (m2 fMul (mVar 5) (mC (.int 48271))) (m2 fMul (mVar 4) (mC (.int 69621)))) (mC (.int 11))) mNil)) (mC (.int 2147483647))) (mgName 7))
  (sFor (iRange1 (mC (.int 12))) (mgName 6) (sSeq (sAsg (m2 fMod (mCall fInt (mCons (m2 fAddT (m2 fAddT (m2 fMul (mVar 7) (mC (.int 16807))) (m2 fMul (mC (.int 7)) (mVar 6))) (mC (.int 1))) mNil)) (mC (.int 2147483647))) (mgName 7))
  (sExpr (mMeth "list" fAppend (mVar 3) (mCons (m2 fMod (mCall fInt (mCons (m2 fDiv (mVar 7) (mC (.int 997))) mNil)) (mC (.int 1000))) mNil))))))))))
  (sRet (mVar 3))))
def b_l_cell (Φ : Ix → FL) : MS :=
  (sSeq (sIf (mCmp cLtT (mVar 1) (mCall fLen (mCons (mVar 0) mNil))) (sRet (m2 fIx (mVar 0) (mVar 1))) sPass)
  (sRet (mC (.int 0))))
def L_l_headings_1 (Φ : Ix → FL) : MS :=
  (sExpr (mMeth "list" fAppend (mVar 2) (mCons (mTup (mCons (m2 fAdd (mC (.int 1)) (mFn 2 (Φ .l_draw) (mCons (mVar 0) (mCons (mC (.int 4)) mNil)))) (mCons (m2 fIx (mTmp (mLst (mCons (mC (.str "One")) (mCons (mC (.str "two b")) (mCons (mC (.str "One!")) (mCons (mC (.str "")) (mCons (mC (.str "T-3")) mNil))))))) (mFn 2 (Φ .l_draw) (mCons (mVar 0) (mCons (mC (.int 5)) mNil)))) mNil))) mNil)))
def b_l_headings (Φ : Ix → FL) : MS :=
  (sSeq (sAsg (mNew (mLst mNil)) (mgName 2))
  (sSeq (sFor (iRange1 (mFn 2 (Φ .l_draw) (mCons (mVar 0) (mCons (m2 fAdd (mVar 1) (mC (.int 1))) mNil)))) (mgName 3) (L_l_headings_1 Φ))
  (sRet (mCall fTuple (mCons (mVar 2) mNil)))))
def b_l_draw (Φ : Ix → FL) : MS :=
  (sSeq (sAsg (m2 fIx (mVar 0) (mC (.int 1))) (mgName 2))
  (sSeq (sAsg (m2 fAdd (mVar 2) (mC (.int 1))) (mgSub (mVar 0) (mC (.int 1))))
  (sSeq (sIf (mCmp cLtT (mVar 2) (mCall fLen (mCons (m2 fIx (mVar 0) (mC (.int 0))) mNil))) (sRet (m2 fMod (mCall fInt (mCons (m2 fIx (m2 fIx (mVar 0) (mC (.int 0))) (mVar 2)) mNil)) (mVar 1))) sPass)
  (sRet (mC (.int 0))))))
def b_l_same (Φ : Ix → FL) : MS :=
  (sSeq (sIf (mTru (mIsi "tuple" (mVar 1))) (sSeq (sIf (mOr (mNot (mTru (mIsi "tuple" (mVar 0)))) (mCmp cNe (mCall fLen (mCons (mVar 0) mNil)) (mCall fLen (mCons (mVar 1) mNil)))) (sRet (mC (.bl false))) sPass)
  (sSeq (sFor (iRange1 (mCall fLen (mCons (mVar 1) mNil))) (mgName 2) (sIf (mNot (mTru (mFn 2 (Φ .l_same) (mCons (m2 fIx (mVar 0) (mVar 2)) (mCons (m2 fIx (mVar 1) (mVar 2)) mNil))))) (sRet (mC (.bl false))) sPass))
  (sRet (mC (.bl true))))) sPass)
  (sSeq (sIf (mCmp cIs (mVar 1) (mC .non)) (sRet (mBl (mCmp cIs (mVar 0) (mC .non)))) sPass)
  (sSeq (sIf (mTru (mIsi "bool" (mVar 1))) (sRet (mAndV (mIsi "bool" (mVar 0)) (mBl (mCmp cEq (mVar 0) (mVar 1))))) sPass)
  (sSeq (sIf (mTru (mIsi "int" (mVar 1))) (sRet (mAndV (mIsi "int" (mVar 0)) (mAndV (mNotV (mIsi "bool" (mVar 0))) (mBl (mCmp cEq (mVar 0) (mVar 1)))))) sPass)
  (sRet (mAndV (mIsi "str" (mVar 0)) (mBl (mCmp cEq (mVar 0) (mVar 1)))))))))
def b_l_branches (Φ : Ix → FL) : MS :=
  (sRet (mCall fTuple (mCons (mLcT (iSeq (mVar 0)) (mgTup 2 (mgCons (mgName 1) (mgCons (mgName 2) mgNil))) mYes (mTup (mCons (m2 fAdd (mC (.str "h")) (mCall fStr (mCons (mVar 1) mNil))) (mCons (mFn 1 (Φ .l_branches) (mCons (mVar 2) mNil)) mNil))) [1, 2]) mNil)))
def L_law_1 (Φ : Ix → FL) : MS :=
  (sIf (mCmp cIsNot (mVar 9) (mC .non)) (sSeq (sAsg (m2 fAdd (mTmp (mLst (mCons (m2 fAdd (mC (.str "h")) (mCall fStr (mCons (mVar 9) mNil))) mNil))) (mVar 8)) (mgName 8))
  (sAsg (m2 fIx (mVar 6) (mVar 9)) (mgName 9))) sPass)
def L_law_2 (Φ : Ix → FL) : MS :=
  (sSeq (sIf (mOr (mCmp cNe (m2 fIx (m2 fIx (mVar 4) (mVar 7)) (mC (.int 0))) (m2 fAddT (mC (.str "h")) (mCall fStr (mCons (mVar 7) mNil)))) (mCmp cNe (m2 fAddT (m2 fIx (m2 fIx (mVar 4) (mVar 7)) (mC (.int 1))) (mC (.int 1))) (m2 fIx (m2 fIx (mVar 5) (mVar 7)) (mC (.int 0))))) (sRet (mC (.bl false))) sPass)
  (sSeq (sAsg (mNew (mLst mNil)) (mgName 8))
  (sSeq (sAsg (m2 fIx (mVar 6) (mVar 7)) (mgName 9))
  (sSeq (sFor (iRange1 (mCall fLen (mCons (mVar 2) mNil))) (mgName 10) (L_law_1 Φ))
  (sSeq (sIf (mNot (mTru (mFn 2 (Φ .l_same) (mCons (mFn 2 (Φ .ways_to) (mCons (mVar 3) (mCons (m2 fAdd (mC (.str "h")) (mCall fStr (mCons (mVar 7) mNil))) mNil))) (mCons (mCall fTuple (mCons (mVar 8) mNil)) mNil))))) (sRet (mC (.bl false))) sPass)
  (sIf (mCmp cNe (mBl (mCmp cEq (m2 fIx (m2 fIx (mVar 4) (mVar 7)) (mC (.int 2))) (mC (.str "leaf")))) (mBl (mCmp cEq (mCall fLen (mCons (mFn 2 (Φ .cut_at) (mCons (mVar 2) (mCons (mVar 7) mNil))) mNil)) (mC (.int 1))))) (sRet (mC (.bl false))) sPass))))))
def L_law_3 (Φ : Ix → FL) : MS :=
  (sAsg (m2 fAdd (mVar 15) (mTmp (mCallN fList (mCons (mFn 1 (Φ .names_in) (mCons (mVar 16) mNil)) mNil)))) (mgName 15))
def b_law (Φ : Ix → FL) : MS :=
  (sSeq (sAsg (mFn 3 (Φ .l_box) (mCons (mVar 0) (mCons (mC (.int 0)) (mCons (mC (.int 62)) mNil)))) (mgName 1))
  (sSeq (sAsg (mFn 2 (Φ .l_headings) (mCons (mVar 1) (mCons (mC (.int 9)) mNil))) (mgName 2))
  (sSeq (sAsg (mFn 1 (Φ .l_branches) (mCons (mFn 1 (Φ .outline) (mCons (mVar 2) mNil)) mNil)) (mgName 3))
  (sSeq (sAsg (mFn 2 (Φ .rows_of) (mCons (mVar 3) (mCons (mTup mNil) mNil))) (mgName 4))
  (sSeq (sAsg (mFn 1 (Φ .raised) (mCons (mVar 2) mNil)) (mgName 5))
  (sSeq (sIf (mCmp cNe (mCall fLen (mCons (mVar 4) mNil)) (mCall fLen (mCons (mVar 2) mNil))) (sRet (mC (.bl false))) sPass)
  (sSeq (sAsg (mFn 1 (Φ .parents) (mCons (mVar 2) mNil)) (mgName 6))
  (sSeq (sFor (iRange1 (mCall fLen (mCons (mVar 2) mNil))) (mgName 7) (L_law_2 Φ))
  (sSeq (sIf (mCmp cGtT (mCall fLen (mCons (mVar 2) mNil)) (mC (.int 0))) (sSeq (sAsg (mFn 2 (Φ .l_draw) (mCons (mVar 1) (mCons (mCall fLen (mCons (mVar 2) mNil)) mNil))) (mgName 7))
  (sSeq (sAsg (mCutG fCutK (mFn 2 (Φ .cut_at) (mCons (mVar 2) (mCons (mVar 7) mNil))) (mPart (mC (.int 1))) mNoPart) (mgName 11))
  (sSeq (sAsg (mLc (iRange1 (mCall fLen (mCons (mVar 2) mNil))) (mgName 13) (mCmp cNotIn (mVar 13) (mVar 11)) (m2 fAdd (mC (.str "h")) (mCall fStr (mCons (mVar 13) mNil))) [13]) (mgName 12))
  (sIf (mCmp cNe (mLcT (iSeq (mFn 2 (Φ .rows_of) (mCons (mVar 3) (mCons (mTup (mCons (m2 fAdd (mC (.str "h")) (mCall fStr (mCons (mVar 7) mNil))) mNil)) mNil)))) (mgName 14) mYes (m2 fIx (mVar 14) (mC (.int 0))) [14]) (mVar 12)) (sRet (mC (.bl false))) sPass)))) sPass)
  (sSeq (sAsg (mNew (mLst mNil)) (mgName 15))
  (sSeq (sFor (iSeq (mVar 3)) (mgName 16) (L_law_3 Φ))
  (sRet (mBl (mCmp cEq (mVar 15) (mLcT (iRange1 (mCall fLen (mCons (mVar 2) mNil))) (mgName 7) mYes (m2 fAdd (mC (.str "h")) (mCall fStr (mCons (mVar 7) mNil))) [7])))))))))))))))
def Phi : Nat → Ix → FL
  | 0, _ => fun _ _ => none
  | k + 1, .names_in => runBody 1 3 (b_names_in (Phi k))
  | k + 1, .rows_of => runBody 2 4 (b_rows_of (Phi k))
  | k + 1, .add_rows => runBody 4 6 (b_add_rows (Phi k))
  | k + 1, .ways_to => runBody 2 4 (b_ways_to (Phi k))
  | k + 1, .outline => runBody 1 1 (b_outline (Phi k))
  | k + 1, .grown => runBody 3 6 (b_grown (Phi k))
  | k + 1, .parents => runBody 1 7 (b_parents (Phi k))
  | k + 1, .numbers => runBody 1 7 (b_numbers (Phi k))
  | k + 1, .raised => runBody 1 5 (b_raised (Phi k))
  | k + 1, .cut_at => runBody 2 4 (b_cut_at (Phi k))
  | k + 1, .l_box => runBody 3 3 (b_l_box (Phi k))
  | k + 1, .l_digits => runBody 3 8 (b_l_digits (Phi k))
  | k + 1, .l_cell => runBody 2 2 (b_l_cell (Phi k))
  | k + 1, .l_headings => runBody 2 4 (b_l_headings (Phi k))
  | k + 1, .l_draw => runBody 2 3 (b_l_draw (Phi k))
  | k + 1, .l_same => runBody 2 3 (b_l_same (Phi k))
  | k + 1, .l_branches => runBody 1 3 (b_l_branches (Phi k))
  | k + 1, .law => runBody 1 17 (b_law (Phi k))
@[simp] theorem q_0_1 : (("leaf" : Str) == ("open" : Str)) = false := by decide +kernel
@[simp] theorem r_0_1 : (("leaf" : Str) = ("open" : Str)) = False := eq_false (ne_of_beq_false q_0_1)
@[simp] theorem q_0_2 : (("leaf" : Str) == ("shut" : Str)) = false := by decide +kernel
@[simp] theorem r_0_2 : (("leaf" : Str) = ("shut" : Str)) = False := eq_false (ne_of_beq_false q_0_2)
@[simp] theorem q_0_3 : (("leaf" : Str) == ("One" : Str)) = false := by decide +kernel
@[simp] theorem r_0_3 : (("leaf" : Str) = ("One" : Str)) = False := eq_false (ne_of_beq_false q_0_3)
@[simp] theorem q_0_4 : (("leaf" : Str) == ("two b" : Str)) = false := by decide +kernel
@[simp] theorem r_0_4 : (("leaf" : Str) = ("two b" : Str)) = False := eq_false (ne_of_beq_false q_0_4)
@[simp] theorem q_0_5 : (("leaf" : Str) == ("One!" : Str)) = false := by decide +kernel
@[simp] theorem r_0_5 : (("leaf" : Str) = ("One!" : Str)) = False := eq_false (ne_of_beq_false q_0_5)
@[simp] theorem q_0_6 : (("leaf" : Str) == ("" : Str)) = false := by decide +kernel
@[simp] theorem r_0_6 : (("leaf" : Str) = ("" : Str)) = False := eq_false (ne_of_beq_false q_0_6)
@[simp] theorem q_0_7 : (("leaf" : Str) == ("T-3" : Str)) = false := by decide +kernel
@[simp] theorem r_0_7 : (("leaf" : Str) = ("T-3" : Str)) = False := eq_false (ne_of_beq_false q_0_7)
@[simp] theorem q_0_8 : (("leaf" : Str) == ("h" : Str)) = false := by decide +kernel
@[simp] theorem r_0_8 : (("leaf" : Str) = ("h" : Str)) = False := eq_false (ne_of_beq_false q_0_8)
@[simp] theorem q_1_0 : (("open" : Str) == ("leaf" : Str)) = false := by decide +kernel
@[simp] theorem r_1_0 : (("open" : Str) = ("leaf" : Str)) = False := eq_false (ne_of_beq_false q_1_0)
@[simp] theorem q_1_2 : (("open" : Str) == ("shut" : Str)) = false := by decide +kernel
@[simp] theorem r_1_2 : (("open" : Str) = ("shut" : Str)) = False := eq_false (ne_of_beq_false q_1_2)
@[simp] theorem q_1_3 : (("open" : Str) == ("One" : Str)) = false := by decide +kernel
@[simp] theorem r_1_3 : (("open" : Str) = ("One" : Str)) = False := eq_false (ne_of_beq_false q_1_3)
@[simp] theorem q_1_4 : (("open" : Str) == ("two b" : Str)) = false := by decide +kernel
@[simp] theorem r_1_4 : (("open" : Str) = ("two b" : Str)) = False := eq_false (ne_of_beq_false q_1_4)
@[simp] theorem q_1_5 : (("open" : Str) == ("One!" : Str)) = false := by decide +kernel
@[simp] theorem r_1_5 : (("open" : Str) = ("One!" : Str)) = False := eq_false (ne_of_beq_false q_1_5)
@[simp] theorem q_1_6 : (("open" : Str) == ("" : Str)) = false := by decide +kernel
@[simp] theorem r_1_6 : (("open" : Str) = ("" : Str)) = False := eq_false (ne_of_beq_false q_1_6)
@[simp] theorem q_1_7 : (("open" : Str) == ("T-3" : Str)) = false := by decide +kernel
@[simp] theorem r_1_7 : (("open" : Str) = ("T-3" : Str)) = False := eq_false (ne_of_beq_false q_1_7)
@[simp] theorem q_1_8 : (("open" : Str) == ("h" : Str)) = false := by decide +kernel
@[simp] theorem r_1_8 : (("open" : Str) = ("h" : Str)) = False := eq_false (ne_of_beq_false q_1_8)
@[simp] theorem q_2_0 : (("shut" : Str) == ("leaf" : Str)) = false := by decide +kernel
@[simp] theorem r_2_0 : (("shut" : Str) = ("leaf" : Str)) = False := eq_false (ne_of_beq_false q_2_0)
@[simp] theorem q_2_1 : (("shut" : Str) == ("open" : Str)) = false := by decide +kernel
@[simp] theorem r_2_1 : (("shut" : Str) = ("open" : Str)) = False := eq_false (ne_of_beq_false q_2_1)
@[simp] theorem q_2_3 : (("shut" : Str) == ("One" : Str)) = false := by decide +kernel
@[simp] theorem r_2_3 : (("shut" : Str) = ("One" : Str)) = False := eq_false (ne_of_beq_false q_2_3)
@[simp] theorem q_2_4 : (("shut" : Str) == ("two b" : Str)) = false := by decide +kernel
@[simp] theorem r_2_4 : (("shut" : Str) = ("two b" : Str)) = False := eq_false (ne_of_beq_false q_2_4)
@[simp] theorem q_2_5 : (("shut" : Str) == ("One!" : Str)) = false := by decide +kernel
@[simp] theorem r_2_5 : (("shut" : Str) = ("One!" : Str)) = False := eq_false (ne_of_beq_false q_2_5)
@[simp] theorem q_2_6 : (("shut" : Str) == ("" : Str)) = false := by decide +kernel
@[simp] theorem r_2_6 : (("shut" : Str) = ("" : Str)) = False := eq_false (ne_of_beq_false q_2_6)
@[simp] theorem q_2_7 : (("shut" : Str) == ("T-3" : Str)) = false := by decide +kernel
@[simp] theorem r_2_7 : (("shut" : Str) = ("T-3" : Str)) = False := eq_false (ne_of_beq_false q_2_7)
@[simp] theorem q_2_8 : (("shut" : Str) == ("h" : Str)) = false := by decide +kernel
@[simp] theorem r_2_8 : (("shut" : Str) = ("h" : Str)) = False := eq_false (ne_of_beq_false q_2_8)
@[simp] theorem q_3_0 : (("One" : Str) == ("leaf" : Str)) = false := by decide +kernel
@[simp] theorem r_3_0 : (("One" : Str) = ("leaf" : Str)) = False := eq_false (ne_of_beq_false q_3_0)
@[simp] theorem q_3_1 : (("One" : Str) == ("open" : Str)) = false := by decide +kernel
@[simp] theorem r_3_1 : (("One" : Str) = ("open" : Str)) = False := eq_false (ne_of_beq_false q_3_1)
@[simp] theorem q_3_2 : (("One" : Str) == ("shut" : Str)) = false := by decide +kernel
@[simp] theorem r_3_2 : (("One" : Str) = ("shut" : Str)) = False := eq_false (ne_of_beq_false q_3_2)
@[simp] theorem q_3_4 : (("One" : Str) == ("two b" : Str)) = false := by decide +kernel
@[simp] theorem r_3_4 : (("One" : Str) = ("two b" : Str)) = False := eq_false (ne_of_beq_false q_3_4)
@[simp] theorem q_3_5 : (("One" : Str) == ("One!" : Str)) = false := by decide +kernel
@[simp] theorem r_3_5 : (("One" : Str) = ("One!" : Str)) = False := eq_false (ne_of_beq_false q_3_5)
@[simp] theorem q_3_6 : (("One" : Str) == ("" : Str)) = false := by decide +kernel
@[simp] theorem r_3_6 : (("One" : Str) = ("" : Str)) = False := eq_false (ne_of_beq_false q_3_6)
@[simp] theorem q_3_7 : (("One" : Str) == ("T-3" : Str)) = false := by decide +kernel
@[simp] theorem r_3_7 : (("One" : Str) = ("T-3" : Str)) = False := eq_false (ne_of_beq_false q_3_7)
@[simp] theorem q_3_8 : (("One" : Str) == ("h" : Str)) = false := by decide +kernel
@[simp] theorem r_3_8 : (("One" : Str) = ("h" : Str)) = False := eq_false (ne_of_beq_false q_3_8)
@[simp] theorem q_4_0 : (("two b" : Str) == ("leaf" : Str)) = false := by decide +kernel
@[simp] theorem r_4_0 : (("two b" : Str) = ("leaf" : Str)) = False := eq_false (ne_of_beq_false q_4_0)
@[simp] theorem q_4_1 : (("two b" : Str) == ("open" : Str)) = false := by decide +kernel
@[simp] theorem r_4_1 : (("two b" : Str) = ("open" : Str)) = False := eq_false (ne_of_beq_false q_4_1)
@[simp] theorem q_4_2 : (("two b" : Str) == ("shut" : Str)) = false := by decide +kernel
@[simp] theorem r_4_2 : (("two b" : Str) = ("shut" : Str)) = False := eq_false (ne_of_beq_false q_4_2)
@[simp] theorem q_4_3 : (("two b" : Str) == ("One" : Str)) = false := by decide +kernel
@[simp] theorem r_4_3 : (("two b" : Str) = ("One" : Str)) = False := eq_false (ne_of_beq_false q_4_3)
@[simp] theorem q_4_5 : (("two b" : Str) == ("One!" : Str)) = false := by decide +kernel
@[simp] theorem r_4_5 : (("two b" : Str) = ("One!" : Str)) = False := eq_false (ne_of_beq_false q_4_5)
@[simp] theorem q_4_6 : (("two b" : Str) == ("" : Str)) = false := by decide +kernel
@[simp] theorem r_4_6 : (("two b" : Str) = ("" : Str)) = False := eq_false (ne_of_beq_false q_4_6)
@[simp] theorem q_4_7 : (("two b" : Str) == ("T-3" : Str)) = false := by decide +kernel
@[simp] theorem r_4_7 : (("two b" : Str) = ("T-3" : Str)) = False := eq_false (ne_of_beq_false q_4_7)
@[simp] theorem q_4_8 : (("two b" : Str) == ("h" : Str)) = false := by decide +kernel
@[simp] theorem r_4_8 : (("two b" : Str) = ("h" : Str)) = False := eq_false (ne_of_beq_false q_4_8)
@[simp] theorem q_5_0 : (("One!" : Str) == ("leaf" : Str)) = false := by decide +kernel
@[simp] theorem r_5_0 : (("One!" : Str) = ("leaf" : Str)) = False := eq_false (ne_of_beq_false q_5_0)
@[simp] theorem q_5_1 : (("One!" : Str) == ("open" : Str)) = false := by decide +kernel
@[simp] theorem r_5_1 : (("One!" : Str) = ("open" : Str)) = False := eq_false (ne_of_beq_false q_5_1)
@[simp] theorem q_5_2 : (("One!" : Str) == ("shut" : Str)) = false := by decide +kernel
@[simp] theorem r_5_2 : (("One!" : Str) = ("shut" : Str)) = False := eq_false (ne_of_beq_false q_5_2)
@[simp] theorem q_5_3 : (("One!" : Str) == ("One" : Str)) = false := by decide +kernel
@[simp] theorem r_5_3 : (("One!" : Str) = ("One" : Str)) = False := eq_false (ne_of_beq_false q_5_3)
@[simp] theorem q_5_4 : (("One!" : Str) == ("two b" : Str)) = false := by decide +kernel
@[simp] theorem r_5_4 : (("One!" : Str) = ("two b" : Str)) = False := eq_false (ne_of_beq_false q_5_4)
@[simp] theorem q_5_6 : (("One!" : Str) == ("" : Str)) = false := by decide +kernel
@[simp] theorem r_5_6 : (("One!" : Str) = ("" : Str)) = False := eq_false (ne_of_beq_false q_5_6)
@[simp] theorem q_5_7 : (("One!" : Str) == ("T-3" : Str)) = false := by decide +kernel
@[simp] theorem r_5_7 : (("One!" : Str) = ("T-3" : Str)) = False := eq_false (ne_of_beq_false q_5_7)
@[simp] theorem q_5_8 : (("One!" : Str) == ("h" : Str)) = false := by decide +kernel
@[simp] theorem r_5_8 : (("One!" : Str) = ("h" : Str)) = False := eq_false (ne_of_beq_false q_5_8)
@[simp] theorem q_6_0 : (("" : Str) == ("leaf" : Str)) = false := by decide +kernel
@[simp] theorem r_6_0 : (("" : Str) = ("leaf" : Str)) = False := eq_false (ne_of_beq_false q_6_0)
@[simp] theorem q_6_1 : (("" : Str) == ("open" : Str)) = false := by decide +kernel
@[simp] theorem r_6_1 : (("" : Str) = ("open" : Str)) = False := eq_false (ne_of_beq_false q_6_1)
@[simp] theorem q_6_2 : (("" : Str) == ("shut" : Str)) = false := by decide +kernel
@[simp] theorem r_6_2 : (("" : Str) = ("shut" : Str)) = False := eq_false (ne_of_beq_false q_6_2)
@[simp] theorem q_6_3 : (("" : Str) == ("One" : Str)) = false := by decide +kernel
@[simp] theorem r_6_3 : (("" : Str) = ("One" : Str)) = False := eq_false (ne_of_beq_false q_6_3)
@[simp] theorem q_6_4 : (("" : Str) == ("two b" : Str)) = false := by decide +kernel
@[simp] theorem r_6_4 : (("" : Str) = ("two b" : Str)) = False := eq_false (ne_of_beq_false q_6_4)
@[simp] theorem q_6_5 : (("" : Str) == ("One!" : Str)) = false := by decide +kernel
@[simp] theorem r_6_5 : (("" : Str) = ("One!" : Str)) = False := eq_false (ne_of_beq_false q_6_5)
@[simp] theorem q_6_7 : (("" : Str) == ("T-3" : Str)) = false := by decide +kernel
@[simp] theorem r_6_7 : (("" : Str) = ("T-3" : Str)) = False := eq_false (ne_of_beq_false q_6_7)
@[simp] theorem q_6_8 : (("" : Str) == ("h" : Str)) = false := by decide +kernel
@[simp] theorem r_6_8 : (("" : Str) = ("h" : Str)) = False := eq_false (ne_of_beq_false q_6_8)
@[simp] theorem q_7_0 : (("T-3" : Str) == ("leaf" : Str)) = false := by decide +kernel
@[simp] theorem r_7_0 : (("T-3" : Str) = ("leaf" : Str)) = False := eq_false (ne_of_beq_false q_7_0)
@[simp] theorem q_7_1 : (("T-3" : Str) == ("open" : Str)) = false := by decide +kernel
@[simp] theorem r_7_1 : (("T-3" : Str) = ("open" : Str)) = False := eq_false (ne_of_beq_false q_7_1)
@[simp] theorem q_7_2 : (("T-3" : Str) == ("shut" : Str)) = false := by decide +kernel
@[simp] theorem r_7_2 : (("T-3" : Str) = ("shut" : Str)) = False := eq_false (ne_of_beq_false q_7_2)
@[simp] theorem q_7_3 : (("T-3" : Str) == ("One" : Str)) = false := by decide +kernel
@[simp] theorem r_7_3 : (("T-3" : Str) = ("One" : Str)) = False := eq_false (ne_of_beq_false q_7_3)
@[simp] theorem q_7_4 : (("T-3" : Str) == ("two b" : Str)) = false := by decide +kernel
@[simp] theorem r_7_4 : (("T-3" : Str) = ("two b" : Str)) = False := eq_false (ne_of_beq_false q_7_4)
@[simp] theorem q_7_5 : (("T-3" : Str) == ("One!" : Str)) = false := by decide +kernel
@[simp] theorem r_7_5 : (("T-3" : Str) = ("One!" : Str)) = False := eq_false (ne_of_beq_false q_7_5)
@[simp] theorem q_7_6 : (("T-3" : Str) == ("" : Str)) = false := by decide +kernel
@[simp] theorem r_7_6 : (("T-3" : Str) = ("" : Str)) = False := eq_false (ne_of_beq_false q_7_6)
@[simp] theorem q_7_8 : (("T-3" : Str) == ("h" : Str)) = false := by decide +kernel
@[simp] theorem r_7_8 : (("T-3" : Str) = ("h" : Str)) = False := eq_false (ne_of_beq_false q_7_8)
@[simp] theorem q_8_0 : (("h" : Str) == ("leaf" : Str)) = false := by decide +kernel
@[simp] theorem r_8_0 : (("h" : Str) = ("leaf" : Str)) = False := eq_false (ne_of_beq_false q_8_0)
@[simp] theorem q_8_1 : (("h" : Str) == ("open" : Str)) = false := by decide +kernel
@[simp] theorem r_8_1 : (("h" : Str) = ("open" : Str)) = False := eq_false (ne_of_beq_false q_8_1)
@[simp] theorem q_8_2 : (("h" : Str) == ("shut" : Str)) = false := by decide +kernel
@[simp] theorem r_8_2 : (("h" : Str) = ("shut" : Str)) = False := eq_false (ne_of_beq_false q_8_2)
@[simp] theorem q_8_3 : (("h" : Str) == ("One" : Str)) = false := by decide +kernel
@[simp] theorem r_8_3 : (("h" : Str) = ("One" : Str)) = False := eq_false (ne_of_beq_false q_8_3)
@[simp] theorem q_8_4 : (("h" : Str) == ("two b" : Str)) = false := by decide +kernel
@[simp] theorem r_8_4 : (("h" : Str) = ("two b" : Str)) = False := eq_false (ne_of_beq_false q_8_4)
@[simp] theorem q_8_5 : (("h" : Str) == ("One!" : Str)) = false := by decide +kernel
@[simp] theorem r_8_5 : (("h" : Str) = ("One!" : Str)) = False := eq_false (ne_of_beq_false q_8_5)
@[simp] theorem q_8_6 : (("h" : Str) == ("" : Str)) = false := by decide +kernel
@[simp] theorem r_8_6 : (("h" : Str) = ("" : Str)) = False := eq_false (ne_of_beq_false q_8_6)
@[simp] theorem q_8_7 : (("h" : Str) == ("T-3" : Str)) = false := by decide +kernel
@[simp] theorem r_8_7 : (("h" : Str) = ("T-3" : Str)) = False := eq_false (ne_of_beq_false q_8_7)
structure V_names_in where
  branch : Option D := none
  found : Option D := none
  node : Option D := none
def V_names_in.env (v : V_names_in) : DEnv := [v.branch, v.found, v.node]
@[simp high] theorem V_names_in.g_branch (v : V_names_in) : v.env[0]? = some v.branch := id rfl
@[simp high] theorem V_names_in.s_branch (v : V_names_in) (x : Option D) : v.env.set 0 x = V_names_in.env { v with branch := x } := id rfl
@[simp high] theorem V_names_in.g_found (v : V_names_in) : v.env[1]? = some v.found := id rfl
@[simp high] theorem V_names_in.s_found (v : V_names_in) (x : Option D) : v.env.set 1 x = V_names_in.env { v with found := x } := id rfl
@[simp high] theorem V_names_in.g_node (v : V_names_in) : v.env[2]? = some v.node := id rfl
@[simp high] theorem V_names_in.s_node (v : V_names_in) (x : Option D) : v.env.set 2 x = V_names_in.env { v with node := x } := id rfl
theorem V_names_in.len (v : V_names_in) : v.env.length = 3 := id rfl
section
variable [Tabs]
theorem of_names_in {Φ : Ix → FL} (a0 : D) {S : Store} {P : D → Store → Prop} (h : Ex (b_names_in Φ (V_names_in.env {branch := some a0}) S) fun o => match o with
    | .rt d S' => P d (trunc S S' d)
    | .nx _ S' => P .non (trunc S S' .non)
    | _ => False) : ∃ d S', runBody 1 3 (b_names_in Φ) [a0] S = some (d, S') ∧ P d S' := run_of rfl h
theorem eq_names_in {Φ : Ix → FL} (a0 : D) {S : Store} {d : D} (hd : d.lo S.length = true) (h : Ex (b_names_in Φ (V_names_in.env {branch := some a0}) S) fun o => ∃ X, o = .rt d (S ++ X)) : runBody 1 3 (b_names_in Φ) [a0] S = some (d, S) := run_eq rfl hd h
theorem phi_names_in (k : Nat) : Phi (k + 1) .names_in = runBody 1 3 (b_names_in (Phi k)) := id rfl
end
structure V_rows_of where
  branches : Option D := none
  shut : Option D := none
  found : Option D := none
  branch : Option D := none
def V_rows_of.env (v : V_rows_of) : DEnv := [v.branches, v.shut, v.found, v.branch]
@[simp high] theorem V_rows_of.g_branches (v : V_rows_of) : v.env[0]? = some v.branches := id rfl
@[simp high] theorem V_rows_of.s_branches (v : V_rows_of) (x : Option D) : v.env.set 0 x = V_rows_of.env { v with branches := x } := id rfl
@[simp high] theorem V_rows_of.g_shut (v : V_rows_of) : v.env[1]? = some v.shut := id rfl
@[simp high] theorem V_rows_of.s_shut (v : V_rows_of) (x : Option D) : v.env.set 1 x = V_rows_of.env { v with shut := x } := id rfl
@[simp high] theorem V_rows_of.g_found (v : V_rows_of) : v.env[2]? = some v.found := id rfl
@[simp high] theorem V_rows_of.s_found (v : V_rows_of) (x : Option D) : v.env.set 2 x = V_rows_of.env { v with found := x } := id rfl
@[simp high] theorem V_rows_of.g_branch (v : V_rows_of) : v.env[3]? = some v.branch := id rfl
@[simp high] theorem V_rows_of.s_branch (v : V_rows_of) (x : Option D) : v.env.set 3 x = V_rows_of.env { v with branch := x } := id rfl
theorem V_rows_of.len (v : V_rows_of) : v.env.length = 4 := id rfl
section
variable [Tabs]
theorem of_rows_of {Φ : Ix → FL} (a0 : D) (a1 : D) {S : Store} {P : D → Store → Prop} (h : Ex (b_rows_of Φ (V_rows_of.env {branches := some a0, shut := some a1}) S) fun o => match o with
    | .rt d S' => P d (trunc S S' d)
    | .nx _ S' => P .non (trunc S S' .non)
    | _ => False) : ∃ d S', runBody 2 4 (b_rows_of Φ) [a0, a1] S = some (d, S') ∧ P d S' := run_of rfl h
theorem eq_rows_of {Φ : Ix → FL} (a0 : D) (a1 : D) {S : Store} {d : D} (hd : d.lo S.length = true) (h : Ex (b_rows_of Φ (V_rows_of.env {branches := some a0, shut := some a1}) S) fun o => ∃ X, o = .rt d (S ++ X)) : runBody 2 4 (b_rows_of Φ) [a0, a1] S = some (d, S) := run_eq rfl hd h
theorem phi_rows_of (k : Nat) : Phi (k + 1) .rows_of = runBody 2 4 (b_rows_of (Phi k)) := id rfl
end
structure V_add_rows where
  branch : Option D := none
  level : Option D := none
  shut : Option D := none
  found : Option D := none
  mark : Option D := none
  node : Option D := none
def V_add_rows.env (v : V_add_rows) : DEnv := [v.branch, v.level, v.shut, v.found, v.mark, v.node]
@[simp high] theorem V_add_rows.g_branch (v : V_add_rows) : v.env[0]? = some v.branch := id rfl
@[simp high] theorem V_add_rows.s_branch (v : V_add_rows) (x : Option D) : v.env.set 0 x = V_add_rows.env { v with branch := x } := id rfl
@[simp high] theorem V_add_rows.g_level (v : V_add_rows) : v.env[1]? = some v.level := id rfl
@[simp high] theorem V_add_rows.s_level (v : V_add_rows) (x : Option D) : v.env.set 1 x = V_add_rows.env { v with level := x } := id rfl
@[simp high] theorem V_add_rows.g_shut (v : V_add_rows) : v.env[2]? = some v.shut := id rfl
@[simp high] theorem V_add_rows.s_shut (v : V_add_rows) (x : Option D) : v.env.set 2 x = V_add_rows.env { v with shut := x } := id rfl
@[simp high] theorem V_add_rows.g_found (v : V_add_rows) : v.env[3]? = some v.found := id rfl
@[simp high] theorem V_add_rows.s_found (v : V_add_rows) (x : Option D) : v.env.set 3 x = V_add_rows.env { v with found := x } := id rfl
@[simp high] theorem V_add_rows.g_mark (v : V_add_rows) : v.env[4]? = some v.mark := id rfl
@[simp high] theorem V_add_rows.s_mark (v : V_add_rows) (x : Option D) : v.env.set 4 x = V_add_rows.env { v with mark := x } := id rfl
@[simp high] theorem V_add_rows.g_node (v : V_add_rows) : v.env[5]? = some v.node := id rfl
@[simp high] theorem V_add_rows.s_node (v : V_add_rows) (x : Option D) : v.env.set 5 x = V_add_rows.env { v with node := x } := id rfl
theorem V_add_rows.len (v : V_add_rows) : v.env.length = 6 := id rfl
section
variable [Tabs]
theorem of_add_rows {Φ : Ix → FL} (a0 : D) (a1 : D) (a2 : D) (a3 : D) {S : Store} {P : D → Store → Prop} (h : Ex (b_add_rows Φ (V_add_rows.env {branch := some a0, level := some a1, shut := some a2, found := some a3}) S) fun o => match o with
    | .rt d S' => P d (trunc S S' d)
    | .nx _ S' => P .non (trunc S S' .non)
    | _ => False) : ∃ d S', runBody 4 6 (b_add_rows Φ) [a0, a1, a2, a3] S = some (d, S') ∧ P d S' := run_of rfl h
theorem eq_add_rows {Φ : Ix → FL} (a0 : D) (a1 : D) (a2 : D) (a3 : D) {S : Store} {d : D} (hd : d.lo S.length = true) (h : Ex (b_add_rows Φ (V_add_rows.env {branch := some a0, level := some a1, shut := some a2, found := some a3}) S) fun o => ∃ X, o = .rt d (S ++ X)) : runBody 4 6 (b_add_rows Φ) [a0, a1, a2, a3] S = some (d, S) := run_eq rfl hd h
theorem phi_add_rows (k : Nat) : Phi (k + 1) .add_rows = runBody 4 6 (b_add_rows (Phi k)) := id rfl
end
structure V_ways_to where
  branches : Option D := none
  name : Option D := none
  branch : Option D := none
  inner : Option D := none
def V_ways_to.env (v : V_ways_to) : DEnv := [v.branches, v.name, v.branch, v.inner]
@[simp high] theorem V_ways_to.g_branches (v : V_ways_to) : v.env[0]? = some v.branches := id rfl
@[simp high] theorem V_ways_to.s_branches (v : V_ways_to) (x : Option D) : v.env.set 0 x = V_ways_to.env { v with branches := x } := id rfl
@[simp high] theorem V_ways_to.g_name (v : V_ways_to) : v.env[1]? = some v.name := id rfl
@[simp high] theorem V_ways_to.s_name (v : V_ways_to) (x : Option D) : v.env.set 1 x = V_ways_to.env { v with name := x } := id rfl
@[simp high] theorem V_ways_to.g_branch (v : V_ways_to) : v.env[2]? = some v.branch := id rfl
@[simp high] theorem V_ways_to.s_branch (v : V_ways_to) (x : Option D) : v.env.set 2 x = V_ways_to.env { v with branch := x } := id rfl
@[simp high] theorem V_ways_to.g_inner (v : V_ways_to) : v.env[3]? = some v.inner := id rfl
@[simp high] theorem V_ways_to.s_inner (v : V_ways_to) (x : Option D) : v.env.set 3 x = V_ways_to.env { v with inner := x } := id rfl
theorem V_ways_to.len (v : V_ways_to) : v.env.length = 4 := id rfl
section
variable [Tabs]
theorem of_ways_to {Φ : Ix → FL} (a0 : D) (a1 : D) {S : Store} {P : D → Store → Prop} (h : Ex (b_ways_to Φ (V_ways_to.env {branches := some a0, name := some a1}) S) fun o => match o with
    | .rt d S' => P d (trunc S S' d)
    | .nx _ S' => P .non (trunc S S' .non)
    | _ => False) : ∃ d S', runBody 2 4 (b_ways_to Φ) [a0, a1] S = some (d, S') ∧ P d S' := run_of rfl h
theorem eq_ways_to {Φ : Ix → FL} (a0 : D) (a1 : D) {S : Store} {d : D} (hd : d.lo S.length = true) (h : Ex (b_ways_to Φ (V_ways_to.env {branches := some a0, name := some a1}) S) fun o => ∃ X, o = .rt d (S ++ X)) : runBody 2 4 (b_ways_to Φ) [a0, a1] S = some (d, S) := run_eq rfl hd h
theorem phi_ways_to (k : Nat) : Phi (k + 1) .ways_to = runBody 2 4 (b_ways_to (Phi k)) := id rfl
end
structure V_outline where
  headings : Option D := none
def V_outline.env (v : V_outline) : DEnv := [v.headings]
@[simp high] theorem V_outline.g_headings (v : V_outline) : v.env[0]? = some v.headings := id rfl
@[simp high] theorem V_outline.s_headings (v : V_outline) (x : Option D) : v.env.set 0 x = V_outline.env { v with headings := x } := id rfl
theorem V_outline.len (v : V_outline) : v.env.length = 1 := id rfl
section
variable [Tabs]
theorem of_outline {Φ : Ix → FL} (a0 : D) {S : Store} {P : D → Store → Prop} (h : Ex (b_outline Φ (V_outline.env {headings := some a0}) S) fun o => match o with
    | .rt d S' => P d (trunc S S' d)
    | .nx _ S' => P .non (trunc S S' .non)
    | _ => False) : ∃ d S', runBody 1 1 (b_outline Φ) [a0] S = some (d, S') ∧ P d S' := run_of rfl h
theorem eq_outline {Φ : Ix → FL} (a0 : D) {S : Store} {d : D} (hd : d.lo S.length = true) (h : Ex (b_outline Φ (V_outline.env {headings := some a0}) S) fun o => ∃ X, o = .rt d (S ++ X)) : runBody 1 1 (b_outline Φ) [a0] S = some (d, S) := run_eq rfl hd h
theorem phi_outline (k : Nat) : Phi (k + 1) .outline = runBody 1 1 (b_outline (Phi k)) := id rfl
end
structure V_grown where
  headings : Option D := none
  start : Option D := none
  end_ : Option D := none
  found : Option D := none
  place : Option D := none
  following : Option D := none
def V_grown.env (v : V_grown) : DEnv := [v.headings, v.start, v.end_, v.found, v.place, v.following]
@[simp high] theorem V_grown.g_headings (v : V_grown) : v.env[0]? = some v.headings := id rfl
@[simp high] theorem V_grown.s_headings (v : V_grown) (x : Option D) : v.env.set 0 x = V_grown.env { v with headings := x } := id rfl
@[simp high] theorem V_grown.g_start (v : V_grown) : v.env[1]? = some v.start := id rfl
@[simp high] theorem V_grown.s_start (v : V_grown) (x : Option D) : v.env.set 1 x = V_grown.env { v with start := x } := id rfl
@[simp high] theorem V_grown.g_end_ (v : V_grown) : v.env[2]? = some v.end_ := id rfl
@[simp high] theorem V_grown.s_end_ (v : V_grown) (x : Option D) : v.env.set 2 x = V_grown.env { v with end_ := x } := id rfl
@[simp high] theorem V_grown.g_found (v : V_grown) : v.env[3]? = some v.found := id rfl
@[simp high] theorem V_grown.s_found (v : V_grown) (x : Option D) : v.env.set 3 x = V_grown.env { v with found := x } := id rfl
@[simp high] theorem V_grown.g_place (v : V_grown) : v.env[4]? = some v.place := id rfl
@[simp high] theorem V_grown.s_place (v : V_grown) (x : Option D) : v.env.set 4 x = V_grown.env { v with place := x } := id rfl
@[simp high] theorem V_grown.g_following (v : V_grown) : v.env[5]? = some v.following := id rfl
@[simp high] theorem V_grown.s_following (v : V_grown) (x : Option D) : v.env.set 5 x = V_grown.env { v with following := x } := id rfl
theorem V_grown.len (v : V_grown) : v.env.length = 6 := id rfl
section
variable [Tabs]
theorem of_grown {Φ : Ix → FL} (a0 : D) (a1 : D) (a2 : D) {S : Store} {P : D → Store → Prop} (h : Ex (b_grown Φ (V_grown.env {headings := some a0, start := some a1, end_ := some a2}) S) fun o => match o with
    | .rt d S' => P d (trunc S S' d)
    | .nx _ S' => P .non (trunc S S' .non)
    | _ => False) : ∃ d S', runBody 3 6 (b_grown Φ) [a0, a1, a2] S = some (d, S') ∧ P d S' := run_of rfl h
theorem eq_grown {Φ : Ix → FL} (a0 : D) (a1 : D) (a2 : D) {S : Store} {d : D} (hd : d.lo S.length = true) (h : Ex (b_grown Φ (V_grown.env {headings := some a0, start := some a1, end_ := some a2}) S) fun o => ∃ X, o = .rt d (S ++ X)) : runBody 3 6 (b_grown Φ) [a0, a1, a2] S = some (d, S) := run_eq rfl hd h
theorem phi_grown (k : Nat) : Phi (k + 1) .grown = runBody 3 6 (b_grown (Phi k)) := id rfl
end
structure V_parents where
  headings : Option D := none
  found : Option D := none
  place : Option D := none
  level : Option D := none
  __ : Option D := none
  ahead : Option D := none
  other : Option D := none
def V_parents.env (v : V_parents) : DEnv := [v.headings, v.found, v.place, v.level, v.__, v.ahead, v.other]
@[simp high] theorem V_parents.g_headings (v : V_parents) : v.env[0]? = some v.headings := id rfl
@[simp high] theorem V_parents.s_headings (v : V_parents) (x : Option D) : v.env.set 0 x = V_parents.env { v with headings := x } := id rfl
@[simp high] theorem V_parents.g_found (v : V_parents) : v.env[1]? = some v.found := id rfl
@[simp high] theorem V_parents.s_found (v : V_parents) (x : Option D) : v.env.set 1 x = V_parents.env { v with found := x } := id rfl
@[simp high] theorem V_parents.g_place (v : V_parents) : v.env[2]? = some v.place := id rfl
@[simp high] theorem V_parents.s_place (v : V_parents) (x : Option D) : v.env.set 2 x = V_parents.env { v with place := x } := id rfl
@[simp high] theorem V_parents.g_level (v : V_parents) : v.env[3]? = some v.level := id rfl
@[simp high] theorem V_parents.s_level (v : V_parents) (x : Option D) : v.env.set 3 x = V_parents.env { v with level := x } := id rfl
@[simp high] theorem V_parents.g___ (v : V_parents) : v.env[4]? = some v.__ := id rfl
@[simp high] theorem V_parents.s___ (v : V_parents) (x : Option D) : v.env.set 4 x = V_parents.env { v with __ := x } := id rfl
@[simp high] theorem V_parents.g_ahead (v : V_parents) : v.env[5]? = some v.ahead := id rfl
@[simp high] theorem V_parents.s_ahead (v : V_parents) (x : Option D) : v.env.set 5 x = V_parents.env { v with ahead := x } := id rfl
@[simp high] theorem V_parents.g_other (v : V_parents) : v.env[6]? = some v.other := id rfl
@[simp high] theorem V_parents.s_other (v : V_parents) (x : Option D) : v.env.set 6 x = V_parents.env { v with other := x } := id rfl
theorem V_parents.len (v : V_parents) : v.env.length = 7 := id rfl
section
variable [Tabs]
theorem of_parents {Φ : Ix → FL} (a0 : D) {S : Store} {P : D → Store → Prop} (h : Ex (b_parents Φ (V_parents.env {headings := some a0}) S) fun o => match o with
    | .rt d S' => P d (trunc S S' d)
    | .nx _ S' => P .non (trunc S S' .non)
    | _ => False) : ∃ d S', runBody 1 7 (b_parents Φ) [a0] S = some (d, S') ∧ P d S' := run_of rfl h
theorem eq_parents {Φ : Ix → FL} (a0 : D) {S : Store} {d : D} (hd : d.lo S.length = true) (h : Ex (b_parents Φ (V_parents.env {headings := some a0}) S) fun o => ∃ X, o = .rt d (S ++ X)) : runBody 1 7 (b_parents Φ) [a0] S = some (d, S) := run_eq rfl hd h
theorem phi_parents (k : Nat) : Phi (k + 1) .parents = runBody 1 7 (b_parents (Phi k)) := id rfl
end
structure V_numbers where
  headings : Option D := none
  found : Option D := none
  above : Option D := none
  place : Option D := none
  parent : Option D := none
  elder : Option D := none
  other : Option D := none
def V_numbers.env (v : V_numbers) : DEnv := [v.headings, v.found, v.above, v.place, v.parent, v.elder, v.other]
@[simp high] theorem V_numbers.g_headings (v : V_numbers) : v.env[0]? = some v.headings := id rfl
@[simp high] theorem V_numbers.s_headings (v : V_numbers) (x : Option D) : v.env.set 0 x = V_numbers.env { v with headings := x } := id rfl
@[simp high] theorem V_numbers.g_found (v : V_numbers) : v.env[1]? = some v.found := id rfl
@[simp high] theorem V_numbers.s_found (v : V_numbers) (x : Option D) : v.env.set 1 x = V_numbers.env { v with found := x } := id rfl
@[simp high] theorem V_numbers.g_above (v : V_numbers) : v.env[2]? = some v.above := id rfl
@[simp high] theorem V_numbers.s_above (v : V_numbers) (x : Option D) : v.env.set 2 x = V_numbers.env { v with above := x } := id rfl
@[simp high] theorem V_numbers.g_place (v : V_numbers) : v.env[3]? = some v.place := id rfl
@[simp high] theorem V_numbers.s_place (v : V_numbers) (x : Option D) : v.env.set 3 x = V_numbers.env { v with place := x } := id rfl
@[simp high] theorem V_numbers.g_parent (v : V_numbers) : v.env[4]? = some v.parent := id rfl
@[simp high] theorem V_numbers.s_parent (v : V_numbers) (x : Option D) : v.env.set 4 x = V_numbers.env { v with parent := x } := id rfl
@[simp high] theorem V_numbers.g_elder (v : V_numbers) : v.env[5]? = some v.elder := id rfl
@[simp high] theorem V_numbers.s_elder (v : V_numbers) (x : Option D) : v.env.set 5 x = V_numbers.env { v with elder := x } := id rfl
@[simp high] theorem V_numbers.g_other (v : V_numbers) : v.env[6]? = some v.other := id rfl
@[simp high] theorem V_numbers.s_other (v : V_numbers) (x : Option D) : v.env.set 6 x = V_numbers.env { v with other := x } := id rfl
theorem V_numbers.len (v : V_numbers) : v.env.length = 7 := id rfl
section
variable [Tabs]
theorem of_numbers {Φ : Ix → FL} (a0 : D) {S : Store} {P : D → Store → Prop} (h : Ex (b_numbers Φ (V_numbers.env {headings := some a0}) S) fun o => match o with
    | .rt d S' => P d (trunc S S' d)
    | .nx _ S' => P .non (trunc S S' .non)
    | _ => False) : ∃ d S', runBody 1 7 (b_numbers Φ) [a0] S = some (d, S') ∧ P d S' := run_of rfl h
theorem eq_numbers {Φ : Ix → FL} (a0 : D) {S : Store} {d : D} (hd : d.lo S.length = true) (h : Ex (b_numbers Φ (V_numbers.env {headings := some a0}) S) fun o => ∃ X, o = .rt d (S ++ X)) : runBody 1 7 (b_numbers Φ) [a0] S = some (d, S) := run_eq rfl hd h
theorem phi_numbers (k : Nat) : Phi (k + 1) .numbers = runBody 1 7 (b_numbers (Phi k)) := id rfl
end
structure V_raised where
  headings : Option D := none
  rows : Option D := none
  row : Option D := none
  __ : Option D := none
  text : Option D := none
def V_raised.env (v : V_raised) : DEnv := [v.headings, v.rows, v.row, v.__, v.text]
@[simp high] theorem V_raised.g_headings (v : V_raised) : v.env[0]? = some v.headings := id rfl
@[simp high] theorem V_raised.s_headings (v : V_raised) (x : Option D) : v.env.set 0 x = V_raised.env { v with headings := x } := id rfl
@[simp high] theorem V_raised.g_rows (v : V_raised) : v.env[1]? = some v.rows := id rfl
@[simp high] theorem V_raised.s_rows (v : V_raised) (x : Option D) : v.env.set 1 x = V_raised.env { v with rows := x } := id rfl
@[simp high] theorem V_raised.g_row (v : V_raised) : v.env[2]? = some v.row := id rfl
@[simp high] theorem V_raised.s_row (v : V_raised) (x : Option D) : v.env.set 2 x = V_raised.env { v with row := x } := id rfl
@[simp high] theorem V_raised.g___ (v : V_raised) : v.env[3]? = some v.__ := id rfl
@[simp high] theorem V_raised.s___ (v : V_raised) (x : Option D) : v.env.set 3 x = V_raised.env { v with __ := x } := id rfl
@[simp high] theorem V_raised.g_text (v : V_raised) : v.env[4]? = some v.text := id rfl
@[simp high] theorem V_raised.s_text (v : V_raised) (x : Option D) : v.env.set 4 x = V_raised.env { v with text := x } := id rfl
theorem V_raised.len (v : V_raised) : v.env.length = 5 := id rfl
section
variable [Tabs]
theorem of_raised {Φ : Ix → FL} (a0 : D) {S : Store} {P : D → Store → Prop} (h : Ex (b_raised Φ (V_raised.env {headings := some a0}) S) fun o => match o with
    | .rt d S' => P d (trunc S S' d)
    | .nx _ S' => P .non (trunc S S' .non)
    | _ => False) : ∃ d S', runBody 1 5 (b_raised Φ) [a0] S = some (d, S') ∧ P d S' := run_of rfl h
theorem eq_raised {Φ : Ix → FL} (a0 : D) {S : Store} {d : D} (hd : d.lo S.length = true) (h : Ex (b_raised Φ (V_raised.env {headings := some a0}) S) fun o => ∃ X, o = .rt d (S ++ X)) : runBody 1 5 (b_raised Φ) [a0] S = some (d, S) := run_eq rfl hd h
theorem phi_raised (k : Nat) : Phi (k + 1) .raised = runBody 1 5 (b_raised (Phi k)) := id rfl
end
structure V_cut_at where
  headings : Option D := none
  place : Option D := none
  level : Option D := none
  end_ : Option D := none
def V_cut_at.env (v : V_cut_at) : DEnv := [v.headings, v.place, v.level, v.end_]
@[simp high] theorem V_cut_at.g_headings (v : V_cut_at) : v.env[0]? = some v.headings := id rfl
@[simp high] theorem V_cut_at.s_headings (v : V_cut_at) (x : Option D) : v.env.set 0 x = V_cut_at.env { v with headings := x } := id rfl
@[simp high] theorem V_cut_at.g_place (v : V_cut_at) : v.env[1]? = some v.place := id rfl
@[simp high] theorem V_cut_at.s_place (v : V_cut_at) (x : Option D) : v.env.set 1 x = V_cut_at.env { v with place := x } := id rfl
@[simp high] theorem V_cut_at.g_level (v : V_cut_at) : v.env[2]? = some v.level := id rfl
@[simp high] theorem V_cut_at.s_level (v : V_cut_at) (x : Option D) : v.env.set 2 x = V_cut_at.env { v with level := x } := id rfl
@[simp high] theorem V_cut_at.g_end_ (v : V_cut_at) : v.env[3]? = some v.end_ := id rfl
@[simp high] theorem V_cut_at.s_end_ (v : V_cut_at) (x : Option D) : v.env.set 3 x = V_cut_at.env { v with end_ := x } := id rfl
theorem V_cut_at.len (v : V_cut_at) : v.env.length = 4 := id rfl
section
variable [Tabs]
theorem of_cut_at {Φ : Ix → FL} (a0 : D) (a1 : D) {S : Store} {P : D → Store → Prop} (h : Ex (b_cut_at Φ (V_cut_at.env {headings := some a0, place := some a1}) S) fun o => match o with
    | .rt d S' => P d (trunc S S' d)
    | .nx _ S' => P .non (trunc S S' .non)
    | _ => False) : ∃ d S', runBody 2 4 (b_cut_at Φ) [a0, a1] S = some (d, S') ∧ P d S' := run_of rfl h
theorem eq_cut_at {Φ : Ix → FL} (a0 : D) (a1 : D) {S : Store} {d : D} (hd : d.lo S.length = true) (h : Ex (b_cut_at Φ (V_cut_at.env {headings := some a0, place := some a1}) S) fun o => ∃ X, o = .rt d (S ++ X)) : runBody 2 4 (b_cut_at Φ) [a0, a1] S = some (d, S) := run_eq rfl hd h
theorem phi_cut_at (k : Nat) : Phi (k + 1) .cut_at = runBody 2 4 (b_cut_at (Phi k)) := id rfl
end
structure V_l_headings where
  box : Option D := none
  most : Option D := none
  found : Option D := none
  k : Option D := none
def V_l_headings.env (v : V_l_headings) : DEnv := [v.box, v.most, v.found, v.k]
@[simp high] theorem V_l_headings.g_box (v : V_l_headings) : v.env[0]? = some v.box := id rfl
@[simp high] theorem V_l_headings.s_box (v : V_l_headings) (x : Option D) : v.env.set 0 x = V_l_headings.env { v with box := x } := id rfl
@[simp high] theorem V_l_headings.g_most (v : V_l_headings) : v.env[1]? = some v.most := id rfl
@[simp high] theorem V_l_headings.s_most (v : V_l_headings) (x : Option D) : v.env.set 1 x = V_l_headings.env { v with most := x } := id rfl
@[simp high] theorem V_l_headings.g_found (v : V_l_headings) : v.env[2]? = some v.found := id rfl
@[simp high] theorem V_l_headings.s_found (v : V_l_headings) (x : Option D) : v.env.set 2 x = V_l_headings.env { v with found := x } := id rfl
@[simp high] theorem V_l_headings.g_k (v : V_l_headings) : v.env[3]? = some v.k := id rfl
@[simp high] theorem V_l_headings.s_k (v : V_l_headings) (x : Option D) : v.env.set 3 x = V_l_headings.env { v with k := x } := id rfl
theorem V_l_headings.len (v : V_l_headings) : v.env.length = 4 := id rfl
section
variable [Tabs]
theorem of_l_headings {Φ : Ix → FL} (a0 : D) (a1 : D) {S : Store} {P : D → Store → Prop} (h : Ex (b_l_headings Φ (V_l_headings.env {box := some a0, most := some a1}) S) fun o => match o with
    | .rt d S' => P d (trunc S S' d)
    | .nx _ S' => P .non (trunc S S' .non)
    | _ => False) : ∃ d S', runBody 2 4 (b_l_headings Φ) [a0, a1] S = some (d, S') ∧ P d S' := run_of rfl h
theorem eq_l_headings {Φ : Ix → FL} (a0 : D) (a1 : D) {S : Store} {d : D} (hd : d.lo S.length = true) (h : Ex (b_l_headings Φ (V_l_headings.env {box := some a0, most := some a1}) S) fun o => ∃ X, o = .rt d (S ++ X)) : runBody 2 4 (b_l_headings Φ) [a0, a1] S = some (d, S) := run_eq rfl hd h
theorem phi_l_headings (k : Nat) : Phi (k + 1) .l_headings = runBody 2 4 (b_l_headings (Phi k)) := id rfl
end
structure V_l_branches where
  nodes : Option D := none
  place : Option D := none
  inner : Option D := none
def V_l_branches.env (v : V_l_branches) : DEnv := [v.nodes, v.place, v.inner]
@[simp high] theorem V_l_branches.g_nodes (v : V_l_branches) : v.env[0]? = some v.nodes := id rfl
@[simp high] theorem V_l_branches.s_nodes (v : V_l_branches) (x : Option D) : v.env.set 0 x = V_l_branches.env { v with nodes := x } := id rfl
@[simp high] theorem V_l_branches.g_place (v : V_l_branches) : v.env[1]? = some v.place := id rfl
@[simp high] theorem V_l_branches.s_place (v : V_l_branches) (x : Option D) : v.env.set 1 x = V_l_branches.env { v with place := x } := id rfl
@[simp high] theorem V_l_branches.g_inner (v : V_l_branches) : v.env[2]? = some v.inner := id rfl
@[simp high] theorem V_l_branches.s_inner (v : V_l_branches) (x : Option D) : v.env.set 2 x = V_l_branches.env { v with inner := x } := id rfl
theorem V_l_branches.len (v : V_l_branches) : v.env.length = 3 := id rfl
section
variable [Tabs]
theorem of_l_branches {Φ : Ix → FL} (a0 : D) {S : Store} {P : D → Store → Prop} (h : Ex (b_l_branches Φ (V_l_branches.env {nodes := some a0}) S) fun o => match o with
    | .rt d S' => P d (trunc S S' d)
    | .nx _ S' => P .non (trunc S S' .non)
    | _ => False) : ∃ d S', runBody 1 3 (b_l_branches Φ) [a0] S = some (d, S') ∧ P d S' := run_of rfl h
theorem eq_l_branches {Φ : Ix → FL} (a0 : D) {S : Store} {d : D} (hd : d.lo S.length = true) (h : Ex (b_l_branches Φ (V_l_branches.env {nodes := some a0}) S) fun o => ∃ X, o = .rt d (S ++ X)) : runBody 1 3 (b_l_branches Φ) [a0] S = some (d, S) := run_eq rfl hd h
theorem phi_l_branches (k : Nat) : Phi (k + 1) .l_branches = runBody 1 3 (b_l_branches (Phi k)) := id rfl
end
structure V_law where
  script : Option D := none
  box : Option D := none
  headings : Option D := none
  branches : Option D := none
  rows : Option D := none
  levels : Option D := none
  above : Option D := none
  k : Option D := none
  way : Option D := none
  at_ : Option D := none
  turn : Option D := none
  gone : Option D := none
  left : Option D := none
  j : Option D := none
  row : Option D := none
  names : Option D := none
  branch : Option D := none
def V_law.env (v : V_law) : DEnv := [v.script, v.box, v.headings, v.branches, v.rows, v.levels, v.above, v.k, v.way, v.at_, v.turn, v.gone, v.left, v.j, v.row, v.names, v.branch]
@[simp high] theorem V_law.g_script (v : V_law) : v.env[0]? = some v.script := id rfl
@[simp high] theorem V_law.s_script (v : V_law) (x : Option D) : v.env.set 0 x = V_law.env { v with script := x } := id rfl
@[simp high] theorem V_law.g_box (v : V_law) : v.env[1]? = some v.box := id rfl
@[simp high] theorem V_law.s_box (v : V_law) (x : Option D) : v.env.set 1 x = V_law.env { v with box := x } := id rfl
@[simp high] theorem V_law.g_headings (v : V_law) : v.env[2]? = some v.headings := id rfl
@[simp high] theorem V_law.s_headings (v : V_law) (x : Option D) : v.env.set 2 x = V_law.env { v with headings := x } := id rfl
@[simp high] theorem V_law.g_branches (v : V_law) : v.env[3]? = some v.branches := id rfl
@[simp high] theorem V_law.s_branches (v : V_law) (x : Option D) : v.env.set 3 x = V_law.env { v with branches := x } := id rfl
@[simp high] theorem V_law.g_rows (v : V_law) : v.env[4]? = some v.rows := id rfl
@[simp high] theorem V_law.s_rows (v : V_law) (x : Option D) : v.env.set 4 x = V_law.env { v with rows := x } := id rfl
@[simp high] theorem V_law.g_levels (v : V_law) : v.env[5]? = some v.levels := id rfl
@[simp high] theorem V_law.s_levels (v : V_law) (x : Option D) : v.env.set 5 x = V_law.env { v with levels := x } := id rfl
@[simp high] theorem V_law.g_above (v : V_law) : v.env[6]? = some v.above := id rfl
@[simp high] theorem V_law.s_above (v : V_law) (x : Option D) : v.env.set 6 x = V_law.env { v with above := x } := id rfl
@[simp high] theorem V_law.g_k (v : V_law) : v.env[7]? = some v.k := id rfl
@[simp high] theorem V_law.s_k (v : V_law) (x : Option D) : v.env.set 7 x = V_law.env { v with k := x } := id rfl
@[simp high] theorem V_law.g_way (v : V_law) : v.env[8]? = some v.way := id rfl
@[simp high] theorem V_law.s_way (v : V_law) (x : Option D) : v.env.set 8 x = V_law.env { v with way := x } := id rfl
@[simp high] theorem V_law.g_at_ (v : V_law) : v.env[9]? = some v.at_ := id rfl
@[simp high] theorem V_law.s_at_ (v : V_law) (x : Option D) : v.env.set 9 x = V_law.env { v with at_ := x } := id rfl
@[simp high] theorem V_law.g_turn (v : V_law) : v.env[10]? = some v.turn := id rfl
@[simp high] theorem V_law.s_turn (v : V_law) (x : Option D) : v.env.set 10 x = V_law.env { v with turn := x } := id rfl
@[simp high] theorem V_law.g_gone (v : V_law) : v.env[11]? = some v.gone := id rfl
@[simp high] theorem V_law.s_gone (v : V_law) (x : Option D) : v.env.set 11 x = V_law.env { v with gone := x } := id rfl
@[simp high] theorem V_law.g_left (v : V_law) : v.env[12]? = some v.left := id rfl
@[simp high] theorem V_law.s_left (v : V_law) (x : Option D) : v.env.set 12 x = V_law.env { v with left := x } := id rfl
@[simp high] theorem V_law.g_j (v : V_law) : v.env[13]? = some v.j := id rfl
@[simp high] theorem V_law.s_j (v : V_law) (x : Option D) : v.env.set 13 x = V_law.env { v with j := x } := id rfl
@[simp high] theorem V_law.g_row (v : V_law) : v.env[14]? = some v.row := id rfl
@[simp high] theorem V_law.s_row (v : V_law) (x : Option D) : v.env.set 14 x = V_law.env { v with row := x } := id rfl
@[simp high] theorem V_law.g_names (v : V_law) : v.env[15]? = some v.names := id rfl
@[simp high] theorem V_law.s_names (v : V_law) (x : Option D) : v.env.set 15 x = V_law.env { v with names := x } := id rfl
@[simp high] theorem V_law.g_branch (v : V_law) : v.env[16]? = some v.branch := id rfl
@[simp high] theorem V_law.s_branch (v : V_law) (x : Option D) : v.env.set 16 x = V_law.env { v with branch := x } := id rfl
theorem V_law.len (v : V_law) : v.env.length = 17 := id rfl
section
variable [Tabs]
theorem of_law {Φ : Ix → FL} (a0 : D) {S : Store} {P : D → Store → Prop} (h : Ex (b_law Φ (V_law.env {script := some a0}) S) fun o => match o with
    | .rt d S' => P d (trunc S S' d)
    | .nx _ S' => P .non (trunc S S' .non)
    | _ => False) : ∃ d S', runBody 1 17 (b_law Φ) [a0] S = some (d, S') ∧ P d S' := run_of rfl h
theorem eq_law {Φ : Ix → FL} (a0 : D) {S : Store} {d : D} (hd : d.lo S.length = true) (h : Ex (b_law Φ (V_law.env {script := some a0}) S) fun o => ∃ X, o = .rt d (S ++ X)) : runBody 1 17 (b_law Φ) [a0] S = some (d, S) := run_eq rfl hd h
theorem phi_law (k : Nat) : Phi (k + 1) .law = runBody 1 17 (b_law (Phi k)) := id rfl
end


/-! ### the walk -/
theorem sc_names_in : FnScope N_names_in p_names_in (defScope s_names_in) := ⟨rfl, rfl, rfl, by decide +kernel, rfl, by decide +kernel, by decide +kernel⟩
theorem sc_rows_of : FnScope N_rows_of p_rows_of (defScope s_rows_of) := ⟨rfl, rfl, rfl, by decide +kernel, rfl, by decide +kernel, by decide +kernel⟩
theorem sc_add_rows : FnScope N_add_rows p_add_rows (defScope s_add_rows) := ⟨rfl, rfl, rfl, by decide +kernel, rfl, by decide +kernel, by decide +kernel⟩
theorem sc_ways_to : FnScope N_ways_to p_ways_to (defScope s_ways_to) := ⟨rfl, rfl, rfl, by decide +kernel, rfl, by decide +kernel, by decide +kernel⟩
theorem sc_outline : FnScope N_outline p_outline (defScope s_outline) := ⟨rfl, rfl, rfl, by decide +kernel, rfl, by decide +kernel, by decide +kernel⟩
theorem sc_grown : FnScope N_grown p_grown (defScope s_grown) := ⟨rfl, rfl, rfl, by decide +kernel, rfl, by decide +kernel, by decide +kernel⟩
theorem sc_parents : FnScope N_parents p_parents (defScope s_parents) := ⟨rfl, rfl, rfl, by decide +kernel, rfl, by decide +kernel, by decide +kernel⟩
theorem sc_numbers : FnScope N_numbers p_numbers (defScope s_numbers) := ⟨rfl, rfl, rfl, by decide +kernel, rfl, by decide +kernel, by decide +kernel⟩
theorem sc_raised : FnScope N_raised p_raised (defScope s_raised) := ⟨rfl, rfl, rfl, by decide +kernel, rfl, by decide +kernel, by decide +kernel⟩
theorem sc_cut_at : FnScope N_cut_at p_cut_at (defScope s_cut_at) := ⟨rfl, rfl, rfl, by decide +kernel, rfl, by decide +kernel, by decide +kernel⟩
theorem sc_l_box : FnScope N_l_box p_l_box (defScope s_l_box) := ⟨rfl, rfl, rfl, by decide +kernel, rfl, by decide +kernel, by decide +kernel⟩
theorem sc_l_digits : FnScope N_l_digits p_l_digits (defScope s_l_digits) := ⟨rfl, rfl, rfl, by decide +kernel, rfl, by decide +kernel, by decide +kernel⟩
theorem sc_l_cell : FnScope N_l_cell p_l_cell (defScope s_l_cell) := ⟨rfl, rfl, rfl, by decide +kernel, rfl, by decide +kernel, by decide +kernel⟩
theorem sc_l_headings : FnScope N_l_headings p_l_headings (defScope s_l_headings) := ⟨rfl, rfl, rfl, by decide +kernel, rfl, by decide +kernel, by decide +kernel⟩
theorem sc_l_draw : FnScope N_l_draw p_l_draw (defScope s_l_draw) := ⟨rfl, rfl, rfl, by decide +kernel, rfl, by decide +kernel, by decide +kernel⟩
theorem sc_l_same : FnScope N_l_same p_l_same (defScope s_l_same) := ⟨rfl, rfl, rfl, by decide +kernel, rfl, by decide +kernel, by decide +kernel⟩
theorem sc_l_branches : FnScope N_l_branches p_l_branches (defScope s_l_branches) := ⟨rfl, rfl, rfl, by decide +kernel, rfl, by decide +kernel, by decide +kernel⟩
theorem sc_law : FnScope N_law p_law (defScope s_law) := ⟨rfl, rfl, rfl, by decide +kernel, rfl, by decide +kernel, by decide +kernel⟩
section
variable [Tabs]
structure GsW (mg : Str → Option Value) : Prop where
  g_bool : mg "bool" = none
  g_enumerate : mg "enumerate" = none
  g_int : mg "int" = none
  g_isinstance : mg "isinstance" = none
  g_len : mg "len" = none
  g_list : mg "list" = none
  g_range : mg "range" = none
  g_str : mg "str" = none
  g_tuple : mg "tuple" = none
  g_zip : mg "zip" = none
structure OkW (P : Program) (w : World) (K : PySem.W.Frag) (mg : Str → Option Value) (base : Heap) (k : Nat) (Φ : Ix → FL) : Prop where
  f_names_in : FnD P w K mg base k "names_in" p_names_in (Φ .names_in)
  f_rows_of : FnD P w K mg base k "rows_of" p_rows_of (Φ .rows_of)
  f_add_rows : FnD P w K mg base k "add_rows" p_add_rows (Φ .add_rows)
  f_ways_to : FnD P w K mg base k "ways_to" p_ways_to (Φ .ways_to)
  f_outline : FnD P w K mg base k "outline" p_outline (Φ .outline)
  f_grown : FnD P w K mg base k "grown" p_grown (Φ .grown)
  f_parents : FnD P w K mg base k "parents" p_parents (Φ .parents)
  f_numbers : FnD P w K mg base k "numbers" p_numbers (Φ .numbers)
  f_raised : FnD P w K mg base k "raised" p_raised (Φ .raised)
  f_cut_at : FnD P w K mg base k "cut_at" p_cut_at (Φ .cut_at)
  f_l_box : FnD P w K mg base k "_law_box" p_l_box (Φ .l_box)
  f_l_digits : FnD P w K mg base k "_law_digits" p_l_digits (Φ .l_digits)
  f_l_cell : FnD P w K mg base k "_law_cell" p_l_cell (Φ .l_cell)
  f_l_headings : FnD P w K mg base k "_law_headings" p_l_headings (Φ .l_headings)
  f_l_draw : FnD P w K mg base k "_law_draw" p_l_draw (Φ .l_draw)
  f_l_same : FnD P w K mg base k "_law_same" p_l_same (Φ .l_same)
  f_l_branches : FnD P w K mg base k "_law_branches" p_l_branches (Φ .l_branches)
  f_law : FnD P w K mg base k "law" p_law (Φ .law)
section
variable {P : Program} {w : World} {K : PySem.W.Frag} {mg : Str → Option Value} {base : Heap} {k : Nat} {Φ : Ix → FL}
theorem w_names_in (G : GsW mg) (F : OkW P w K mg base k Φ) {f : Addr} {cdv : Value} {A : Around} {outer : List Env} {s : Shared} {H : Hp} {E : XK} (hr : Room (k + 2) (A.deeper (envOfC "names_in" (defScope s_names_in) s.heap.objs.size f cdv))) :
    PMB (cxOf CX0 P w K mg base N_names_in "names_in" (defScope s_names_in) f cdv A outer s H E).nox (defBody s_names_in) (b_names_in Φ) := by
  have nd : (N_names_in : List Str).Nodup := sc_names_in.nd
  have hr0 : Room k (A.deeper (envOfC "names_in" (defScope s_names_in) s.heap.objs.size f cdv)) := hr.mono (by omega)
  have hu : (A.deeper (envOfC "names_in" (defScope s_names_in) s.heap.objs.size f cdv)).units + 64 < cLine := by have := hr.un; omega
  have hu1 : (A.deeper (envOfC "names_in" (defScope s_names_in) s.heap.objs.size f cdv)).units + 65 < cLine := by have := hr.un; omega
  have hu2 : (A.deeper (envOfC "names_in" (defScope s_names_in) s.heap.objs.size f cdv)).units + 70 < cLine := by have := hr.un; omega
  exact (pb_cons (ps_mset (i := 1) nd rfl (.inl rfl) (pm_tup (pa_mcons (pm_ix (pm_var 0) pm_int (fun _ _ => rfl)) pa_mnil)))
  (pb_cons (ps_mfor PassesOwn.never rfl (pi_mseq (pm_ix (pm_var 0) pm_int (fun _ _ => rfl))) (pg_mname (i := 2) nd rfl (.inl rfl)) (pb_one (ps_maug (i := 1) nd rfl (.inl rfl) (pm_fn F.f_names_in hr0 (by rfl) (pa_mcons (pm_var 2) pa_mnil)) ip_maddA)))
  (pb_one (ps_mret (pm_var 1)))))
theorem w_rows_of (G : GsW mg) (F : OkW P w K mg base k Φ) {f : Addr} {cdv : Value} {A : Around} {outer : List Env} {s : Shared} {H : Hp} {E : XK} (hr : Room (k + 2) (A.deeper (envOfC "rows_of" (defScope s_rows_of) s.heap.objs.size f cdv))) :
    PMB (cxOf CX0 P w K mg base N_rows_of "rows_of" (defScope s_rows_of) f cdv A outer s H E).nox (defBody s_rows_of) (b_rows_of Φ) := by
  have nd : (N_rows_of : List Str).Nodup := sc_rows_of.nd
  have hr0 : Room k (A.deeper (envOfC "rows_of" (defScope s_rows_of) s.heap.objs.size f cdv)) := hr.mono (by omega)
  have hu : (A.deeper (envOfC "rows_of" (defScope s_rows_of) s.heap.objs.size f cdv)).units + 64 < cLine := by have := hr.un; omega
  have hu1 : (A.deeper (envOfC "rows_of" (defScope s_rows_of) s.heap.objs.size f cdv)).units + 65 < cLine := by have := hr.un; omega
  have hu2 : (A.deeper (envOfC "rows_of" (defScope s_rows_of) s.heap.objs.size f cdv)).units + 70 < cLine := by have := hr.un; omega
  exact (pb_cons (ps_mset (i := 2) nd rfl (.inl rfl) (pm_new (pn_lst pa_mnil)))
  (pb_cons (ps_mfor PassesOwn.never rfl (pi_mseq (pm_var 0)) (pg_mname (i := 3) nd rfl (.inl rfl)) (pb_one (ps_mexpr (pm_fn F.f_add_rows hr0 (by rfl) (pa_mcons (pm_var 3) (pa_mcons pm_int (pa_mcons (pm_var 1) (pa_mcons (pm_var 2) pa_mnil))))))))
  (pb_one (ps_mret (pm_callT call_mtuple (by rfl) G.g_tuple bt_tuple (pa_mcons (pm_var 2) pa_mnil))))))
theorem w_add_rows (G : GsW mg) (F : OkW P w K mg base k Φ) {f : Addr} {cdv : Value} {A : Around} {outer : List Env} {s : Shared} {H : Hp} {E : XK} (hr : Room (k + 2) (A.deeper (envOfC "add_rows" (defScope s_add_rows) s.heap.objs.size f cdv))) :
    PMB (cxOf CX0 P w K mg base N_add_rows "add_rows" (defScope s_add_rows) f cdv A outer s H E).nox (defBody s_add_rows) (b_add_rows Φ) := by
  have nd : (N_add_rows : List Str).Nodup := sc_add_rows.nd
  have hr0 : Room k (A.deeper (envOfC "add_rows" (defScope s_add_rows) s.heap.objs.size f cdv)) := hr.mono (by omega)
  have hu : (A.deeper (envOfC "add_rows" (defScope s_add_rows) s.heap.objs.size f cdv)).units + 64 < cLine := by have := hr.un; omega
  have hu1 : (A.deeper (envOfC "add_rows" (defScope s_add_rows) s.heap.objs.size f cdv)).units + 65 < cLine := by have := hr.un; omega
  have hu2 : (A.deeper (envOfC "add_rows" (defScope s_add_rows) s.heap.objs.size f cdv)).units + 70 < cLine := by have := hr.un; omega
  exact (pb_cons (ps_mset (i := 4) nd rfl (.inl rfl) (pm_if (pt_mnot (pt_tru (pm_ix (pm_var 0) pm_int (fun _ _ => rfl)) (fun _ => rfl))) pm_str (pm_if (pt_mcmp (cd_in hu1) (pm_ix (pm_var 0) pm_int (fun _ _ => rfl)) (pm_var 2) (by rfl)) pm_str pm_str)))
  (pb_cons (ps_mexpr (pm_meth (.inr (.inl rfl)) PySem.F.plainAttrs_list PySem.F.slot_list_append PySem.F.type_list_append mt_mappend (pm_var 3) (pa_mcons (pm_tup (pa_mcons (pm_ix (pm_var 0) pm_int (fun _ _ => rfl)) (pa_mcons (pm_var 1) (pa_mcons (pm_var 4) pa_mnil)))) pa_mnil)))
  (pb_one (ps_mif (pt_mcmp (cd_eq hu) (pm_var 4) pm_str (nomark _)) (pb_one (ps_mfor PassesOwn.never rfl (pi_mseq (pm_ix (pm_var 0) pm_int (fun _ _ => rfl))) (pg_mname (i := 5) nd rfl (.inl rfl)) (pb_one (ps_mexpr (pm_fn F.f_add_rows hr0 (by rfl) (pa_mcons (pm_var 5) (pa_mcons (pm_op od_add (pm_var 1) pm_int) (pa_mcons (pm_var 2) (pa_mcons (pm_var 3) pa_mnil))))))))) pb_nil))))
theorem w_ways_to (G : GsW mg) (F : OkW P w K mg base k Φ) {f : Addr} {cdv : Value} {A : Around} {outer : List Env} {s : Shared} {H : Hp} {E : XK} (hr : Room (k + 2) (A.deeper (envOfC "ways_to" (defScope s_ways_to) s.heap.objs.size f cdv))) :
    PMB (cxOf CX0 P w K mg base N_ways_to "ways_to" (defScope s_ways_to) f cdv A outer s H E).nox (defBody s_ways_to) (b_ways_to Φ) := by
  have nd : (N_ways_to : List Str).Nodup := sc_ways_to.nd
  have hr0 : Room k (A.deeper (envOfC "ways_to" (defScope s_ways_to) s.heap.objs.size f cdv)) := hr.mono (by omega)
  have hu : (A.deeper (envOfC "ways_to" (defScope s_ways_to) s.heap.objs.size f cdv)).units + 64 < cLine := by have := hr.un; omega
  have hu1 : (A.deeper (envOfC "ways_to" (defScope s_ways_to) s.heap.objs.size f cdv)).units + 65 < cLine := by have := hr.un; omega
  have hu2 : (A.deeper (envOfC "ways_to" (defScope s_ways_to) s.heap.objs.size f cdv)).units + 70 < cLine := by have := hr.un; omega
  exact (pb_cons (ps_mfor PassesOwn.never rfl (pi_mseq (pm_var 0)) (pg_mname (i := 2) nd rfl (.inl rfl)) (pb_cons (ps_mif (pt_mcmp (cd_eq hu) (pm_ix (pm_var 2) pm_int (fun _ _ => rfl)) (pm_var 1) (nomark _)) (pb_one (ps_mret (pm_tup pa_mnil))) pb_nil)
  (pb_cons (ps_mset (i := 3) nd rfl (.inl rfl) (pm_fn F.f_ways_to hr0 (by rfl) (pa_mcons (pm_ix (pm_var 2) pm_int (fun _ _ => rfl)) (pa_mcons (pm_var 1) pa_mnil))))
  (pb_one (ps_mif (pt_mcmp cd_isnot (pm_var 3) pm_non (nomark _)) (pb_one (ps_mret (pm_op od_add (pm_tup (pa_mcons (pm_ix (pm_var 2) pm_int (fun _ _ => rfl)) pa_mnil)) (pm_var 3)))) pb_nil)))))
  (pb_one (ps_mret pm_non)))
theorem w_outline (G : GsW mg) (F : OkW P w K mg base k Φ) {f : Addr} {cdv : Value} {A : Around} {outer : List Env} {s : Shared} {H : Hp} {E : XK} (hr : Room (k + 2) (A.deeper (envOfC "outline" (defScope s_outline) s.heap.objs.size f cdv))) :
    PMB (cxOf CX0 P w K mg base N_outline "outline" (defScope s_outline) f cdv A outer s H E).nox (defBody s_outline) (b_outline Φ) := by
  have nd : (N_outline : List Str).Nodup := sc_outline.nd
  have hr0 : Room k (A.deeper (envOfC "outline" (defScope s_outline) s.heap.objs.size f cdv)) := hr.mono (by omega)
  have hu : (A.deeper (envOfC "outline" (defScope s_outline) s.heap.objs.size f cdv)).units + 64 < cLine := by have := hr.un; omega
  have hu1 : (A.deeper (envOfC "outline" (defScope s_outline) s.heap.objs.size f cdv)).units + 65 < cLine := by have := hr.un; omega
  have hu2 : (A.deeper (envOfC "outline" (defScope s_outline) s.heap.objs.size f cdv)).units + 70 < cLine := by have := hr.un; omega
  exact (pb_one (ps_mret (pm_callT call_mtuple (by rfl) G.g_tuple bt_tuple (pa_mcons (pm_fn F.f_grown hr0 (by rfl) (pa_mcons (pm_var 0) (pa_mcons pm_int (pa_mcons (pm_callB call_mlen (by rfl) G.g_len bt_len (pa_mcons (pm_var 0) pa_mnil)) pa_mnil)))) pa_mnil))))
theorem w_grown (G : GsW mg) (F : OkW P w K mg base k Φ) {f : Addr} {cdv : Value} {A : Around} {outer : List Env} {s : Shared} {H : Hp} {E : XK} (hr : Room (k + 2) (A.deeper (envOfC "grown" (defScope s_grown) s.heap.objs.size f cdv))) :
    PMB (cxOf CX0 P w K mg base N_grown "grown" (defScope s_grown) f cdv A outer s H E).nox (defBody s_grown) (b_grown Φ) := by
  have nd : (N_grown : List Str).Nodup := sc_grown.nd
  have hr0 : Room k (A.deeper (envOfC "grown" (defScope s_grown) s.heap.objs.size f cdv)) := hr.mono (by omega)
  have hu : (A.deeper (envOfC "grown" (defScope s_grown) s.heap.objs.size f cdv)).units + 64 < cLine := by have := hr.un; omega
  have hu1 : (A.deeper (envOfC "grown" (defScope s_grown) s.heap.objs.size f cdv)).units + 65 < cLine := by have := hr.un; omega
  have hu2 : (A.deeper (envOfC "grown" (defScope s_grown) s.heap.objs.size f cdv)).units + 70 < cLine := by have := hr.un; omega
  exact (pb_cons (ps_mset (i := 3) nd rfl (.inl rfl) (pm_new (pn_lst pa_mnil)))
  (pb_cons (ps_mset (i := 4) nd rfl (.inl rfl) (pm_var 1))
  (pb_cons (ps_mwhile PassesOwn.never (pt_mcmp (cd_ltT hu) (pm_var 4) (pm_var 2) (nomark _)) (pb_cons (ps_mset (i := 5) nd rfl (.inl rfl) (pm_op od_add (pm_var 4) pm_int))
  (pb_cons (ps_mwhile PassesOwn.never (pt_w (pw_mand (pt_mcmp (cd_ltT hu) (pm_var 5) (pm_var 2) (nomark _)) (pw_mand1 (pt_mcmp (cd_gtT hu) (pm_ix (pm_ix (pm_var 0) (pm_var 5) (fun _ _ => rfl)) pm_int (fun _ _ => rfl)) (pm_ix (pm_ix (pm_var 0) (pm_var 4) (fun _ _ => rfl)) pm_int (fun _ _ => rfl)) (nomark _))))) (pb_one (ps_maug (i := 5) nd rfl (.inl rfl) pm_int ip_maddA)))
  (pb_cons (ps_mexpr (pm_meth (.inr (.inl rfl)) PySem.F.plainAttrs_list PySem.F.slot_list_append PySem.F.type_list_append mt_mappend (pm_var 3) (pa_mcons (pm_tup (pa_mcons (pm_var 4) (pa_mcons (pm_callT call_mtuple (by rfl) G.g_tuple bt_tuple (pa_mcons (pm_fn F.f_grown hr0 (by rfl) (pa_mcons (pm_var 0) (pa_mcons (pm_op od_add (pm_var 4) pm_int) (pa_mcons (pm_var 5) pa_mnil)))) pa_mnil)) pa_mnil))) pa_mnil)))
  (pb_one (ps_mset (i := 4) nd rfl (.inl rfl) (pm_var 5)))))))
  (pb_one (ps_mret (pm_var 3))))))
theorem w_parents (G : GsW mg) (F : OkW P w K mg base k Φ) {f : Addr} {cdv : Value} {A : Around} {outer : List Env} {s : Shared} {H : Hp} {E : XK} (hr : Room (k + 2) (A.deeper (envOfC "parents" (defScope s_parents) s.heap.objs.size f cdv))) :
    PMB (cxOf CX0 P w K mg base N_parents "parents" (defScope s_parents) f cdv A outer s H E).nox (defBody s_parents) (b_parents Φ) := by
  have nd : (N_parents : List Str).Nodup := sc_parents.nd
  have hr0 : Room k (A.deeper (envOfC "parents" (defScope s_parents) s.heap.objs.size f cdv)) := hr.mono (by omega)
  have hu : (A.deeper (envOfC "parents" (defScope s_parents) s.heap.objs.size f cdv)).units + 64 < cLine := by have := hr.un; omega
  have hu1 : (A.deeper (envOfC "parents" (defScope s_parents) s.heap.objs.size f cdv)).units + 65 < cLine := by have := hr.un; omega
  have hu2 : (A.deeper (envOfC "parents" (defScope s_parents) s.heap.objs.size f cdv)).units + 70 < cLine := by have := hr.un; omega
  exact (pb_cons (ps_mset (i := 1) nd rfl (.inl rfl) (pm_new (pn_lst pa_mnil)))
  (pb_cons (ps_mfor PassesOwn.never rfl (pi_menum (by rfl) G.g_enumerate (pm_var 0)) (pg_mtup rfl (pgs_mcons (pg_mname (i := 2) nd rfl (.inl rfl)) (pgs_mcons (pg_mtup rfl (pgs_mcons (pg_mname (i := 3) nd rfl (.inr rfl)) (pgs_mcons (pg_mname (i := 4) nd rfl (.inl rfl)) pgs_mnil))) pgs_mnil))) (pb_cons (ps_mlc rfl nd (i := 5) rfl rfl (sw_true rfl rfl rfl rfl) (pi_mrange1 (by rfl) G.g_range (pm_var 2)) (own := [("other", 6)]) (blkOk_by (by rfl)) (fun s9 H9 C9 cl9 fp9 => (pgw_name (i := 6) (by decide) nd rfl (by first | exact .inl rfl | exact .inr rfl))) (fun s9 H9 C9 cl9 fp9 => (pts_mone (pt_mcmp (cd_ltT hu) (pm_ix (pm_ix (pm_var 0) (pm_var 6) (fun _ _ => rfl)) pm_int (fun _ _ => rfl)) (pm_var 3) (nomark _)))) (fun s9 H9 C9 cl9 fp9 => (pm_var 6)))
  (pb_one (ps_mexpr (pm_meth (.inr (.inl rfl)) PySem.F.plainAttrs_list PySem.F.slot_list_append PySem.F.type_list_append mt_mappend (pm_var 1) (pa_mcons (pm_if (pt_tru (pm_var 5) (fun _ => rfl)) (pm_ix (pm_var 5) (pm_neg pm_int) (fun _ _ => rfl)) pm_non) pa_mnil))))))
  (pb_one (ps_mret (pm_callT call_mtuple (by rfl) G.g_tuple bt_tuple (pa_mcons (pm_var 1) pa_mnil))))))
theorem w_numbers (G : GsW mg) (F : OkW P w K mg base k Φ) {f : Addr} {cdv : Value} {A : Around} {outer : List Env} {s : Shared} {H : Hp} {E : XK} (hr : Room (k + 2) (A.deeper (envOfC "numbers" (defScope s_numbers) s.heap.objs.size f cdv))) :
    PMB (cxOf CX0 P w K mg base N_numbers "numbers" (defScope s_numbers) f cdv A outer s H E).nox (defBody s_numbers) (b_numbers Φ) := by
  have nd : (N_numbers : List Str).Nodup := sc_numbers.nd
  have hr0 : Room k (A.deeper (envOfC "numbers" (defScope s_numbers) s.heap.objs.size f cdv)) := hr.mono (by omega)
  have hu : (A.deeper (envOfC "numbers" (defScope s_numbers) s.heap.objs.size f cdv)).units + 64 < cLine := by have := hr.un; omega
  have hu1 : (A.deeper (envOfC "numbers" (defScope s_numbers) s.heap.objs.size f cdv)).units + 65 < cLine := by have := hr.un; omega
  have hu2 : (A.deeper (envOfC "numbers" (defScope s_numbers) s.heap.objs.size f cdv)).units + 70 < cLine := by have := hr.un; omega
  exact (pb_cons (ps_mset (i := 1) nd rfl (.inl rfl) (pm_new (pn_lst pa_mnil)))
  (pb_cons (ps_mset (i := 2) nd rfl (.inr rfl) (pm_fn F.f_parents hr0 (by rfl) (pa_mcons (pm_var 0) pa_mnil)))
  (pb_cons (ps_mfor PassesOwn.never rfl (pi_menum (by rfl) G.g_enumerate (pm_var 2)) (pg_mtup rfl (pgs_mcons (pg_mname (i := 3) nd rfl (.inl rfl)) (pgs_mcons (pg_mname (i := 4) nd rfl (.inr rfl)) pgs_mnil))) (pb_cons (ps_mset (i := 5) nd rfl (.inl rfl) (pm_callB call_mlen (by rfl) G.g_len bt_len (pa_mcons (pm_lcT rfl nd (pi_mrange1 (by rfl) G.g_range (pm_var 3)) (own := [("other", 6)]) (blkOk_by (by rfl)) (fun s9 H9 C9 cl9 fp9 => (pgw_name (i := 6) (by decide) nd rfl (by first | exact .inl rfl | exact .inr rfl))) (fun s9 H9 C9 cl9 fp9 => (pts_mone (pt_mcmp (cd_eq hu) (pm_ix (pm_var 2) (pm_var 6) (fun _ _ => rfl)) (pm_var 4) (nomark _)))) (fun s9 H9 C9 cl9 fp9 => (pm_var 6))) pa_mnil)))
  (pb_one (ps_mexpr (pm_meth (.inr (.inl rfl)) PySem.F.plainAttrs_list PySem.F.slot_list_append PySem.F.type_list_append mt_mappend (pm_var 1) (pa_mcons (pm_op od_add (pm_if (pt_mcmp cd_is (pm_var 4) pm_non (nomark _)) (pm_tup pa_mnil) (pm_ix (pm_var 1) (pm_var 4) (fun _ _ => rfl))) (pm_tup (pa_mcons (pm_op od_add (pm_var 5) pm_int) pa_mnil))) pa_mnil))))))
  (pb_one (ps_mret (pm_callT call_mtuple (by rfl) G.g_tuple bt_tuple (pa_mcons (pm_var 1) pa_mnil)))))))
theorem w_raised (G : GsW mg) (F : OkW P w K mg base k Φ) {f : Addr} {cdv : Value} {A : Around} {outer : List Env} {s : Shared} {H : Hp} {E : XK} (hr : Room (k + 2) (A.deeper (envOfC "raised" (defScope s_raised) s.heap.objs.size f cdv))) {cc PP : Addr} (TB : GxR.TabB base mg cc PP) (hTP : PP ∈ Tabs.ts) (hcd : cdv = .ref cc) :
    PMB (cxOf CX0 P w K mg base N_raised "raised" (defScope s_raised) f cdv A outer s H E).nox (defBody s_raised) (b_raised Φ) := by
  have nd : (N_raised : List Str).Nodup := sc_raised.nd
  have hr0 : Room k (A.deeper (envOfC "raised" (defScope s_raised) s.heap.objs.size f cdv)) := hr.mono (by omega)
  have hu : (A.deeper (envOfC "raised" (defScope s_raised) s.heap.objs.size f cdv)).units + 64 < cLine := by have := hr.un; omega
  have hu1 : (A.deeper (envOfC "raised" (defScope s_raised) s.heap.objs.size f cdv)).units + 65 < cLine := by have := hr.un; omega
  have hu2 : (A.deeper (envOfC "raised" (defScope s_raised) s.heap.objs.size f cdv)).units + 70 < cLine := by have := hr.un; omega
  exact (pb_cons (ps_mset (i := 1) nd rfl (.inl rfl) (pm_fn F.f_numbers hr0 (by rfl) (pa_mcons (pm_var 0) pa_mnil)))
  (pb_one (ps_mret (pm_tupG (own := [("row", 2), ("_", 3), ("text", 4)]) (k := k + 1) ⟨rfl, hr, nd, ⟨_, _, TB, hTP, hcd⟩, (pi_mzip (by rfl) G.g_zip (pm_var 1) (pm_var 0)), (blkOk_by (by rfl)), rfl, (by decide), rfl, (fun _ => rfl), fun Ag9 s9 H9 C9 cl9 cv9 fp9 hrg => have hr0 : Room k Ag9 := hrg.mono (by omega); have hu : Ag9.units + 64 < cLine := (by have := hrg.un; omega); have hu1 : Ag9.units + 65 < cLine := (by have := hrg.un; omega); have hu2 : Ag9.units + 70 < cLine := (by have := hrg.un; omega); (pgw_tup rfl (pgws_cons (pgw_name (i := 2) (by decide) nd rfl (by first | exact .inl rfl | exact .inr rfl)) (pgws_cons (pgw_tup rfl (pgws_cons (pgw_name (i := 3) (by decide) nd rfl (by first | exact .inl rfl | exact .inr rfl)) (pgws_cons (pgw_name (i := 4) (by decide) nd rfl (by first | exact .inl rfl | exact .inr rfl)) pgws_nil))) pgws_nil))), fun Ag9 s9 H9 C9 cl9 cv9 fp9 hrg => have hr0 : Room k Ag9 := hrg.mono (by omega); have hu : Ag9.units + 64 < cLine := (by have := hrg.un; omega); have hu1 : Ag9.units + 65 < cLine := (by have := hrg.un; omega); have hu2 : Ag9.units + 70 < cLine := (by have := hrg.un; omega); pts_mnil, fun Ag9 s9 H9 C9 cl9 cv9 fp9 hrg => have hr0 : Room k Ag9 := hrg.mono (by omega); have hu : Ag9.units + 64 < cLine := (by have := hrg.un; omega); have hu1 : Ag9.units + 65 < cLine := (by have := hrg.un; omega); have hu2 : Ag9.units + 70 < cLine := (by have := hrg.un; omega); (pm_tup (pa_mcons (pm_callB call_mlen (by rfl) G.g_len bt_len (pa_mcons (pm_var 2) pa_mnil)) (pa_mcons (pm_var 4) pa_mnil)))⟩ (by rfl) G.g_tuple))))
theorem w_cut_at (G : GsW mg) (F : OkW P w K mg base k Φ) {f : Addr} {cdv : Value} {A : Around} {outer : List Env} {s : Shared} {H : Hp} {E : XK} (hr : Room (k + 2) (A.deeper (envOfC "cut_at" (defScope s_cut_at) s.heap.objs.size f cdv))) :
    PMB (cxOf CX0 P w K mg base N_cut_at "cut_at" (defScope s_cut_at) f cdv A outer s H E).nox (defBody s_cut_at) (b_cut_at Φ) := by
  have nd : (N_cut_at : List Str).Nodup := sc_cut_at.nd
  have hr0 : Room k (A.deeper (envOfC "cut_at" (defScope s_cut_at) s.heap.objs.size f cdv)) := hr.mono (by omega)
  have hu : (A.deeper (envOfC "cut_at" (defScope s_cut_at) s.heap.objs.size f cdv)).units + 64 < cLine := by have := hr.un; omega
  have hu1 : (A.deeper (envOfC "cut_at" (defScope s_cut_at) s.heap.objs.size f cdv)).units + 65 < cLine := by have := hr.un; omega
  have hu2 : (A.deeper (envOfC "cut_at" (defScope s_cut_at) s.heap.objs.size f cdv)).units + 70 < cLine := by have := hr.un; omega
  exact (pb_cons (ps_mset (i := 2) nd rfl (.inl rfl) (pm_ix (pm_ix (pm_var 0) (pm_var 1) (fun _ _ => rfl)) pm_int (fun _ _ => rfl)))
  (pb_cons (ps_mset (i := 3) nd rfl (.inl rfl) (pm_op od_add (pm_var 1) pm_int))
  (pb_cons (ps_mwhile PassesOwn.never (pt_w (pw_mand (pt_mcmp (cd_ltT hu) (pm_var 3) (pm_callB call_mlen (by rfl) G.g_len bt_len (pa_mcons (pm_var 0) pa_mnil)) (nomark _)) (pw_mand1 (pt_mcmp (cd_gtT hu) (pm_ix (pm_ix (pm_var 0) (pm_var 3) (fun _ _ => rfl)) pm_int (fun _ _ => rfl)) (pm_var 2) (nomark _))))) (pb_one (ps_maug (i := 3) nd rfl (.inl rfl) pm_int ip_maddA)))
  (pb_one (ps_mret (pm_tupRg2 rfl (by rfl) G.g_range (by rfl) G.g_tuple (pm_var 1) (pm_var 3)))))))
theorem w_l_box (G : GsW mg) (F : OkW P w K mg base k Φ) {f : Addr} {cdv : Value} {A : Around} {outer : List Env} {s : Shared} {H : Hp} {E : XK} (hr : Room (k + 2) (A.deeper (envOfC "_law_box" (defScope s_l_box) s.heap.objs.size f cdv))) :
    PMB (cxOf CX0 P w K mg base N_l_box "_law_box" (defScope s_l_box) f cdv A outer s H E).nox (defBody s_l_box) (b_l_box Φ) := by
  have nd : (N_l_box : List Str).Nodup := sc_l_box.nd
  have hr0 : Room k (A.deeper (envOfC "_law_box" (defScope s_l_box) s.heap.objs.size f cdv)) := hr.mono (by omega)
  have hu : (A.deeper (envOfC "_law_box" (defScope s_l_box) s.heap.objs.size f cdv)).units + 64 < cLine := by have := hr.un; omega
  have hu1 : (A.deeper (envOfC "_law_box" (defScope s_l_box) s.heap.objs.size f cdv)).units + 65 < cLine := by have := hr.un; omega
  have hu2 : (A.deeper (envOfC "_law_box" (defScope s_l_box) s.heap.objs.size f cdv)).units + 70 < cLine := by have := hr.un; omega
  exact (pb_one (ps_mret (pm_new (pn_lst (pa_mcons (pm_fn F.f_l_digits hr0 (by rfl) (pa_mcons (pm_var 0) (pa_mcons (pm_var 1) (pa_mcons (pm_var 2) pa_mnil)))) (pa_mcons pm_int (pa_mcons pm_int (pa_mcons pm_int (pa_mcons pm_int (pa_mcons (pm_new (pn_lst pa_mnil)) pa_mnil))))))))))
theorem w_l_digits (G : GsW mg) (F : OkW P w K mg base k Φ) {f : Addr} {cdv : Value} {A : Around} {outer : List Env} {s : Shared} {H : Hp} {E : XK} (hr : Room (k + 2) (A.deeper (envOfC "_law_digits" (defScope s_l_digits) s.heap.objs.size f cdv))) :
    PMB (cxOf CX0 P w K mg base N_l_digits "_law_digits" (defScope s_l_digits) f cdv A outer s H E).nox (defBody s_l_digits) (b_l_digits Φ) := by
  have nd : (N_l_digits : List Str).Nodup := sc_l_digits.nd
  have hr0 : Room k (A.deeper (envOfC "_law_digits" (defScope s_l_digits) s.heap.objs.size f cdv)) := hr.mono (by omega)
  have hu : (A.deeper (envOfC "_law_digits" (defScope s_l_digits) s.heap.objs.size f cdv)).units + 64 < cLine := by have := hr.un; omega
  have hu1 : (A.deeper (envOfC "_law_digits" (defScope s_l_digits) s.heap.objs.size f cdv)).units + 65 < cLine := by have := hr.un; omega
  have hu2 : (A.deeper (envOfC "_law_digits" (defScope s_l_digits) s.heap.objs.size f cdv)).units + 70 < cLine := by have := hr.un; omega
  exact (pb_cons (ps_mset (i := 3) nd rfl (.inl rfl) (pm_new (pn_lst pa_mnil)))
  (pb_cons (ps_mfor PassesOwn.never rfl (pi_mrange2 (by rfl) G.g_range (pm_var 1) (pm_var 2)) (pg_mname (i := 4) nd rfl (.inl rfl)) (pb_cons (ps_mset (i := 5) nd rfl (.inl rfl) (pm_fn F.f_l_cell hr0 (by rfl) (pa_mcons (pm_var 0) (pa_mcons (pm_var 4) pa_mnil))))
  (pb_cons (ps_mif (pt_mcmp (cd_ltT hu) (pm_var 5) pm_int (nomark _)) (pb_one (ps_mset (i := 5) nd rfl (.inl rfl) (pm_op od_sub pm_int (pm_op od_mul pm_int (pm_var 5))))) pb_nil)
  (pb_one (ps_mif (pt_mcmp (cd_geT hu) (pm_var 5) (pm_op od_pow pm_int pm_int) (nomark _)) (pb_one (ps_mfor PassesOwn.never rfl (pi_mrange1 (by rfl) G.g_range pm_int) (pg_mname (i := 6) nd rfl (.inl rfl)) (pb_one (ps_mif (pt_mcmp (cd_gtT hu) (pm_var 5) pm_int (nomark _)) (pb_cons (ps_mexpr (pm_meth (.inr (.inl rfl)) PySem.F.plainAttrs_list PySem.F.slot_list_append PySem.F.type_list_append mt_mappend (pm_var 3) (pa_mcons (pm_op od_mod (pm_callT call_mint (by rfl) G.g_int bt_int (pa_mcons (pm_var 5) pa_mnil)) pm_int) pa_mnil)))
  (pb_one (ps_mset (i := 5) nd rfl (.inl rfl) (pm_op od_div (pm_var 5) pm_int)))) pb_nil)))) (pb_cons (ps_mset (i := 7) nd rfl (.inl rfl) (pm_op od_mod (pm_callT call_mint (by rfl) G.g_int bt_int (pa_mcons (pm_op od_addT (pm_op od_addT (pm_op od_mul (pm_var 5) pm_int) (pm_op od_mul (pm_var 4) pm_int)) pm_int) pa_mnil)) pm_int))
  (pb_one (ps_mfor PassesOwn.never rfl (pi_mrange1 (by rfl) G.g_range pm_int) (pg_mname (i := 6) nd rfl (.inl rfl)) (pb_cons (ps_mset (i := 7) nd rfl (.inl rfl) (pm_op od_mod (pm_callT call_mint (by rfl) G.g_int bt_int (pa_mcons (pm_op od_addT (pm_op od_addT (pm_op od_mul (pm_var 7) pm_int) (pm_op od_mul pm_int (pm_var 6))) pm_int) pa_mnil)) pm_int))
  (pb_one (ps_mexpr (pm_meth (.inr (.inl rfl)) PySem.F.plainAttrs_list PySem.F.slot_list_append PySem.F.type_list_append mt_mappend (pm_var 3) (pa_mcons (pm_op od_mod (pm_callT call_mint (by rfl) G.g_int bt_int (pa_mcons (pm_op od_div (pm_var 7) pm_int) pa_mnil)) pm_int) pa_mnil)))))))))))))
  (pb_one (ps_mret (pm_var 3)))))
theorem w_l_cell (G : GsW mg) (F : OkW P w K mg base k Φ) {f : Addr} {cdv : Value} {A : Around} {outer : List Env} {s : Shared} {H : Hp} {E : XK} (hr : Room (k + 2) (A.deeper (envOfC "_law_cell" (defScope s_l_cell) s.heap.objs.size f cdv))) :
    PMB (cxOf CX0 P w K mg base N_l_cell "_law_cell" (defScope s_l_cell) f cdv A outer s H E).nox (defBody s_l_cell) (b_l_cell Φ) := by
  have nd : (N_l_cell : List Str).Nodup := sc_l_cell.nd
  have hr0 : Room k (A.deeper (envOfC "_law_cell" (defScope s_l_cell) s.heap.objs.size f cdv)) := hr.mono (by omega)
  have hu : (A.deeper (envOfC "_law_cell" (defScope s_l_cell) s.heap.objs.size f cdv)).units + 64 < cLine := by have := hr.un; omega
  have hu1 : (A.deeper (envOfC "_law_cell" (defScope s_l_cell) s.heap.objs.size f cdv)).units + 65 < cLine := by have := hr.un; omega
  have hu2 : (A.deeper (envOfC "_law_cell" (defScope s_l_cell) s.heap.objs.size f cdv)).units + 70 < cLine := by have := hr.un; omega
  exact (pb_cons (ps_mif (pt_mcmp (cd_ltT hu) (pm_var 1) (pm_callB call_mlen (by rfl) G.g_len bt_len (pa_mcons (pm_var 0) pa_mnil)) (nomark _)) (pb_one (ps_mret (pm_ix (pm_var 0) (pm_var 1) (fun _ _ => rfl)))) pb_nil)
  (pb_one (ps_mret pm_int)))
theorem w_l_headings (G : GsW mg) (F : OkW P w K mg base k Φ) {f : Addr} {cdv : Value} {A : Around} {outer : List Env} {s : Shared} {H : Hp} {E : XK} (hr : Room (k + 2) (A.deeper (envOfC "_law_headings" (defScope s_l_headings) s.heap.objs.size f cdv))) :
    PMB (cxOf CX0 P w K mg base N_l_headings "_law_headings" (defScope s_l_headings) f cdv A outer s H E).nox (defBody s_l_headings) (b_l_headings Φ) := by
  have nd : (N_l_headings : List Str).Nodup := sc_l_headings.nd
  have hr0 : Room k (A.deeper (envOfC "_law_headings" (defScope s_l_headings) s.heap.objs.size f cdv)) := hr.mono (by omega)
  have hu : (A.deeper (envOfC "_law_headings" (defScope s_l_headings) s.heap.objs.size f cdv)).units + 64 < cLine := by have := hr.un; omega
  have hu1 : (A.deeper (envOfC "_law_headings" (defScope s_l_headings) s.heap.objs.size f cdv)).units + 65 < cLine := by have := hr.un; omega
  have hu2 : (A.deeper (envOfC "_law_headings" (defScope s_l_headings) s.heap.objs.size f cdv)).units + 70 < cLine := by have := hr.un; omega
  exact (pb_cons (ps_mset (i := 2) nd rfl (.inl rfl) (pm_new (pn_lst pa_mnil)))
  (pb_cons (ps_mfor PassesOwn.never rfl (pi_mrange1 (by rfl) G.g_range (pm_fn F.f_l_draw hr0 (by rfl) (pa_mcons (pm_var 0) (pa_mcons (pm_op od_add (pm_var 1) pm_int) pa_mnil)))) (pg_mname (i := 3) nd rfl (.inl rfl)) (pb_one (ps_mexpr (pm_meth (.inr (.inl rfl)) PySem.F.plainAttrs_list PySem.F.slot_list_append PySem.F.type_list_append mt_mappend (pm_var 2) (pa_mcons (pm_tup (pa_mcons (pm_op od_add pm_int (pm_fn F.f_l_draw hr0 (by rfl) (pa_mcons (pm_var 0) (pa_mcons pm_int pa_mnil)))) (pa_mcons (pm_ix (pm_tmp (pn_lst (pa_mcons pm_str (pa_mcons pm_str (pa_mcons pm_str (pa_mcons pm_str (pa_mcons pm_str pa_mnil))))))) (pm_fn F.f_l_draw hr0 (by rfl) (pa_mcons (pm_var 0) (pa_mcons pm_int pa_mnil))) (fun _ _ => rfl)) pa_mnil))) pa_mnil)))))
  (pb_one (ps_mret (pm_callT call_mtuple (by rfl) G.g_tuple bt_tuple (pa_mcons (pm_var 2) pa_mnil))))))
theorem w_l_draw (G : GsW mg) (F : OkW P w K mg base k Φ) {f : Addr} {cdv : Value} {A : Around} {outer : List Env} {s : Shared} {H : Hp} {E : XK} (hr : Room (k + 2) (A.deeper (envOfC "_law_draw" (defScope s_l_draw) s.heap.objs.size f cdv))) :
    PMB (cxOf CX0 P w K mg base N_l_draw "_law_draw" (defScope s_l_draw) f cdv A outer s H E).nox (defBody s_l_draw) (b_l_draw Φ) := by
  have nd : (N_l_draw : List Str).Nodup := sc_l_draw.nd
  have hr0 : Room k (A.deeper (envOfC "_law_draw" (defScope s_l_draw) s.heap.objs.size f cdv)) := hr.mono (by omega)
  have hu : (A.deeper (envOfC "_law_draw" (defScope s_l_draw) s.heap.objs.size f cdv)).units + 64 < cLine := by have := hr.un; omega
  have hu1 : (A.deeper (envOfC "_law_draw" (defScope s_l_draw) s.heap.objs.size f cdv)).units + 65 < cLine := by have := hr.un; omega
  have hu2 : (A.deeper (envOfC "_law_draw" (defScope s_l_draw) s.heap.objs.size f cdv)).units + 70 < cLine := by have := hr.un; omega
  exact (pb_cons (ps_mset (i := 2) nd rfl (.inl rfl) (pm_ix (pm_var 0) pm_int (fun _ _ => rfl)))
  (pb_cons (ps_masg (pm_op od_add (pm_var 2) pm_int) (pg_msub (pm_var 0) pm_int))
  (pb_cons (ps_mif (pt_mcmp (cd_ltT hu) (pm_var 2) (pm_callB call_mlen (by rfl) G.g_len bt_len (pa_mcons (pm_ix (pm_var 0) pm_int (fun _ _ => rfl)) pa_mnil)) (nomark _)) (pb_one (ps_mret (pm_op od_mod (pm_callT call_mint (by rfl) G.g_int bt_int (pa_mcons (pm_ix (pm_ix (pm_var 0) pm_int (fun _ _ => rfl)) (pm_var 2) (fun _ _ => rfl)) pa_mnil)) (pm_var 1)))) pb_nil)
  (pb_one (ps_mret pm_int)))))
theorem w_l_same (G : GsW mg) (F : OkW P w K mg base k Φ) {f : Addr} {cdv : Value} {A : Around} {outer : List Env} {s : Shared} {H : Hp} {E : XK} (hr : Room (k + 2) (A.deeper (envOfC "_law_same" (defScope s_l_same) s.heap.objs.size f cdv))) :
    PMB (cxOf CX0 P w K mg base N_l_same "_law_same" (defScope s_l_same) f cdv A outer s H E).nox (defBody s_l_same) (b_l_same Φ) := by
  have nd : (N_l_same : List Str).Nodup := sc_l_same.nd
  have hr0 : Room k (A.deeper (envOfC "_law_same" (defScope s_l_same) s.heap.objs.size f cdv)) := hr.mono (by omega)
  have hu : (A.deeper (envOfC "_law_same" (defScope s_l_same) s.heap.objs.size f cdv)).units + 64 < cLine := by have := hr.un; omega
  have hu1 : (A.deeper (envOfC "_law_same" (defScope s_l_same) s.heap.objs.size f cdv)).units + 65 < cLine := by have := hr.un; omega
  have hu2 : (A.deeper (envOfC "_law_same" (defScope s_l_same) s.heap.objs.size f cdv)).units + 70 < cLine := by have := hr.un; omega
  exact (pb_cons (ps_mif (pt_tru (pm_isi (T := "tuple") (by decide) (by rfl) G.g_isinstance (pm_var 1) (by rfl) G.g_tuple bt_tuple) (fun _ => rfl)) (pb_cons (ps_mif (pt_w (pw_mor (pt_mnot (pt_tru (pm_isi (T := "tuple") (by decide) (by rfl) G.g_isinstance (pm_var 0) (by rfl) G.g_tuple bt_tuple) (fun _ => rfl))) (pw_mor1 (pt_mcmp (cd_ne hu) (pm_callB call_mlen (by rfl) G.g_len bt_len (pa_mcons (pm_var 0) pa_mnil)) (pm_callB call_mlen (by rfl) G.g_len bt_len (pa_mcons (pm_var 1) pa_mnil)) (nomark _))))) (pb_one (ps_mret pm_bl)) pb_nil)
  (pb_cons (ps_mfor PassesOwn.never rfl (pi_mrange1 (by rfl) G.g_range (pm_callB call_mlen (by rfl) G.g_len bt_len (pa_mcons (pm_var 1) pa_mnil))) (pg_mname (i := 2) nd rfl (.inl rfl)) (pb_one (ps_mif (pt_mnot (pt_tru (pm_fn F.f_l_same hr0 (by rfl) (pa_mcons (pm_ix (pm_var 0) (pm_var 2) (fun _ _ => rfl)) (pa_mcons (pm_ix (pm_var 1) (pm_var 2) (fun _ _ => rfl)) pa_mnil))) (fun _ => rfl))) (pb_one (ps_mret pm_bl)) pb_nil)))
  (pb_one (ps_mret pm_bl)))) pb_nil)
  (pb_cons (ps_mif (pt_mcmp cd_is (pm_var 1) pm_non (nomark _)) (pb_one (ps_mret (pm_cmp cd_is (pm_var 0) pm_non (nomark _)))) pb_nil)
  (pb_cons (ps_mif (pt_tru (pm_isi (T := "bool") (by decide) (by rfl) G.g_isinstance (pm_var 1) (by rfl) G.g_bool bt_bool) (fun _ => rfl)) (pb_one (ps_mret (pm_and (pm_isi (T := "bool") (by decide) (by rfl) G.g_isinstance (pm_var 0) (by rfl) G.g_bool bt_bool) (pm_one (pm_cmp (cd_eq hu) (pm_var 0) (pm_var 1) (nomark _)))))) pb_nil)
  (pb_cons (ps_mif (pt_tru (pm_isi (T := "int") (by decide) (by rfl) G.g_isinstance (pm_var 1) (by rfl) G.g_int bt_int) (fun _ => rfl)) (pb_one (ps_mret (pm_and (pm_isi (T := "int") (by decide) (by rfl) G.g_isinstance (pm_var 0) (by rfl) G.g_int bt_int) (pm_and (pm_notV (pm_isi (T := "bool") (by decide) (by rfl) G.g_isinstance (pm_var 0) (by rfl) G.g_bool bt_bool)) (pm_one (pm_cmp (cd_eq hu) (pm_var 0) (pm_var 1) (nomark _))))))) pb_nil)
  (pb_one (ps_mret (pm_and (pm_isi (T := "str") (by decide) (by rfl) G.g_isinstance (pm_var 0) (by rfl) G.g_str bt_str) (pm_one (pm_cmp (cd_eq hu) (pm_var 0) (pm_var 1) (nomark _))))))))))
theorem w_l_branches (G : GsW mg) (F : OkW P w K mg base k Φ) {f : Addr} {cdv : Value} {A : Around} {outer : List Env} {s : Shared} {H : Hp} {E : XK} (hr : Room (k + 2) (A.deeper (envOfC "_law_branches" (defScope s_l_branches) s.heap.objs.size f cdv))) :
    PMB (cxOf CX0 P w K mg base N_l_branches "_law_branches" (defScope s_l_branches) f cdv A outer s H E).nox (defBody s_l_branches) (b_l_branches Φ) := by
  have nd : (N_l_branches : List Str).Nodup := sc_l_branches.nd
  have hr0 : Room k (A.deeper (envOfC "_law_branches" (defScope s_l_branches) s.heap.objs.size f cdv)) := hr.mono (by omega)
  have hu : (A.deeper (envOfC "_law_branches" (defScope s_l_branches) s.heap.objs.size f cdv)).units + 64 < cLine := by have := hr.un; omega
  have hu1 : (A.deeper (envOfC "_law_branches" (defScope s_l_branches) s.heap.objs.size f cdv)).units + 65 < cLine := by have := hr.un; omega
  have hu2 : (A.deeper (envOfC "_law_branches" (defScope s_l_branches) s.heap.objs.size f cdv)).units + 70 < cLine := by have := hr.un; omega
  exact (pb_one (ps_mret (pm_callT call_mtuple (by rfl) G.g_tuple bt_tuple (pa_mcons (pm_lcT rfl nd (pi_mseq (pm_var 0)) (own := [("place", 1), ("inner", 2)]) (blkOk_by (by rfl)) (fun s9 H9 C9 cl9 fp9 => (pgw_tup rfl (pgws_cons (pgw_name (i := 1) (by decide) nd rfl (by first | exact .inl rfl | exact .inr rfl)) (pgws_cons (pgw_name (i := 2) (by decide) nd rfl (by first | exact .inl rfl | exact .inr rfl)) pgws_nil)))) (fun s9 H9 C9 cl9 fp9 => pts_mnil) (fun s9 H9 C9 cl9 fp9 => (pm_tup (pa_mcons (pm_op od_add pm_str (pm_callT call_mstr (by rfl) G.g_str bt_str (pa_mcons (pm_var 1) pa_mnil))) (pa_mcons (pm_fn F.f_l_branches hr0 (by rfl) (pa_mcons (pm_var 2) pa_mnil)) pa_mnil))))) pa_mnil))))
theorem w_law (G : GsW mg) (F : OkW P w K mg base k Φ) {f : Addr} {cdv : Value} {A : Around} {outer : List Env} {s : Shared} {H : Hp} {E : XK} (hr : Room (k + 2) (A.deeper (envOfC "law" (defScope s_law) s.heap.objs.size f cdv))) :
    PMB (cxOf CX0 P w K mg base N_law "law" (defScope s_law) f cdv A outer s H E).nox (defBody s_law) (b_law Φ) := by
  have nd : (N_law : List Str).Nodup := sc_law.nd
  have hr0 : Room k (A.deeper (envOfC "law" (defScope s_law) s.heap.objs.size f cdv)) := hr.mono (by omega)
  have hu : (A.deeper (envOfC "law" (defScope s_law) s.heap.objs.size f cdv)).units + 64 < cLine := by have := hr.un; omega
  have hu1 : (A.deeper (envOfC "law" (defScope s_law) s.heap.objs.size f cdv)).units + 65 < cLine := by have := hr.un; omega
  have hu2 : (A.deeper (envOfC "law" (defScope s_law) s.heap.objs.size f cdv)).units + 70 < cLine := by have := hr.un; omega
  exact (pb_cons (ps_mset (i := 1) nd rfl (.inl rfl) (pm_fn F.f_l_box hr0 (by rfl) (pa_mcons (pm_var 0) (pa_mcons pm_int (pa_mcons pm_int pa_mnil)))))
  (pb_cons (ps_mset (i := 2) nd rfl (.inl rfl) (pm_fn F.f_l_headings hr0 (by rfl) (pa_mcons (pm_var 1) (pa_mcons pm_int pa_mnil))))
  (pb_cons (ps_mset (i := 3) nd rfl (.inl rfl) (pm_fn F.f_l_branches hr0 (by rfl) (pa_mcons (pm_fn F.f_outline hr0 (by rfl) (pa_mcons (pm_var 2) pa_mnil)) pa_mnil)))
  (pb_cons (ps_mset (i := 4) nd rfl (.inl rfl) (pm_fn F.f_rows_of hr0 (by rfl) (pa_mcons (pm_var 3) (pa_mcons (pm_tup pa_mnil) pa_mnil))))
  (pb_cons (ps_mset (i := 5) nd rfl (.inl rfl) (pm_fn F.f_raised hr0 (by rfl) (pa_mcons (pm_var 2) pa_mnil)))
  (pb_cons (ps_mif (pt_mcmp (cd_ne hu) (pm_callB call_mlen (by rfl) G.g_len bt_len (pa_mcons (pm_var 4) pa_mnil)) (pm_callB call_mlen (by rfl) G.g_len bt_len (pa_mcons (pm_var 2) pa_mnil)) (nomark _)) (pb_one (ps_mret pm_bl)) pb_nil)
  (pb_cons (ps_mset (i := 6) nd rfl (.inl rfl) (pm_fn F.f_parents hr0 (by rfl) (pa_mcons (pm_var 2) pa_mnil)))
  (pb_cons (ps_mfor PassesOwn.never rfl (pi_mrange1 (by rfl) G.g_range (pm_callB call_mlen (by rfl) G.g_len bt_len (pa_mcons (pm_var 2) pa_mnil))) (pg_mname (i := 7) nd rfl (.inl rfl)) (pb_cons (ps_mif (pt_w (pw_mor (pt_mcmp (cd_ne hu) (pm_ix (pm_ix (pm_var 4) (pm_var 7) (fun _ _ => rfl)) pm_int (fun _ _ => rfl)) (pm_op od_addT pm_str (pm_callT call_mstr (by rfl) G.g_str bt_str (pa_mcons (pm_var 7) pa_mnil))) (nomark _)) (pw_mor1 (pt_mcmp (cd_ne hu) (pm_op od_addT (pm_ix (pm_ix (pm_var 4) (pm_var 7) (fun _ _ => rfl)) pm_int (fun _ _ => rfl)) pm_int) (pm_ix (pm_ix (pm_var 5) (pm_var 7) (fun _ _ => rfl)) pm_int (fun _ _ => rfl)) (nomark _))))) (pb_one (ps_mret pm_bl)) pb_nil)
  (pb_cons (ps_mset (i := 8) nd rfl (.inl rfl) (pm_new (pn_lst pa_mnil)))
  (pb_cons (ps_mset (i := 9) nd rfl (.inl rfl) (pm_ix (pm_var 6) (pm_var 7) (fun _ _ => rfl)))
  (pb_cons (ps_mfor PassesOwn.never rfl (pi_mrange1 (by rfl) G.g_range (pm_callB call_mlen (by rfl) G.g_len bt_len (pa_mcons (pm_var 2) pa_mnil))) (pg_mname (i := 10) nd rfl (.inl rfl)) (pb_one (ps_mif (pt_mcmp cd_isnot (pm_var 9) pm_non (nomark _)) (pb_cons (ps_mset (i := 8) nd rfl (.inl rfl) (pm_op od_add (pm_tmp (pn_lst (pa_mcons (pm_op od_add pm_str (pm_callT call_mstr (by rfl) G.g_str bt_str (pa_mcons (pm_var 9) pa_mnil))) pa_mnil))) (pm_var 8)))
  (pb_one (ps_mset (i := 9) nd rfl (.inl rfl) (pm_ix (pm_var 6) (pm_var 9) (fun _ _ => rfl))))) pb_nil)))
  (pb_cons (ps_mif (pt_mnot (pt_tru (pm_fn F.f_l_same hr0 (by rfl) (pa_mcons (pm_fn F.f_ways_to hr0 (by rfl) (pa_mcons (pm_var 3) (pa_mcons (pm_op od_add pm_str (pm_callT call_mstr (by rfl) G.g_str bt_str (pa_mcons (pm_var 7) pa_mnil))) pa_mnil))) (pa_mcons (pm_callT call_mtuple (by rfl) G.g_tuple bt_tuple (pa_mcons (pm_var 8) pa_mnil)) pa_mnil))) (fun _ => rfl))) (pb_one (ps_mret pm_bl)) pb_nil)
  (pb_one (ps_mif (pt_mcmp (cd_ne hu) (pm_cmp (cd_eq hu) (pm_ix (pm_ix (pm_var 4) (pm_var 7) (fun _ _ => rfl)) pm_int (fun _ _ => rfl)) pm_str (nomark _)) (pm_cmp (cd_eq hu) (pm_callB call_mlen (by rfl) G.g_len bt_len (pa_mcons (pm_fn F.f_cut_at hr0 (by rfl) (pa_mcons (pm_var 2) (pa_mcons (pm_var 7) pa_mnil))) pa_mnil)) pm_int (nomark _)) (nomark _)) (pb_one (ps_mret pm_bl)) pb_nil))))))))
  (pb_cons (ps_mif (pt_mcmp (cd_gtT hu) (pm_callB call_mlen (by rfl) G.g_len bt_len (pa_mcons (pm_var 2) pa_mnil)) pm_int (nomark _)) (pb_cons (ps_mset (i := 7) nd rfl (.inl rfl) (pm_fn F.f_l_draw hr0 (by rfl) (pa_mcons (pm_var 1) (pa_mcons (pm_callB call_mlen (by rfl) G.g_len bt_len (pa_mcons (pm_var 2) pa_mnil)) pa_mnil))))
  (pb_cons (ps_mset (i := 11) nd rfl (.inr rfl) (pm_cutK (pm_fn F.f_cut_at hr0 (by rfl) (pa_mcons (pm_var 2) (pa_mcons (pm_var 7) pa_mnil))) (po_msome pm_int) po_mnone))
  (pb_cons (ps_mlc rfl nd (i := 12) rfl rfl (sw_true rfl rfl rfl rfl) (pi_mrange1 (by rfl) G.g_range (pm_callB call_mlen (by rfl) G.g_len bt_len (pa_mcons (pm_var 2) pa_mnil))) (own := [("j", 13)]) (blkOk_by (by rfl)) (fun s9 H9 C9 cl9 fp9 => (pgw_name (i := 13) (by decide) nd rfl (by first | exact .inl rfl | exact .inr rfl))) (fun s9 H9 C9 cl9 fp9 => (pts_mone (pt_mcmp (cd_notin hu1) (pm_var 13) (pm_var 11) (by rfl)))) (fun s9 H9 C9 cl9 fp9 => (pm_op od_add pm_str (pm_callT call_mstr (by rfl) G.g_str bt_str (pa_mcons (pm_var 13) pa_mnil)))))
  (pb_one (ps_mif (pt_mcmp (cd_ne hu) (pm_lcT rfl nd (pi_mseq (pm_fn F.f_rows_of hr0 (by rfl) (pa_mcons (pm_var 3) (pa_mcons (pm_tup (pa_mcons (pm_op od_add pm_str (pm_callT call_mstr (by rfl) G.g_str bt_str (pa_mcons (pm_var 7) pa_mnil))) pa_mnil)) pa_mnil)))) (own := [("row", 14)]) (blkOk_by (by rfl)) (fun s9 H9 C9 cl9 fp9 => (pgw_name (i := 14) (by decide) nd rfl (by first | exact .inl rfl | exact .inr rfl))) (fun s9 H9 C9 cl9 fp9 => pts_mnil) (fun s9 H9 C9 cl9 fp9 => (pm_ix (pm_var 14) pm_int (fun _ _ => rfl)))) (pm_var 12) (nomark _)) (pb_one (ps_mret pm_bl)) pb_nil))))) pb_nil)
  (pb_cons (ps_mset (i := 15) nd rfl (.inl rfl) (pm_new (pn_lst pa_mnil)))
  (pb_cons (ps_mfor PassesOwn.never rfl (pi_mseq (pm_var 3)) (pg_mname (i := 16) nd rfl (.inl rfl)) (pb_one (ps_mset (i := 15) nd rfl (.inl rfl) (pm_op od_add (pm_var 15) (pm_tmp (pn_callT call_mlist (by rfl) G.g_list bt_list (pa_mcons (pm_fn F.f_names_in hr0 (by rfl) (pa_mcons (pm_var 16) pa_mnil)) pa_mnil)))))))
  (pb_one (ps_mret (pm_cmp (cd_eq hu) (pm_var 15) (pm_lcT rfl nd (pi_mrange1 (by rfl) G.g_range (pm_callB call_mlen (by rfl) G.g_len bt_len (pa_mcons (pm_var 2) pa_mnil))) (own := [("k", 7)]) (blkOk_by (by rfl)) (fun s9 H9 C9 cl9 fp9 => (pgw_name (i := 7) (by decide) nd rfl (by first | exact .inl rfl | exact .inr rfl))) (fun s9 H9 C9 cl9 fp9 => pts_mnil) (fun s9 H9 C9 cl9 fp9 => (pm_op od_add pm_str (pm_callT call_mstr (by rfl) G.g_str bt_str (pa_mcons (pm_var 7) pa_mnil))))) (nomark _)))))))))))))))
end
section
variable {P : Program} {w : World} {K : PySem.W.Frag} {mg : Str → Option Value} {base : Heap}
theorem okAll (G : GsW mg) {f_names_in : Addr} {fd_names_in : FuncData} {f_rows_of : Addr} {fd_rows_of : FuncData} {f_add_rows : Addr} {fd_add_rows : FuncData} {f_ways_to : Addr} {fd_ways_to : FuncData} {f_outline : Addr} {fd_outline : FuncData} {f_grown : Addr} {fd_grown : FuncData} {f_parents : Addr} {fd_parents : FuncData} {f_numbers : Addr} {fd_numbers : FuncData} {f_raised : Addr} {fd_raised : FuncData} {f_cut_at : Addr} {fd_cut_at : FuncData} {f_l_box : Addr} {fd_l_box : FuncData} {f_l_digits : Addr} {fd_l_digits : FuncData} {f_l_cell : Addr} {fd_l_cell : FuncData} {f_l_headings : Addr} {fd_l_headings : FuncData} {f_l_draw : Addr} {fd_l_draw : FuncData} {f_l_same : Addr} {fd_l_same : FuncData} {f_l_branches : Addr} {fd_l_branches : FuncData} {f_law : Addr} {fd_law : FuncData}
    (F_names_in : Fun K "names_in" "names_in" s_names_in f_names_in fd_names_in) (m_names_in : mg "names_in" = some (.ref f_names_in)) (b_names_in : Binds K fd_names_in p_names_in [])
    (F_rows_of : Fun K "rows_of" "rows_of" s_rows_of f_rows_of fd_rows_of) (m_rows_of : mg "rows_of" = some (.ref f_rows_of)) (b_rows_of : Binds K fd_rows_of p_rows_of [])
    (F_add_rows : Fun K "add_rows" "add_rows" s_add_rows f_add_rows fd_add_rows) (m_add_rows : mg "add_rows" = some (.ref f_add_rows)) (b_add_rows : Binds K fd_add_rows p_add_rows [])
    (F_ways_to : Fun K "ways_to" "ways_to" s_ways_to f_ways_to fd_ways_to) (m_ways_to : mg "ways_to" = some (.ref f_ways_to)) (b_ways_to : Binds K fd_ways_to p_ways_to [])
    (F_outline : Fun K "outline" "outline" s_outline f_outline fd_outline) (m_outline : mg "outline" = some (.ref f_outline)) (b_outline : Binds K fd_outline p_outline [])
    (F_grown : Fun K "grown" "grown" s_grown f_grown fd_grown) (m_grown : mg "grown" = some (.ref f_grown)) (b_grown : Binds K fd_grown p_grown [])
    (F_parents : Fun K "parents" "parents" s_parents f_parents fd_parents) (m_parents : mg "parents" = some (.ref f_parents)) (b_parents : Binds K fd_parents p_parents [])
    (F_numbers : Fun K "numbers" "numbers" s_numbers f_numbers fd_numbers) (m_numbers : mg "numbers" = some (.ref f_numbers)) (b_numbers : Binds K fd_numbers p_numbers [])
    (F_raised : Fun K "raised" "raised" s_raised f_raised fd_raised) (m_raised : mg "raised" = some (.ref f_raised)) (b_raised : Binds K fd_raised p_raised [])
    (F_cut_at : Fun K "cut_at" "cut_at" s_cut_at f_cut_at fd_cut_at) (m_cut_at : mg "cut_at" = some (.ref f_cut_at)) (b_cut_at : Binds K fd_cut_at p_cut_at [])
    (F_l_box : Fun K "_law_box" "_law_box" s_l_box f_l_box fd_l_box) (m_l_box : mg "_law_box" = some (.ref f_l_box)) (b_l_box : Binds K fd_l_box p_l_box [])
    (F_l_digits : Fun K "_law_digits" "_law_digits" s_l_digits f_l_digits fd_l_digits) (m_l_digits : mg "_law_digits" = some (.ref f_l_digits)) (b_l_digits : Binds K fd_l_digits p_l_digits [])
    (F_l_cell : Fun K "_law_cell" "_law_cell" s_l_cell f_l_cell fd_l_cell) (m_l_cell : mg "_law_cell" = some (.ref f_l_cell)) (b_l_cell : Binds K fd_l_cell p_l_cell [])
    (F_l_headings : Fun K "_law_headings" "_law_headings" s_l_headings f_l_headings fd_l_headings) (m_l_headings : mg "_law_headings" = some (.ref f_l_headings)) (b_l_headings : Binds K fd_l_headings p_l_headings [])
    (F_l_draw : Fun K "_law_draw" "_law_draw" s_l_draw f_l_draw fd_l_draw) (m_l_draw : mg "_law_draw" = some (.ref f_l_draw)) (b_l_draw : Binds K fd_l_draw p_l_draw [])
    (F_l_same : Fun K "_law_same" "_law_same" s_l_same f_l_same fd_l_same) (m_l_same : mg "_law_same" = some (.ref f_l_same)) (b_l_same : Binds K fd_l_same p_l_same [])
    (F_l_branches : Fun K "_law_branches" "_law_branches" s_l_branches f_l_branches fd_l_branches) (m_l_branches : mg "_law_branches" = some (.ref f_l_branches)) (b_l_branches : Binds K fd_l_branches p_l_branches [])
    (F_law : Fun K "law" "law" s_law f_law fd_law) (m_law : mg "law" = some (.ref f_law)) (b_law : Binds K fd_law p_law [])
    {cc_raised PP_raised : Addr} (T_raised : GxR.TabB base mg cc_raised PP_raised) (h_raised : PP_raised ∈ Tabs.ts) (e_raised : fd_raised.code = .ref cc_raised) :
    ∀ k, OkW P w K mg base (3 * k) (Phi k)
  | 0 => by
    constructor
    · exact fnd_zero F_names_in m_names_in b_names_in
    · exact fnd_zero F_rows_of m_rows_of b_rows_of
    · exact fnd_zero F_add_rows m_add_rows b_add_rows
    · exact fnd_zero F_ways_to m_ways_to b_ways_to
    · exact fnd_zero F_outline m_outline b_outline
    · exact fnd_zero F_grown m_grown b_grown
    · exact fnd_zero F_parents m_parents b_parents
    · exact fnd_zero F_numbers m_numbers b_numbers
    · exact fnd_zero F_raised m_raised b_raised
    · exact fnd_zero F_cut_at m_cut_at b_cut_at
    · exact fnd_zero F_l_box m_l_box b_l_box
    · exact fnd_zero F_l_digits m_l_digits b_l_digits
    · exact fnd_zero F_l_cell m_l_cell b_l_cell
    · exact fnd_zero F_l_headings m_l_headings b_l_headings
    · exact fnd_zero F_l_draw m_l_draw b_l_draw
    · exact fnd_zero F_l_same m_l_same b_l_same
    · exact fnd_zero F_l_branches m_l_branches b_l_branches
    · exact fnd_zero F_law m_law b_law
  | k + 1 => by
    have ih := okAll G F_names_in m_names_in b_names_in F_rows_of m_rows_of b_rows_of F_add_rows m_add_rows b_add_rows F_ways_to m_ways_to b_ways_to F_outline m_outline b_outline F_grown m_grown b_grown F_parents m_parents b_parents F_numbers m_numbers b_numbers F_raised m_raised b_raised F_cut_at m_cut_at b_cut_at F_l_box m_l_box b_l_box F_l_digits m_l_digits b_l_digits F_l_cell m_l_cell b_l_cell F_l_headings m_l_headings b_l_headings F_l_draw m_l_draw b_l_draw F_l_same m_l_same b_l_same F_l_branches m_l_branches b_l_branches F_law m_law b_law T_raised h_raised e_raised k
    constructor
    · exact fnd_of (k := 3 * k + 2) F_names_in m_names_in b_names_in sc_names_in fun cdv hcd A outer s H E hr => w_names_in G ih hr
    · exact fnd_of (k := 3 * k + 2) F_rows_of m_rows_of b_rows_of sc_rows_of fun cdv hcd A outer s H E hr => w_rows_of G ih hr
    · exact fnd_of (k := 3 * k + 2) F_add_rows m_add_rows b_add_rows sc_add_rows fun cdv hcd A outer s H E hr => w_add_rows G ih hr
    · exact fnd_of (k := 3 * k + 2) F_ways_to m_ways_to b_ways_to sc_ways_to fun cdv hcd A outer s H E hr => w_ways_to G ih hr
    · exact fnd_of (k := 3 * k + 2) F_outline m_outline b_outline sc_outline fun cdv hcd A outer s H E hr => w_outline G ih hr
    · exact fnd_of (k := 3 * k + 2) F_grown m_grown b_grown sc_grown fun cdv hcd A outer s H E hr => w_grown G ih hr
    · exact fnd_of (k := 3 * k + 2) F_parents m_parents b_parents sc_parents fun cdv hcd A outer s H E hr => w_parents G ih hr
    · exact fnd_of (k := 3 * k + 2) F_numbers m_numbers b_numbers sc_numbers fun cdv hcd A outer s H E hr => w_numbers G ih hr
    · exact fnd_of (k := 3 * k + 2) F_raised m_raised b_raised sc_raised fun cdv hcd A outer s H E hr => w_raised G ih hr T_raised h_raised (hcd.symm.trans e_raised)
    · exact fnd_of (k := 3 * k + 2) F_cut_at m_cut_at b_cut_at sc_cut_at fun cdv hcd A outer s H E hr => w_cut_at G ih hr
    · exact fnd_of (k := 3 * k + 2) F_l_box m_l_box b_l_box sc_l_box fun cdv hcd A outer s H E hr => w_l_box G ih hr
    · exact fnd_of (k := 3 * k + 2) F_l_digits m_l_digits b_l_digits sc_l_digits fun cdv hcd A outer s H E hr => w_l_digits G ih hr
    · exact fnd_of (k := 3 * k + 2) F_l_cell m_l_cell b_l_cell sc_l_cell fun cdv hcd A outer s H E hr => w_l_cell G ih hr
    · exact fnd_of (k := 3 * k + 2) F_l_headings m_l_headings b_l_headings sc_l_headings fun cdv hcd A outer s H E hr => w_l_headings G ih hr
    · exact fnd_of (k := 3 * k + 2) F_l_draw m_l_draw b_l_draw sc_l_draw fun cdv hcd A outer s H E hr => w_l_draw G ih hr
    · exact fnd_of (k := 3 * k + 2) F_l_same m_l_same b_l_same sc_l_same fun cdv hcd A outer s H E hr => w_l_same G ih hr
    · exact fnd_of (k := 3 * k + 2) F_l_branches m_l_branches b_l_branches sc_l_branches fun cdv hcd A outer s H E hr => w_l_branches G ih hr
    · exact fnd_of (k := 3 * k + 2) F_law m_law b_law sc_law fun cdv hcd A outer s H E hr => w_law G ih hr
end
end
theorem all_mk (N : Nat) {l : PySem.W.OpenLaw} {w : World} {K : PySem.W.Frag} {h : Heap} {mg : Str → Option Value} {q : Program} {fa f0 f1 f2 f3 f4 f5 f6 f7 f8 f9 f10 f11 f12 f13 f14 f15 f16 f17 : Addr} {q8 P8 : Addr} {te8 : Value} {td8 : Option Addr} {tv8 : Array Value} {ts8 : Array (Option Value)} (X : K.In h) (G : h.Ns mainGlobals mg) (hfa : mg "law" = some (.ref fa)) (AT : AllTab q K mg h)
    (hlaw : ∀ [Tabs] (sc : D) (ns : List Int), Scr sc ns → ns.length ≤ 63 → ∃ S', Phi (N + 1) .law [sc] [] = some (.bl true, S'))
    {od0 an0 od1 an1 od2 an2 od3 an3 od4 an4 od5 an5 od6 an6 od7 an7 od8 an8 od9 an9 od10 an10 od11 an11 od12 an12 od13 an13 od14 an14 od15 an15 od16 an16 od17 an17 : Option Addr} {sl0 sl1 sl2 sl3 sl4 sl5 sl6 sl7 sl8 sl9 sl10 sl11 sl12 sl13 sl14 sl15 sl16 sl17 : Array (Option Value)}
    {oc0 kV0 dc0 pm0 cd0 ct0 oc1 kV1 dc1 pm1 cd1 ct1 oc2 kV2 dc2 pm2 cd2 ct2 oc3 kV3 dc3 pm3 cd3 ct3 oc4 kV4 dc4 pm4 cd4 ct4 oc5 kV5 dc5 pm5 cd5 ct5 oc6 kV6 dc6 pm6 cd6 ct6 oc7 kV7 dc7 pm7 cd7 ct7 oc8 kV8 dc8 pm8 ct8 oc9 kV9 dc9 pm9 cd9 ct9 oc10 kV10 dc10 pm10 cd10 ct10 oc11 kV11 dc11 pm11 cd11 ct11 oc12 kV12 dc12 pm12 cd12 ct12 oc13 kV13 dc13 pm13 cd13 ct13 oc14 kV14 dc14 pm14 cd14 ct14 oc15 kV15 dc15 pm15 cd15 ct15 oc16 kV16 dc16 pm16 cd16 ct16 oc17 kV17 dc17 pm17 cd17 ct17 : Value}
    (r8 : ((recsOf q).any fun e => e.name == "raised") = true)
    (a0 : PySem.W.nsIn K mainGlobals "names_in" = some (some (.ref f0))) (l0 : K.lookup f0 = some ⟨oc0, od0, .func (PySem.W.fnOf "names_in" "names_in" (defArgs s_names_in) (defBody s_names_in) (defScope s_names_in) .none kV0 dc0 pm0 an0 cd0 ct0), sl0⟩) (c0 : PySem.W.codeIn K cd0 "names_in" = true) (k0 : PySem.W.keepIn K (.ref f0) = true)
    (a1 : PySem.W.nsIn K mainGlobals "rows_of" = some (some (.ref f1))) (l1 : K.lookup f1 = some ⟨oc1, od1, .func (PySem.W.fnOf "rows_of" "rows_of" (defArgs s_rows_of) (defBody s_rows_of) (defScope s_rows_of) .none kV1 dc1 pm1 an1 cd1 ct1), sl1⟩) (c1 : PySem.W.codeIn K cd1 "rows_of" = true) (k1 : PySem.W.keepIn K (.ref f1) = true)
    (a2 : PySem.W.nsIn K mainGlobals "add_rows" = some (some (.ref f2))) (l2 : K.lookup f2 = some ⟨oc2, od2, .func (PySem.W.fnOf "add_rows" "add_rows" (defArgs s_add_rows) (defBody s_add_rows) (defScope s_add_rows) .none kV2 dc2 pm2 an2 cd2 ct2), sl2⟩) (c2 : PySem.W.codeIn K cd2 "add_rows" = true) (k2 : PySem.W.keepIn K (.ref f2) = true)
    (a3 : PySem.W.nsIn K mainGlobals "ways_to" = some (some (.ref f3))) (l3 : K.lookup f3 = some ⟨oc3, od3, .func (PySem.W.fnOf "ways_to" "ways_to" (defArgs s_ways_to) (defBody s_ways_to) (defScope s_ways_to) .none kV3 dc3 pm3 an3 cd3 ct3), sl3⟩) (c3 : PySem.W.codeIn K cd3 "ways_to" = true) (k3 : PySem.W.keepIn K (.ref f3) = true)
    (a4 : PySem.W.nsIn K mainGlobals "outline" = some (some (.ref f4))) (l4 : K.lookup f4 = some ⟨oc4, od4, .func (PySem.W.fnOf "outline" "outline" (defArgs s_outline) (defBody s_outline) (defScope s_outline) .none kV4 dc4 pm4 an4 cd4 ct4), sl4⟩) (c4 : PySem.W.codeIn K cd4 "outline" = true) (k4 : PySem.W.keepIn K (.ref f4) = true)
    (a5 : PySem.W.nsIn K mainGlobals "grown" = some (some (.ref f5))) (l5 : K.lookup f5 = some ⟨oc5, od5, .func (PySem.W.fnOf "grown" "grown" (defArgs s_grown) (defBody s_grown) (defScope s_grown) .none kV5 dc5 pm5 an5 cd5 ct5), sl5⟩) (c5 : PySem.W.codeIn K cd5 "grown" = true) (k5 : PySem.W.keepIn K (.ref f5) = true)
    (a6 : PySem.W.nsIn K mainGlobals "parents" = some (some (.ref f6))) (l6 : K.lookup f6 = some ⟨oc6, od6, .func (PySem.W.fnOf "parents" "parents" (defArgs s_parents) (defBody s_parents) (defScope s_parents) .none kV6 dc6 pm6 an6 cd6 ct6), sl6⟩) (c6 : PySem.W.codeIn K cd6 "parents" = true) (k6 : PySem.W.keepIn K (.ref f6) = true)
    (a7 : PySem.W.nsIn K mainGlobals "numbers" = some (some (.ref f7))) (l7 : K.lookup f7 = some ⟨oc7, od7, .func (PySem.W.fnOf "numbers" "numbers" (defArgs s_numbers) (defBody s_numbers) (defScope s_numbers) .none kV7 dc7 pm7 an7 cd7 ct7), sl7⟩) (c7 : PySem.W.codeIn K cd7 "numbers" = true) (k7 : PySem.W.keepIn K (.ref f7) = true)
    (a8 : PySem.W.nsIn K mainGlobals "raised" = some (some (.ref f8))) (l8 : K.lookup f8 = some ⟨oc8, od8, .func (PySem.W.fnOf "raised" "raised" (defArgs s_raised) (defBody s_raised) (defScope s_raised) .none kV8 dc8 pm8 an8 (.ref q8) ct8), sl8⟩) (c8 : PySem.W.codeIn K (.ref q8) "raised" = true) (k8 : PySem.W.keepIn K (.ref f8) = true)
    (a9 : PySem.W.nsIn K mainGlobals "cut_at" = some (some (.ref f9))) (l9 : K.lookup f9 = some ⟨oc9, od9, .func (PySem.W.fnOf "cut_at" "cut_at" (defArgs s_cut_at) (defBody s_cut_at) (defScope s_cut_at) .none kV9 dc9 pm9 an9 cd9 ct9), sl9⟩) (c9 : PySem.W.codeIn K cd9 "cut_at" = true) (k9 : PySem.W.keepIn K (.ref f9) = true)
    (a10 : PySem.W.nsIn K mainGlobals "_law_box" = some (some (.ref f10))) (l10 : K.lookup f10 = some ⟨oc10, od10, .func (PySem.W.fnOf "_law_box" "_law_box" (defArgs s_l_box) (defBody s_l_box) (defScope s_l_box) .none kV10 dc10 pm10 an10 cd10 ct10), sl10⟩) (c10 : PySem.W.codeIn K cd10 "_law_box" = true) (k10 : PySem.W.keepIn K (.ref f10) = true)
    (a11 : PySem.W.nsIn K mainGlobals "_law_digits" = some (some (.ref f11))) (l11 : K.lookup f11 = some ⟨oc11, od11, .func (PySem.W.fnOf "_law_digits" "_law_digits" (defArgs s_l_digits) (defBody s_l_digits) (defScope s_l_digits) .none kV11 dc11 pm11 an11 cd11 ct11), sl11⟩) (c11 : PySem.W.codeIn K cd11 "_law_digits" = true) (k11 : PySem.W.keepIn K (.ref f11) = true)
    (a12 : PySem.W.nsIn K mainGlobals "_law_cell" = some (some (.ref f12))) (l12 : K.lookup f12 = some ⟨oc12, od12, .func (PySem.W.fnOf "_law_cell" "_law_cell" (defArgs s_l_cell) (defBody s_l_cell) (defScope s_l_cell) .none kV12 dc12 pm12 an12 cd12 ct12), sl12⟩) (c12 : PySem.W.codeIn K cd12 "_law_cell" = true) (k12 : PySem.W.keepIn K (.ref f12) = true)
    (a13 : PySem.W.nsIn K mainGlobals "_law_headings" = some (some (.ref f13))) (l13 : K.lookup f13 = some ⟨oc13, od13, .func (PySem.W.fnOf "_law_headings" "_law_headings" (defArgs s_l_headings) (defBody s_l_headings) (defScope s_l_headings) .none kV13 dc13 pm13 an13 cd13 ct13), sl13⟩) (c13 : PySem.W.codeIn K cd13 "_law_headings" = true) (k13 : PySem.W.keepIn K (.ref f13) = true)
    (a14 : PySem.W.nsIn K mainGlobals "_law_draw" = some (some (.ref f14))) (l14 : K.lookup f14 = some ⟨oc14, od14, .func (PySem.W.fnOf "_law_draw" "_law_draw" (defArgs s_l_draw) (defBody s_l_draw) (defScope s_l_draw) .none kV14 dc14 pm14 an14 cd14 ct14), sl14⟩) (c14 : PySem.W.codeIn K cd14 "_law_draw" = true) (k14 : PySem.W.keepIn K (.ref f14) = true)
    (a15 : PySem.W.nsIn K mainGlobals "_law_same" = some (some (.ref f15))) (l15 : K.lookup f15 = some ⟨oc15, od15, .func (PySem.W.fnOf "_law_same" "_law_same" (defArgs s_l_same) (defBody s_l_same) (defScope s_l_same) .none kV15 dc15 pm15 an15 cd15 ct15), sl15⟩) (c15 : PySem.W.codeIn K cd15 "_law_same" = true) (k15 : PySem.W.keepIn K (.ref f15) = true)
    (a16 : PySem.W.nsIn K mainGlobals "_law_branches" = some (some (.ref f16))) (l16 : K.lookup f16 = some ⟨oc16, od16, .func (PySem.W.fnOf "_law_branches" "_law_branches" (defArgs s_l_branches) (defBody s_l_branches) (defScope s_l_branches) .none kV16 dc16 pm16 an16 cd16 ct16), sl16⟩) (c16 : PySem.W.codeIn K cd16 "_law_branches" = true) (k16 : PySem.W.keepIn K (.ref f16) = true)
    (a17 : PySem.W.nsIn K mainGlobals "law" = some (some (.ref f17))) (l17 : K.lookup f17 = some ⟨oc17, od17, .func (PySem.W.fnOf "law" "law" (defArgs s_law) (defBody s_law) (defScope s_law) .none kV17 dc17 pm17 an17 cd17 ct17), sl17⟩) (c17 : PySem.W.codeIn K cd17 "law" = true) (k17 : PySem.W.keepIn K (.ref f17) = true)
    (t8 : K.lookup q8 = some ⟨te8, td8, .fields tv8, ts8⟩) (v8 : tv8[11]? = some (.ref P8)) (n8 : K.lookup P8 = none) (d8 : PySem.W.codeHdIn K q8 P8 = true)
    (z0 : PySem.W.nsIn K mainGlobals "bool" = some none)
    (z1 : PySem.W.nsIn K mainGlobals "enumerate" = some none)
    (z2 : PySem.W.nsIn K mainGlobals "int" = some none)
    (z3 : PySem.W.nsIn K mainGlobals "isinstance" = some none)
    (z4 : PySem.W.nsIn K mainGlobals "len" = some none)
    (z5 : PySem.W.nsIn K mainGlobals "list" = some none)
    (z6 : PySem.W.nsIn K mainGlobals "range" = some none)
    (z7 : PySem.W.nsIn K mainGlobals "str" = some none)
    (z8 : PySem.W.nsIn K mainGlobals "tuple" = some none)
    (z9 : PySem.W.nsIn K mainGlobals "zip" = some none)
    : LamX.LawAtS l w K CX0 (3 * N + 3) 63 "script" mg fa h := by
  letI : Tabs := ⟨[P8]⟩
  have e := hfa.symm.trans (PySem.W.mg_of X G a17)
  cases e
  have F0 := fun_mk (st := s_names_in) l0 c0 k0
  have b0 := F0.binds (ps := p_names_in) fun _ _ _ _ _ _ us hl => match us, hl with | [_], _ => rfl
  have F1 := fun_mk (st := s_rows_of) l1 c1 k1
  have b1 := F1.binds (ps := p_rows_of) fun _ _ _ _ _ _ us hl => match us, hl with | [_, _], _ => rfl
  have F2 := fun_mk (st := s_add_rows) l2 c2 k2
  have b2 := F2.binds (ps := p_add_rows) fun _ _ _ _ _ _ us hl => match us, hl with | [_, _, _, _], _ => rfl
  have F3 := fun_mk (st := s_ways_to) l3 c3 k3
  have b3 := F3.binds (ps := p_ways_to) fun _ _ _ _ _ _ us hl => match us, hl with | [_, _], _ => rfl
  have F4 := fun_mk (st := s_outline) l4 c4 k4
  have b4 := F4.binds (ps := p_outline) fun _ _ _ _ _ _ us hl => match us, hl with | [_], _ => rfl
  have F5 := fun_mk (st := s_grown) l5 c5 k5
  have b5 := F5.binds (ps := p_grown) fun _ _ _ _ _ _ us hl => match us, hl with | [_, _, _], _ => rfl
  have F6 := fun_mk (st := s_parents) l6 c6 k6
  have b6 := F6.binds (ps := p_parents) fun _ _ _ _ _ _ us hl => match us, hl with | [_], _ => rfl
  have F7 := fun_mk (st := s_numbers) l7 c7 k7
  have b7 := F7.binds (ps := p_numbers) fun _ _ _ _ _ _ us hl => match us, hl with | [_], _ => rfl
  have F8 := fun_mk (st := s_raised) l8 c8 k8
  have b8 := F8.binds (ps := p_raised) fun _ _ _ _ _ _ us hl => match us, hl with | [_], _ => rfl
  have F9 := fun_mk (st := s_cut_at) l9 c9 k9
  have b9 := F9.binds (ps := p_cut_at) fun _ _ _ _ _ _ us hl => match us, hl with | [_, _], _ => rfl
  have F10 := fun_mk (st := s_l_box) l10 c10 k10
  have b10 := F10.binds (ps := p_l_box) fun _ _ _ _ _ _ us hl => match us, hl with | [_, _, _], _ => rfl
  have F11 := fun_mk (st := s_l_digits) l11 c11 k11
  have b11 := F11.binds (ps := p_l_digits) fun _ _ _ _ _ _ us hl => match us, hl with | [_, _, _], _ => rfl
  have F12 := fun_mk (st := s_l_cell) l12 c12 k12
  have b12 := F12.binds (ps := p_l_cell) fun _ _ _ _ _ _ us hl => match us, hl with | [_, _], _ => rfl
  have F13 := fun_mk (st := s_l_headings) l13 c13 k13
  have b13 := F13.binds (ps := p_l_headings) fun _ _ _ _ _ _ us hl => match us, hl with | [_, _], _ => rfl
  have F14 := fun_mk (st := s_l_draw) l14 c14 k14
  have b14 := F14.binds (ps := p_l_draw) fun _ _ _ _ _ _ us hl => match us, hl with | [_, _], _ => rfl
  have F15 := fun_mk (st := s_l_same) l15 c15 k15
  have b15 := F15.binds (ps := p_l_same) fun _ _ _ _ _ _ us hl => match us, hl with | [_, _], _ => rfl
  have F16 := fun_mk (st := s_l_branches) l16 c16 k16
  have b16 := F16.binds (ps := p_l_branches) fun _ _ _ _ _ _ us hl => match us, hl with | [_], _ => rfl
  have F17 := fun_mk (st := s_law) l17 c17 k17
  have b17 := F17.binds (ps := p_law) fun _ _ _ _ _ _ us hl => match us, hl with | [_], _ => rfl
  have T8 := AT _ _ r8 (PySem.W.mg_of X G a8) _ _ _ _ _ _ _ _ l8 rfl rfl t8 v8
  refine ⟨PySem.W.fnOf "law" "law" (defArgs s_law) (defBody s_law) (defScope s_law) .none kV17 dc17 pm17 an17 cd17 ct17, [(q8, P8)], spD K 1 (Phi (N + 1) .law), (List.forall_mem_cons.mpr ⟨T8, (List.forall_mem_nil _)⟩), (List.forall_mem_cons.mpr ⟨n8, (List.forall_mem_nil _)⟩), (List.forall_mem_cons.mpr ⟨PySem.W.codeHd_of_K X d8, (List.forall_mem_nil _)⟩), fun s v => .of_eq rfl, fun H a ns hl _ hT hS => ?_, fun base _ _ TB => ?_⟩
  · refine end_sc (fun P hP => ?_) hS fun sc hs => hlaw sc ns hs hl
    obtain ⟨p, hp, rfl⟩ := List.mem_map.mp (show P ∈ ([(q8, P8)] : List (Addr × Addr)).map (·.2) from hP)
    exact ⟨#[], hT p hp, trivial⟩
  · have A := okAll (P := l.prog) (w := w) (base := base) ⟨PySem.W.mg_none_of X G z0, PySem.W.mg_none_of X G z1, PySem.W.mg_none_of X G z2, PySem.W.mg_none_of X G z3, PySem.W.mg_none_of X G z4, PySem.W.mg_none_of X G z5, PySem.W.mg_none_of X G z6, PySem.W.mg_none_of X G z7, PySem.W.mg_none_of X G z8, PySem.W.mg_none_of X G z9⟩ F0 (PySem.W.mg_of X G a0) b0 F1 (PySem.W.mg_of X G a1) b1 F2 (PySem.W.mg_of X G a2) b2 F3 (PySem.W.mg_of X G a3) b3 F4 (PySem.W.mg_of X G a4) b4 F5 (PySem.W.mg_of X G a5) b5 F6 (PySem.W.mg_of X G a6) b6 F7 (PySem.W.mg_of X G a7) b7 F8 (PySem.W.mg_of X G a8) b8 F9 (PySem.W.mg_of X G a9) b9 F10 (PySem.W.mg_of X G a10) b10 F11 (PySem.W.mg_of X G a11) b11 F12 (PySem.W.mg_of X G a12) b12 F13 (PySem.W.mg_of X G a13) b13 F14 (PySem.W.mg_of X G a14) b14 F15 (PySem.W.mg_of X G a15) b15 F16 (PySem.W.mg_of X G a16) b16 F17 (PySem.W.mg_of X G a17) b17 (gtab (TB (q8, P8) (by simp))) (by show _ ∈ [P8]; simp) rfl N
    exact fnok_of (k := 3 * N + 2) F17 sc_law fun cdv hcd A2 outer s H E hr => w_law ⟨PySem.W.mg_none_of X G z0, PySem.W.mg_none_of X G z1, PySem.W.mg_none_of X G z2, PySem.W.mg_none_of X G z3, PySem.W.mg_none_of X G z4, PySem.W.mg_none_of X G z5, PySem.W.mg_none_of X G z6, PySem.W.mg_none_of X G z7, PySem.W.mg_none_of X G z8, PySem.W.mg_none_of X G z9⟩ A hr
end K98

namespace K98
open PySem PySem.Spec PyProof.Rows L2 PD
variable [Tabs]
theorem same0 {k : Nat} : SameAt 0 (Phi (k + 1) .l_same) := same_zero
theorem same1 {k : Nat} : SameAt 1 (Phi (k + 2) .l_same) := same_succ same0
theorem s_h : ("h" : Str) = TS [104] := by decide +kernel
/-! ### ranges of headings, by levels -/
section
variable (L : Nat → Int) (n : Nat)
/-- the first behind i that is no deeper, up to e -/
def nx (i e : Nat) : Nat := i + 1 + ((List.range' (i + 1) (e - (i + 1))).takeWhile fun j => decide (L i < L j)).length
variable {L n}
theorem tw_spec (p : Nat → Bool) : ∀ (m a : Nat), ((List.range' a m).takeWhile p).length ≤ m ∧ (∀ j, a ≤ j → j < a + ((List.range' a m).takeWhile p).length → p j = true) ∧ (((List.range' a m).takeWhile p).length = m ∨ p (a + ((List.range' a m).takeWhile p).length) = false)
  | 0, a => by simp; omega
  | m + 1, a => by
    rw [List.range'_succ]
    by_cases h : p a = true
    · rw [List.takeWhile_cons_of_pos h, List.length_cons]
      obtain ⟨h1, h2, h3⟩ := tw_spec p m (a + 1)
      refine ⟨by omega, fun j hj hj2 => ?_, ?_⟩
      · by_cases hja : j = a
        · rw [hja]; exact h
        · exact h2 j (by omega) (by omega)
      · rcases h3 with h3 | h3
        · left; omega
        · right
          rw [show a + (((List.range' (a + 1) m).takeWhile p).length + 1) = a + 1 + ((List.range' (a + 1) m).takeWhile p).length by omega]
          exact h3
    · rw [List.takeWhile_cons_of_neg h]
      refine ⟨by simp, fun j hj hj2 => by simp at hj2; omega, .inr (by simpa using h)⟩
theorem nx_lt (i e : Nat) : i < nx L i e := by unfold nx; omega
theorem nx_le {i e : Nat} (h : i < e) : nx L i e ≤ e := by
  have := (tw_spec (fun j => decide (L i < L j)) (e - (i + 1)) (i + 1)).1
  unfold nx; omega
theorem nx_in {i e j : Nat} (h1 : i < j) (h2 : j < nx L i e) : L i < L j := of_decide_eq_true ((tw_spec (fun j => decide (L i < L j)) (e - (i + 1)) (i + 1)).2.1 j (by omega) h2)
theorem nx_end {i e : Nat} (h : i < e) : nx L i e = e ∨ L (nx L i e) ≤ L i := by
  rcases (tw_spec (fun j => decide (L i < L j)) (e - (i + 1)) (i + 1)).2.2 with h1 | h1
  · left; unfold nx; omega
  · right
    have := of_decide_eq_false h1
    unfold nx; omega
theorem nx_uniq {i e q : Nat} (h : i < e) (h1 : i < q) (h2 : q ≤ e) (h3 : ∀ j, i < j → j < q → L i < L j) (h4 : q = e ∨ L q ≤ L i) : nx L i e = q := by
  have g1 := nx_lt (L := L) i e
  have g2 := nx_le (L := L) h
  have g4 := nx_end (L := L) h
  rcases Nat.lt_trichotomy (nx L i e) q with c | c | c
  · have := h3 _ g1 c
    omega
  · exact c
  · have := nx_in (L := L) (e := e) h1 c
    omega
/-- the rows of a range: where each begins and ends -/
def rts (L : Nat → Int) : Nat → Nat → Nat → List (Nat × Nat)
  | 0, _, _ => []
  | m + 1, s, e => if s < e then (s, nx L s e) :: rts L m (nx L s e) e else []
def rt (L : Nat → Int) (s e : Nat) : List (Nat × Nat) := rts L (e - s) s e
theorem rts_more : ∀ (m m' s e : Nat), e - s ≤ m → e - s ≤ m' → rts L m s e = rts L m' s e
  | 0, 0, _, _, _, _ => rfl
  | 0, m' + 1, s, e, h, _ => by rw [rts, rts, if_neg (by omega)]
  | m + 1, 0, s, e, _, h => by rw [rts, rts, if_neg (by omega)]
  | m + 1, m' + 1, s, e, h, h' => by
    rw [rts, rts]
    have := nx_lt (L := L) s e
    split
    · rw [rts_more m m' _ e (by omega) (by omega)]
    · rfl
theorem rt_cons {s e : Nat} (h : s < e) : rt L s e = (s, nx L s e) :: rt L (nx L s e) e := by
  unfold rt
  obtain ⟨m, hm⟩ : ∃ m, e - s = m + 1 := ⟨e - s - 1, by omega⟩
  have := nx_lt (L := L) s e
  rw [hm, rts, if_pos h, rts_more m (e - nx L s e) _ e (by omega) (by omega)]
theorem rt_nil {s e : Nat} (h : ¬ s < e) : rt L s e = [] := by
  unfold rt
  rw [show e - s = 0 by omega]; rfl
theorem rt_in {s e : Nat} : ∀ x ∈ rt L s e, s ≤ x.1 ∧ x.1 < x.2 ∧ x.2 ≤ e := by
  have key : ∀ m s, ∀ x ∈ rts L m s e, s ≤ x.1 ∧ x.1 < x.2 ∧ x.2 ≤ e := by
    intro m
    induction m with
    | zero => intro s x hx; cases hx
    | succ m ih =>
      intro s x hx
      rw [rts] at hx
      split at hx
      · rename_i h
        rcases List.mem_cons.mp hx with rfl | hx
        · exact ⟨Nat.le_refl _, nx_lt _ _, nx_le h⟩
        · have := ih _ x hx
          have := nx_lt (L := L) s e
          omega
      · cases hx
  exact key _ s
theorem rt_len (s e : Nat) : (rt L s e).length ≤ e - s := by
  have key : ∀ m s, (rts L m s e).length ≤ m := by
    intro m
    induction m with
    | zero => intro s; simp [rts]
    | succ m ih =>
      intro s
      rw [rts]
      split
      · have := ih (nx L s e)
        rw [List.length_cons]; omega
      · simp
  exact key _ s
/-- what stands in all of a range's rows -/
theorem rt_flat {α : Type} {C : Nat → Prop} {g : Nat × Nat → List α} {T : Nat → List α} {e : Nat} (h0 : T e = []) (hC : ∀ i, i < e → C i → C (nx L i e)) (h : ∀ i, i < e → C i → T i = g (i, nx L i e) ++ T (nx L i e)) : ∀ (m s : Nat), e - s ≤ m → s ≤ e → C s → (rt L s e).flatMap g = T s
  | 0, s, hm, hs, _ => by
    have : s = e := by omega
    subst this
    rw [rt_nil (by omega), h0]; rfl
  | m + 1, s, hm, hs, c => by
    by_cases hl : s < e
    · have g1 := nx_lt (L := L) s e
      have g2 := nx_le (L := L) hl
      rw [rt_cons hl, List.flatMap_cons, rt_flat h0 hC h m _ (by omega) g2 (hC s hl c), ← h s hl c]
    · have : s = e := by omega
      subst this
      rw [rt_nil (by omega), h0]; rfl
/-- the last ahead that is less deep -/
def par (L : Nat → Int) (i : Nat) : Option Nat := ((List.range i).filter fun j => decide (L j < L i)).getLast?
theorem par_lt {i j : Nat} (h : par L i = some j) : j < i ∧ L j < L i := by
  have := List.mem_of_getLast? h
  obtain ⟨h1, h2⟩ := List.mem_filter.mp this
  exact ⟨List.mem_range.mp h1, of_decide_eq_true h2⟩
theorem par_some {i s : Nat} (h1 : s < i) (h2 : L s < L i) (h3 : ∀ j, s < j → j < i → ¬ L j < L i) : par L i = some s := by
  unfold par
  have e : List.range i = List.range (s + 1) ++ List.range' (s + 1) (i - (s + 1)) := by
    rw [List.range_eq_range', List.range_eq_range']
    have := (List.range'_append (s := 0) (m := s + 1) (n := i - (s + 1)) (step := 1)).symm
    rw [show 0 + 1 * (s + 1) = s + 1 by omega, show s + 1 + (i - (s + 1)) = i by omega] at this
    exact this
  have e2 : (List.range' (s + 1) (i - (s + 1))).filter (fun j => decide (L j < L i)) = [] := by
    rw [List.filter_eq_nil_iff]
    intro j hj
    rw [List.mem_range'_1] at hj
    have := h3 j (by omega) (by omega)
    simpa using this
  rw [e, List.filter_append, e2, List.append_nil, List.range_succ, List.filter_append, List.filter_cons_of_pos (by simpa using h2)]
  simp
/-- a range in its place: p stands above it -/
structure Ctx (L : Nat → Int) (n : Nat) (p : Option Nat) (s e : Nat) : Prop where
  up : ∀ i, s ≤ i → i < e → (∀ j, s ≤ j → j < i → ¬ L j < L i) → par L i = p
  fin : e = n ∨ ∀ i, s ≤ i → i < e → L e ≤ L i
  le : e ≤ n
theorem Ctx.child {p : Option Nat} {s e : Nat} (c : Ctx L n p s e) (h : s < e) : Ctx L n (some s) (s + 1) (nx L s e) := by
  have g2 := nx_le (L := L) h
  refine ⟨fun i h1 h2 h3 => par_some (by omega) (nx_in (by omega) h2) fun j h4 h5 => h3 j (by omega) h5, ?_, by have := c.le; omega⟩
  rcases nx_end (L := L) h with h1 | h1
  · rcases c.fin with h2 | h2
    · left; omega
    · right
      intro i h3 h4
      rw [h1]
      exact h2 i (by omega) (by omega)
  · right
    intro i h3 h4
    have := nx_in (L := L) (e := e) (i := s) (j := i) (by omega) h4
    omega
theorem Ctx.rest {p : Option Nat} {s e : Nat} (c : Ctx L n p s e) (h : s < e) : Ctx L n p (nx L s e) e := by
  have g1 := nx_lt (L := L) s e
  refine ⟨fun i h1 h2 h3 => c.up i (by omega) h2 fun j h4 h5 h6 => ?_, ?_, c.le⟩
  · by_cases hj : nx L s e ≤ j
    · exact h3 j hj h5 h6
    · have h7 : L s ≤ L j := by
        by_cases hs : j = s
        · rw [hs]; exact Int.le_refl _
        · exact Int.le_of_lt (nx_in (L := L) (e := e) (by omega) (by omega))
      rcases nx_end (L := L) h with h8 | h8
      · omega
      · by_cases hi : i = nx L s e
        · subst hi; omega
        · have := h3 (nx L s e) (Nat.le_refl _) (by omega)
          omega
  · rcases c.fin with h2 | h2
    · exact .inl h2
    · exact .inr fun i h3 h4 => h2 i (by omega) h4
theorem Ctx.par {p : Option Nat} {s e : Nat} (c : Ctx L n p s e) (h : s < e) : K98.par L s = p := c.up s (Nat.le_refl _) h fun j h1 h2 => by omega
theorem Ctx.nx {p : Option Nat} {s e i : Nat} (c : Ctx L n p s e) (h1 : s ≤ i) (h2 : i < e) : K98.nx L i n = K98.nx L i e := by
  have g1 := nx_lt (L := L) i e
  have g2 := nx_le (L := L) h2
  have := c.le
  refine nx_uniq (by omega) g1 (by omega) (fun j h3 h4 => nx_in h3 h4) ?_
  rcases nx_end (L := L) h2 with h3 | h3
  · rcases c.fin with h4 | h4
    · left; omega
    · right
      rw [h3]
      exact h4 i h1 h2
  · exact .inr h3
theorem ctx0 : Ctx L n none 0 n := by
  refine ⟨fun i _ h2 h3 => ?_, .inl rfl, Nat.le_refl _⟩
  unfold K98.par
  rw [List.filter_eq_nil_iff.mpr fun j hj => by
    have := h3 j (by omega) (List.mem_range.mp hj)
    simpa using this]
  rfl
/-- what is above -/
def ancs (L : Nat → Int) : Nat → Nat → List Nat
  | 0, _ => []
  | m + 1, i => match par L i with
    | none => []
    | some j => ancs L m j ++ [j]
def anc (L : Nat → Int) (i : Nat) : List Nat := ancs L i i
theorem ancs_more : ∀ (m m' i : Nat), i ≤ m → i ≤ m' → ancs L m i = ancs L m' i
  | 0, 0, _, _, _ => rfl
  | 0, m' + 1, i, h, _ => by
    have : i = 0 := by omega
    subst this
    rfl
  | m + 1, 0, i, _, h => by
    have : i = 0 := by omega
    subst this
    rfl
  | m + 1, m' + 1, i, h, h' => by
    rw [ancs, ancs]
    cases hp : par L i with
    | none => rfl
    | some j =>
      have := (par_lt hp).1
      dsimp only
      rw [ancs_more m m' j (by omega) (by omega)]
def base (L : Nat → Int) : Option Nat → List Nat
  | none => []
  | some j => anc L j ++ [j]
theorem anc_eq (i : Nat) : anc L i = base L (par L i) := by
  unfold anc
  cases i with
  | zero => rfl
  | succ i =>
    rw [ancs]
    cases hp : par L (i + 1) with
    | none => rfl
    | some j =>
      have := (par_lt hp).1
      dsimp only [base]
      unfold anc
      rw [ancs_more i j j (by omega) (Nat.le_refl _)]
theorem range'_split {s q e : Nat} (h1 : s < q) (h2 : q ≤ e) : List.range' s (e - s) = s :: (List.range' (s + 1) (q - (s + 1)) ++ List.range' q (e - q)) := by
  rw [show e - s = (e - (s + 1)) + 1 by omega, List.range'_succ]
  have := (List.range'_append (s := s + 1) (m := q - (s + 1)) (n := e - q) (step := 1)).symm
  rw [show s + 1 + 1 * (q - (s + 1)) = q by omega, show q - (s + 1) + (e - q) = e - (s + 1) by omega] at this
  rw [this]
/-! names, rows, ways -/
def pre (L : Nat → Int) : Nat → Nat → Nat → List Nat
  | 0, _, _ => []
  | d + 1, s, e => (rt L s e).flatMap fun x => x.1 :: pre L d (x.1 + 1) x.2
theorem pre_eq : ∀ (d s e : Nat), e - s ≤ d → s ≤ e → pre L d s e = List.range' s (e - s)
  | 0, s, e, h, _ => by rw [show e - s = 0 by omega]; rfl
  | d + 1, s, e, h, hs => by
    rw [pre]
    refine rt_flat (C := fun i => s ≤ i) (T := fun i => List.range' i (e - i)) (by simp) (fun i _ hc => ?_) (fun i hi hc => ?_) (e - s) s (Nat.le_refl _) hs (Nat.le_refl _)
    · have := nx_lt (L := L) i e
      omega
    · have g1 := nx_lt (L := L) i e
      have g2 := nx_le (L := L) hi
      dsimp only
      rw [pre_eq d (i + 1) (nx L i e) (by omega) (by omega), range'_split g1 g2]; rfl
/-- a row: name, level, 0 leaf 1 shut 2 open -/
def rw' (L : Nat → Int) (sh : Nat → Bool) : Nat → Nat → Nat → Nat → List (Nat × Nat × Nat)
  | 0, _, _, _ => []
  | d + 1, lev, s, e => (rt L s e).flatMap fun x => if x.2 = x.1 + 1 then [(x.1, lev, 0)] else if sh x.1 then [(x.1, lev, 1)] else (x.1, lev, 2) :: rw' L sh d (lev + 1) (x.1 + 1) x.2
theorem rows_all : ∀ (d : Nat) (p : Option Nat) (s e : Nat), e - s ≤ d → s ≤ e → Ctx L n p s e → rw' L (fun _ => false) d (base L p).length s e = (List.range' s (e - s)).map fun i => (i, (anc L i).length, if nx L i n = i + 1 then 0 else 2)
  | 0, p, s, e, h, _, _ => by rw [show e - s = 0 by omega]; rfl
  | d + 1, p, s, e, h, hs, c => by
    rw [rw']
    refine rt_flat (C := fun i => s ≤ i ∧ Ctx L n p i e) (T := fun i => (List.range' i (e - i)).map fun i => (i, (anc L i).length, if nx L i n = i + 1 then 0 else 2)) (by simp) (fun i hi hc => ?_) (fun i hi hc => ?_) (e - s) s (Nat.le_refl _) hs ⟨Nat.le_refl _, c⟩
    · have := nx_lt (L := L) i e
      exact ⟨by omega, hc.2.rest hi⟩
    · have g1 := nx_lt (L := L) i e
      have g2 := nx_le (L := L) hi
      have ha : anc L i = base L p := by rw [anc_eq, hc.2.par hi]
      have hn : nx L i n = nx L i e := hc.2.nx (Nat.le_refl _) hi
      dsimp only
      rw [range'_split g1 g2, List.map_cons, List.map_append]
      by_cases hf : nx L i e = i + 1
      · rw [if_pos hf, hf, ha, hn, if_pos hf, Nat.sub_self]; rfl
      · rw [if_neg hf, if_neg Bool.false_ne_true, ha, hn, if_neg hf]
        have := rows_all d (some i) (i + 1) (nx L i e) (by omega) (by omega) (hc.2.child hi)
        rw [base, List.length_append, List.length_singleton, ha] at this
        rw [this]; rfl
theorem rows_shut {k : Nat} (hk : k < n) : ∀ (d lev : Nat) (p : Option Nat) (s e : Nat), e - s ≤ d → s ≤ e → Ctx L n p s e → (k < s → nx L k n ≤ s) → (rw' L (fun i => i == k) d lev s e).map (·.1) = (List.range' s (e - s)).filter fun i => !(decide (k < i) && decide (i < nx L k n))
  | 0, lev, p, s, e, h, _, _, _ => by rw [show e - s = 0 by omega]; rfl
  | d + 1, lev, p, s, e, h, hs, c, hks => by
    rw [rw', List.map_flatMap]
    refine rt_flat (C := fun i => s ≤ i ∧ Ctx L n p i e ∧ (k < i → nx L k n ≤ i)) (T := fun i => (List.range' i (e - i)).filter fun i => !(decide (k < i) && decide (i < nx L k n))) (by simp) (fun i hi hc => ?_) (fun i hi hc => ?_) (e - s) s (Nat.le_refl _) hs ⟨Nat.le_refl _, c, hks⟩
    · have g1 := nx_lt (L := L) i e
      refine ⟨by omega, hc.2.1.rest hi, fun h1 => ?_⟩
      by_cases hki : k < i
      · have := hc.2.2 hki; omega
      · by_cases hke : k = i
        · subst hke
          rw [hc.2.1.nx (Nat.le_refl _) hi]; exact Nat.le_refl _
        · have hch := hc.2.1.child hi
          rw [hch.nx (i := k) (by omega) h1]
          exact nx_le h1
    · have g1 := nx_lt (L := L) i e
      have g2 := nx_le (L := L) hi
      have hn : nx L i n = nx L i e := hc.2.1.nx (Nat.le_refl _) hi
      dsimp only
      have hi2 : (!(decide (k < i) && decide (i < nx L k n))) = true := by
        by_cases hki : k < i
        · have := hc.2.2 hki
          simp [hki]; omega
        · simp [hki]
      rw [range'_split g1 g2, List.filter_cons, if_pos hi2, List.filter_append]
      by_cases hf : nx L i e = i + 1
      · rw [if_pos hf, hf, Nat.sub_self]; rfl
      · rw [if_neg hf]
        by_cases hik : i = k
        · subst hik
          rw [if_pos (by simp)]
          have : (List.range' (i + 1) (nx L i e - (i + 1))).filter (fun j => !(decide (i < j) && decide (j < nx L i n))) = [] := by
            rw [List.filter_eq_nil_iff]
            intro j hj
            rw [List.mem_range'_1] at hj
            have h1 : i < j := by omega
            have h2 : j < nx L i n := by omega
            simp [h1, h2]
          rw [this]; rfl
        · rw [if_neg (by simpa using hik)]
          have := rows_shut hk d (lev + 1) (some i) (i + 1) (nx L i e) (by omega) (by omega) (hc.2.1.child hi) (fun h1 => by
            have := hc.2.2 (by omega)
            omega)
          rw [List.map_cons, this]; rfl
/-- the way to i -/
def way (L : Nat → Int) (i : Nat) : Nat → Nat → Nat → Option (List Nat)
  | 0, _, _ => none
  | d + 1, s, e => (rt L s e).findSome? fun x => if x.1 = i then some [] else (way L i d (x.1 + 1) x.2).map fun w => x.1 :: w
theorem way_none {i : Nat} : ∀ (d s e : Nat), (i < s ∨ e ≤ i) → way L i d s e = none
  | 0, _, _, _ => rfl
  | d + 1, s, e, h => by
    rw [way, List.findSome?_eq_none_iff]
    intro x hx
    have := rt_in x hx
    rw [if_neg (by omega), way_none d _ _ (by omega)]; rfl
theorem way_eq {i : Nat} : ∀ (d : Nat) (p : Option Nat) (m s e : Nat), e - s ≤ d → e - s ≤ m → Ctx L n p s e → s ≤ i → i < e → ∃ w, way L i d s e = some w ∧ anc L i = base L p ++ w
  | 0, p, m, s, e, h, _, _, h1, h2 => by omega
  | d + 1, p, m, s, e, h, hm, c, h1, h2 => by
    have key : ∀ (m s : Nat), e - s ≤ m → s ≤ i → e - s ≤ d + 1 → Ctx L n p s e → ∃ w, (rt L s e).findSome? (fun x => if x.1 = i then some [] else (way L i d (x.1 + 1) x.2).map fun w => x.1 :: w) = some w ∧ anc L i = base L p ++ w := by
      intro m
      induction m with
      | zero => intro s hm h1; omega
      | succ m ih =>
        intro s hm h1 hd c
        have hl : s < e := by omega
        have g1 := nx_lt (L := L) s e
        have g2 := nx_le (L := L) hl
        rw [rt_cons hl, List.findSome?_cons]
        by_cases hs : s = i
        · subst hs
          rw [if_pos rfl]
          refine ⟨[], rfl, ?_⟩
          rw [anc_eq, c.par hl, List.append_nil]
        · rw [if_neg hs]
          by_cases hc : i < nx L s e
          · obtain ⟨w, hw, ha⟩ := way_eq d (some s) (nx L s e) (s + 1) (nx L s e) (by omega) (by omega) (c.child hl) (by omega) hc
            rw [hw]
            refine ⟨s :: w, rfl, ?_⟩
            rw [ha, base, anc_eq s, c.par hl]
            simp
          · rw [way_none d _ _ (.inr (by omega))]
            exact ih _ (by omega) (by omega) (by omega) (c.rest hl)
    rw [way]
    exact key (e - s) s (Nat.le_refl _) h1 h c
end

/-! ### headings -/
def hsD (hs : List (Int × Str)) : List D := hs.map fun h => .tup [.int h.1, .str h.2]
def Lv (hs : List (Int × Str)) (i : Nat) : Int := (hs[i]?.getD (0, "")).1
def Tx (hs : List (Int × Str)) (i : Nat) : Str := (hs[i]?.getD (0, "")).2
theorem hs_len (hs : List (Int × Str)) : (hsD hs).length = hs.length := List.length_map ..
theorem hs_get {hs : List (Int × Str)} {i : Nat} (h : i < hs.length) : (hsD hs)[i]? = some (.tup [.int (Lv hs i), .str (Tx hs i)]) := by
  unfold hsD Lv Tx
  rw [List.getElem?_map, List.getElem?_eq_getElem h]; rfl
theorem hs_at {hs : List (Int × Str)} {i : Nat} (h : i < hs.length) : atI (hsD hs) (i : Int) = some (.tup [.int (Lv hs i), .str (Tx hs i)]) := by rw [atI_nat', hs_get h]
theorem hs_lo (n : Nat) (hs : List (Int × Str)) : D.loL n (hsD hs) = true := loL_scal fun d hd => by
  obtain ⟨x, _, rfl⟩ := List.mem_map.mp hd
  rfl
def txs : List Str := ["One", "two b", "One!", "", "T-3"]
theorem headings_dr {k : Nat} (ds : List Int) (a : Nat) (G : Store) : ∃ hs a', Phi (k + 2) .l_headings [.ref 2, .int 9] (bx ds a ++ G) = some (.tup (hsD hs), bx ds a' ++ G) ∧ hs.length ≤ 9 := by
  have hd : Draws ds (Phi (k + 1) .l_draw) := draws_eq ds
  obtain ⟨d, a', h, hs, rfl, hl⟩ := run_dr (ds := ds) (G := G) (a := a) (np := 2) (ns := 4) (b := b_l_headings (Phi (k + 1))) (as := [.ref 2, .int 9]) (P := fun d => ∃ hs, d = .tup (hsD hs) ∧ hs.length ≤ 9) rfl (by rintro d ⟨hs, rfl, _⟩; rw [D.lo]; exact hs_lo _ _) (by
    show Ex (b_l_headings (Phi (k + 1)) (V_l_headings.env {box := some (.ref 2), most := some (.int 9)}) _) _
    unfold b_l_headings
    refine ex_seq (S' := bx ds a ++ (G ++ [.lst (hsD [])])) ⟨by simp [okLen_of]; exact ⟨rfl, rfl⟩⟩ ?_
    have d0 := hd a 10 (G ++ [.lst (hsD [])]) (by omega)
    obtain ⟨n1, n2⟩ := dr_lt (ds := ds) (a := a) (many := 10) (by omega)
    refine ex_forw [3] (xs := List.range (dr ds a 10).toNat) (e := fun (i : Nat) => D.int (0 + (i : Int) * 1)) (deps := []) (S1 := bx ds (a + 1) ++ (G ++ [.lst (hsD [])])) ⟨?_⟩ (fun pre ys T => ∃ a' hs, T = bx ds a' ++ (G ++ [.lst (hsD hs)]) ∧ hs.length = pre.length) ⟨[_], rfl, rfl, a + 1, [], rfl, rfl⟩ ?_ ?_
    · have h3 : -4611686018427387904 ≤ dr ds a 10 ∧ dr ds a 10 < 4611686018427387904 := by omega
      simp [d0, h3, ramp_map]
    · rintro pre x post hx ys hys T ⟨a', hs, rfl, hl⟩
      obtain ⟨y, rfl⟩ := len1 hys
      have hlen : hs.length ≤ 10 := by
        have := congrArg List.length hx
        simp at this; omega
      refine ⟨_, _, by simp; exact ⟨rfl, rfl⟩, ?_⟩
      have hg : (bx ds (a' + 1 + 1) ++ (G ++ [O.lst (hsD hs)]))[3 + G.length]? = some (.lst (hsD hs)) := by simp
      have hg0 : (bx ds a' ++ (G ++ [O.lst (hsD hs)]))[3 + G.length]? = some (.lst (hsD hs)) := by simp
      have d1 := hd a' 4 (G ++ [O.lst (hsD hs)]) (by omega)
      have d2 := hd (a' + 1) 5 (G ++ [O.lst (hsD hs)]) (by omega)
      obtain ⟨m1, m2⟩ := dr_lt (ds := ds) (a := a' + 1) (many := 5) (by omega)
      obtain ⟨t, ht, _, _⟩ := atI_nth (xs := txs) m1 (by show _ < (5 : Int); omega)
      have ht2 : atI (txs.map D.str) (dr ds (a' + 1) 5) = some (.str t) := by
        have := atI_nth (xs := txs.map D.str) m1 (by show _ < (5 : Int); omega)
        obtain ⟨d, e1, _, e2⟩ := this
        obtain ⟨t2, f1, _, f2⟩ := atI_nth (xs := txs) m1 (by show _ < (5 : Int); omega)
        rw [ht] at f1
        cases f1
        rw [List.getElem?_map, f2] at e2
        rw [e1, ← e2]; rfl
      have ht3 : atI [D.str "One", D.str "two b", D.str "One!", D.str "", D.str "T-3"] (dr ds (a' + 1) 5) = some (.str t) := ht2
      have h1 : (hsD hs).length < 10000000 := by rw [hs_len]; omega
      have e3 : (bx ds (a' + 1 + 1) ++ (G ++ [O.lst (hsD hs)])).set (3 + G.length) (.lst (hsD hs ++ [.tup [.int (1 + dr ds a' 4), .str t]])) = bx ds (a' + 1 + 1) ++ (G ++ [O.lst (hsD (hs ++ [(1 + dr ds a' 4, t)]))]) := by
        rw [bx_set, set_last]; simp [hsD]
      refine ex_nx (T' := bx ds (a' + 1 + 1) ++ (G ++ [O.lst (hsD (hs ++ [(1 + dr ds a' 4, t)]))])) (env' := V_l_headings.env {box := some (.ref 2), most := some (.int 9), found := some (.ref (3 + G.length)), k := some (.int (x : Int))}) ⟨?_⟩ [some (.int (x : Int))] rfl rfl (kept_nil _ _) ⟨a' + 1 + 1, _, rfl, by simp [hl]⟩
      unfold L_l_headings_1
      simp [ev_tyR _ _ hg0, d1, d2, okLen_of, ht3, ev_append hg h1, e3]
    rintro ys hys T ⟨a', hs, rfl, hl⟩
    obtain ⟨y, rfl⟩ := len1 hys
    have hg0 : (bx ds a' ++ (G ++ [O.lst (hsD hs)]))[3 + G.length]? = some (.lst (hsD hs)) := by simp
    refine ex_ret (d := .tup (hsD hs)) (S' := bx ds a' ++ (G ++ [O.lst (hsD hs)])) ⟨by simp [ev_tupR _ _ hg0]⟩ ⟨_, a', _, rfl, hs, rfl, ?_⟩
    rw [hl, List.length_range]; omega)
  exact ⟨hs, a', h, hl⟩
/-! ### grown -/
def ot (L : Nat → Int) : Nat → Nat → Nat → List D
  | 0, _, _ => []
  | d + 1, s, e => (rt L s e).map fun x => .tup [.int (x.1 : Nat), .tup (ot L d (x.1 + 1) x.2)]
theorem ot_nil {L : Nat → Int} (d : Nat) {s e : Nat} (h : ¬ s < e) : ot L d s e = [] := by
  cases d with
  | zero => rfl
  | succ d => rw [ot, rt_nil h]; rfl
theorem ot_len {L : Nat → Int} (d s e : Nat) : (ot L d s e).length ≤ e - s := by
  cases d with
  | zero => simp [ot]
  | succ d => rw [ot, List.length_map]; exact rt_len s e
theorem grown_eq {hs : List (Int × Str)} (hl : hs.length ≤ 100) : ∀ (d k s e : Nat), e - s ≤ d → e ≤ hs.length → ∀ S : Store, ∃ Y, Phi (k + d + 1) .grown [.tup (hsD hs), .int (s : Nat), .int (e : Nat)] S = some (.ref S.length, S ++ (.lst (ot (Lv hs) d s e) :: Y)) := by
  intro d
  induction d with
  | zero =>
    intro k s e h he S
    obtain ⟨d, T, e1, hd, Y, rfl⟩ := of_grown (Φ := Phi (k + 0)) (.tup (hsD hs)) (.int (s : Nat)) (.int (e : Nat)) (S := S) (P := fun d T => d = .ref S.length ∧ ∃ Y, T = S ++ (.lst (ot (Lv hs) 0 s e) :: Y)) (by
      unfold b_grown
      refine ex_seq (by simp [okLen_of]; exact .mk') ?_
      refine ex_seq (by simp; exact .mk') ?_
      refine ex_whileq (m := 0) (fun _ env' T => env' = V_grown.env {headings := some (.tup (hsD hs)), start := some (.int (s : Nat)), end_ := some (.int (e : Nat)), found := some (.ref S.length), place := some (.int (s : Nat))} ∧ T = S ++ [.lst []]) (by omega) ⟨rfl, rfl⟩ ?_
      rintro m env' T ⟨rfl, rfl⟩
      refine ⟨false, by simp; omega, fun _ => ?_, fun h => by cases h⟩
      refine ex_ret (d := .ref S.length) (S' := S ++ [.lst []]) ⟨by simp⟩ ⟨rfl, [], ?_⟩
      rw [trunc_ref (Nat.le_refl _)]; rfl)
    subst hd
    exact ⟨Y, e1⟩
  | succ d ih =>
    intro k s e h he S
    obtain ⟨dd, T, e1, hd, Y, rfl⟩ := of_grown (Φ := Phi (k + (d + 1))) (.tup (hsD hs)) (.int (s : Nat)) (.int (e : Nat)) (S := S) (P := fun dd T => dd = .ref S.length ∧ ∃ Y, T = S ++ (.lst (ot (Lv hs) (d + 1) s e) :: Y)) (by
      unfold b_grown
      refine ex_seq (by simp [okLen_of]; exact .mk') ?_
      refine ex_seq (by simp; exact .mk') ?_
      refine ex_whileq (m := e - s) (fun m env' T => ∃ i acc Y y, s ≤ i ∧ m = e - i ∧ env' = V_grown.env {headings := some (.tup (hsD hs)), start := some (.int (s : Nat)), end_ := some (.int (e : Nat)), found := some (.ref S.length), place := some (.int (i : Nat)), following := y} ∧ T = S ++ (.lst acc :: Y) ∧ acc.length ≤ i ∧ acc ++ ot (Lv hs) (d + 1) i e = ot (Lv hs) (d + 1) s e) (by omega) ⟨s, [], [], none, Nat.le_refl _, rfl, rfl, rfl, by simp, rfl⟩ ?_
      rintro m env' T ⟨i, acc, Y, y, hi, rfl, rfl, rfl, hal, hac⟩
      by_cases hie : ¬ i < e
      · refine ⟨false, by simp; omega, fun _ => ?_, fun h => by cases h⟩
        refine ex_ret (d := .ref S.length) (S' := S ++ (.lst acc :: Y)) ⟨by simp⟩ ⟨rfl, Y, ?_⟩
        rw [trunc_ref (Nat.le_refl _), ← hac, ot_nil _ hie, List.append_nil]
      have hie : i < e := by omega
      refine ⟨true, by simp; omega, fun h => (by cases h), fun _ => ?_⟩
      unfold L_grown_2
      refine ex_seq (env' := V_grown.env {headings := some (.tup (hsD hs)), start := some (.int (s : Nat)), end_ := some (.int (e : Nat)), found := some (.ref S.length), place := some (.int (i : Nat)), following := some (.int ((i + 1 : Nat) : Int))}) (S' := S ++ (.lst acc :: Y)) ⟨by simp⟩ ?_
      refine ex_whileq (m := e - (i + 1)) (fun m env' T => ∃ q, i < q ∧ q ≤ e ∧ (∀ j, i < j → j < q → Lv hs i < Lv hs j) ∧ m = e - q ∧ env' = V_grown.env {headings := some (.tup (hsD hs)), start := some (.int (s : Nat)), end_ := some (.int (e : Nat)), found := some (.ref S.length), place := some (.int (i : Nat)), following := some (.int (q : Nat))} ∧ T = S ++ (.lst acc :: Y)) (by omega) ⟨i + 1, by omega, by omega, fun j h1 h2 => by omega, rfl, rfl, rfl⟩ ?_
      rintro m env' T ⟨q, hq1, hq2, hq3, rfl, rfl, rfl⟩
      by_cases hc : q < e ∧ Lv hs i < Lv hs q
      · obtain ⟨hqe, hL⟩ := hc
        refine ⟨true, ?_, fun h => (by cases h), fun _ => ?_⟩
        · have hqi : (q : Int) < e := by omega
          simp [hqi, hs_at (show q < hs.length by omega), hs_at (show i < hs.length by omega), hL]
        · refine ⟨.nx (V_grown.env {headings := some (.tup (hsD hs)), start := some (.int (s : Nat)), end_ := some (.int (e : Nat)), found := some (.ref S.length), place := some (.int (i : Nat)), following := some (.int ((q + 1 : Nat) : Int))}) (S ++ (.lst acc :: Y)), ?_, e - (q + 1), by omega, q + 1, by omega, by omega, fun j h1 h2 => ?_, rfl, rfl, rfl⟩
          · unfold L_grown_1
            simp
          · by_cases hjq : j = q
            · rw [hjq]; exact hL
            · exact hq3 j h1 (by omega)
      have hnx : nx (Lv hs) i e = q := nx_uniq hie hq1 hq2 hq3 (by by_cases hqe : q < e <;> omega)
      refine ⟨false, ?_, fun _ => ?_, fun h => by cases h⟩
      · by_cases hqe : q < e
        · have hqi : (q : Int) < e := by omega
          have hL : ¬ Lv hs i < Lv hs q := fun h => hc ⟨hqe, h⟩
          simp [hqi, hs_at (show q < hs.length by omega), hs_at (show i < hs.length by omega), hL]
        · have hqi : ¬ (q : Int) < e := by omega
          simp [hqi]
      obtain ⟨Y2, hg⟩ := ih (k) (i + 1) q (by omega) (by omega) (S ++ (.lst acc :: Y))
      have hg2 : Phi (k + (d + 1)) .grown [.tup (hsD hs), .int ((i : Int) + 1), .int (q : Nat)] (S ++ (.lst acc :: Y)) = some (.ref (S ++ (.lst acc :: Y)).length, (S ++ (.lst acc :: Y)) ++ (.lst (ot (Lv hs) d (i + 1) q) :: Y2)) := hg
      have hol := ot_len (L := Lv hs) d (i + 1) q
      have hot : ot (Lv hs) (d + 1) i e = .tup [.int (i : Nat), .tup (ot (Lv hs) d (i + 1) q)] :: ot (Lv hs) (d + 1) q e := by rw [ot, rt_cons hie, hnx]; rfl
      rw [hot] at hac
      generalize ot (Lv hs) d (i + 1) q = OO at hg2 hac hol
      have h1 : acc.length < 10000000 := by omega
      have hT : (S ++ (O.lst acc :: Y)) ++ (O.lst OO :: Y2) = S ++ (O.lst acc :: (Y ++ (O.lst OO :: Y2))) := by simp
      have hgo : ((S ++ (O.lst acc :: Y)) ++ (O.lst OO :: Y2))[(S ++ (O.lst acc :: Y)).length]? = some (.lst OO) := by simp
      have hgs : ((S ++ (O.lst acc :: Y)) ++ (O.lst OO :: Y2))[S.length]? = some (.lst acc) := by rw [hT]; simp
      have hgs0 : (S ++ (O.lst acc :: Y))[S.length]? = some (.lst acc) := by simp
      have hset : ((S ++ (O.lst acc :: Y)) ++ (O.lst OO :: Y2)).set S.length (.lst (acc ++ [.tup [.int (i : Nat), .tup OO]])) = S ++ (O.lst (acc ++ [.tup [.int (i : Nat), .tup OO]]) :: (Y ++ (O.lst OO :: Y2))) := by rw [hT]; simp
      generalize hTT : S ++ (O.lst acc :: Y) = TT at hg2 hgo hgs hset hgs0 ⊢
      refine ex_seq (env' := V_grown.env {headings := some (.tup (hsD hs)), start := some (.int (s : Nat)), end_ := some (.int (e : Nat)), found := some (.ref S.length), place := some (.int (i : Nat)), following := some (.int (q : Nat))}) (S' := S ++ (O.lst (acc ++ [.tup [.int (i : Nat), .tup OO]]) :: (Y ++ (O.lst OO :: Y2)))) ⟨?_⟩ ?_
      · generalize TT ++ (O.lst OO :: Y2) = UU at hg2 hgo hgs hset
        simp [ev_tyR _ _ hgs0, hg2, ev_tupR _ _ hgo, okLen_of, ev_append hgs h1, hset]
      · refine ⟨.nx (V_grown.env {headings := some (.tup (hsD hs)), start := some (.int (s : Nat)), end_ := some (.int (e : Nat)), found := some (.ref S.length), place := some (.int (q : Nat)), following := some (.int (q : Nat))}) (S ++ (O.lst (acc ++ [.tup [.int (i : Nat), .tup OO]]) :: (Y ++ (O.lst OO :: Y2)))), by simp, e - q, by omega, q, acc ++ [.tup [.int (i : Nat), .tup OO]], Y ++ (O.lst OO :: Y2), some (.int (q : Nat)), by omega, rfl, rfl, rfl, by simp; omega, by rw [← hac]; simp⟩)
    subst hd
    exact ⟨Y, e1⟩

theorem ot_lo {L : Nat → Int} (n : Nat) : ∀ d s e, D.loL n (ot L d s e) = true := by
  intro d
  induction d with
  | zero => intro s e; rfl
  | succ d ih =>
    intro s e
    refine loL_scal fun x hx => ?_
    obtain ⟨y, _, rfl⟩ := List.mem_map.mp hx
    rw [D.lo, D.loL, D.loL, D.lo, ih]; rfl
theorem outline_eq {hs : List (Int × Str)} (hl : hs.length ≤ 100) {k : Nat} {S : Store} : Phi (k + (hs.length + 1) + 2) .outline [.tup (hsD hs)] S = some (.tup (ot (Lv hs) (hs.length + 1) 0 hs.length), S) := by
  refine eq_outline _ (by rw [D.lo]; exact ot_lo _ _ _ _) ?_
  obtain ⟨Y, h⟩ := grown_eq hl (hs.length + 1) k 0 hs.length (by omega) (Nat.le_refl _) S
  have h : Phi (k + (hs.length + 1) + 1) .grown [.tup (hsD hs), .int 0, .int (hs.length : Nat)] S = _ := h
  have hg : (S ++ (O.lst (ot (Lv hs) (hs.length + 1) 0 hs.length) :: Y))[S.length]? = some (.lst (ot (Lv hs) (hs.length + 1) 0 hs.length)) := by simp
  unfold b_outline
  exact ⟨.rt (.tup (ot (Lv hs) (hs.length + 1) 0 hs.length)) _, by simp [hs_len, h, ev_tupR _ _ hg]; rfl, _, rfl⟩
/-! ### names -/
def nm (i : Nat) : Str := TS (104 :: TL.numL i)
theorem numL_len : ∀ i < 101, (TL.numL i).length ≤ 3 := by decide +kernel
theorem ev_str {S : Store} {i : Nat} (h : i ≤ 1000) : fStr [.int (i : Int)] S = some (.str (TS (TL.numL i)), S) := by
  have h1 : (i : Int).natAbs.log2 < 1920 := by
    rw [Int.natAbs_natCast]
    by_cases h0 : i = 0
    · subst h0; decide
    · have : i.log2 < 10 := (Nat.log2_lt h0).mpr (by omega)
      omega
  show (if (i : Int).natAbs.log2 < 1920 then some (D.str (Str.ofString (toString (i : Int))), S) else none) = _
  rw [if_pos h1, SX.num_S]
theorem ev_nm {S : Store} {i : Nat} (h : i ≤ 100) : fAdd (.str "h") (.str (TS (TL.numL i))) S = some (.str (nm i), S) := by
  have := numL_len i (by omega)
  rw [s_h, ev_addS _ _ (by simp; omega)]; rfl
theorem ev_nmT {S : Store} {i : Nat} (h : i ≤ 100) : fAddT (.str "h") (.str (TS (TL.numL i))) S = some (.str (nm i), S) := ev_nm h
theorem nm_inj0 : ∀ i < 20, ∀ j < 20, (TL.numL i == TL.numL j) = (i == j) := by decide +kernel
theorem nm_beq {i j : Nat} (hi : i < 20) (hj : j < 20) : (nm i == nm j) = (i == j) := by
  unfold nm
  rw [ts_beq]
  have := nm_inj0 i hi j hj
  rw [← this]
  simp [List.cons_beq_cons]
theorem nm_inj {i j : Nat} (hi : i < 20) (hj : j < 20) : nm i = nm j ↔ i = j := by
  have := nm_beq hi hj
  constructor
  · intro h
    rw [h, beq_self_eq_true] at this
    exact eq_of_beq this.symm
  · intro h; rw [h]
def nms (l : List Nat) : List D := l.map fun i => .str (nm i)
theorem nms_len (l : List Nat) : (nms l).length = l.length := List.length_map ..
theorem nms_lo (n : Nat) (l : List Nat) : D.loL n (nms l) = true := loL_scal fun d hd => by
  obtain ⟨x, _, rfl⟩ := List.mem_map.mp hd
  rfl
def br (L : Nat → Int) : Nat → Nat → Nat → List D
  | 0, _, _ => []
  | d + 1, s, e => (rt L s e).map fun x => .tup [.str (nm x.1), .tup (br L d (x.1 + 1) x.2)]
theorem br_lo {L : Nat → Int} (n : Nat) : ∀ d s e, D.loL n (br L d s e) = true := by
  intro d
  induction d with
  | zero => intro s e; rfl
  | succ d ih =>
    intro s e
    refine loL_scal fun x hx => ?_
    obtain ⟨y, _, rfl⟩ := List.mem_map.mp hx
    rw [D.lo, D.loL, D.loL, D.lo, ih]; rfl
theorem branches_eq {L : Nat → Int} : ∀ (d k s e : Nat), e ≤ 100 → ∀ S : Store, Phi (k + d + 1) .l_branches [.tup (ot L d s e)] S = some (.tup (br L d s e), S) := by
  intro d
  induction d with
  | zero =>
    intro k s e he S
    refine eq_l_branches _ rfl ⟨.rt (.tup []) S, ?_, [], by rw [List.append_nil]; rfl⟩
    unfold b_l_branches
    have e1 := lcT_map (it := iSeq (mVar 0)) (g := mgTup 2 (mgCons (mgName 1) (mgCons (mgName 2) mgNil))) (elt := mTup (mCons (m2 fAdd (mC (.str "h")) (mCall fStr (mCons (mVar 1) mNil))) (mCons (mFn 1 (Phi (k + 0) .l_branches) (mCons (mVar 2) mNil)) mNil))) (vs := [1, 2]) (env := V_l_branches.env {nodes := some (.tup [])}) (S := S) (S1 := S) (deps := []) (e := fun x : Nat × Nat => D.non) (xs := []) (fun _ => .non) (by simp) (by simp) (by simp) (fun x hx => by cases hx) (fun x hx => by cases hx)
    rw [ev_ret, ev_call, ev_cons]
    erw [e1]
    simp
  | succ d ih =>
    intro k s e he S
    refine eq_l_branches _ (by rw [D.lo]; exact br_lo _ _ _ _) ⟨.rt (.tup (br L (d + 1) s e)) S, ?_, [], by rw [List.append_nil]⟩
    unfold b_l_branches
    have hln := rt_len (L := L) s e
    have e1 := lcT_map (it := iSeq (mVar 0)) (g := mgTup 2 (mgCons (mgName 1) (mgCons (mgName 2) mgNil))) (elt := mTup (mCons (m2 fAdd (mC (.str "h")) (mCall fStr (mCons (mVar 1) mNil))) (mCons (mFn 1 (Phi (k + (d + 1)) .l_branches) (mCons (mVar 2) mNil)) mNil))) (vs := [1, 2]) (env := V_l_branches.env {nodes := some (.tup (ot L (d + 1) s e))}) (S := S) (S1 := S) (deps := []) (e := fun x : Nat × Nat => D.tup [.int (x.1 : Nat), .tup (ot L d (x.1 + 1) x.2)]) (xs := rt L s e) (fun x => .tup [.str (nm x.1), .tup (br L d (x.1 + 1) x.2)]) (by simp; rfl) (by omega) (by simp) (fun x hx X => by
      have hi := rt_in x hx
      refine ⟨_, by simp; rfl, ?_⟩
      have hb := ih k (x.1 + 1) x.2 (by omega) (S ++ [X])
      have hb : Phi (k + (d + 1)) .l_branches [.tup (ot L d (x.1 + 1) x.2)] (S ++ [X]) = _ := hb
      simp [ev_str (show x.1 ≤ 1000 by omega), ev_nm (show x.1 ≤ 100 by omega), hb, okLen_of]) (fun x hx => by rw [D.lo, D.loL, D.loL, D.lo, br_lo]; rfl)
    rw [ev_ret, ev_call, ev_cons]
    erw [e1]
    simp [br]
/-! ### all names -/
theorem pre_len {L : Nat → Int} {d s e : Nat} (h : e - s ≤ d) (hs : s ≤ e) : (pre L d s e).length = e - s := by rw [pre_eq d s e h hs, List.length_range']
theorem names_eq {L : Nat → Int} : ∀ (d k i s e : Nat), e - s ≤ d → s ≤ e → e ≤ 100 → ∀ S : Store, Phi (k + d + 1) .names_in [.tup [.str (nm i), .tup (br L d s e)]] S = some (.tup (nms (i :: pre L d s e)), S) := by
  intro d
  induction d with
  | zero =>
    intro k i s e h hs he S
    refine eq_names_in _ rfl ⟨.rt (.tup (nms [i])) S, ?_, [], by rw [List.append_nil]; rfl⟩
    unfold b_names_in
    simp [ev_seq, okLen_of, br, nms]
  | succ d ih =>
    intro k i s e h hs he S
    refine eq_names_in _ (by rw [D.lo]; exact nms_lo _ _) ?_
    unfold b_names_in
    refine ex_seq (env' := V_names_in.env {branch := some (.tup [.str (nm i), .tup (br L (d + 1) s e)]), found := some (.tup (nms [i]))}) (S' := S) ⟨by simp [okLen_of, nms]⟩ ?_
    refine ex_forw [2, 1] (xs := rt L s e) (e := fun x : Nat × Nat => D.tup [.str (nm x.1), .tup (br L d (x.1 + 1) x.2)]) (deps := []) (S1 := S) ⟨by simp; rfl⟩ (fun pr ys T => T = S ∧ ∃ y, ys = [y, some (.tup (nms (i :: pr.flatMap fun x => x.1 :: pre L d (x.1 + 1) x.2)))]) ⟨[_, _], rfl, rfl, rfl, _, rfl⟩ ?_ ?_
    · rintro pr x post hx ys hys T ⟨rfl, y, rfl⟩
      refine ⟨_, _, by simp; exact ⟨rfl, rfl⟩, ?_⟩
      have hxi := rt_in (L := L) x (by rw [hx]; simp)
      have hb := ih k x.1 (x.1 + 1) x.2 (by omega) (by omega) (by omega) T
      have hb : Phi (k + (d + 1)) .names_in [.tup [.str (nm x.1), .tup (br L d (x.1 + 1) x.2)]] T = _ := hb
      have hpl := pre_len (L := L) (d := d) (s := x.1 + 1) (e := x.2) (by omega) (by omega)
      have hall : (pre L (d + 1) s e).length = e - s := pre_len h hs
      have hpr : (pr.flatMap fun x => x.1 :: pre L d (x.1 + 1) x.2).length ≤ 100 := by
        have e1 : pre L (d + 1) s e = (pr.flatMap fun x => x.1 :: pre L d (x.1 + 1) x.2) ++ ((x :: post).flatMap fun x => x.1 :: pre L d (x.1 + 1) x.2) := by rw [pre, hx, List.flatMap_append]
        rw [e1, List.length_append] at hall
        omega
      rw [List.flatMap_append, List.flatMap_cons, List.flatMap_nil, List.append_nil]
      generalize (pr.flatMap fun x => x.1 :: pre L d (x.1 + 1) x.2) = PP at hpr ⊢
      generalize pre L d (x.1 + 1) x.2 = QQ at hb hpl ⊢
      have e5 : nms (i :: PP) ++ nms (x.1 :: QQ) = nms (i :: (PP ++ x.1 :: QQ)) := by simp [nms]
      have e6 := ev_iaddAT (S := T) (xs := nms (i :: PP)) (ys := nms (x.1 :: QQ)) (by rw [nms_len, nms_len, List.length_cons, List.length_cons]; omega)
      rw [e5] at e6
      unfold L_names_in_1
      refine ex_nx (T' := T) (env' := V_names_in.env {branch := some (.tup [.str (nm i), .tup (br L (d + 1) s e)]), found := some (.tup (nms (i :: (PP ++ x.1 :: QQ)))), node := some (.tup [.str (nm x.1), .tup (br L d (x.1 + 1) x.2)])}) ⟨by simp [hb, e6]⟩ [_, _] rfl rfl (kept_nil _ _) ⟨rfl, _, rfl⟩
    rintro ys hys T ⟨rfl, y, rfl⟩
    exact ⟨.rt (.tup (nms (i :: pre L (d + 1) s e))) T, by simp [pre], [], by rw [List.append_nil]⟩

/-! ### rows -/
def mk (m : Nat) : Str := if m = 0 then "leaf" else if m = 1 then "shut" else "open"
def rD (r : Nat × Nat × Nat) : D := .tup [.str (nm r.1), .int (r.2.1 : Nat), .str (mk r.2.2)]
def rws (rs : List (Nat × Nat × Nat)) : List D := rs.map rD
theorem rws_len (rs : List (Nat × Nat × Nat)) : (rws rs).length = rs.length := List.length_map ..
theorem rws_lo (n : Nat) (rs : List (Nat × Nat × Nat)) : D.loL n (rws rs) = true := loL_scal fun d hd => by
  obtain ⟨x, _, rfl⟩ := List.mem_map.mp hd
  rfl
theorem rws_app (a b : List (Nat × Nat × Nat)) : rws a ++ rws b = rws (a ++ b) := by simp [rws]
theorem br_len {L : Nat → Int} (d s e : Nat) : (br L d s e).length ≤ e - s := by
  cases d with
  | zero => simp [br]
  | succ d => rw [br, List.length_map]; exact rt_len s e
theorem br_empty {L : Nat → Int} {d s e : Nat} (h : e - s ≤ d) (hs : s ≤ e) : (br L d s e).isEmpty = decide (e = s) := by
  cases d with
  | zero => rw [show e = s by omega]; simp [br]
  | succ d =>
    by_cases hl : s < e
    · rw [br, rt_cons hl]
      have : ¬ e = s := by omega
      simp [this]
    · rw [br, rt_nil hl]
      have : e = s := by omega
      simp [this]
/-- the rows of one branch -/
def rw1 (L : Nat → Int) (sh : Nat → Bool) (d lev : Nat) (x : Nat × Nat) : List (Nat × Nat × Nat) := if x.2 = x.1 + 1 then [(x.1, lev, 0)] else if sh x.1 then [(x.1, lev, 1)] else (x.1, lev, 2) :: rw' L sh d (lev + 1) (x.1 + 1) x.2
theorem rw_flat (L : Nat → Int) (sh : Nat → Bool) (d lev s e : Nat) : rw' L sh (d + 1) lev s e = (rt L s e).flatMap (rw1 L sh d lev) := rfl
theorem flat_le {α : Type} {g : Nat × Nat → List α} {L : Nat → Int} {e : Nat} (h : ∀ x : Nat × Nat, (g x).length ≤ x.2 - x.1) : ∀ (m s : Nat), e - s ≤ m → ((rt L s e).flatMap g).length ≤ e - s
  | 0, s, hm => by rw [rt_nil (by omega)]; simp
  | m + 1, s, hm => by
    by_cases hl : s < e
    · have g1 := nx_lt (L := L) s e
      have g2 := nx_le (L := L) hl
      have h1 := h (s, nx L s e)
      have h2 := flat_le (L := L) (e := e) h m (nx L s e) (by omega)
      rw [rt_cons hl, List.flatMap_cons, List.length_append]
      dsimp only at h1
      omega
    · rw [rt_nil hl]; simp
theorem rw1_len {L : Nat → Int} {sh : Nat → Bool} : ∀ (d lev : Nat) (x : Nat × Nat), x.1 < x.2 → (rw1 L sh d lev x).length ≤ x.2 - x.1 := by
  intro d
  induction d with
  | zero =>
    intro lev x hx
    unfold rw1
    split
    · simp; omega
    · split
      · simp; omega
      · simp [rw']; omega
  | succ d ih =>
    intro lev x hx
    unfold rw1
    split
    · simp; omega
    · split
      · simp; omega
      · rw [List.length_cons, rw_flat]
        have := flat_le (L := L) (e := x.2) (g := fun y => if y.1 < y.2 then rw1 L sh d (lev + 1) y else []) (fun y => by
          split
          · rename_i h; exact ih _ y h
          · simp) (x.2 - (x.1 + 1)) (x.1 + 1) (Nat.le_refl _)
        have e : (rt L (x.1 + 1) x.2).flatMap (rw1 L sh d (lev + 1)) = (rt L (x.1 + 1) x.2).flatMap (fun y => if y.1 < y.2 then rw1 L sh d (lev + 1) y else []) := by
          rw [List.flatMap_def, List.flatMap_def]
          congr 1
          refine List.map_congr_left fun y hy => ?_
          rw [if_pos (rt_in y hy).2.1]
        rw [e]
        omega
theorem rw1s_len {L : Nat → Int} {sh : Nat → Bool} (d lev s e : Nat) {pr post : List (Nat × Nat)} (h : rt L s e = pr ++ post) : (pr.flatMap (rw1 L sh d lev)).length ≤ e - s := by
  have h1 := flat_le (L := L) (e := e) (g := fun y => if y.1 < y.2 then rw1 L sh d lev y else []) (fun y => by
    split
    · rename_i h; exact rw1_len _ _ y h
    · simp) (e - s) s (Nat.le_refl _)
  rw [h, List.flatMap_append, List.length_append] at h1
  have e1 : pr.flatMap (rw1 L sh d lev) = pr.flatMap (fun y => if y.1 < y.2 then rw1 L sh d lev y else []) := by
    rw [List.flatMap_def, List.flatMap_def]
    congr 1
    refine List.map_congr_left fun y hy => ?_
    rw [if_pos (rt_in (L := L) (s := s) (e := e) y (by rw [h]; exact List.mem_append_left _ hy)).2.1]
  rw [e1]; omega
theorem add_eq {L : Nat → Int} {sh : Nat → Bool} {shd : List D} (hsh : ∀ (i : Nat) (S : Store), i < 20 → cIn (.str (nm i)) (.tup shd) S = some (sh i)) : ∀ (d k lev j i e : Nat), e - (i + 1) ≤ d → i < e → e ≤ 20 → ∀ (T : Store) (acc : List (Nat × Nat × Nat)), T[j]? = some (.lst (rws acc)) → acc.length + 40 * (d + 1) ≤ 2000 →
    Phi (k + d + 1) .add_rows [.tup [.str (nm i), .tup (br L d (i + 1) e)], .int (lev : Nat), .tup shd, .ref j] T = some (.non, T.set j (.lst (rws (acc ++ rw1 L sh d lev (i, e))))) := by
  intro d
  induction d with
  | zero =>
    intro k lev j i e h hi he T acc hj hacc
    have hei : e = i + 1 := by omega
    subst hei
    have h1 : (rws acc).length < 10000000 := by rw [rws_len]; omega
    have e3 : rws acc ++ [.tup [.str (nm i), .int (lev : Nat), .str "leaf"]] = rws (acc ++ rw1 L sh 0 lev (i, i + 1)) := by simp [rws, rw1, rD, mk]
    obtain ⟨dd, T', e1, hd, hT⟩ := of_add_rows (Φ := Phi (k + 0)) (.tup [.str (nm i), .tup (br L 0 (i + 1) (i + 1))]) (.int (lev : Nat)) (.tup shd) (.ref j) (S := T) (P := fun dd T' => dd = .non ∧ T' = T.set j (.lst (rws (acc ++ rw1 L sh 0 lev (i, i + 1))))) (by
      unfold b_add_rows
      refine ex_seq (by simp [br]; exact .mk') ?_
      refine ex_seq (S' := T.set j (.lst (rws (acc ++ rw1 L sh 0 lev (i, i + 1))))) ⟨by simp [okLen_of, ev_tyR _ _ hj, ev_append hj h1, e3]; exact rfl⟩ ?_
      refine ⟨.nx _ _, by simp; exact ⟨rfl, rfl⟩, rfl, ?_⟩
      rw [trunc_len (by simp)])
    subst hd hT
    exact e1
  | succ d ih =>
    intro k lev j i e h hi he T acc hj hacc
    have h1 : (rws acc).length < 10000000 := by rw [rws_len]; omega
    have hem : (br L (d + 1) (i + 1) e).isEmpty = decide (e = i + 1) := br_empty h (by omega)
    have hshi := hsh i
    obtain ⟨dd, T', e1, hd, hT⟩ := of_add_rows (Φ := Phi (k + (d + 1))) (.tup [.str (nm i), .tup (br L (d + 1) (i + 1) e)]) (.int (lev : Nat)) (.tup shd) (.ref j) (S := T) (P := fun dd T' => dd = .non ∧ T' = T.set j (.lst (rws (acc ++ rw1 L sh (d + 1) lev (i, e))))) (by
      have hbi : iSeq (m2 fIx (mVar 0) (mC (.int 1))) (V_add_rows.env {branch := some (.tup [.str (nm i), .tup (br L (d + 1) (i + 1) e)]), level := some (.int (lev : Nat)), shut := some (.tup shd), found := some (.ref j), mark := some (.str "open")}) (T.set j (.lst (rws (acc ++ [(i, lev, 2)])))) = some ((rt L (i + 1) e).map (fun x : Nat × Nat => D.tup [.str (nm x.1), .tup (br L d (x.1 + 1) x.2)]), [], T.set j (.lst (rws (acc ++ [(i, lev, 2)])))) := by simp; rfl
      generalize br L (d + 1) (i + 1) e = BB at hem hbi ⊢
      unfold b_add_rows rw1
      by_cases hl : e = i + 1
      · have hem : BB.isEmpty = true := by rw [hem]; simp [hl]
        have hem2 : BB = [] := by simpa using hem
        have e3 : rws acc ++ [.tup [.str (nm i), .int (lev : Nat), .str "leaf"]] = rws (acc ++ [(i, lev, 0)]) := by simp [rws, rD, mk]
        rw [if_pos hl]
        refine ex_seq (env' := V_add_rows.env {branch := some (.tup [.str (nm i), .tup BB]), level := some (.int (lev : Nat)), shut := some (.tup shd), found := some (.ref j), mark := some (.str "leaf")}) (S' := T) ⟨by simp [hem2]⟩ ?_
        refine ex_seq (env' := V_add_rows.env {branch := some (.tup [.str (nm i), .tup BB]), level := some (.int (lev : Nat)), shut := some (.tup shd), found := some (.ref j), mark := some (.str "leaf")}) (S' := T.set j (.lst (rws (acc ++ [(i, lev, 0)])))) ⟨by simp [okLen_of, ev_tyR _ _ hj, ev_append hj h1, e3]⟩ ?_
        refine ⟨.nx _ _, by simp; exact ⟨rfl, rfl⟩, rfl, ?_⟩
        rw [trunc_len (by simp)]
      have hem : BB.isEmpty = false := by rw [hem]; simp [hl]
      have hem2 : ¬ BB = [] := by simpa using hem
      rw [if_neg hl]
      by_cases hc : sh i = true
      · have e3 : rws acc ++ [.tup [.str (nm i), .int (lev : Nat), .str "shut"]] = rws (acc ++ [(i, lev, 1)]) := by simp [rws, rD, mk]
        rw [if_pos hc]
        refine ex_seq (env' := V_add_rows.env {branch := some (.tup [.str (nm i), .tup BB]), level := some (.int (lev : Nat)), shut := some (.tup shd), found := some (.ref j), mark := some (.str "shut")}) (S' := T) ⟨by simp [hem2, hshi _ (show i < 20 by omega), hc]⟩ ?_
        refine ex_seq (env' := V_add_rows.env {branch := some (.tup [.str (nm i), .tup BB]), level := some (.int (lev : Nat)), shut := some (.tup shd), found := some (.ref j), mark := some (.str "shut")}) (S' := T.set j (.lst (rws (acc ++ [(i, lev, 1)])))) ⟨by simp [okLen_of, ev_tyR _ _ hj, ev_append hj h1, e3]⟩ ?_
        refine ⟨.nx _ _, by simp; exact ⟨rfl, rfl⟩, rfl, ?_⟩
        rw [trunc_len (by simp)]
      have hc2 : sh i = false := by simpa using hc
      have e3 : rws acc ++ [.tup [.str (nm i), .int (lev : Nat), .str "open"]] = rws (acc ++ [(i, lev, 2)]) := by simp [rws, rD, mk]
      rw [if_neg hc]
      refine ex_seq (env' := V_add_rows.env {branch := some (.tup [.str (nm i), .tup BB]), level := some (.int (lev : Nat)), shut := some (.tup shd), found := some (.ref j), mark := some (.str "open")}) (S' := T) ⟨by simp [hem2, hshi _ (show i < 20 by omega), hc2]⟩ ?_
      refine ex_seq (env' := V_add_rows.env {branch := some (.tup [.str (nm i), .tup BB]), level := some (.int (lev : Nat)), shut := some (.tup shd), found := some (.ref j), mark := some (.str "open")}) (S' := T.set j (.lst (rws (acc ++ [(i, lev, 2)])))) ⟨by simp [okLen_of, ev_tyR _ _ hj, ev_append hj h1, e3]⟩ ?_
      refine ex_if1 (S' := T.set j (.lst (rws (acc ++ [(i, lev, 2)])))) ⟨by simp⟩ ?_
      refine ex_forv [5] (xs := rt L (i + 1) e) (e := fun x : Nat × Nat => D.tup [.str (nm x.1), .tup (br L d (x.1 + 1) x.2)]) (deps := []) (S1 := T.set j (.lst (rws (acc ++ [(i, lev, 2)])))) ⟨hbi⟩ (fun pr ys T' => T' = T.set j (.lst (rws (acc ++ (i, lev, 2) :: pr.flatMap (rw1 L sh d (lev + 1)))))) ⟨[_], rfl, rfl, rfl⟩ ?_ ?_
      · rintro pr x post hx ys hys T' rfl
        obtain ⟨y, rfl⟩ := len1 hys
        refine ⟨_, _, by simp; exact ⟨rfl, rfl⟩, ?_⟩
        have hxi := rt_in (L := L) x (by rw [hx]; simp)
        have hpl := rw1s_len (sh := sh) d (lev + 1) _ _ hx
        have hjl := get_lt hj
        have hb := ih k (lev + 1) j x.1 x.2 (by omega) (by omega) (by omega) (T.set j (.lst (rws (acc ++ (i, lev, 2) :: pr.flatMap (rw1 L sh d (lev + 1)))))) (acc ++ (i, lev, 2) :: pr.flatMap (rw1 L sh d (lev + 1))) (set_get hjl) (by rw [List.length_append, List.length_cons]; omega)
        rw [List.flatMap_append, List.flatMap_cons, List.flatMap_nil, List.append_nil]
        have hb : Phi (k + (d + 1)) .add_rows [.tup [.str (nm x.1), .tup (br L d (x.1 + 1) x.2)], .int ((lev : Int) + 1), .tup shd, .ref j] _ = _ := hb
        unfold L_add_rows_1
        refine ex_nx (T' := T.set j (.lst (rws (acc ++ (i, lev, 2) :: (pr.flatMap (rw1 L sh d (lev + 1)) ++ rw1 L sh d (lev + 1) x))))) (env' := V_add_rows.env {branch := some (.tup [.str (nm i), .tup BB]), level := some (.int (lev : Nat)), shut := some (.tup shd), found := some (.ref j), mark := some (.str "open"), node := some (.tup [.str (nm x.1), .tup (br L d (x.1 + 1) x.2)])}) ⟨by simp [hb]⟩ [_] rfl rfl (kept_nil _ _) rfl
      rintro ys hys T' rfl
      obtain ⟨y, rfl⟩ := len1 hys
      refine ⟨rfl, ?_⟩
      rw [trunc_len (by simp), ← rw_flat])
    subst hd hT
    exact e1

theorem rows_eq {L : Nat → Int} {sh : Nat → Bool} {shd : List D} (hsh : ∀ (i : Nat) (S : Store), i < 20 → cIn (.str (nm i)) (.tup shd) S = some (sh i)) {d k s e : Nat} (h : e - s ≤ d + 1) (hd : d ≤ 20) (he : e ≤ 20) {S : Store} : Phi (k + d + 2) .rows_of [.tup (br L (d + 1) s e), .tup shd] S = some (.tup (rws (rw' L sh (d + 1) 0 s e)), S) := by
  refine eq_rows_of _ _ (by rw [D.lo]; exact rws_lo _ _) ?_
  unfold b_rows_of
  refine ex_seq (S' := S ++ [.lst (rws [])]) ⟨by simp [okLen_of]; exact ⟨rfl, rfl⟩⟩ ?_
  refine ex_forw [3] (xs := rt L s e) (e := fun x : Nat × Nat => D.tup [.str (nm x.1), .tup (br L d (x.1 + 1) x.2)]) (deps := []) (S1 := S ++ [.lst (rws [])]) ⟨by simp; rfl⟩ (fun pr ys T' => T' = S ++ [.lst (rws (pr.flatMap (rw1 L sh d 0)))]) ⟨[_], rfl, rfl, rfl⟩ ?_ ?_
  · rintro pr x post hx ys hys T' rfl
    obtain ⟨y, rfl⟩ := len1 hys
    refine ⟨_, _, by simp; exact ⟨rfl, rfl⟩, ?_⟩
    have hxi := rt_in (L := L) x (by rw [hx]; simp)
    have hpl := rw1s_len (L := L) (sh := sh) d 0 _ _ hx
    rw [List.flatMap_append, List.flatMap_cons, List.flatMap_nil, List.append_nil]
    have hb := add_eq (L := L) hsh d k 0 S.length x.1 x.2 (by omega) (by omega) (by omega) (S ++ [.lst (rws (pr.flatMap (rw1 L sh d 0)))]) (pr.flatMap (rw1 L sh d 0)) get_end (by omega)
    rw [set_last] at hb
    have hb : Phi (k + d + 1) .add_rows [.tup [.str (nm x.1), .tup (br L d (x.1 + 1) x.2)], .int 0, .tup shd, .ref S.length] _ = _ := hb
    unfold L_rows_of_1
    refine ex_nx (T' := S ++ [.lst (rws (pr.flatMap (rw1 L sh d 0) ++ rw1 L sh d 0 x))]) (env' := V_rows_of.env {branches := some (.tup (br L (d + 1) s e)), shut := some (.tup shd), found := some (.ref S.length), branch := some (.tup [.str (nm x.1), .tup (br L d (x.1 + 1) x.2)])}) ⟨by simp [hb]⟩ [_] rfl rfl (kept_nil _ _) rfl
  rintro ys hys T' rfl
  obtain ⟨y, rfl⟩ := len1 hys
  rw [← rw_flat]
  exact ⟨.rt (.tup (rws (rw' L sh (d + 1) 0 s e))) _, by simp; rfl, _, rfl⟩
/-! ### ways -/
def wayD : Option (List Nat) → D
  | none => .non
  | some w => .tup (nms w)
theorem wayD_lo (n : Nat) (w : Option (List Nat)) : (wayD w).lo n = true := by
  cases w with
  | none => rfl
  | some w => show D.lo n (.tup (nms w)) = true; rw [D.lo]; exact nms_lo _ _
theorem way_len {L : Nat → Int} {i : Nat} : ∀ (d s e : Nat) (w : List Nat), way L i d s e = some w → w.length ≤ d := by
  intro d
  induction d with
  | zero => intro s e w h; cases h
  | succ d ih =>
    intro s e w h
    rw [way] at h
    obtain ⟨x, hx, h⟩ := List.exists_of_findSome?_eq_some h
    split at h
    · cases h; simp
    · obtain ⟨v, hv, rfl⟩ := Option.map_eq_some_iff.mp h
      have := ih _ _ _ hv
      rw [List.length_cons]; omega
theorem ways_eq {L : Nat → Int} {i : Nat} (hi : i < 20) : ∀ (d k s e : Nat), e ≤ 20 → d ≤ 100 → ∀ S : Store, Phi (k + d + 1) .ways_to [.tup (br L d s e), .str (nm i)] S = some (wayD (way L i d s e), S) := by
  intro d
  induction d with
  | zero =>
    intro k s e he hd S
    refine eq_ways_to _ _ (wayD_lo _ _) ⟨.rt .non S, ?_, [], by rw [List.append_nil]; rfl⟩
    unfold b_ways_to
    simp [ev_seq, br]
  | succ d ih =>
    intro k s e he hd S
    refine eq_ways_to _ _ (wayD_lo _ _) ?_
    unfold b_ways_to
    refine ex_forw [2, 3] (xs := rt L s e) (e := fun x : Nat × Nat => D.tup [.str (nm x.1), .tup (br L d (x.1 + 1) x.2)]) (deps := []) (S1 := S) ⟨by simp; rfl⟩ (fun pr ys T => T = S ∧ pr.findSome? (fun x => if x.1 = i then some [] else (way L i d (x.1 + 1) x.2).map fun w => x.1 :: w) = none) ⟨[_, _], rfl, rfl, rfl, rfl⟩ ?_ ?_
    · rintro pr x post hx ys hys T ⟨rfl, hpr⟩
      obtain ⟨y0, y1, rfl⟩ := len2 hys
      refine ⟨_, _, by simp; exact ⟨rfl, rfl⟩, ?_⟩
      have hxi := rt_in (L := L) x (by rw [hx]; simp)
      have hb := ih k (x.1 + 1) x.2 (by omega) (by omega) T
      have hb : Phi (k + (d + 1)) .ways_to [.tup (br L d (x.1 + 1) x.2), .str (nm i)] T = _ := hb
      have hwl := fun w => way_len (L := L) (i := i) d (x.1 + 1) x.2 w
      have hfin : way L i (d + 1) s e = ((if x.1 = i then some [] else (way L i d (x.1 + 1) x.2).map fun w => x.1 :: w).or (post.findSome? (fun x => if x.1 = i then some [] else (way L i d (x.1 + 1) x.2).map fun w => x.1 :: w))) := by
        rw [way, hx, List.findSome?_append, hpr, List.findSome?_cons]
        cases (if x.1 = i then some [] else (way L i d (x.1 + 1) x.2).map fun w => x.1 :: w) <;> rfl
      have hpre : (pr ++ [x]).findSome? (fun x => if x.1 = i then some [] else (way L i d (x.1 + 1) x.2).map fun w => x.1 :: w) = (if x.1 = i then some [] else (way L i d (x.1 + 1) x.2).map fun w => x.1 :: w) := by
        rw [List.findSome?_append, hpr, List.findSome?_cons]
        cases (if x.1 = i then some [] else (way L i d (x.1 + 1) x.2).map fun w => x.1 :: w) <;> rfl
      rw [hpre]
      have hnm := nm_beq (i := x.1) (j := i) (by omega) hi
      generalize br L d (x.1 + 1) x.2 = BB at hb ⊢
      generalize way L i d (x.1 + 1) x.2 = W at hb hwl hfin ⊢
      unfold L_ways_to_1
      by_cases hxe : x.1 = i
      · rw [if_pos hxe] at hfin ⊢
        have hfin : way L i (d + 1) s e = some [] := by rw [hfin]; rfl
        rw [hxe]
        refine ⟨.rt (.tup []) T, by simp [ev_seq, okLen_of], [], by rw [hfin, List.append_nil]; rfl⟩
      · rw [if_neg hxe] at hfin ⊢
        have hnm : (nm x.1 == nm i) = false := by rw [hnm]; simpa using hxe
        have hnm := ne_of_beq_false hnm
        refine ex_seq (env' := V_ways_to.env {branches := some (.tup (br L (d + 1) s e)), name := some (.str (nm i)), branch := some (.tup [.str (nm x.1), .tup BB]), inner := y1}) (S' := T) ⟨by simp [hnm]⟩ ?_
        refine ex_seq (env' := V_ways_to.env {branches := some (.tup (br L (d + 1) s e)), name := some (.str (nm i)), branch := some (.tup [.str (nm x.1), .tup BB]), inner := some (wayD W)}) (S' := T) ⟨by simp [hb]⟩ ?_
        cases W with
        | none =>
          refine ex_nx (T' := T) (env' := V_ways_to.env {branches := some (.tup (br L (d + 1) s e)), name := some (.str (nm i)), branch := some (.tup [.str (nm x.1), .tup BB]), inner := some .non}) ⟨by simp [wayD]⟩ [_, _] rfl rfl (kept_nil _ _) ⟨rfl, rfl⟩
        | some w =>
          have hfin : way L i (d + 1) s e = some (x.1 :: w) := by rw [hfin]; rfl
          have hwl := hwl w rfl
          have e5 : fAdd (.tup [.str (nm x.1)]) (.tup (nms w)) T = some (.tup (nms (x.1 :: w)), T) := by
            rw [ev_addTT (by rw [nms_len]; simp; omega)]; rfl
          refine ⟨.rt (.tup (nms (x.1 :: w))) T, by simp [wayD, okLen_of, e5], [], by rw [hfin, List.append_nil]; rfl⟩
    rintro ys hys T ⟨rfl, hpr⟩
    obtain ⟨y0, y1, rfl⟩ := len2 hys
    refine ⟨.rt .non T, by simp, [], ?_⟩
    rw [way, hpr, List.append_nil]; rfl
/-! ### parents -/
theorem rng_pre {n x : Nat} {pr post : List Nat} (h : List.range n = pr ++ x :: post) : pr = List.range x ∧ x < n := by
  have h1 : (List.range n)[pr.length]? = some x := by rw [h]; simp
  have h2 : pr.length < n := by
    have := (List.getElem?_eq_some_iff.mp h1).1
    simpa using this
  rw [List.getElem?_range h2] at h1
  have h3 : pr.length = x := Option.some.inj h1
  have h4 : (List.range n).take pr.length = pr := by rw [h, List.take_left]
  rw [List.take_range, Nat.min_eq_left (by omega), h3] at h4
  exact ⟨h4.symm, by omega⟩
def oD : Option Nat → D
  | none => .non
  | some j => .int (j : Nat)
def pars (hs : List (Int × Str)) (m : Nat) : List D := (List.range m).map fun i => oD (par (Lv hs) i)
theorem pars_len (hs : List (Int × Str)) (m : Nat) : (pars hs m).length = m := by simp [pars]
theorem pars_lo (n : Nat) (hs : List (Int × Str)) (m : Nat) : D.loL n (pars hs m) = true := loL_scal fun d hd => by
  obtain ⟨x, _, rfl⟩ := List.mem_map.mp hd
  cases par (Lv hs) x <;> rfl
theorem enum_hs (hs : List (Int × Str)) : enumD (hsD hs) = (List.range hs.length).map fun i => .tup [.int (i : Nat), .tup [.int (Lv hs i), .str (Tx hs i)]] := by
  unfold hsD
  rw [enum_map, zipIdx_range hs (0, ""), List.map_map]
  rfl
theorem parents_eq {k : Nat} {hs : List (Int × Str)} (hl : hs.length ≤ 100) {S : Store} : Phi (k + 1) .parents [.tup (hsD hs)] S = some (.tup (pars hs hs.length), S) := by
  refine eq_parents _ (by rw [D.lo]; exact pars_lo _ _ _) ?_
  unfold b_parents
  refine ex_seq (S' := S ++ [.lst (pars hs 0)]) ⟨by simp [okLen_of]; exact ⟨rfl, rfl⟩⟩ ?_
  refine ex_forw [2, 3, 4, 5, 6] (xs := List.range hs.length) (e := fun i : Nat => D.tup [.int (i : Nat), .tup [.int (Lv hs i), .str (Tx hs i)]]) (deps := []) (S1 := S ++ [.lst (pars hs 0)]) ⟨by simp [enum_hs]⟩ (fun pr ys T => ∃ Y, T = S ++ (.lst (pars hs pr.length) :: Y)) ⟨[_, _, _, _, _], rfl, rfl, [], rfl⟩ ?_ ?_
  · rintro pr x post hx ys hys T ⟨Y, rfl⟩
    obtain ⟨y0, y1, y2, y3, y4, rfl⟩ := len5 hys
    obtain ⟨hpr, hxl⟩ := rng_pre hx
    have hpl : pr.length = x := by rw [hpr, List.length_range]
    refine ⟨_, _, by simp; exact ⟨rfl, rfl⟩, ?_⟩
    rw [List.length_append, List.length_singleton, hpl]
    have hps : pars hs (x + 1) = pars hs x ++ [oD (par (Lv hs) x)] := by unfold pars; rw [List.range_succ, List.map_append]; rfl
    have h1 : (pars hs x).length < 10000000 := by rw [pars_len]; omega
    have hg : (S ++ (O.lst (pars hs x) :: Y))[S.length]? = some (.lst (pars hs x)) := by simp
    generalize hTT : S ++ (O.lst (pars hs x) :: Y) = TT at hg ⊢
    have e1 := lc_pure (it := iRange1 (mVar 2)) (g := mgName 6) (t := mCmp cLtT (m2 fIx (m2 fIx (mVar 0) (mVar 6)) (mC (.int 0))) (mVar 3)) (elt := mVar 6) (vs := [6]) (env := V_parents.env {headings := some (.tup (hsD hs)), found := some (.ref S.length), place := some (.int (x : Nat)), level := some (.int (Lv hs x)), __ := some (.str (Tx hs x)), ahead := y3, other := y4}) (S := TT) (S1 := TT) (deps := []) (e := fun (i : Nat) => D.int (0 + (i : Int) * 1)) (xs := List.range x) (fun j => decide (Lv hs j < Lv hs x)) (fun (j : Nat) => .int (j : Int)) (by
      have h3 : -4611686018427387904 ≤ (x : Int) ∧ (x : Int) < 4611686018427387904 := by omega
      simp [h3, ramp_map]) (by simp; omega) (by simp) (fun j hj X => by
      have : j < x := List.mem_range.mp hj
      refine ⟨_, by simp; rfl, by simp [hs_at (show j < hs.length by omega)], fun _ => by simp⟩)
    have hgl : ((List.range x).filter fun j => decide (Lv hs j < Lv hs x)).getLast? = par (Lv hs) x := rfl
    generalize (List.range x).filter (fun j => decide (Lv hs j < Lv hs x)) = FF at e1 hgl
    generalize par (Lv hs) x = PP at hgl hps
    unfold L_parents_1
    refine ex_seq (env' := V_parents.env {headings := some (.tup (hsD hs)), found := some (.ref S.length), place := some (.int (x : Nat)), level := some (.int (Lv hs x)), __ := some (.str (Tx hs x)), ahead := some (.ref TT.length), other := y4}) (S' := TT ++ [.lst (FF.map fun (j : Nat) => .int (j : Int))]) ⟨by rw [ev_asg]; erw [e1]; simp⟩ ?_
    have hg2 : (TT ++ [O.lst (FF.map fun (j : Nat) => D.int (j : Int))])[S.length]? = some (.lst (pars hs x)) := get_old hg
    have hg3 : (TT ++ [O.lst (FF.map fun (j : Nat) => D.int (j : Int))])[TT.length]? = some (.lst (FF.map fun (j : Nat) => D.int (j : Int))) := get_end
    have hset : (TT ++ [O.lst (FF.map fun (j : Nat) => D.int (j : Int))]).set S.length (.lst (pars hs x ++ [oD PP])) = S ++ (.lst (pars hs (x + 1)) :: (Y ++ [O.lst (FF.map fun (j : Nat) => D.int (j : Int))])) := by rw [← hTT, hps]; simp
    refine ex_nx (T' := S ++ (.lst (pars hs (x + 1)) :: (Y ++ [O.lst (FF.map fun (j : Nat) => D.int (j : Int))]))) (env' := V_parents.env {headings := some (.tup (hsD hs)), found := some (.ref S.length), place := some (.int (x : Nat)), level := some (.int (Lv hs x)), __ := some (.str (Tx hs x)), ahead := some (.ref TT.length), other := y4}) ⟨?_⟩ [_, _, _, _, _] rfl rfl (kept_nil _ _) ⟨_, rfl⟩
    cases PP with
    | none =>
      have : FF = [] := List.getLast?_eq_none_iff.mp hgl
      subst this
      simp only [List.map_nil] at hg2 hg3 hset ⊢
      simp [ev_tyR _ _ hg2, ev_truR _ _ hg3, ev_append hg2 h1]
      exact hset
    | some j =>
      obtain ⟨as, rfl⟩ := List.getLast?_eq_some_iff.mp hgl
      have hat : atI ((as ++ [j]).map fun (j : Nat) => D.int (j : Int)) (-1) = some (.int (j : Int)) := atI_map_last (by simp)
      have hne : ((as ++ [j]).map fun (j : Nat) => D.int (j : Int)).isEmpty = false := by simp
      generalize (as ++ [j]).map (fun (j : Nat) => D.int (j : Int)) = AA at hg2 hg3 hset hat hne
      simp [ev_tyR _ _ hg2, ev_truR _ _ hg3, ev_append hg2 h1, hg3, hat, hne]
      exact hset
  rintro ys hys T ⟨Y, rfl⟩
  obtain ⟨y0, y1, y2, y3, y4, rfl⟩ := len5 hys
  rw [List.length_range]
  exact ⟨.rt (.tup (pars hs hs.length)) _, by simp; rfl, _, rfl⟩

/-! ### numbers -/
theorem oD_eq {S : Store} (a b : Option Nat) : cEq (oD a) (oD b) S = some (decide (a = b)) := by
  cases a <;> cases b
  · simp [oD]
  · simp [oD]
  · show cEq (.int _) .non S = _
    unfold cEq scalD eqD
    simp
  · rename_i i j
    simp only [oD, ev_cEqI]
    by_cases h : i = j
    · simp [h]
    · have : ¬ (i : Int) = j := by omega
      simp [h, this]
def nrs (rows : List (List Int)) : List D := rowsOf rows
theorem pars_at {hs : List (Int × Str)} {i : Nat} (h : i < hs.length) : atI (pars hs hs.length) (i : Int) = some (oD (par (Lv hs) i)) := by
  rw [atI_nat']
  unfold pars
  rw [List.getElem?_map, List.getElem?_range h]; rfl
theorem zipIdx_pars (hs : List (Int × Str)) : enumD (pars hs hs.length) = (List.range hs.length).map fun i => .tup [.int (i : Nat), oD (par (Lv hs) i)] := by
  unfold pars
  rw [enum_map, zipIdx_range _ 0, List.map_map, List.length_range]
  refine List.map_congr_left fun i hi => ?_
  rw [List.mem_range] at hi
  simp [hi]
theorem numbers_eq {k : Nat} {hs : List (Int × Str)} (hl : hs.length ≤ 100) {S : Store} : ∃ rows : List (List Int), Phi (k + 2) .numbers [.tup (hsD hs)] S = some (.tup (rowsOf rows), S) ∧ rows.length = hs.length ∧ ∀ i < hs.length, ∃ r, rows[i]? = some r ∧ r.length = (anc (Lv hs) i).length + 1 := by
  have hpa : ∀ S : Store, Phi (k + 1) .parents [.tup (hsD hs)] S = some (.tup (pars hs hs.length), S) := fun S => parents_eq hl
  obtain ⟨d, T, e1, hT, rows, rfl, h1, h2⟩ := of_numbers (Φ := Phi (k + 1)) (.tup (hsD hs)) (S := S) (P := fun d T => T = S ∧ ∃ rows, d = .tup (rowsOf rows) ∧ rows.length = hs.length ∧ ∀ i < hs.length, ∃ r, rows[i]? = some r ∧ r.length = (anc (Lv hs) i).length + 1) (by
    unfold b_numbers
    refine ex_seq (S' := S ++ [.lst (rowsOf [])]) ⟨by simp [okLen_of]; exact ⟨rfl, rfl⟩⟩ ?_
    refine ex_seq (by simp [hpa]; exact .mk') ?_
    refine ex_forw [3, 4, 5, 6] (xs := List.range hs.length) (e := fun i : Nat => D.tup [.int (i : Nat), oD (par (Lv hs) i)]) (deps := []) (S1 := S ++ [.lst (rowsOf [])]) ⟨by simp [zipIdx_pars]⟩ (fun pr ys T => ∃ rows, T = S ++ [.lst (rowsOf rows)] ∧ rows.length = pr.length ∧ ∀ i < pr.length, ∃ r, rows[i]? = some r ∧ r.length = (anc (Lv hs) i).length + 1) ⟨[_, _, _, _], rfl, rfl, [], rfl, rfl, by simp⟩ ?_ ?_
    · rintro pr x post hx ys hys T ⟨rows, rfl, hr1, hr2⟩
      obtain ⟨y0, y1, y2, y3, rfl⟩ := len4 hys
      obtain ⟨hpr, hxl⟩ := rng_pre hx
      have hpl : pr.length = x := by rw [hpr, List.length_range]
      refine ⟨_, _, by simp; exact ⟨rfl, rfl⟩, ?_⟩
      rw [List.length_append, List.length_singleton, hpl]
      rw [hpl] at hr1 hr2
      have hrl : (rowsOf rows).length < 10000000 := by simp [rowsOf]; omega
      have hg : (S ++ [O.lst (rowsOf rows)])[S.length]? = some (.lst (rowsOf rows)) := get_end
      unfold L_numbers_1
      have e1 := lcT_pure (it := iRange1 (mVar 3)) (g := mgName 6) (t := mCmp cEq (m2 fIx (mVar 2) (mVar 6)) (mVar 4)) (elt := mVar 6) (vs := [6]) (env := V_numbers.env {headings := some (.tup (hsD hs)), found := some (.ref S.length), above := some (.tup (pars hs hs.length)), place := some (.int (x : Nat)), parent := some (oD (par (Lv hs) x)), elder := y2, other := y3}) (S := S ++ [.lst (rowsOf rows)]) (S1 := S ++ [.lst (rowsOf rows)]) (deps := []) (e := fun (i : Nat) => D.int (0 + (i : Int) * 1)) (xs := List.range x) (fun j => decide (par (Lv hs) j = par (Lv hs) x)) (fun (j : Nat) => .int (j : Int)) (by
        have h3 : -4611686018427387904 ≤ (x : Int) ∧ (x : Int) < 4611686018427387904 := by omega
        simp [h3, ramp_map]) (by simp; omega) (by simp) (fun j hj X => by
        have : j < x := List.mem_range.mp hj
        refine ⟨_, by simp; rfl, by simp [pars_at (show j < hs.length by omega), oD_eq], fun _ => by simp⟩) (fun _ _ _ => rfl)
      generalize (List.range x).filter (fun j => decide (par (Lv hs) j = par (Lv hs) x)) = FF at e1
      refine ex_seq (env' := V_numbers.env {headings := some (.tup (hsD hs)), found := some (.ref S.length), above := some (.tup (pars hs hs.length)), place := some (.int (x : Nat)), parent := some (oD (par (Lv hs) x)), elder := some (.int (FF.length : Nat)), other := y3}) (S' := S ++ [.lst (rowsOf rows)]) ⟨by rw [ev_asg, ev_call, ev_cons]; erw [e1]; simp⟩ ?_
      have hanc := anc_eq (L := Lv hs) x
      obtain ⟨r, hr, hrw, hrl2⟩ : ∃ r : List Int, (mIf (mCmp cIs (mVar 4) (mC .non)) (mTup mNil) (m2 fIx (mVar 1) (mVar 4))) (V_numbers.env {headings := some (.tup (hsD hs)), found := some (.ref S.length), above := some (.tup (pars hs hs.length)), place := some (.int (x : Nat)), parent := some (oD (par (Lv hs) x)), elder := some (.int (FF.length : Nat)), other := y3}) (S ++ [.lst (rowsOf rows)]) = some (.tup (zs r), S ++ [.lst (rowsOf rows)]) ∧ r.length = (anc (Lv hs) x).length ∧ r.length ≤ 1000 := by
        cases hp : par (Lv hs) x with
        | none =>
          rw [hp] at hanc
          refine ⟨[], by simp [oD, okLen_of, zs], by rw [hanc]; rfl, by simp⟩
        | some j =>
          rw [hp] at hanc
          have hjx := (par_lt hp).1
          obtain ⟨r, h1, h2⟩ := hr2 j hjx
          have hat : atI (rowsOf rows) (j : Int) = some (.tup (zs r)) := by
            rw [atI_nat']
            unfold rowsOf
            rw [List.getElem?_map, h1]; rfl
          have hal : (anc (Lv hs) j).length ≤ j := by
            have key : ∀ m i, (ancs (Lv hs) m i).length ≤ m := by
              intro m
              induction m with
              | zero => intro i; simp [ancs]
              | succ m ih =>
                intro i
                rw [ancs]
                split
                · simp
                · rw [List.length_append, List.length_singleton]; have := ih ‹Nat›; omega
            exact key j j
          refine ⟨r, by simp [oD, hat], by rw [h2, hanc, base, List.length_append]; rfl, by omega⟩
      have e5 : fAdd (.tup (zs r)) (.tup [.int ((FF.length : Int) + 1)]) (S ++ [.lst (rowsOf rows)]) = some (.tup (zs (r ++ [(FF.length : Int) + 1])), S ++ [.lst (rowsOf rows)]) := by
        rw [ev_addTT (by rw [zs_len]; simp; omega), zs_app]
      have e6 : rowsOf rows ++ [.tup (zs (r ++ [(FF.length : Int) + 1]))] = rowsOf (rows ++ [r ++ [(FF.length : Int) + 1]]) := by simp [rowsOf]
      have e7 := ev_append_last (S := S) (ds := rowsOf rows) (d := .tup (zs (r ++ [(FF.length : Int) + 1]))) hrl
      rw [e6] at e7
      refine ex_nx (T' := S ++ [.lst (rowsOf (rows ++ [r ++ [(FF.length : Int) + 1]]))]) (env' := V_numbers.env {headings := some (.tup (hsD hs)), found := some (.ref S.length), above := some (.tup (pars hs hs.length)), place := some (.int (x : Nat)), parent := some (oD (par (Lv hs) x)), elder := some (.int (FF.length : Nat)), other := y3}) ⟨?_⟩ [_, _, _, _] rfl rfl (kept_nil _ _) ⟨rows ++ [r ++ [(FF.length : Int) + 1]], rfl, by simp [hr1], fun i hi => ?_⟩
      · have e8 : m2 fAdd (mIf (mCmp cIs (mVar 4) (mC .non)) (mTup mNil) (m2 fIx (mVar 1) (mVar 4))) (mTup (mCons (m2 fAdd (mVar 5) (mC (.int 1))) mNil)) (V_numbers.env {headings := some (.tup (hsD hs)), found := some (.ref S.length), above := some (.tup (pars hs hs.length)), place := some (.int (x : Nat)), parent := some (oD (par (Lv hs) x)), elder := some (.int (FF.length : Nat)), other := y3}) (S ++ [.lst (rowsOf rows)]) = some (.tup (zs (r ++ [(FF.length : Int) + 1])), S ++ [.lst (rowsOf rows)]) := by
          rw [ev_2, hr, ob_some]
          simp [okLen_of, e5]
        rw [ev_expr, ev_meth, ev_var, V_numbers.g_found]
        simp only [ob_some]
        rw [if_pos (by simp), ev_cons, e8]
        simp [e7]
      · by_cases hix : i = x
        · subst hix
          refine ⟨_, by rw [List.getElem?_append_right (by omega), hr1, Nat.sub_self]; rfl, by rw [List.length_append, hrw]; rfl⟩
        · obtain ⟨r', h1, h2⟩ := hr2 i (by omega)
          exact ⟨r', by rw [List.getElem?_append_left (by omega), h1], h2⟩
    rintro ys hys T ⟨rows, rfl, hr1, hr2⟩
    obtain ⟨y0, y1, y2, y3, rfl⟩ := len4 hys
    rw [List.length_range] at hr1 hr2
    refine ⟨.rt (.tup (rowsOf rows)) (S ++ [.lst (rowsOf rows)]), by simp, ?_, rows, rfl, hr1, hr2⟩
    exact trunc_app (by rw [D.lo]; exact loL_rows _ _))
  subst hT
  exact ⟨rows, e1, h1, h2⟩
def lvs (hs : List (Int × Str)) : List D := (List.range hs.length).map fun i => .tup [.int ((anc (Lv hs) i).length + 1 : Nat), .str (Tx hs i)]
theorem lvs_lo (n : Nat) (hs : List (Int × Str)) : D.loL n (lvs hs) = true := loL_scal fun d hd => by
  obtain ⟨x, _, rfl⟩ := List.mem_map.mp hd
  rfl
theorem raised_eq {k : Nat} {hs : List (Int × Str)} (hl : hs.length ≤ 100) {S : Store} : Phi (k + 3) .raised [.tup (hsD hs)] S = some (.tup (lvs hs), S) := by
  obtain ⟨rows, hn, hrl, hr⟩ := numbers_eq (k := k) hl (S := S)
  refine eq_raised _ (by rw [D.lo]; exact lvs_lo _ _) ?_
  unfold b_raised
  refine ex_seq (by simp [hn]; exact .mk') ?_
  have e1 := tup_map (vs := [2, 3, 4]) (g := mgTup 2 (mgCons (mgName 2) (mgCons (mgTup 2 (mgCons (mgName 3) (mgCons (mgName 4) mgNil))) mgNil))) (m := mTup (mCons (mCall fLen (mCons (mVar 2) mNil)) (mCons (mVar 4) mNil))) (it := PD.iZip (mVar 1) (mVar 0)) (env := V_raised.env {headings := some (.tup (hsD hs)), rows := some (.tup (rowsOf rows))}) (S := S) (S1 := S) (deps := []) (e := fun (i : Nat) => D.tup [.tup (zs (rows[i]?.getD [])), .tup [.int (Lv hs i), .str (Tx hs i)]]) (xs := List.range hs.length) (fun i => .tup [.int ((anc (Lv hs) i).length + 1 : Nat), .str (Tx hs i)]) (by
    have hz := zip_range rows hs [] (0, "") hrl
    simp only [ev_zipI, ev_var, V_raised.g_rows, V_raised.g_headings, ob_some]
    unfold rowsOf hsD
    rw [pairs_map, hz, List.map_map, hrl]
    rfl) (by simp; omega) fun i hi => ⟨_, by simp; rfl, by
    obtain ⟨r, h1, h2⟩ := hr i (List.mem_range.mp hi)
    simp [h1, okLen_of, h2, zs_len]⟩
  exact ⟨.rt (.tup (lvs hs)) S, by rw [ev_ret]; erw [e1]; rfl, [], by rw [List.append_nil]⟩
/-! ### cut_at -/
def cutL (L : Nat → Int) (i n : Nat) : List Int := (List.range (nx L i n - i)).map fun (q : Nat) => (i : Int) + (q : Int) * 1
theorem cut_eq {k : Nat} {hs : List (Int × Str)} (hl : hs.length ≤ 100) {i : Nat} (hi : i < hs.length) {S : Store} : Phi (k + 1) .cut_at [.tup (hsD hs), .int (i : Nat)] S = some (.tup (zs (cutL (Lv hs) i hs.length)), S) := by
  refine eq_cut_at _ _ (by rw [D.lo]; exact loL_zs _ _) ?_
  unfold b_cut_at
  refine ex_seq (by simp [hs_at hi]; exact .mk') ?_
  refine ex_seq (env' := V_cut_at.env {headings := some (.tup (hsD hs)), place := some (.int (i : Nat)), level := some (.int (Lv hs i)), end_ := some (.int ((i + 1 : Nat) : Int))}) (S' := S) ⟨by simp⟩ ?_
  refine ex_whileq (m := hs.length - (i + 1)) (fun m env' T => ∃ q, i < q ∧ q ≤ hs.length ∧ (∀ j, i < j → j < q → Lv hs i < Lv hs j) ∧ m = hs.length - q ∧ env' = V_cut_at.env {headings := some (.tup (hsD hs)), place := some (.int (i : Nat)), level := some (.int (Lv hs i)), end_ := some (.int (q : Nat))} ∧ T = S) (by omega) ⟨i + 1, by omega, by omega, fun j h1 h2 => by omega, rfl, rfl, rfl⟩ ?_
  rintro m env' T ⟨q, hq1, hq2, hq3, rfl, rfl, rfl⟩
  by_cases hc : q < hs.length ∧ Lv hs i < Lv hs q
  · obtain ⟨hqe, hL⟩ := hc
    refine ⟨true, ?_, fun h => (by cases h), fun _ => ?_⟩
    · have hqi : (q : Int) < hs.length := by omega
      simp [hqi, hs_len, hs_at hqe, hL]
    · refine ⟨.nx (V_cut_at.env {headings := some (.tup (hsD hs)), place := some (.int (i : Nat)), level := some (.int (Lv hs i)), end_ := some (.int ((q + 1 : Nat) : Int))}) T, ?_, hs.length - (q + 1), by omega, q + 1, by omega, by omega, fun j h1 h2 => ?_, rfl, rfl, rfl⟩
      · unfold L_cut_at_1
        simp
      · by_cases hjq : j = q
        · rw [hjq]; exact hL
        · exact hq3 j h1 (by omega)
  have hnx : nx (Lv hs) i hs.length = q := nx_uniq hi hq1 hq2 hq3 (by by_cases hqe : q < hs.length <;> omega)
  refine ⟨false, ?_, fun _ => ?_, fun h => by cases h⟩
  · by_cases hqe : q < hs.length
    · have hqi : (q : Int) < hs.length := by omega
      have hL : ¬ Lv hs i < Lv hs q := fun h => hc ⟨hqe, h⟩
      simp [hqi, hs_len, hs_at hqe, hL]
    · have hqi : ¬ (q : Int) < hs.length := by omega
      simp [hqi, hs_len]
  have e1 : ramp (i : Int) 1 (q - i) = zs (cutL (Lv hs) i hs.length) := by
    unfold cutL zs
    rw [ramp_map, hnx, List.map_map]; rfl
  refine ex_ret (d := .tup (zs (cutL (Lv hs) i hs.length))) (S' := T) ⟨?_⟩ ⟨[], by rw [List.append_nil]⟩
  rw [← e1]
  have h3 : -4611686018427387904 ≤ (i : Int) ∧ (i : Int) < 4611686018427387904 := by omega
  have h4 : -4611686018427387904 ≤ (q : Int) ∧ (q : Int) < 4611686018427387904 := by omega
  have h5 : ((q : Int) - i).toNat = q - i := by omega
  have h6 : q - i ≤ 10000000 := by omega
  simp [h3, h4, h5, h6, ramp_len]

/-! ### the law -/
theorem nm_ok : ∀ i < 20, PyData.strOk (nm i) = true := by decide +kernel
theorem nms_map (l : List Nat) : nms l = (l.map nm).map D.str := by unfold nms; rw [List.map_map]; rfl
theorem nms_okDL {l : List Nat} (h : ∀ i ∈ l, i < 20) : okDL 63 (nms l) = true := by
  rw [nms_map]
  exact okDL_strs 63 fun x hx => by
    obtain ⟨i, hi, rfl⟩ := List.mem_map.mp hx
    exact nm_ok i (h i hi)
theorem nms_self (l : List Nat) : eqDL (nms l) (nms l) = true := by rw [nms_map]; exact eqDL_strs _
theorem treeD_nms (l : List Nat) (h : l.length ≤ 1000) : treeD 1 (.tup (nms l)) = true := by
  rw [nms_map]
  exact treeD_strs 0 _ (by rw [List.length_map]; omega)
/-- a turn that looks one up -/
theorem law1_ex {k : Nat} {hs : List (Int × Str)} (hl : hs.length ≤ 15) {v : V_law} {q : Option Nat} {w : List Nat} {j : Nat} {T : Store} (hq : ∀ x, q = some x → x < hs.length) (hw : w.length ≤ 1000) (h1 : v.above = some (.tup (pars hs hs.length))) (h2 : v.at_ = some (oD q)) (h3 : v.way = some (.ref j)) (hj : T[j]? = some (.lst (nms w))) {Q : Out → Prop}
    (hn : q = none → Q (.nx v.env T)) (hs2 : ∀ x, q = some x → Q (.nx (V_law.env {v with way := some (.ref T.length), at_ := some (oD (par (Lv hs) x))}) (T ++ [.lst (nms (x :: w))]))) : Ex (L_law_1 (Phi k) v.env T) Q := by
  unfold L_law_1
  cases q with
  | none => exact ⟨_, by simp [h2, oD], hn rfl⟩
  | some x =>
    have hx := hq x rfl
    have e1 : fAdd (.cl [.str (nm x)]) (.ref j) T = some (.ref T.length, T ++ [.lst (nms (x :: w))]) := by
      rw [ev_addCRk hj (by rw [nms_len]; simp; omega)]; rfl
    refine ex_if1 (S' := T) ⟨by simp [h2, oD]⟩ ?_
    refine ex_seq (env' := V_law.env {v with way := some (.ref T.length)}) (S' := T ++ [.lst (nms (x :: w))]) ⟨by simp [h2, h3, oD, ev_str (show x ≤ 1000 by omega), ev_nm (show x ≤ 100 by omega), okLen_of, e1]⟩ ?_
    exact ⟨_, by simp [h1, h2, oD, pars_at hx], hs2 x rfl⟩
def RW (hs : List (Int × Str)) : List (Nat × Nat × Nat) := (List.range hs.length).map fun i => (i, (anc (Lv hs) i).length, if nx (Lv hs) i hs.length = i + 1 then 0 else 2)
theorem RW_at {hs : List (Int × Str)} {i : Nat} (h : i < hs.length) : atI (rws (RW hs)) (i : Int) = some (.tup [.str (nm i), .int ((anc (Lv hs) i).length : Nat), .str (mk (if nx (Lv hs) i hs.length = i + 1 then 0 else 2))]) := by
  rw [atI_nat']
  unfold rws RW
  rw [List.getElem?_map, List.getElem?_map, List.getElem?_range h]; rfl
theorem lvs_at {hs : List (Int × Str)} {i : Nat} (h : i < hs.length) : atI (lvs hs) (i : Int) = some (.tup [.int ((anc (Lv hs) i).length + 1 : Nat), .str (Tx hs i)]) := by
  rw [atI_nat']
  unfold lvs
  rw [List.getElem?_map, List.getElem?_range h]; rfl
theorem anc_len (L : Nat → Int) (i : Nat) : (anc L i).length ≤ i := by
  have key : ∀ m i, (ancs L m i).length ≤ m := by
    intro m
    induction m with
    | zero => intro i; simp [ancs]
    | succ m ih =>
      intro i
      rw [ancs]
      split
      · simp
      · rw [List.length_append, List.length_singleton]; have := ih ‹Nat›; omega
  exact key i i
structure VF (hs : List (Int × Str)) (v : V_law) : Prop where
  hd : v.headings = some (.tup (hsD hs))
  br : v.branches = some (.tup (br (Lv hs) (hs.length + 1) 0 hs.length))
  rw : v.rows = some (.tup (rws (RW hs)))
  lv : v.levels = some (.tup (lvs hs))
  ab : v.above = some (.tup (pars hs hs.length))
theorem law2_ex {K : Nat} {hs : List (Int × Str)} (hl : hs.length ≤ 9) {v : V_law} (f : VF hs v) {i : Nat} (hi : i < hs.length) (hk : v.k = some (.int (i : Nat))) {T : Store} {Q : Out → Prop}
    (hq : ∀ v' Y, v' = {v with way := v'.way, at_ := v'.at_, turn := v'.turn} → Q (.nx (V_law.env v') (T ++ Y))) : Ex (L_law_2 (Phi (K + 20)) v.env T) Q := by
  have hsm : SameAt 1 (Phi (K + 20) .l_same) := same1 (k := K + 18)
  have hal := anc_len (Lv hs) i
  have hca := anc_eq (L := Lv hs) i
  obtain ⟨w0, hw0, hwa⟩ := way_eq (L := Lv hs) (n := hs.length) (hs.length + 1) none hs.length 0 hs.length (by omega) (by omega) ctx0 (Nat.zero_le i) hi
  have hwa : anc (Lv hs) i = w0 := hwa
  have hwy : ∀ S : Store, Phi (K + 20) .ways_to [.tup (br (Lv hs) (hs.length + 1) 0 hs.length), .str (nm i)] S = some (.tup (nms (anc (Lv hs) i)), S) := fun S => by
    have := ways_eq (L := Lv hs) (i := i) (by omega) (hs.length + 1) (K + 20 - (hs.length + 1) - 1) 0 hs.length (by omega) (by omega) S
    rw [show K + 20 - (hs.length + 1) - 1 + (hs.length + 1) + 1 = K + 20 by omega, hw0] at this
    rw [this, hwa]; rfl
  have hcut : ∀ S : Store, Phi (K + 20) .cut_at [.tup (hsD hs), .int (i : Nat)] S = some (.tup (zs (cutL (Lv hs) i hs.length)), S) := fun S => cut_eq (k := K + 19) (by omega) hi
  have hcl : (cutL (Lv hs) i hs.length).length = nx (Lv hs) i hs.length - i := by simp [cutL]
  have hnl := nx_lt (L := Lv hs) i hs.length
  have e1 := fun S : Store => ev_str (S := S) (i := i) (show i ≤ 1000 by omega)
  have e2 := fun S : Store => ev_nmT (S := S) (i := i) (show i ≤ 100 by omega)
  have e3 := fun S : Store => ev_nm (S := S) (i := i) (show i ≤ 100 by omega)
  have r1 := RW_at hi
  have l1 := lvs_at hi
  have p1 := pars_at hi
  obtain ⟨f1, f2, f3, f4, f5⟩ := f
  generalize br (Lv hs) (hs.length + 1) 0 hs.length = BB at f2 hwy
  generalize rws (RW hs) = RR at f3 r1
  generalize lvs hs = LL at f4 l1
  unfold L_law_2
  refine ex_seq (env' := v.env) (S' := T) ⟨by simp [f3, f4, hk, r1, l1, e1, e2]⟩ ?_
  refine ex_seq (env' := V_law.env {v with way := some (.ref T.length)}) (S' := T ++ [.lst (nms [])]) ⟨by simp [okLen_of]; rfl⟩ ?_
  refine ex_seq (env' := V_law.env {v with way := some (.ref T.length), at_ := some (oD (par (Lv hs) i))}) (S' := T ++ [.lst (nms [])]) ⟨by simp [f5, hk, p1]⟩ ?_
  refine ex_forw [8, 9, 10] (xs := List.range hs.length) (e := fun (i : Nat) => D.int (0 + (i : Int) * 1)) (deps := []) (S1 := T ++ [.lst (nms [])]) ⟨?_⟩ (fun pr ys T' => ∃ Y q w j y, T' = T ++ Y ∧ ys = [some (.ref j), some (oD q), y] ∧ T'[j]? = some (.lst (nms w)) ∧ base (Lv hs) q ++ w = anc (Lv hs) i ∧ ∀ x, q = some x → x + pr.length + 1 ≤ i) ⟨[_, _, _], rfl, rfl, [.lst (nms [])], par (Lv hs) i, [], T.length, _, rfl, rfl, get_end, by rw [List.append_nil, ← hca], fun x hx => by have := (par_lt hx).1; simp; omega⟩ ?_ ?_
  · have h3 : -4611686018427387904 ≤ (hs.length : Int) ∧ (hs.length : Int) < 4611686018427387904 := by omega
    simp [f1, hs_len, h3, ramp_map]
  · rintro pr x post hx ys hys T' ⟨Y, q, w, j, y, rfl, rfl, hj, hb, hqi⟩
    refine ⟨_, _, by simp; exact ⟨rfl, rfl⟩, ?_⟩
    have hwl : w.length ≤ 1000 := by
      have := congrArg List.length hb
      rw [List.length_append] at this; omega
    refine law1_ex (v := {v with way := some (.ref j), at_ := some (oD q), turn := some (.int (x : Int))}) (hs := hs) (q := q) (w := w) (j := j) (by omega) (fun x hx => by have := hqi x hx; omega) hwl f5 rfl rfl hj (fun hqn => ?_) (fun z hz => ?_)
    · refine nx_sl [_, _, _] rfl rfl (kept_nil _ _) ⟨Y, q, w, j, _, rfl, rfl, hj, hb, fun z hz => ?_⟩
      rw [hqn] at hz; cases hz
    · refine nx_sl [_, _, _] rfl rfl (kept_nil _ _) ⟨Y ++ [.lst (nms (z :: w))], par (Lv hs) z, z :: w, (T ++ Y).length, _, by rw [List.append_assoc], rfl, get_end, ?_, fun u hu => ?_⟩
      · rw [← hb, hz, base, anc_eq z]; simp
      · have := hqi z hz
        have := (par_lt hu).1
        rw [List.length_append, List.length_singleton]; omega
  rintro ys hys T' ⟨Y, q, w, j, y, rfl, rfl, hj, hb, hqi⟩
  have hqn : q = none := by
    cases q with
    | none => rfl
    | some x =>
      have := hqi x rfl
      rw [List.length_range] at this; omega
  subst hqn
  have hb : w = anc (Lv hs) i := hb
  subst hb
  simp only [setL_cons, setL_nil, V_law.s_way, V_law.s_at_, V_law.s_turn]
  refine ex_chk hsm (d := .tup (nms (anc (Lv hs) i))) (S1 := T ++ Y) (S2 := T ++ Y) ⟨by simp [f2, hk, e1, e3, hwy]⟩ ⟨by simp [ev_tupR _ _ hj]⟩ (treeD_nms _ (by omega)) ?_
  refine ⟨.nx _ (T ++ Y), ?_, hq {v with way := some (.ref j), at_ := some (oD none), turn := y} Y rfl⟩
  by_cases hc : nx (Lv hs) i hs.length = i + 1
  · have hc2 : (cutL (Lv hs) i hs.length).length = 1 := by omega
    rw [if_pos hc] at r1
    simp [f1, f3, hk, r1, hcut, zs_len, hc2, mk]
  · have hc2 : ¬ (cutL (Lv hs) i hs.length).length = 1 := by omega
    rw [if_neg hc] at r1
    simp [f1, f3, hk, r1, hcut, zs_len, hc2, mk]
    omega

theorem law3_ex {K : Nat} {L : Nat → Int} {n : Nat} (hn : n ≤ 9) {v : V_law} {x : Nat × Nat} (hx : x.1 < x.2 ∧ x.2 ≤ n) {acc : List Nat} (hacc : acc.length ≤ 1000) {j : Nat} {T : Store} (h1 : v.names = some (.ref j)) (h2 : v.branch = some (.tup [.str (nm x.1), .tup (br L n (x.1 + 1) x.2)])) (hj : T[j]? = some (.lst (nms acc))) :
    L_law_3 (Phi (K + 20)) v.env T = some (.nx (V_law.env {v with names := some (.ref T.length)}) (T ++ [.lst (nms (acc ++ x.1 :: pre L n (x.1 + 1) x.2))])) := by
  have hb : ∀ S : Store, Phi (K + 20) .names_in [.tup [.str (nm x.1), .tup (br L n (x.1 + 1) x.2)]] S = some (.tup (nms (x.1 :: pre L n (x.1 + 1) x.2)), S) := fun S => by
    have := names_eq (L := L) n (K + 20 - n - 1) x.1 (x.1 + 1) x.2 (by omega) (by omega) (by omega) S
    rwa [show K + 20 - n - 1 + n + 1 = K + 20 by omega] at this
  have hpl := pre_len (L := L) (d := n) (s := x.1 + 1) (e := x.2) (by omega) (by omega)
  generalize br L n (x.1 + 1) x.2 = BB at h2 hb
  generalize pre L n (x.1 + 1) x.2 = PP at hb hpl ⊢
  have e1 : fAdd (.ref j) (.cl (nms (x.1 :: PP))) T = some (.ref T.length, T ++ [.lst (nms (acc ++ x.1 :: PP))]) := by
    rw [ev_addRC hj (by rw [nms_len, nms_len, List.length_cons]; omega)]
    simp [nms]
  have e2 : fList [.tup (nms (x.1 :: PP))] T = some (nms (x.1 :: PP)) := rfl
  unfold L_law_3
  simp [h1, h2, hb, e2, e1]
theorem last_ex {K : Nat} {hs : List (Int × Str)} (hl : hs.length ≤ 9) {v : V_law} (f : VF hs v) {T : Store} {Q : Out → Prop} (hq : ∀ T', Q (.rt (.bl true) T')) :
    Ex (sSeq (sAsg (mNew (mLst mNil)) (mgName 15)) (sSeq (sFor (iSeq (mVar 3)) (mgName 16) (L_law_3 (Phi (K + 20)))) (sRet (mBl (mCmp cEq (mVar 15) (mLcT (iRange1 (mCall fLen (mCons (mVar 2) mNil))) (mgName 7) mYes (m2 fAdd (mC (.str "h")) (mCall fStr (mCons (mVar 7) mNil))) [7]))))) v.env T) Q := by
  obtain ⟨f1, f2, f3, f4, f5⟩ := f
  refine ex_seq (env' := V_law.env {v with names := some (.ref T.length)}) (S' := T ++ [.lst (nms [])]) ⟨by simp [okLen_of]; rfl⟩ ?_
  refine ex_forw [15, 16] (xs := rt (Lv hs) 0 hs.length) (e := fun x : Nat × Nat => D.tup [.str (nm x.1), .tup (br (Lv hs) hs.length (x.1 + 1) x.2)]) (deps := []) (S1 := T ++ [.lst (nms [])]) ⟨by simp [f2]; rfl⟩ (fun pr ys T' => ∃ Y j y, T' = T ++ Y ∧ ys = [some (.ref j), y] ∧ T'[j]? = some (.lst (nms (pr.flatMap fun x => x.1 :: pre (Lv hs) hs.length (x.1 + 1) x.2)))) ⟨[_, _], rfl, rfl, [.lst (nms [])], T.length, _, rfl, rfl, get_end⟩ ?_ ?_
  · rintro pr x post hx ys hys T' ⟨Y, j, y, rfl, rfl, hj⟩
    refine ⟨_, _, by simp; exact ⟨rfl, rfl⟩, ?_⟩
    have hxi := rt_in (L := Lv hs) (s := 0) (e := hs.length) x (by rw [hx]; simp)
    have hall : (pre (Lv hs) (hs.length + 1) 0 hs.length).length = hs.length - 0 := pre_len (by omega) (by omega)
    have hpr : (pr.flatMap fun x => x.1 :: pre (Lv hs) hs.length (x.1 + 1) x.2).length ≤ 1000 := by
      have e1 : pre (Lv hs) (hs.length + 1) 0 hs.length = (pr.flatMap fun x => x.1 :: pre (Lv hs) hs.length (x.1 + 1) x.2) ++ ((x :: post).flatMap fun x => x.1 :: pre (Lv hs) hs.length (x.1 + 1) x.2) := by rw [pre, hx, List.flatMap_append]
      rw [e1, List.length_append] at hall
      omega
    have h := law3_ex (K := K) (L := Lv hs) (v := {v with names := some (.ref j), branch := some (.tup [.str (nm x.1), .tup (br (Lv hs) hs.length (x.1 + 1) x.2)])}) hl (x := x) ⟨hxi.2.1, hxi.2.2⟩ hpr rfl rfl hj
    rw [List.flatMap_append, List.flatMap_cons, List.flatMap_nil, List.append_nil]
    refine ⟨_, h, nx_sl [some (.ref (T ++ Y).length), _] rfl rfl (kept_nil _ _) ⟨Y ++ [.lst _], (T ++ Y).length, _, by rw [List.append_assoc], rfl, get_end⟩⟩
  rintro ys hys T' ⟨Y, j, y, rfl, rfl, hj⟩
  have e0 : ((rt (Lv hs) 0 hs.length).flatMap fun x => x.1 :: pre (Lv hs) hs.length (x.1 + 1) x.2) = List.range hs.length := by
    have := pre_eq (L := Lv hs) (hs.length + 1) 0 hs.length (by omega) (by omega)
    rw [pre, Nat.sub_zero] at this
    rw [this, List.range_eq_range']
  rw [e0] at hj
  simp only [setL_cons, setL_nil, V_law.s_names, V_law.s_branch]
  have e1 := lcT_map (it := iRange1 (mCall fLen (mCons (mVar 2) mNil))) (g := mgName 7) (elt := m2 fAdd (mC (.str "h")) (mCall fStr (mCons (mVar 7) mNil))) (vs := [7]) (env := V_law.env {v with names := some (.ref j), branch := y}) (S := T ++ Y) (S1 := T ++ Y) (deps := []) (e := fun (i : Nat) => D.int (0 + (i : Int) * 1)) (xs := List.range hs.length) (fun i => .str (nm i)) (by
    have h3 : -4611686018427387904 ≤ (hs.length : Int) ∧ (hs.length : Int) < 4611686018427387904 := by omega
    simp [f1, hs_len, h3, ramp_map]) (by simp; omega) (by simp) (fun i hi X => by
    have := List.mem_range.mp hi
    refine ⟨_, by simp; rfl, by simp [ev_str (show i ≤ 1000 by omega), ev_nm (show i ≤ 100 by omega)]⟩) (fun _ _ => rfl)
  have e2 : cEq (.ref j) (.cl (nms (List.range hs.length))) (T ++ Y) = some true := ceq_lst (norm_ref hj) rfl rfl (nms_okDL fun i hi => by have := List.mem_range.mp hi; omega) (nms_self _)
  refine ⟨.rt (.bl true) (T ++ Y), ?_, hq _⟩
  have hv : mVar 15 (V_law.env {v with names := some (.ref j), branch := y}) (T ++ Y) = some (.ref j, T ++ Y) := by simp
  rw [ev_ret, ev_bl, ev_cmp, hv, ob_some]
  dsimp only
  rw [e1, ob_some]
  have e2 : cEq (.ref j) (.cl ((List.range hs.length).map fun i => D.str (nm i))) (T ++ Y) = some true := e2
  dsimp only
  rw [e2]; rfl
theorem mem_cut {L : Nat → Int} {k n j : Nat} (hk : k < n) : decide ((j : Int) ∈ (cutL L k n).tail) = (decide (k < j) && decide (j < nx L k n)) := by
  have hn := nx_lt (L := L) k n
  have e : (cutL L k n).tail = (List.range' 1 (nx L k n - k - 1)).map fun (q : Nat) => (k : Int) + (q : Int) * 1 := by
    unfold cutL
    rw [show nx L k n - k = (nx L k n - k - 1) + 1 by omega, List.range_eq_range', List.range'_succ, List.map_cons, List.tail_cons]; rfl
  rw [e, Bool.eq_iff_iff, decide_eq_true_eq, Bool.and_eq_true, decide_eq_true_eq, decide_eq_true_eq, List.mem_map]
  constructor
  · rintro ⟨q, hq, h⟩
    rw [List.mem_range'_1] at hq
    omega
  · rintro ⟨h1, h2⟩
    exact ⟨j - k, List.mem_range'_1.mpr (by omega), by omega⟩
theorem law_run {K : Nat} {sc : D} {ns : List Int} (hs' : Scr sc ns) (hl' : ns.length ≤ 63) : ∃ S', Phi (K + 21) .law [sc] [] = some (.bl true, S') := by
  obtain ⟨ds, hbx⟩ := box_sc (hl := hl') hs' (c := Phi (K + 18) .l_cell) (dg := Phi (K + 19) .l_digits) rfl rfl
  have hbx : Phi (K + 20) .l_box [sc, .int 0, .int 62] [] = some (.ref 2, bx ds 0) := hbx
  have hd : Draws ds (Phi (K + 20) .l_draw) := draws_eq ds
  obtain ⟨d, S', h1, h2⟩ := of_law (Φ := Phi (K + 20)) sc (S := []) (P := fun d _ => d = .bl true) (by
    unfold b_law
    refine ex_seq (by simp [hbx]; exact .mk') ?_
    obtain ⟨hs, a1, hh, hl⟩ := headings_dr (k := K + 18) ds 0 []
    rw [List.append_nil, List.append_nil] at hh
    have hh : Phi (K + 20) .l_headings [.ref 2, .int 9] (bx ds 0) = some (.tup (hsD hs), bx ds a1) := hh
    refine ex_seq (by simp [hh]; exact .mk') ?_
    clear hh
    have hou : Phi (K + 20) .outline [.tup (hsD hs)] (bx ds a1) = some (.tup (ot (Lv hs) (hs.length + 1) 0 hs.length), bx ds a1) := by
      have := outline_eq (hs := hs) (by omega) (k := K + 20 - (hs.length + 1) - 2) (S := bx ds a1)
      rwa [show K + 20 - (hs.length + 1) - 2 + (hs.length + 1) + 2 = K + 20 by omega] at this
    have hbr : Phi (K + 20) .l_branches [.tup (ot (Lv hs) (hs.length + 1) 0 hs.length)] (bx ds a1) = some (.tup (br (Lv hs) (hs.length + 1) 0 hs.length), bx ds a1) := by
      have := branches_eq (L := Lv hs) (hs.length + 1) (K + 20 - (hs.length + 1) - 1) 0 hs.length (by omega) (bx ds a1)
      rwa [show K + 20 - (hs.length + 1) - 1 + (hs.length + 1) + 1 = K + 20 by omega] at this
    refine ex_seq (by simp [hou, hbr]; exact .mk') ?_
    clear hou hbr
    have hrw : ∀ S : Store, Phi (K + 20) .rows_of [.tup (br (Lv hs) (hs.length + 1) 0 hs.length), .tup []] S = some (.tup (rws (RW hs)), S) := fun S => by
      have := rows_eq (L := Lv hs) (sh := fun _ => false) (shd := []) (fun i S hi => by simp) (d := hs.length) (k := K + 20 - hs.length - 2) (s := 0) (e := hs.length) (by omega) (by omega) (by omega) (S := S)
      rw [show K + 20 - hs.length - 2 + hs.length + 2 = K + 20 by omega] at this
      rw [this]
      have h := rows_all (L := Lv hs) (n := hs.length) (hs.length + 1) none 0 hs.length (by omega) (by omega) ctx0
      have h : rw' (Lv hs) (fun _ => false) (hs.length + 1) 0 0 hs.length = _ := h
      rw [h, Nat.sub_zero, ← List.range_eq_range']; rfl
    have hsh : ∀ (k : Nat), k < hs.length → ∀ S : Store, Phi (K + 20) .rows_of [.tup (br (Lv hs) (hs.length + 1) 0 hs.length), .tup [.str (nm k)]] S = some (.tup (rws (rw' (Lv hs) (fun i => i == k) (hs.length + 1) 0 0 hs.length)), S) := fun k hk S => by
      have := rows_eq (L := Lv hs) (sh := fun i => i == k) (shd := [.str (nm k)]) (fun i S hi => by rw [ev_inS1, nm_beq (by omega) hi]; congr 1; rw [Bool.eq_iff_iff]; simp; exact eq_comm) (d := hs.length) (k := K + 20 - hs.length - 2) (s := 0) (e := hs.length) (by omega) (by omega) (by omega) (S := S)
      rwa [show K + 20 - hs.length - 2 + hs.length + 2 = K + 20 by omega] at this
    have hra : ∀ S : Store, Phi (K + 20) .raised [.tup (hsD hs)] S = some (.tup (lvs hs), S) := fun S => raised_eq (k := K + 17) (by omega)
    have hpa : ∀ S : Store, Phi (K + 20) .parents [.tup (hsD hs)] S = some (.tup (pars hs hs.length), S) := fun S => parents_eq (k := K + 19) (by omega)
    have hrwl : (rws (RW hs)).length = hs.length := by rw [rws_len]; simp [RW]
    refine ex_seq (by simp [hrw, okLen_of]; exact .mk') ?_
    refine ex_seq (by simp [hra]; exact .mk') ?_
    refine ex_seq (by simp [hrwl, hs_len]; exact .mk') ?_
    refine ex_seq (by simp [hpa]; exact .mk') ?_
    generalize hv : V_law.mk _ _ _ _ _ _ _ _ _ _ _ _ _ _ _ _ _ = v
    have f : VF hs v := by rw [← hv]; exact ⟨rfl, rfl, rfl, rfl, rfl⟩
    have v4 : v.box = some (.ref 2) := by rw [← hv]
    clear hv hra hpa hrw
    refine ex_forw [7, 8, 9, 10] (xs := List.range hs.length) (e := fun (i : Nat) => D.int (0 + (i : Int) * 1)) (deps := []) (S1 := bx ds a1) ⟨?_⟩ (fun pr ys T => ∃ Y, T = bx ds a1 ++ Y) ⟨[v.k, v.way, v.at_, v.turn], rfl, by simp only [setL_cons, setL_nil]; simp, [], by rw [List.append_nil]⟩ ?_ ?_
    · have h3 : -4611686018427387904 ≤ (hs.length : Int) ∧ (hs.length : Int) < 4611686018427387904 := by omega
      simp [f.hd, hs_len, h3, ramp_map]
    · rintro pr x post hx ys hys T ⟨Y, rfl⟩
      obtain ⟨y0, y1, y2, y3, rfl⟩ := len4 hys
      obtain ⟨hpr, hxl⟩ := rng_pre hx
      refine ⟨_, _, by simp; exact ⟨rfl, rfl⟩, ?_⟩
      refine law2_ex (K := K) (hs := hs) (v := {v with k := some (.int (x : Nat)), way := y1, at_ := y2, turn := y3}) hl ⟨f.hd, f.br, f.rw, f.lv, f.ab⟩ hxl rfl fun v' Y' hv' => nx_sl [some (.int (x : Nat)), v'.way, v'.at_, v'.turn] rfl (by rw [hv']; rfl) (kept_nil _ _) ⟨Y ++ Y', by rw [List.append_assoc]⟩
    rintro ys hys T ⟨Y, rfl⟩
    obtain ⟨y0, y1, y2, y3, rfl⟩ := len4 hys
    rw [show setL v.env [7, 8, 9, 10] [y0, y1, y2, y3] = V_law.env {v with k := y0, way := y1, at_ := y2, turn := y3} from rfl]
    have f2 : VF hs {v with k := y0, way := y1, at_ := y2, turn := y3} := ⟨f.hd, f.br, f.rw, f.lv, f.ab⟩
    have v5 : V_law.box {v with k := y0, way := y1, at_ := y2, turn := y3} = some (.ref 2) := v4
    generalize ({v with k := y0, way := y1, at_ := y2, turn := y3} : V_law) = u at f2 v5
    clear f v4
    refine ex_then ?_
    by_cases h0 : hs.length = 0
    · refine ex_if0 (S' := bx ds a1 ++ Y) ⟨by simp [f2.hd, hs_len, h0]⟩ ?_
      exact ⟨.nx u.env (bx ds a1 ++ Y), by simp, last_ex hl f2 fun T' => rfl⟩
    have h00 : (0 : Int) < hs.length := by omega
    refine ex_if1 (S' := bx ds a1 ++ Y) ⟨by simp [f2.hd, hs_len]; omega⟩ ?_
    have d0 := hd a1 (hs.length : Int) Y h00
    obtain ⟨n1, n2⟩ := dr_lt (ds := ds) (a := a1) h00
    generalize dr ds a1 (hs.length : Int) = kk at d0 n1 n2
    obtain ⟨k, rfl⟩ := Int.eq_ofNat_of_zero_le n1
    have hk : k < hs.length := by omega
    refine ex_seq (env' := V_law.env {u with k := some (.int (k : Nat))}) (S' := bx ds (a1 + 1) ++ Y) ⟨by simp [v5, f2.hd, hs_len, d0]⟩ ?_
    have hcut : ∀ S : Store, Phi (K + 20) .cut_at [.tup (hsD hs), .int (k : Nat)] S = some (.tup (zs (cutL (Lv hs) k hs.length)), S) := fun S => cut_eq (k := K + 19) (by omega) hk
    have hc1 : cutD (zs (cutL (Lv hs) k hs.length)) (some 1) none = zs (cutL (Lv hs) k hs.length).tail := by rw [cut_1, zs_tail]
    have hct := fun j : Nat => mem_cut (L := Lv hs) (n := hs.length) (j := j) hk
    generalize (cutL (Lv hs) k hs.length).tail = CT at hc1 hct
    refine ex_seq (env' := V_law.env {u with k := some (.int (k : Nat)), gone := some (.tup (zs CT))}) (S' := bx ds (a1 + 1) ++ Y) ⟨by simp [f2.hd, hcut, hc1]⟩ ?_
    have e1 := lc_pure (it := iRange1 (mCall fLen (mCons (mVar 2) mNil))) (g := mgName 13) (t := mCmp cNotIn (mVar 13) (mVar 11)) (elt := m2 fAdd (mC (.str "h")) (mCall fStr (mCons (mVar 13) mNil))) (vs := [13]) (env := V_law.env {u with k := some (.int (k : Nat)), gone := some (.tup (zs CT))}) (S := bx ds (a1 + 1) ++ Y) (S1 := bx ds (a1 + 1) ++ Y) (deps := []) (e := fun (i : Nat) => D.int (0 + (i : Int) * 1)) (xs := List.range hs.length) (fun j => !(decide (k < j) && decide (j < nx (Lv hs) k hs.length))) (fun (j : Nat) => .str (nm j)) (by
      have h3 : -4611686018427387904 ≤ (hs.length : Int) ∧ (hs.length : Int) < 4611686018427387904 := by omega
      simp [f2.hd, hs_len, h3, ramp_map]) (by simp; omega) (by simp) (fun j hj X => by
      have hjl := List.mem_range.mp hj
      refine ⟨_, by simp; rfl, ?_, fun _ => by simp [ev_str (show j ≤ 1000 by omega), ev_nm (show j ≤ 100 by omega)]⟩
      have hcn : ∀ S : Store, cIn (.int (j : Int)) (.tup (zs CT)) S = some (decide (k < j) && decide (j < nx (Lv hs) k hs.length)) := fun S => by rw [ev_inZs, hct]
      simp [hcn, -ev_inZs])
    have hfl : (List.range hs.length).filter (fun j => !(decide (k < j) && decide (j < nx (Lv hs) k hs.length))) = (rw' (Lv hs) (fun i => i == k) (hs.length + 1) 0 0 hs.length).map (·.1) := by
      rw [rows_shut (L := Lv hs) (n := hs.length) hk (hs.length + 1) 0 none 0 hs.length (by omega) (by omega) ctx0 (fun h => by omega), Nat.sub_zero, List.range_eq_range']
    have hin : ∀ i ∈ (List.range hs.length).filter (fun j => !(decide (k < j) && decide (j < nx (Lv hs) k hs.length))), i < 20 := fun i hi => by
      have := List.mem_range.mp (List.mem_filter.mp hi).1
      omega
    have hfle := List.length_filter_le (fun j => !(decide (k < j) && decide (j < nx (Lv hs) k hs.length))) (List.range hs.length)
    rw [List.length_range] at hfle
    rw [hfl] at e1 hin hfle
    refine ex_seq (env' := V_law.env {u with k := some (.int (k : Nat)), gone := some (.tup (zs CT)), left := some (.ref (bx ds (a1 + 1) ++ Y).length)}) (S' := (bx ds (a1 + 1) ++ Y) ++ [.lst (nms ((rw' (Lv hs) (fun i => i == k) (hs.length + 1) 0 0 hs.length).map (·.1)))]) ⟨by rw [ev_asg]; erw [e1]; simp [nms]⟩ ?_
    generalize bx ds (a1 + 1) ++ Y = T
    have hss := hsh k hk
    generalize rw' (Lv hs) (fun i => i == k) (hs.length + 1) 0 0 hs.length = RS at hss hin hfle ⊢
    rw [List.length_map] at hfle
    have e6 := lcT_map (it := iSeq (mFn 2 (Phi (K + 20) .rows_of) (mCons (mVar 3) (mCons (mTup (mCons (m2 fAdd (mC (.str "h")) (mCall fStr (mCons (mVar 7) mNil))) mNil)) mNil)))) (g := mgName 14) (elt := m2 fIx (mVar 14) (mC (.int 0))) (vs := [14]) (env := V_law.env {u with k := some (.int (k : Nat)), gone := some (.tup (zs CT)), left := some (.ref T.length)}) (S := T ++ [.lst (nms (RS.map (·.1)))]) (S1 := T ++ [.lst (nms (RS.map (·.1)))]) (deps := []) (e := rD) (xs := RS) (fun r => .str (nm r.1)) (by simp [f2.br, ev_str (show k ≤ 1000 by omega), ev_nm (show k ≤ 100 by omega), okLen_of, hss]; rfl) (by omega) (by simp) (fun y hy X => ⟨_, by simp; rfl, by simp [rD]⟩) (fun _ _ => rfl)
    have e7 : (RS.map fun r => D.str (nm r.1)) = nms (RS.map (·.1)) := by unfold nms; rw [List.map_map]; rfl
    rw [e7] at e6
    have e8 : cEq (.cl (nms (RS.map (·.1)))) (.ref T.length) (T ++ [.lst (nms (RS.map (·.1)))]) = some true := ceq_lst rfl (norm_ref get_end) rfl (nms_okDL hin) (nms_self _)
    refine ex_if0 (S' := T ++ [.lst (nms (RS.map (·.1)))]) ⟨?_⟩ ?_
    · rw [ev_cmp]
      erw [e6]
      rw [ob_some]
      simp [e8]
    have f3 : VF hs {u with k := some (.int (k : Nat)), gone := some (.tup (zs CT)), left := some (.ref T.length)} := ⟨f2.hd, f2.br, f2.rw, f2.lv, f2.ab⟩
    exact ⟨.nx _ _, rfl, last_ex hl f3 fun T' => rfl⟩)
  exact ⟨S', by rw [show K + 21 = (K + 20) + 1 by omega, phi_law, h1, h2]⟩
abbrev fuel : Nat := 20
theorem law_eq {sc : D} {ns : List Int} (hs : Scr sc ns) (hl : ns.length ≤ 63) : ∃ S', Phi (fuel + 1) .law [sc] [] = some (.bl true, S') := law_run (K := 0) hs hl
end K98

open PySem PySem.W PyProof.Rows
set_option maxRecDepth 100000 in
set_option maxHeartbeats 0 in
theorem PySem.Challenge.cw_pagehouse_k98_whole_outlines_and_branche_holds : PySem.Challenge.rw_pagehouse_k98_whole_outlines_and_branche.Holds := by
  w_on; o_law; k_head; (case hw => w_witness2)
  k_fill
  refine PD.walk_ofAll (l := PySem.Challenge.rw_pagehouse_k98_whole_outlines_and_branche) (n := 63) (k := 3 * K98.fuel + 3) (x := "script") (CX := fun _ => L2.CX0) rfl (by decide) rfl ⟨rfl, by decide, by decide⟩ (fun w h Y => PySem.W.kIn_of Y) ?F (fun _ _ _ _ _ h => h)
  case F =>
    intro w mg fa h Y KX G hmg AT
    refine' K98.all_mk K98.fuel KX G hmg AT (fun sc ns hs hl => K98.law_eq hs hl) ?r8 ?a0 ?l0 ?c0 ?k0 ?a1 ?l1 ?c1 ?k1 ?a2 ?l2 ?c2 ?k2 ?a3 ?l3 ?c3 ?k3 ?a4 ?l4 ?c4 ?k4 ?a5 ?l5 ?c5 ?k5 ?a6 ?l6 ?c6 ?k6 ?a7 ?l7 ?c7 ?k7 ?a8 ?l8 ?c8 ?k8 ?a9 ?l9 ?c9 ?k9 ?a10 ?l10 ?c10 ?k10 ?a11 ?l11 ?c11 ?k11 ?a12 ?l12 ?c12 ?k12 ?a13 ?l13 ?c13 ?k13 ?a14 ?l14 ?c14 ?k14 ?a15 ?l15 ?c15 ?k15 ?a16 ?l16 ?c16 ?k16 ?a17 ?l17 ?c17 ?k17 ?t8 ?v8 ?n8 ?d8 ?z0 ?z1 ?z2 ?z3 ?z4 ?z5 ?z6 ?z7 ?z8 ?z9
    (case r8 => rfl)
    (case a0 => k_is); (case l0 => k_is); (case c0 => k_is); (case k0 => k_is); (case a1 => k_is); (case l1 => k_is); (case c1 => k_is); (case k1 => k_is); (case a2 => k_is); (case l2 => k_is); (case c2 => k_is); (case k2 => k_is); (case a3 => k_is); (case l3 => k_is); (case c3 => k_is); (case k3 => k_is); (case a4 => k_is); (case l4 => k_is); (case c4 => k_is); (case k4 => k_is); (case a5 => k_is); (case l5 => k_is); (case c5 => k_is); (case k5 => k_is); (case a6 => k_is); (case l6 => k_is); (case c6 => k_is); (case k6 => k_is); (case a7 => k_is); (case l7 => k_is); (case c7 => k_is); (case k7 => k_is); (case a8 => k_is); (case l8 => k_is); (case c8 => k_is); (case k8 => k_is); (case a9 => k_is); (case l9 => k_is); (case c9 => k_is); (case k9 => k_is); (case a10 => k_is); (case l10 => k_is); (case c10 => k_is); (case k10 => k_is); (case a11 => k_is); (case l11 => k_is); (case c11 => k_is); (case k11 => k_is); (case a12 => k_is); (case l12 => k_is); (case c12 => k_is); (case k12 => k_is); (case a13 => k_is); (case l13 => k_is); (case c13 => k_is); (case k13 => k_is); (case a14 => k_is); (case l14 => k_is); (case c14 => k_is); (case k14 => k_is); (case a15 => k_is); (case l15 => k_is); (case c15 => k_is); (case k15 => k_is); (case a16 => k_is); (case l16 => k_is); (case c16 => k_is); (case k16 => k_is); (case a17 => k_is); (case l17 => k_is); (case c17 => k_is); (case k17 => k_is); (case t8 => k_is); (case v8 => rfl); (case n8 => first | k_is | kernel_rfl); (case d8 => first | k_is | kernel_rfl); (case z0 => k_is); (case z1 => k_is); (case z2 => k_is); (case z3 => k_is); (case z4 => k_is); (case z5 => k_is); (case z6 => k_is); (case z7 => k_is); (case z8 => k_is); (case z9 => k_is)

