import PyProof.Rows.All
import Wide.All
import OpenK.AllK
import Wide.FinOn
import HandS.ForMost
import HandS.Wide
import HandS.Flow
import HandS.IsInst
import HandS.TupLe
import HandS.Style
import HandS.SortInts
import KE.DataMinMax
import KE.SortData
import HandS.Deep
import HandS.SetFor
import HandS.Conv
import HandS.Rev
import HandS.Zip
import PyProof.Rows.SetFrom
import PyProof.ReprRoads
import HandS.RaiseMore
import HandS.Ends
import PyProof.ReprLen
import PySem.Challenge.RW_daysround_k77_whole_the_only_list_of_hea
set_option Elab.async false
set_option linter.all false
set_option maxRecDepth 100000
set_option maxHeartbeats 4000000
set_option autoImplicit false
/-! DL1: data over the hand layer: values as trees, ownership, readings by data. -/
namespace L2.DL
open PySem PySem.Spec PyProof.Rows

inductive Dt where
  | non | bl (b : Bool) | int (i : Int) | str (s : Str) | lst (l : List Dt) | tup (l : List Dt) | frz (l : List Int)

section
variable (K : PySem.W.Frag)
mutual
def Rep (H : Hp) : Dt → V → Prop
  | .non, v => v = .non
  | .bl b, v => v = .bl b
  | .int i, v => v = .int i
  | .str s, v => v = .str s
  | .lst l, v => ∃ a vs, v = .ref a ∧ H a = some (.lst vs) ∧ RepL H l vs
  | .tup l, v => ∃ a vs, v = .ref a ∧ H a = some (.tup vs) ∧ RepL H l vs
  | .frz l, v => ∃ a, v = .ref a ∧ SqL K H a (l.map V.int)
def RepL (H : Hp) : List Dt → List V → Prop
  | [], vs => vs = []
  | d :: ds, vs => ∃ v r, vs = v :: r ∧ Rep H d v ∧ RepL H ds r
end
end
section
variable {K : PySem.W.Frag} {H H' : Hp}
mutual
theorem Rep.mono (h : Same H H') : ∀ (d : Dt) (v : V), Rep K H d v → Rep K H' d v
  | .non, v, r => by simp only [Rep] at r ⊢; exact r
  | .bl _, v, r => by simp only [Rep] at r ⊢; exact r
  | .int _, v, r => by simp only [Rep] at r ⊢; exact r
  | .str _, v, r => by simp only [Rep] at r ⊢; exact r
  | .lst l, v, r => by
    simp only [Rep] at r ⊢
    obtain ⟨a, vs, e, e2, q⟩ := r
    exact ⟨a, vs, e, h _ _ e2, RepL.mono h l vs q⟩
  | .tup l, v, r => by
    simp only [Rep] at r ⊢
    obtain ⟨a, vs, e, e2, q⟩ := r
    exact ⟨a, vs, e, h _ _ e2, RepL.mono h l vs q⟩
  | .frz l, v, r => by
    simp only [Rep] at r ⊢
    obtain ⟨a, e, q⟩ := r
    exact ⟨a, e, h.seq q⟩
theorem RepL.mono (h : Same H H') : ∀ (ds : List Dt) (vs : List V), RepL K H ds vs → RepL K H' ds vs
  | [], vs, r => by simp only [RepL] at r ⊢; exact r
  | d :: ds, vs, r => by
    simp only [RepL] at r ⊢
    obtain ⟨v, q, e, r1, r2⟩ := r
    exact ⟨v, q, e, Rep.mono h d v r1, RepL.mono h ds q r2⟩
end
theorem RepL.nil : RepL K H [] [] := by simp only [RepL]
theorem RepL.nil_iff {vs : List V} (h : RepL K H [] vs) : vs = [] := by simp only [RepL] at h; exact h
theorem RepL.cons {d : Dt} {ds : List Dt} {v : V} {vs : List V} (h1 : Rep K H d v) (h2 : RepL K H ds vs) : RepL K H (d :: ds) (v :: vs) := by
  simp only [RepL]
  exact ⟨v, vs, rfl, h1, h2⟩
theorem RepL.uncons {d : Dt} {ds : List Dt} {vs : List V} (h : RepL K H (d :: ds) vs) : ∃ v r, vs = v :: r ∧ Rep K H d v ∧ RepL K H ds r := by
  simp only [RepL] at h
  exact h
theorem RepL.length : ∀ {ds : List Dt} {vs : List V}, RepL K H ds vs → vs.length = ds.length
  | [], vs, h => by rw [h.nil_iff]; rfl
  | d :: ds, vs, h => by
    obtain ⟨v, r, rfl, _, h2⟩ := h.uncons
    rw [List.length_cons, List.length_cons, h2.length]
theorem RepL.append : ∀ {ds es : List Dt} {vs us : List V}, RepL K H ds vs → RepL K H es us → RepL K H (ds ++ es) (vs ++ us)
  | [], es, vs, us, h, h' => by rw [h.nil_iff]; exact h'
  | d :: ds, es, vs, us, h, h' => by
    obtain ⟨v, r, rfl, h1, h2⟩ := h.uncons
    exact .cons h1 (h2.append h')
theorem RepL.get : ∀ {ds : List Dt} {vs : List V} {i : Nat} {d : Dt}, RepL K H ds vs → ds[i]? = some d → ∃ v, vs[i]? = some v ∧ Rep K H d v
  | [], vs, i, d, h, e => by simp at e
  | d :: ds, vs, 0, d', h, e => by
    obtain ⟨v, r, rfl, h1, h2⟩ := h.uncons
    simp at e
    subst e
    exact ⟨v, rfl, h1⟩
  | d :: ds, vs, i + 1, d', h, e => by
    obtain ⟨v, r, rfl, h1, h2⟩ := h.uncons
    obtain ⟨w, e1, e2⟩ := h2.get (i := i) (d := d') (by simpa using e)
    exact ⟨w, by simpa using e1, e2⟩
theorem RepL.at : ∀ {ds : List Dt} {vs : List V} {i : Nat} {v : V}, RepL K H ds vs → vs[i]? = some v → ∃ d, ds[i]? = some d ∧ Rep K H d v
  | [], vs, i, v, h, e => by rw [h.nil_iff] at e; simp at e
  | d :: ds, vs, 0, v', h, e => by
    obtain ⟨v, r, rfl, h1, h2⟩ := h.uncons
    simp at e
    subst e
    exact ⟨d, rfl, h1⟩
  | d :: ds, vs, i + 1, v', h, e => by
    obtain ⟨v, r, rfl, h1, h2⟩ := h.uncons
    obtain ⟨w, e1, e2⟩ := h2.at (i := i) (v := v') (by simpa using e)
    exact ⟨w, by simpa using e1, e2⟩
theorem RepL.take : ∀ {ds : List Dt} {vs : List V} (n : Nat), RepL K H ds vs → RepL K H (ds.take n) (vs.take n)
  | ds, vs, 0, h => .nil
  | [], vs, n + 1, h => by rw [h.nil_iff]; exact .nil
  | d :: ds, vs, n + 1, h => by
    obtain ⟨v, r, rfl, h1, h2⟩ := h.uncons
    exact .cons h1 (h2.take n)
theorem RepL.drop : ∀ {ds : List Dt} {vs : List V} (n : Nat), RepL K H ds vs → RepL K H (ds.drop n) (vs.drop n)
  | ds, vs, 0, h => h
  | [], vs, n + 1, h => by rw [h.nil_iff]; exact .nil
  | d :: ds, vs, n + 1, h => by
    obtain ⟨v, r, rfl, h1, h2⟩ := h.uncons
    exact h2.drop n
theorem RepL.set : ∀ {ds : List Dt} {vs : List V} {d : Dt} {v : V} (n : Nat), RepL K H ds vs → Rep K H d v → RepL K H (ds.set n d) (vs.set n v)
  | [], vs, d, v, n, h, h' => by rw [h.nil_iff]; exact .nil
  | e :: ds, vs, d, v, 0, h, h' => by
    obtain ⟨v', r, rfl, h1, h2⟩ := h.uncons
    exact .cons h' h2
  | e :: ds, vs, d, v, n + 1, h, h' => by
    obtain ⟨v', r, rfl, h1, h2⟩ := h.uncons
    exact .cons h1 (h2.set n h')
theorem RepL.reverse : ∀ {ds : List Dt} {vs : List V}, RepL K H ds vs → RepL K H ds.reverse vs.reverse
  | [], vs, h => by rw [h.nil_iff]; exact .nil
  | d :: ds, vs, h => by
    obtain ⟨v, r, rfl, h1, h2⟩ := h.uncons
    rw [List.reverse_cons, List.reverse_cons]
    exact h2.reverse.append (.cons h1 .nil)
theorem RepL.rep {ds : List Dt} {vs : List V} (h : RepL K H ds vs) : ∀ n : Nat, RepL K H (List.replicate n ds).flatten (List.replicate n vs).flatten
  | 0 => .nil
  | n + 1 => by
    rw [List.replicate_succ, List.replicate_succ, List.flatten_cons, List.flatten_cons]
    exact h.append (h.rep n)
theorem RepL.dropLast {ds : List Dt} {vs : List V} (h : RepL K H ds vs) : RepL K H ds.dropLast vs.dropLast := by
  rw [List.dropLast_eq_take, List.dropLast_eq_take, h.length]
  exact h.take _
end

/-! ### heaps -/
/-- from the clean part C of the heap H on: nothing that was tracked is changed, what comes into the clean part is new -/
structure Ext (C H C' H' : Hp) : Prop where
  c : Same C C'
  h : Same H H'
  s : Same C' H'
  f : ∀ a, H a ≠ none → C a = none → C' a = none
theorem Ext.refl {C H : Hp} (s : Same C H) : Ext C H C H := ⟨.refl _, .refl _, s, fun _ _ e => e⟩
theorem some_of {H : Hp} {a : Addr} (h : H a ≠ none) : ∃ o, H a = some o := by
  cases e : H a with
  | none => exact absurd e h
  | some o => exact ⟨o, rfl⟩
theorem Same.ne {H H' : Hp} (h : Same H H') {a : Addr} (e : H a ≠ none) : H' a ≠ none := by
  obtain ⟨o, q⟩ := some_of e
  rw [h _ _ q]
  simp
theorem Ext.trans {C H C1 H1 C2 H2 : Hp} (x : Ext C H C1 H1) (y : Ext C1 H1 C2 H2) : Ext C H C2 H2 :=
  ⟨x.c.trans y.c, x.h.trans y.h, y.s, fun a e n => y.f a (Same.ne x.h e) (x.f a e n)⟩
/-- which part of the clean heap a datum stands in: anywhere, or in what is new since the entry -/
inductive Md | new | old | out (A : Addr → Bool)
def part (m : Md) (Ht C : Hp) : Hp := match m with
  | .old => C
  | .new => fun a => if (Ht a).isNone = true then C a else none
  | .out A => fun a => if (A a && (Ht a).isSome) = true then none else C a
def inA (A : Addr → Bool) (C : Hp) : Hp := fun a => if A a = true then C a else none
theorem inA_mono {A : Addr → Bool} {C C' : Hp} (h : Same C C') : Same (inA A C) (inA A C') := fun a o e => by
  unfold inA at e ⊢
  split at e
  · rename_i q
    rw [if_pos q]
    exact h _ _ e
  · cases e
theorem inA_le {A : Addr → Bool} {C : Hp} : Same (inA A C) C := fun a o e => by
  unfold inA at e
  split at e
  · exact e
  · cases e
theorem part_mono {m : Md} {Ht C C' : Hp} (h : Same C C') : Same (part m Ht C) (part m Ht C') := by
  cases m with
  | old => exact h
  | new =>
    intro a o e
    simp only [part] at e ⊢
    split at e
    · rename_i q
      rw [if_pos q]
      exact h _ _ e
    · cases e
  | out A =>
    intro a o e
    simp only [part] at e ⊢
    split at e
    · cases e
    · rename_i q
      rw [if_neg q]
      exact h _ _ e
theorem part_le {m : Md} {Ht C : Hp} : Same (part m Ht C) C := by
  cases m with
  | old => exact .refl _
  | new =>
    intro a o e
    simp only [part] at e
    split at e
    · exact e
    · cases e
  | out A =>
    intro a o e
    simp only [part] at e
    split at e
    · cases e
    · exact e
theorem part_at {m : Md} {Ht C : Hp} {a : Addr} {o : HO} (h : C a = some o) (n : Ht a = none) : part m Ht C a = some o := by
  cases m with
  | old => exact h
  | new => simp only [part, n, Option.isNone_none, if_true]; exact h
  | out A => simp only [part, n, Option.isSome_none, Bool.and_false, Bool.false_eq_true, if_false]; exact h
theorem part_new {m : Md} {Ht C : Hp} : Same (part .new Ht C) (part m Ht C) := fun a o e => by
  simp only [part] at e
  split at e
  · rename_i q
    exact part_at e (by simpa using q)
  · cases e
/-- what was there later counts earlier -/
theorem part_ht {m : Md} {Ht H C : Hp} (h : Same Ht H) : Same (part m H C) (part m Ht C) := by
  have hn : ∀ a, H a = none → Ht a = none := fun a e => Same.free h e
  cases m with
  | old => exact .refl _
  | new =>
    intro a o e
    simp only [part] at e
    split at e
    · rename_i q
      exact part_at e (hn a (by simpa using q))
    · cases e
  | out A =>
    intro a o e
    simp only [part] at e ⊢
    split at e
    · cases e
    · rename_i q
      rw [if_neg]
      · exact e
      · intro z
        refine q ?_
        rw [Bool.and_eq_true] at z ⊢
        refine ⟨z.1, ?_⟩
        cases hh : H a with
        | none => rw [hn a hh] at z; exact absurd z.2 (by simp)
        | some o => rfl
theorem same_upd {H : Hp} {p : Addr} {o : HO} (h : H p = none) : Same H (upd H p o) := fun b x e => by
  rw [upd_ne (ne_of_none e h)]
  exact e
theorem free_of {H H' : Hp} (h : Same H H') {a : Addr} (e : H' a = none) : H a = none := Same.free h e

/-! ### what the slots hold -/
inductive Slot where
  /-- nothing is known -/
  | un
  /-- a datum -/
  | dat (m : Md) (d : Dt)
  /-- a list that nobody else holds; its items are data -/
  | own (m : Md) (l : List Dt)
  /-- a datum of an island, which will be changed and forgotten -/
  | isl (A : Addr → Bool) (d : Dt)
  /-- an error that a suite holds, its own dict, what stands there -/
  | err (a : Addr) (dd : Option Addr) (fs : List (Str × V))
abbrev En := List Slot
section
variable (K : PySem.W.Frag)
def SlotOk (Ht C H : Hp) (o : Option (Option V)) : Slot → Prop
  | .un => True
  | .dat m d => ∃ v, o = some (some v) ∧ Rep K (part m Ht C) d v
  | .own m l => ∃ a vs, o = some (some (.ref a)) ∧ Ht a = none ∧ C a = none ∧ H a = some (.lst vs) ∧ RepL K (part m Ht C) l vs
  | .isl A d => ∃ v, o = some (some v) ∧ Rep K (inA A C) d v
  | .err a dd fs => o = some (some (.ref a)) ∧ ∀ x, dd = some x → H x = some (.xd fs)
structure EnvI (Ht C0 C H : Hp) (σ : St) (ρ : En) : Prop where
  ext : Ext C0 Ht C H
  len : σ.length = ρ.length
  ok : ∀ (i : Nat) (s : Slot), ρ[i]? = some s → SlotOk K Ht C H σ[i]? s
  sep : ∀ (i j : Nat) (a : Addr) (mi : Md) (li : List Dt) (mj : Md) (lj : List Dt), i ≠ j → ρ[i]? = some (.own mi li) → ρ[j]? = some (.own mj lj) → σ[i]? = some (some (.ref a)) → σ[j]? ≠ some (some (.ref a))
end
section
variable {K : PySem.W.Frag} {Ht C0 C H C' H' : Hp} {σ : St} {ρ : En}
theorem SlotOk.ext {o : Option (Option V)} {s : Slot} (x : Ext C H C' H') (h : SlotOk K Ht C H o s) : SlotOk K Ht C' H' o s := by
  cases s with
  | un => trivial
  | dat m d =>
    obtain ⟨v, e, r⟩ := h
    exact ⟨v, e, r.mono (part_mono x.c)⟩
  | own m l =>
    obtain ⟨a, vs, e, h1, h2, h3, r⟩ := h
    exact ⟨a, vs, e, h1, x.f a (by rw [h3]; simp) h2, x.h _ _ h3, r.mono (part_mono x.c)⟩
  | isl A d =>
    obtain ⟨v, e, r⟩ := h
    exact ⟨v, e, r.mono (inA_mono x.c)⟩
  | err a dd fs => exact ⟨h.1, fun y e => x.h _ _ (h.2 y e)⟩
theorem EnvI.to (I : EnvI K Ht C0 C H σ ρ) (x : Ext C H C' H') : EnvI K Ht C0 C' H' σ ρ :=
  ⟨I.ext.trans x, I.len, fun i s e => (I.ok i s e).ext x, I.sep⟩
theorem EnvI.sub (I : EnvI K Ht C0 C H σ ρ) : Same C H := I.ext.s
theorem EnvI.same (I : EnvI K Ht C0 C H σ ρ) : Ext C H C H := .refl I.sub
theorem get_set {α : Type} {l : List α} {i j : Nat} {x y : α} (h : (l.set i x)[j]? = some y) : (j = i ∧ y = x) ∨ (j ≠ i ∧ l[j]? = some y) := by
  by_cases e : i = j
  · subst e
    by_cases q : i < l.length
    · rw [List.getElem?_set_self q] at h
      exact .inl ⟨Eq.refl _, (Option.some.inj h).symm⟩
    · rw [List.getElem?_eq_none (by rw [List.length_set]; omega)] at h
      cases h
  · rw [List.getElem?_set_ne e] at h
    exact .inr ⟨fun q => e q.symm, h⟩
/-- a slot is stored: a datum -/
theorem EnvI.set (I : EnvI K Ht C0 C H σ ρ) {i : Nat} {m : Md} {d : Dt} {v : V} (r : Rep K (part m Ht C) d v) : EnvI K Ht C0 C H (σ.set i (some v)) (ρ.set i (.dat m d)) := by
  refine ⟨I.ext, by rw [List.length_set, List.length_set]; exact I.len, fun j s e => ?_, fun j k a mi li mj lj n e1 e2 e3 e4 => ?_⟩
  · rcases get_set e with ⟨rfl, rfl⟩ | ⟨n, e⟩
    · have hj : j < ρ.length := by
        have := (List.getElem?_eq_some_iff.mp e).1
        rwa [List.length_set] at this
      refine ⟨v, ?_, r⟩
      rw [List.getElem?_set_self (by rw [I.len]; exact hj)]
    · rw [List.getElem?_set_ne (Ne.symm n)]
      exact I.ok j s e
  · rcases get_set e1 with ⟨_, q⟩ | ⟨n1, e1⟩
    · cases q
    · rcases get_set e2 with ⟨_, q⟩ | ⟨n2, e2⟩
      · cases q
      · rw [List.getElem?_set_ne (Ne.symm n1)] at e3
        rw [List.getElem?_set_ne (Ne.symm n2)] at e4
        exact I.sep j k a mi li mj lj n e1 e2 e3 e4
/-- a new list is stored, owned -/
theorem EnvI.setOwn (I : EnvI K Ht C0 C H σ ρ) {i : Nat} {m : Md} {l : List Dt} {a : Addr} {vs : List V} (hn : Ht a = none) (hc : C a = none) (ha : H a = some (.lst vs)) (r : RepL K (part m Ht C) l vs)
    (hs : ∀ (j : Nat) mj lj, j ≠ i → ρ[j]? = some (.own mj lj) → σ[j]? ≠ some (some (.ref a))) : EnvI K Ht C0 C H (σ.set i (some (.ref a))) (ρ.set i (.own m l)) := by
  refine ⟨I.ext, by rw [List.length_set, List.length_set]; exact I.len, fun j s e => ?_, fun j k b mi li mj lj n e1 e2 e3 e4 => ?_⟩
  · rcases get_set e with ⟨rfl, rfl⟩ | ⟨n, e⟩
    · have hj : j < ρ.length := by
        have := (List.getElem?_eq_some_iff.mp e).1
        rwa [List.length_set] at this
      refine ⟨a, vs, ?_, hn, hc, ha, r⟩
      rw [List.getElem?_set_self (by rw [I.len]; exact hj)]
    · rw [List.getElem?_set_ne (Ne.symm n)]
      exact I.ok j s e
  · rcases get_set e1 with ⟨rfl, q⟩ | ⟨n1, f1⟩
    · rcases get_set e2 with ⟨rfl, _⟩ | ⟨n2, e2⟩
      · exact n (Eq.refl _)
      · have hj : j < σ.length := by
          have := (List.getElem?_eq_some_iff.mp e3).1
          rwa [List.length_set] at this
        rw [List.getElem?_set_self hj] at e3
        cases e3
        rw [List.getElem?_set_ne (Ne.symm n2)] at e4
        exact hs k mj lj n2 e2 e4
    · rw [List.getElem?_set_ne (Ne.symm n1)] at e3
      rcases get_set e2 with ⟨rfl, q⟩ | ⟨n2, e2⟩
      · have hk : k < σ.length := by
          have := (List.getElem?_eq_some_iff.mp e4).1
          rwa [List.length_set] at this
        rw [List.getElem?_set_self hk] at e4
        cases e4
        exact hs j mi li n1 f1 e3
      · rw [List.getElem?_set_ne (Ne.symm n2)] at e4
        exact I.sep j k b mi li mj lj n f1 e2 e3 e4
/-- slots forgotten -/
theorem EnvI.forget (I : EnvI K Ht C0 C H σ ρ) {σ' : St} {ρ' : En} (hl : σ'.length = ρ'.length) (h : ∀ (i : Nat) (s : Slot), ρ'[i]? = some s → s = .un ∨ (ρ[i]? = some s ∧ σ'[i]? = σ[i]?)) : EnvI K Ht C0 C H σ' ρ' := by
  refine ⟨I.ext, hl, fun i s e => ?_, fun i j a mi li mj lj n e1 e2 e3 e4 => ?_⟩
  · rcases h i s e with rfl | ⟨e', q⟩
    · trivial
    · rw [q]
      exact I.ok i s e'
  · rcases h i _ e1 with q | ⟨e1', q1⟩
    · cases q
    · rcases h j _ e2 with q | ⟨e2', q2⟩
      · cases q
      · exact I.sep i j a mi li mj lj n e1' e2' (q1 ▸ e3) (q2 ▸ e4)
/-- a list owned becomes a datum -/
theorem EnvI.freeze (I : EnvI K Ht C0 C H σ ρ) {i : Nat} {m : Md} {l : List Dt} (hi : ρ[i]? = some (.own m l)) : ∃ C', EnvI K Ht C0 C' H σ (ρ.set i (.dat m (.lst l))) ∧ Same C C' := by
  obtain ⟨a, vs, e, hn, hc, ha, r⟩ := I.ok i _ hi
  have sc : Same C (upd C a (.lst vs)) := same_upd hc
  have hil : i < ρ.length := (List.getElem?_eq_some_iff.mp hi).1
  refine ⟨upd C a (.lst vs), ⟨⟨I.ext.c.trans sc, I.ext.h, fun b o q => ?_, fun b h1 h2 => ?_⟩, by rw [List.length_set]; exact I.len, fun j s q => ?_, fun j k b mi li mj lj n e1 e2 e3 e4 => ?_⟩, sc⟩
  · by_cases hb : b = a
    · subst hb
      rw [upd_same] at q
      cases q
      exact ha
    · rw [upd_ne hb] at q
      exact I.sub _ _ q
  · have nb : b ≠ a := fun z => by rw [z] at h1; exact h1 hn
    rw [upd_ne nb]
    exact I.ext.f b h1 h2
  · rcases get_set q with ⟨rfl, rfl⟩ | ⟨n, q⟩
    · refine ⟨.ref a, e, ?_⟩
      simp only [Rep]
      exact ⟨a, vs, Eq.refl _, part_at upd_same hn, r.mono (part_mono sc)⟩
    · have hs := I.ok j s q
      cases s with
      | un => trivial
      | dat m' d' =>
        obtain ⟨v, e1, r1⟩ := hs
        exact ⟨v, e1, r1.mono (part_mono sc)⟩
      | isl A' d' =>
        obtain ⟨v, e1, r1⟩ := hs
        exact ⟨v, e1, r1.mono (inA_mono sc)⟩
      | err a' dd' fs' => exact hs
      | own m' l' =>
        obtain ⟨b, us, e1, h1, h2, h3, r1⟩ := hs
        refine ⟨b, us, e1, h1, ?_, h3, r1.mono (part_mono sc)⟩
        have nb : b ≠ a := fun z => I.sep i j a m l m' l' (Ne.symm n) hi q e (z ▸ e1)
        rw [upd_ne nb]
        exact h2
  · rcases get_set e1 with ⟨_, q⟩ | ⟨n1, e1⟩
    · cases q
    · rcases get_set e2 with ⟨_, q⟩ | ⟨n2, e2⟩
      · cases q
      · exact I.sep j k b mi li mj lj n e1 e2 e3 e4
/-- a list owned is changed -/
theorem EnvI.write (I : EnvI K Ht C0 C H σ ρ) {i : Nat} {m : Md} {l l' : List Dt} {a : Addr} {vs : List V} (hi : ρ[i]? = some (.own m l)) (ha : σ[i]? = some (some (.ref a))) (r : RepL K (part m Ht C) l' vs) :
    EnvI K Ht C0 C (upd H a (.lst vs)) σ (ρ.set i (.own m l')) := by
  obtain ⟨a', us, e, hn, hc, ha', _⟩ := I.ok i _ hi
  rw [ha] at e
  cases e
  refine ⟨⟨I.ext.c, fun b o q => ?_, fun b o q => ?_, I.ext.f⟩, by rw [List.length_set]; exact I.len, fun j s q => ?_, fun j k b mi li mj lj n e1 e2 e3 e4 => ?_⟩
  · rw [upd_ne (ne_of_none q hn)]
    exact I.ext.h _ _ q
  · rw [upd_ne (ne_of_none q hc)]
    exact I.ext.s _ _ q
  · rcases get_set q with ⟨rfl, rfl⟩ | ⟨n, q⟩
    · exact ⟨a, vs, ha, hn, hc, upd_same, r⟩
    · have hs := I.ok j s q
      cases s with
      | un => trivial
      | dat m' d' => exact hs
      | isl A' d' => exact hs
      | err a' dd' fs' => exact ⟨hs.1, fun y e => by
          have hy := hs.2 y e
          have ny : y ≠ a := fun z => by
            rw [z, ha'] at hy
            cases hy
          rw [upd_ne ny]
          exact hy⟩
      | own m' l2 =>
        obtain ⟨b, us', e1, h1, h2, h3, r1⟩ := hs
        refine ⟨b, us', e1, h1, h2, ?_, r1⟩
        have nb : b ≠ a := fun z => I.sep i j a m l m' l2 (Ne.symm n) hi q ha (z ▸ e1)
        rw [upd_ne nb]
        exact h3
  · rcases get_set e1 with ⟨rfl, q⟩ | ⟨n1, f1⟩
    · cases q
      rcases get_set e2 with ⟨rfl, _⟩ | ⟨n2, e2⟩
      · exact absurd (Eq.refl _) n
      · exact I.sep j k b m l mj lj n hi e2 e3 e4
    · rcases get_set e2 with ⟨rfl, q⟩ | ⟨n2, e2⟩
      · cases q
        exact I.sep j k b mi li m l n f1 hi e3 e4
      · exact I.sep j k b mi li mj lj n f1 e2 e3 e4
end
end L2.DL

/-! DL2: typed data, the judgements of expressions. -/
namespace L2.DL
open PySem PySem.Spec PyProof.Rows

/-! ### typed data -/
class Rp (α : Type) where
  rp : α → Dt
abbrev rp {α : Type} [Rp α] (x : α) : Dt := Rp.rp x
instance : Rp Dt := ⟨fun d => d⟩
instance : Rp Int := ⟨.int⟩
instance : Rp Bool := ⟨.bl⟩
instance : Rp Str := ⟨.str⟩
instance : Rp Unit := ⟨fun _ => .non⟩
instance {α : Type} [Rp α] : Rp (List α) := ⟨fun l => .lst (l.map rp)⟩
instance {α β : Type} [Rp α] [Rp β] : Rp (α × β) := ⟨fun p => .tup [rp p.1, rp p.2]⟩
instance {α : Type} [Rp α] : Rp (Option α) := ⟨fun o => match o with | none => .non | some x => rp x⟩
instance {α β : Type} [Rp α] [Rp β] : Rp (α ⊕ β) := ⟨fun o => match o with | .inl x => rp x | .inr x => rp x⟩
structure T3 (α β γ : Type) where
  mk ::
  p : α
  q : β
  r : γ
  deriving DecidableEq
structure T4 (α β γ δ : Type) where
  mk ::
  p : α
  q : β
  r : γ
  s : δ
  deriving DecidableEq
structure TupL (α : Type) where
  mk ::
  l : List α
  deriving DecidableEq
structure Scr where
  mk ::
  l : List Int
instance {α β γ : Type} [Rp α] [Rp β] [Rp γ] : Rp (T3 α β γ) := ⟨fun t => .tup [rp t.p, rp t.q, rp t.r]⟩
instance {α β γ δ : Type} [Rp α] [Rp β] [Rp γ] [Rp δ] : Rp (T4 α β γ δ) := ⟨fun t => .tup [rp t.p, rp t.q, rp t.r, rp t.s]⟩
instance {α : Type} [Rp α] : Rp (TupL α) := ⟨fun t => .tup (t.l.map rp)⟩
instance : Rp Scr := ⟨fun s => .frz s.l⟩
abbrev rps {α : Type} [Rp α] (l : List α) : List Dt := l.map rp

class Scal (α : Type) [Rp α] : Prop where
  ok : ∀ (K : PySem.W.Frag) (H H' : Hp) (x : α) (v : V), Rep K H (rp x) v → Rep K H' (rp x) v
instance : Scal Int := ⟨fun K H H' x v h => by simp only [rp, Rp.rp, Rep] at h ⊢; exact h⟩
instance : Scal Bool := ⟨fun K H H' x v h => by simp only [rp, Rp.rp, Rep] at h ⊢; exact h⟩
instance : Scal Str := ⟨fun K H H' x v h => by simp only [rp, Rp.rp, Rep] at h ⊢; exact h⟩
instance : Scal Unit := ⟨fun K H H' x v h => by simp only [rp, Rp.rp, Rep] at h ⊢; exact h⟩
instance {α : Type} [Rp α] [Scal α] : Scal (Option α) := ⟨fun K H H' x v h => by
  cases x with
  | none => simp only [rp, Rp.rp, Rep] at h ⊢; exact h
  | some x => exact Scal.ok (α := α) K H H' x v h⟩
instance {α β : Type} [Rp α] [Rp β] [Scal α] [Scal β] : Scal (α ⊕ β) := ⟨fun K H H' x v h => by
  cases x with
  | inl x => exact Scal.ok (α := α) K H H' x v h
  | inr x => exact Scal.ok (α := β) K H H' x v h⟩
theorem RepL.scal {α : Type} [Rp α] [Scal α] {K : PySem.W.Frag} {H H' : Hp} : ∀ {xs : List α} {vs : List V}, RepL K H (rps xs) vs → RepL K H' (rps xs) vs
  | [], vs, h => by rw [h.nil_iff]; exact .nil
  | x :: xs, vs, h => by
    obtain ⟨v, r, rfl, h1, h2⟩ := h.uncons
    exact .cons (Scal.ok K H H' x v h1) h2.scal

section
variable (K : PySem.W.Frag)
/-- an expression gives a datum -/
def EvE {α : Type} [Rp α] (t : TE) (ρ : En) (m : Md) (r : Option α) : Prop :=
  ∀ (Ht C0 C H : Hp) (σ : St), EnvI K Ht C0 C H σ ρ → ∀ x, r = some x → ∀ Q : VK, (∀ v C' H', Ext C H C' H' → Rep K (part m Ht C') (rp x) v → Q v H') → t σ H Q
/-- .. a new list that nobody holds -/
def EvL {α : Type} [Rp α] (t : TE) (ρ : En) (m : Md) (r : Option (List α)) : Prop :=
  ∀ (Ht C0 C H : Hp) (σ : St), EnvI K Ht C0 C H σ ρ → ∀ xs, r = some xs → ∀ Q : VK,
    (∀ a vs C' H', Ext C H C' H' → H a = none → C' a = none → H' a = some (.lst vs) → RepL K (part m Ht C') (rps xs) vs → Q (.ref a) H') → t σ H Q
/-- .. a list that may be read -/
def EvB {α : Type} [Rp α] (t : TE) (ρ : En) (m : Md) (r : Option (List α)) : Prop :=
  ∀ (Ht C0 C H : Hp) (σ : St), EnvI K Ht C0 C H σ ρ → ∀ xs, r = some xs → ∀ Q : VK,
    (∀ a vs C' H', Ext C H C' H' → H' a = some (.lst vs) → RepL K (part m Ht C') (rps xs) vs → Q (.ref a) H') → t σ H Q
/-- a test -/
def EvT (t : TT) (ρ : En) (r : Option Bool) : Prop :=
  ∀ (Ht C0 C H : Hp) (σ : St), EnvI K Ht C0 C H σ ρ → ∀ b, r = some b → ∀ Q : Bool → Hp → Prop, (∀ C' H', Ext C H C' H' → Q b H') → t σ H Q
/-- arguments -/
def EvA {A : Type} (ds : A → List Dt) (t : TA) (ρ : En) (r : Option A) : Prop :=
  ∀ (Ht C0 C H : Hp) (σ : St), EnvI K Ht C0 C H σ ρ → ∀ x, r = some x → ∀ Q : List V → Hp → Prop, (∀ vs C' H', Ext C H C' H' → RepL K C' (ds x) vs → Q vs H') → t σ H Q
/-- a part of a slice -/
def EvO (t : TO) (ρ : En) (r : Option (Option Int)) : Prop :=
  ∀ (Ht C0 C H : Hp) (σ : St), EnvI K Ht C0 C H σ ρ → ∀ x, r = some x → ∀ Q : Option Int → Hp → Prop, (∀ C' H', Ext C H C' H' → Q x H') → t σ H Q
end
section
variable {K : PySem.W.Frag} {t ta tb : TE} {ρ : En} {m m1 m2 : Md}
variable {α β γ : Type} [Rp α] [Rp β] [Rp γ]
theorem some_bind {A B : Type} {r : Option A} {f : A → Option B} {y : B} (h : r.bind f = some y) : ∃ x, r = some x ∧ f x = some y := Option.bind_eq_some_iff.mp h
theorem some_map {A B : Type} {r : Option A} {f : A → B} {y : B} (h : r.map f = some y) : ∃ x, r = some x ∧ f x = y := Option.map_eq_some_iff.mp h
theorem EvE.B {r : Option (List α)} (h : EvE K t ρ m r) : EvB K t ρ m r := fun Ht C0 C H σ I xs e Q q => by
  refine h Ht C0 C H σ I xs e Q fun v C' H' x rv => ?_
  simp only [rp, Rp.rp, Rep] at rv
  obtain ⟨a, vs, rfl, h1, h2⟩ := rv
  exact q a vs C' H' x (x.s _ _ (part_le _ _ h1)) h2
theorem EvL.B {r : Option (List α)} (h : EvL K t ρ m r) : EvB K t ρ m r := fun Ht C0 C H σ I xs e Q q =>
  h Ht C0 C H σ I xs e Q fun a vs C' H' x _ _ h2 h3 => q a vs C' H' x h2 h3
theorem EvL.E {r : Option (List α)} (h : EvL K t ρ m r) : EvE K t ρ m r := fun Ht C0 C H σ I xs e Q q => by
  refine h Ht C0 C H σ I xs e Q fun a vs C' H' x hn hc ha rv => ?_
  have sc : Same C' (upd C' a (.lst vs)) := same_upd hc
  refine q (.ref a) (upd C' a (.lst vs)) H' ⟨x.c.trans sc, x.h, fun b o e => ?_, fun b h1 h2 => ?_⟩ ?_
  · by_cases hb : b = a
    · subst hb
      rw [upd_same] at e
      cases e
      exact ha
    · rw [upd_ne hb] at e
      exact x.s _ _ e
  · have nb : b ≠ a := fun z => by rw [z] at h1; exact h1 hn
    rw [upd_ne nb]
    exact x.f b h1 h2
  · simp only [rp, Rp.rp, Rep]
    exact ⟨a, vs, rfl, part_at upd_same (free_of I.ext.h hn), rv.mono (part_mono sc)⟩
/-- from anywhere -/
theorem EvE.old {r : Option α} (h : EvE K t ρ m r) : EvE K t ρ .old r := fun Ht C0 C H σ I x e Q q =>
  h Ht C0 C H σ I x e Q fun v C' H' y rv => q v C' H' y (rv.mono part_le)
theorem EvL.old {r : Option (List α)} (h : EvL K t ρ m r) : EvL K t ρ .old r := fun Ht C0 C H σ I x e Q q =>
  h Ht C0 C H σ I x e Q fun a vs C' H' y hn hc ha rv => q a vs C' H' y hn hc ha (rv.mono part_le)
theorem EvB.old {r : Option (List α)} (h : EvB K t ρ m r) : EvB K t ρ .old r := fun Ht C0 C H σ I x e Q q =>
  h Ht C0 C H σ I x e Q fun a vs C' H' y ha rv => q a vs C' H' y ha (rv.mono part_le)
theorem EvE.sc [Scal α] {r : Option α} (h : EvE K t ρ m r) : EvE K t ρ m1 r := fun Ht C0 C H σ I x e Q q =>
  h Ht C0 C H σ I x e Q fun v C' H' y rv => q v C' H' y (Scal.ok K _ _ x v rv)
theorem EvL.sc [Scal α] {r : Option (List α)} (h : EvL K t ρ m r) : EvL K t ρ m1 r := fun Ht C0 C H σ I x e Q q =>
  h Ht C0 C H σ I x e Q fun a vs C' H' y hn hc ha rv => q a vs C' H' y hn hc ha rv.scal
theorem EvB.sc [Scal α] {r : Option (List α)} (h : EvB K t ρ m r) : EvB K t ρ m1 r := fun Ht C0 C H σ I x e Q q =>
  h Ht C0 C H σ I x e Q fun a vs C' H' y ha rv => q a vs C' H' y ha rv.scal
/-- the same datum under another type -/
theorem EvE.cast {r : Option α} (f : α → β) (h : EvE K t ρ m r) (e : ∀ x, rp (f x) = rp x := by intro _; rfl) : EvE K t ρ m (r.map f) := fun Ht C0 C H σ I x e' Q q => by
  obtain ⟨y, ey, rfl⟩ := some_map e'
  refine h Ht C0 C H σ I y ey Q fun v C' H' z rv => q v C' H' z ?_
  rw [e y]
  exact rv
theorem EvE.res {r r' : Option α} (h : EvE K t ρ m r) (e : r' = r) : EvE K t ρ m r' := e ▸ h
theorem EvL.res {r r' : Option (List α)} (h : EvL K t ρ m r) (e : r' = r) : EvL K t ρ m r' := e ▸ h
theorem EvB.res {r r' : Option (List α)} (h : EvB K t ρ m r) (e : r' = r) : EvB K t ρ m r' := e ▸ h

/-! ### names, constants -/
theorem ev_var {i : Nat} {x : α} (h : ρ[i]? = some (.dat m (rp x)) := by rfl) : EvE K (tVar i) ρ m (some x) := fun Ht C0 C H σ I y e Q q => by
  cases e
  obtain ⟨v, e1, r⟩ := I.ok i _ h
  exact ⟨v, e1, q v C H I.same r⟩
theorem ev_own {i : Nat} {xs : List α} (h : ρ[i]? = some (.own m (rps xs)) := by rfl) : EvB K (tVar i) ρ m (some xs) := fun Ht C0 C H σ I y e Q q => by
  cases e
  obtain ⟨a, vs, e1, _, _, h3, r⟩ := I.ok i _ h
  exact ⟨.ref a, e1, q a vs C H I.same h3 r⟩
theorem ev_c {v : V} {x : α} (h : ∀ H, Rep K H (rp x) v) : EvE K (tC v) ρ m (some x) := fun Ht C0 C H σ I y e Q q => by
  cases e
  exact q v C H I.same (h _)
theorem ev_int {i : Int} : EvE K (tC (.int i)) ρ .new (some i) := ev_c fun H => by simp only [rp, Rp.rp, Rep]
theorem ev_bl {b : Bool} : EvE K (tC (.bl b)) ρ .new (some b) := ev_c fun H => by simp only [rp, Rp.rp, Rep]
theorem ev_str {s : Str} : EvE K (tC (.str s)) ρ .new (some s) := ev_c fun H => by simp only [rp, Rp.rp, Rep]
theorem ev_non {A : Type} [Rp A] : EvE K (tC .non) ρ .new (some (none : Option A)) := ev_c fun H => by simp only [rp, Rp.rp, Rep]
theorem ev_nonD : EvE K (tC .non) ρ .new (some Dt.non) := ev_c fun H => by simp only [rp, Rp.rp, Rep]

/-! ### ints -/
theorem Rep.int_ {H : Hp} {i : Int} {v : V} (h : Rep K H (rp i) v) : v = .int i := by simp only [rp, Rp.rp, Rep] at h; exact h
theorem Rep.bl_ {H : Hp} {i : Bool} {v : V} (h : Rep K H (rp i) v) : v = .bl i := by simp only [rp, Rp.rp, Rep] at h; exact h
theorem Rep.str_ {H : Hp} {i : Str} {v : V} (h : Rep K H (rp i) v) : v = .str i := by simp only [rp, Rp.rp, Rep] at h; exact h
theorem Rep.ofInt {H : Hp} {i : Int} : Rep K H (rp i) (.int i) := by simp only [rp, Rp.rp, Rep]
theorem Rep.ofBl {H : Hp} {i : Bool} : Rep K H (rp i) (.bl i) := by simp only [rp, Rp.rp, Rep]
theorem Rep.ofStr {H : Hp} {i : Str} : Rep K H (rp i) (.str i) := by simp only [rp, Rp.rp, Rep]
/-- two values in a row -/
theorem ev_two {r : R2} {ra : Option α} {rb : Option β} {f : α → β → Option γ} (ha : EvE K ta ρ m1 ra) (hb : EvE K tb ρ m2 rb)
    (h : ∀ (Ht C H : Hp) (x : α) (y : β) (z : γ) (v u : V) (Q : VK), Same C H → f x y = some z → Rep K (part m1 Ht C) (rp x) v → Rep K (part m2 Ht C) (rp y) u →
      (∀ w C' H', Ext C H C' H' → Rep K (part m Ht C') (rp z) w → Q w H') → r v u H Q) : EvE K (tOp r ta tb) ρ m (ra.bind fun x => rb.bind fun y => f x y) := fun Ht C0 C H σ I z e Q q => by
  obtain ⟨x, ex, e⟩ := some_bind e
  obtain ⟨y, ey, e⟩ := some_bind e
  refine ha Ht C0 C H σ I x ex _ fun v C1 H1 x1 r1 => ?_
  refine hb Ht C0 C1 H1 σ (I.to x1) y ey _ fun u C2 H2 x2 r2 => ?_
  exact h Ht C2 H2 x y z v u Q x2.s e (r1.mono (part_mono x2.c)) r2 fun w C' H' x3 r3 => q w C' H' ((x1.trans x2).trans x3) r3
theorem ev_arith {g : Int → Int → Int} {ra rb : Option Int} (ha : EvE K ta ρ m1 ra) (hb : EvE K tb ρ m2 rb) : EvE K (tOp (rI0 fun i j => .int (g i j)) ta tb) ρ .new (ra.bind fun x => rb.bind fun y => some (g x y)) :=
  ev_two ha hb fun Ht C H x y z v u Q s e r1 r2 q => by
    cases e
    rw [r1.int_, r2.int_]
    exact ⟨x, y, rfl, rfl, q _ C H (.refl s) .ofInt⟩
theorem ev_arithC {g : Int → Int → Int} {P : Int → Int → Prop} {ra rb : Option Int} {f : Int → Int → Option Int} (hf : ∀ x y z, f x y = some z → P x y ∧ z = g x y) (ha : EvE K ta ρ m1 ra) (hb : EvE K tb ρ m2 rb) : EvE K (tOp (rI P fun i j => .int (g i j)) ta tb) ρ .new (ra.bind fun x => rb.bind fun y => f x y) :=
  ev_two ha hb fun Ht C H x y z v u Q s e r1 r2 q => by
    rw [r1.int_, r2.int_]
    obtain ⟨p, rfl⟩ := hf x y z e
    exact ⟨x, y, rfl, rfl, p, q _ C H (.refl s) .ofInt⟩
theorem ev_cmpI {g : Int → Int → Bool} {ra rb : Option Int} (ha : EvE K ta ρ m1 ra) (hb : EvE K tb ρ m2 rb) : EvE K (tOp (rI0 fun i j => .bl (g i j)) ta tb) ρ .new (ra.bind fun x => rb.bind fun y => some (g x y)) :=
  ev_two ha hb fun Ht C H x y z v u Q s e r1 r2 q => by
    cases e
    rw [r1.int_, r2.int_]
    exact ⟨x, y, rfl, rfl, q _ C H (.refl s) .ofBl⟩
/-- a product of numbers of at most 4096 bits -/
@[irreducible] def mulP (x y : Int) : Option Int := if x.natAbs < 2 ^ 4096 ∧ y.natAbs < 2 ^ 4096 then some (x * y) else none
/-- a quotient by a positive divisor of at most 4096 bits -/
@[irreducible] def divP (x y : Int) : Option Int := if 0 < y ∧ y < 2 ^ 4096 then some (x / y) else none
@[irreducible] def modP (x y : Int) : Option Int := if 0 < y then some (x % y) else none
theorem mulP_def (x y : Int) : mulP x y = if x.natAbs < 2 ^ 4096 ∧ y.natAbs < 2 ^ 4096 then some (x * y) else none := by unfold mulP; rfl
theorem divP_def (x y : Int) : divP x y = if 0 < y ∧ y < 2 ^ 4096 then some (x / y) else none := by unfold divP; rfl
theorem modP_def (x y : Int) : modP x y = if 0 < y then some (x % y) else none := by unfold modP; rfl
theorem some_if {A : Type} {c : Prop} [Decidable c] {x y : A} (h : (if c then some x else none) = some y) : c ∧ x = y := by
  split at h
  · rename_i hc
    exact ⟨hc, Option.some.inj h⟩
  · cases h
theorem ev_mul {ra rb : Option Int} (ha : EvE K ta ρ m1 ra) (hb : EvE K tb ρ m2 rb) : EvE K (tOp (rI CMulW fun i j => .int (i * j)) ta tb) ρ .new (ra.bind fun x => rb.bind fun y => mulP x y) :=
  ev_arithC (fun x y z h => by
    rw [mulP_def] at h
    obtain ⟨⟨h1, h2⟩, e⟩ := some_if h
    exact ⟨wide_mul h1 h2 (by decide) (by decide) (by decide), e.symm⟩) ha hb
theorem ev_div {ra rb : Option Int} (ha : EvE K ta ρ m1 ra) (hb : EvE K tb ρ m2 rb) : EvE K (tOp (rI CDivW fun i j => .int (i / j)) ta tb) ρ .new (ra.bind fun x => rb.bind fun y => divP x y) :=
  ev_arithC (fun x y z h => by
    rw [divP_def] at h
    obtain ⟨⟨h1, h2⟩, e⟩ := some_if h
    exact ⟨wide_div (b := 4096) h1 (by omega) (by decide) (by decide), e.symm⟩) ha hb
theorem ev_mod {ra rb : Option Int} (ha : EvE K ta ρ m1 ra) (hb : EvE K tb ρ m2 rb) : EvE K (tOp (rI (fun _ j => 0 < j) fun i j => .int (i % j)) ta tb) ρ .new (ra.bind fun x => rb.bind fun y => modP x y) :=
  ev_arithC (fun x y z h => by
    rw [modP_def] at h
    obtain ⟨h1, e⟩ := some_if h
    exact ⟨h1, e.symm⟩) ha hb
theorem bsP {A B : Type} {x : A} {f : A → Option B} {y : Option B} (h : y = f x) : y = (some x).bind f := h
theorem bcP {A B : Type} {r : Option A} {f g : A → Option B} (h : ∀ v, f v = g v) : r.bind f = r.bind g := congrArg r.bind (funext h)
/-- by a written number -/
theorem ev_divC {ra : Option Int} {k : Int} (ha : EvE K ta ρ m1 ra) (h : 0 < k ∧ k.natAbs.log2 < 9000 := by decide) : EvE K (tOp (rI CDivW fun i j => .int (i / j)) ta (tC (.int k))) ρ .new (ra.bind fun x => some (x / k)) :=
  ev_arithC (rb := some k) (f := fun x y => if y = k then some (x / y) else none) (fun x y z e => by obtain ⟨rfl, e2⟩ := some_if e; exact ⟨h, e2.symm⟩) ha ev_int |>.res (by
    cases ra <;> simp)
theorem ev_modC {ra : Option Int} {k : Int} (ha : EvE K ta ρ m1 ra) (h : 0 < k := by decide) : EvE K (tOp (rI (fun _ j => 0 < j) fun i j => .int (i % j)) ta (tC (.int k))) ρ .new (ra.bind fun x => some (x % k)) :=
  ev_arithC (rb := some k) (f := fun x y => if y = k then some (x % y) else none) (fun x y z e => by obtain ⟨rfl, e2⟩ := some_if e; exact ⟨h, e2.symm⟩) ha ev_int |>.res (by
    cases ra <;> simp)
theorem ev_mulC {ra : Option Int} {k : Int} (ha : EvE K ta ρ m1 ra) (h : CMul 0 k := by first | exact .inr (by decide) | exact .inl (by decide)) (h2 : -(2 ^ 64) < k ∧ k < 2 ^ 64 := by decide) : EvE K (tOp (rI CMul fun i j => .int (i * j)) ta (tC (.int k))) ρ .new (ra.bind fun x => some (x * k)) :=
  ev_arithC (rb := some k) (f := fun x y => if y = k then some (x * y) else none) (fun x y z e => by obtain ⟨rfl, e2⟩ := some_if e; exact ⟨.inr h2, e2.symm⟩) ha ev_int |>.res (by
    cases ra <;> simp)
theorem ev_mulCl {rb : Option Int} {k : Int} (hb : EvE K tb ρ m1 rb) (h2 : -(2 ^ 64) < k ∧ k < 2 ^ 64 := by decide) : EvE K (tOp (rI CMul fun i j => .int (i * j)) (tC (.int k)) tb) ρ .new (rb.bind fun x => some (k * x)) :=
  ev_arithC (ra := some k) (f := fun x y => if x = k then some (x * y) else none) (fun x y z e => by obtain ⟨rfl, e2⟩ := some_if e; exact ⟨.inl h2, e2.symm⟩) ev_int hb |>.res (by
    cases rb <;> simp)
theorem ev_pow {a b : Int} (h : 0 ≤ b ∧ b ≤ 1000000 ∧ a.natAbs < 2 ^ 64 := by decide) : EvE K (tOp (rI CPow fun i j => .int (i ^ j.toNat)) (tC (.int a)) (tC (.int b))) ρ .new (some (a ^ b.toNat)) :=
  ev_arithC (ra := some a) (rb := some b) (f := fun x y => if x = a ∧ y = b then some (x ^ y.toNat) else none) (fun x y z e => by obtain ⟨⟨rfl, rfl⟩, e2⟩ := some_if e; exact ⟨h, e2.symm⟩) ev_int ev_int |>.res (by simp)
theorem ev_un {g : Int → Int} {ra : Option Int} (ha : EvE K ta ρ m1 ra) : EvE K (tUn (rU fun i => .int (g i)) ta) ρ .new (ra.bind fun x => some (g x)) := fun Ht C0 C H σ I z e Q q => by
  obtain ⟨x, ex, e⟩ := some_bind e
  cases e
  refine ha Ht C0 C H σ I x ex _ fun v C1 H1 x1 r1 => ?_
  rw [r1.int_]
  exact ⟨x, rfl, q _ C1 H1 x1 .ofInt⟩
theorem ev_neg {k : Int} : EvE K (tUn (rU fun i => .int (-i)) (tC (.int k))) ρ .new (some (-k)) := ev_un (ra := some k) ev_int

/-! ### tests -/
theorem et_test {r : Option Bool} (h : EvE K t ρ m r) : EvT K (tTest t) ρ r := fun Ht C0 C H σ I b e Q q =>
  h Ht C0 C H σ I b e _ fun v C' H' x rv => ⟨b, rv.bl_, q C' H' x⟩
theorem et_val {r : Option Bool} (h : EvE K t ρ m r) : EvT K (tB t) ρ r := fun Ht C0 C H σ I b e Q q =>
  h Ht C0 C H σ I b e _ fun v C' H' x rv => ⟨b, rv.bl_, q C' H' x⟩
variable {u v : TT} {ra rb : Option Bool}
theorem et_not (h : EvT K u ρ ra) : EvT K (tNot u) ρ (ra.map fun b => !b) := fun Ht C0 C H σ I b e Q q => by
  obtain ⟨c, ec, rfl⟩ := some_map e
  exact h Ht C0 C H σ I c ec _ fun C' H' x => q C' H' x
theorem et_and (h1 : EvT K u ρ ra) (h2 : EvT K v ρ rb) : EvT K (tAnd u v) ρ (ra.bind fun b => if b = true then rb else some false) := fun Ht C0 C H σ I b e Q q => by
  obtain ⟨c, ec, e⟩ := some_bind e
  refine h1 Ht C0 C H σ I c ec _ fun C' H' x => ?_
  cases c with
  | false => rw [if_neg Bool.false_ne_true] at e; cases e; exact iteF (q C' H' x)
  | true => rw [if_pos rfl] at e; exact iteT (h2 Ht C0 C' H' σ (I.to x) b e _ fun C2 H2 x2 => q C2 H2 (x.trans x2))
theorem et_or (h1 : EvT K u ρ ra) (h2 : EvT K v ρ rb) : EvT K (tOr u v) ρ (ra.bind fun b => if b = true then some true else rb) := fun Ht C0 C H σ I b e Q q => by
  obtain ⟨c, ec, e⟩ := some_bind e
  refine h1 Ht C0 C H σ I c ec _ fun C' H' x => ?_
  cases c with
  | true => rw [if_pos rfl] at e; cases e; exact iteT (q C' H' x)
  | false => rw [if_neg Bool.false_ne_true] at e; exact iteF (h2 Ht C0 C' H' σ (I.to x) b e _ fun C2 H2 x2 => q C2 H2 (x.trans x2))
theorem EvT.res {r r' : Option Bool} (h : EvT K u ρ r) (e : r' = r) : EvT K u ρ r' := e ▸ h
/-- both without a fault -/
theorem et_andP {a b : Bool} (h1 : EvT K u ρ (some a)) (h2 : EvT K v ρ (some b)) : EvT K (tAnd u v) ρ (some (a && b)) := (et_and h1 h2).res (by cases a <;> rfl)
theorem et_orP {a b : Bool} (h1 : EvT K u ρ (some a)) (h2 : EvT K v ρ (some b)) : EvT K (tOr u v) ρ (some (a || b)) := (et_or h1 h2).res (by cases a <;> rfl)
/-- as values -/
theorem ev_andV {ra rb : Option Bool} (h1 : EvE K ta ρ m1 ra) (h2 : EvE K tb ρ m2 rb) : EvE K (tAndV ta tb) ρ .new (ra.bind fun b => if b = true then rb else some false) := fun Ht C0 C H σ I b e Q q => by
  obtain ⟨c, ec, e⟩ := some_bind e
  refine h1 Ht C0 C H σ I c ec _ fun v C' H' x rv => ⟨c, rv.bl_, ?_⟩
  cases c with
  | false => rw [if_neg Bool.false_ne_true] at e; cases e; exact iteF (q _ C' H' x .ofBl)
  | true => rw [if_pos rfl] at e; exact iteT (h2 Ht C0 C' H' σ (I.to x) b e _ fun w C2 H2 x2 r2 => q w C2 H2 (x.trans x2) (Scal.ok K _ _ b w r2))
theorem ev_orV {ra rb : Option Bool} (h1 : EvE K ta ρ m1 ra) (h2 : EvE K tb ρ m2 rb) : EvE K (tOrV ta tb) ρ .new (ra.bind fun b => if b = true then some true else rb) := fun Ht C0 C H σ I b e Q q => by
  obtain ⟨c, ec, e⟩ := some_bind e
  refine h1 Ht C0 C H σ I c ec _ fun v C' H' x rv => ⟨c, rv.bl_, ?_⟩
  cases c with
  | true => rw [if_pos rfl] at e; cases e; exact iteT (q _ C' H' x .ofBl)
  | false => rw [if_neg Bool.false_ne_true] at e; exact iteF (h2 Ht C0 C' H' σ (I.to x) b e _ fun w C2 H2 x2 r2 => q w C2 H2 (x.trans x2) (Scal.ok K _ _ b w r2))
theorem ev_andVP {a b : Bool} (h1 : EvE K ta ρ m1 (some a)) (h2 : EvE K tb ρ m2 (some b)) : EvE K (tAndV ta tb) ρ .new (some (a && b)) := (ev_andV h1 h2).res (by cases a <;> rfl)
theorem ev_orVP {a b : Bool} (h1 : EvE K ta ρ m1 (some a)) (h2 : EvE K tb ρ m2 (some b)) : EvE K (tOrV ta tb) ρ .new (some (a || b)) := (ev_orV h1 h2).res (by cases a <;> rfl)
theorem ev_notV {ra : Option Bool} (h1 : EvE K ta ρ m1 ra) : EvE K (tNotV ta) ρ .new (ra.map fun b => !b) := fun Ht C0 C H σ I b e Q q => by
  obtain ⟨c, ec, rfl⟩ := some_map e
  exact h1 Ht C0 C H σ I c ec _ fun v C' H' x rv => ⟨c, rv.bl_, q _ C' H' x .ofBl⟩
/-- a if t else b -/
theorem ev_if {rc : Option Bool} {ra rb : Option α} (hc : EvT K u ρ rc) (h1 : EvE K ta ρ m ra) (h2 : EvE K tb ρ m rb) : EvE K (tIf u ta tb) ρ m (rc.bind fun c => if c = true then ra else rb) := fun Ht C0 C H σ I x e Q q => by
  obtain ⟨c, ec, e⟩ := some_bind e
  refine hc Ht C0 C H σ I c ec _ fun C' H' y => ?_
  cases c with
  | true => rw [if_pos rfl] at e; exact iteT (h1 Ht C0 C' H' σ (I.to y) x e _ fun w C2 H2 x2 r2 => q w C2 H2 (y.trans x2) r2)
  | false => rw [if_neg Bool.false_ne_true] at e; exact iteF (h2 Ht C0 C' H' σ (I.to y) x e _ fun w C2 H2 x2 r2 => q w C2 H2 (y.trans x2) r2)
/-- equal numbers, texts, bools -/
theorem ev_eqI {ra rb : Option Int} (ha : EvE K ta ρ m1 ra) (hb : EvE K tb ρ m2 rb) : EvE K (tOp rEq ta tb) ρ .new (ra.bind fun x => rb.bind fun y => some (decide (x = y))) :=
  ev_two ha hb fun Ht C H x y z v u Q s e r1 r2 q => by
    cases e
    rw [r1.int_, r2.int_]
    exact ⟨rfl, q _ C H (.refl s) (by simp only [rp, Rp.rp, Rep, V.int.injEq])⟩
theorem ev_neI {ra rb : Option Int} (ha : EvE K ta ρ m1 ra) (hb : EvE K tb ρ m2 rb) : EvE K (tOp rNe ta tb) ρ .new (ra.bind fun x => rb.bind fun y => some (decide (x ≠ y))) :=
  ev_two ha hb fun Ht C H x y z v u Q s e r1 r2 q => by
    cases e
    rw [r1.int_, r2.int_]
    exact ⟨rfl, q _ C H (.refl s) (by simp only [rp, Rp.rp, Rep, V.int.injEq, ne_eq, decide_not])⟩
theorem ev_eqS {ra rb : Option Str} (ha : EvE K ta ρ m1 ra) (hb : EvE K tb ρ m2 rb) : EvE K (tOp rEq ta tb) ρ .new (ra.bind fun x => rb.bind fun y => some (decide (x = y))) :=
  ev_two ha hb fun Ht C H x y z v u Q s e r1 r2 q => by
    cases e
    rw [r1.str_, r2.str_]
    exact ⟨rfl, q _ C H (.refl s) (by simp only [rp, Rp.rp, Rep, V.str.injEq])⟩
theorem ev_neS {ra rb : Option Str} (ha : EvE K ta ρ m1 ra) (hb : EvE K tb ρ m2 rb) : EvE K (tOp rNe ta tb) ρ .new (ra.bind fun x => rb.bind fun y => some (decide (x ≠ y))) :=
  ev_two ha hb fun Ht C H x y z v u Q s e r1 r2 q => by
    cases e
    rw [r1.str_, r2.str_]
    exact ⟨rfl, q _ C H (.refl s) (by simp only [rp, Rp.rp, Rep, V.str.injEq, ne_eq, decide_not])⟩
theorem ev_eqB {ra rb : Option Bool} (ha : EvE K ta ρ m1 ra) (hb : EvE K tb ρ m2 rb) : EvE K (tOp rEq ta tb) ρ .new (ra.bind fun x => rb.bind fun y => some (decide (x = y))) :=
  ev_two ha hb fun Ht C H x y z v u Q s e r1 r2 q => by
    cases e
    rw [r1.bl_, r2.bl_]
    exact ⟨rfl, q _ C H (.refl s) (by simp only [rp, Rp.rp, Rep, V.bl.injEq])⟩
theorem ev_neB {ra rb : Option Bool} (ha : EvE K ta ρ m1 ra) (hb : EvE K tb ρ m2 rb) : EvE K (tOp rNe ta tb) ρ .new (ra.bind fun x => rb.bind fun y => some (decide (x ≠ y))) :=
  ev_two ha hb fun Ht C H x y z v u Q s e r1 r2 q => by
    cases e
    rw [r1.bl_, r2.bl_]
    exact ⟨rfl, q _ C H (.refl s) (by simp only [rp, Rp.rp, Rep, V.bl.injEq, ne_eq, decide_not])⟩
end
end L2.DL

/-! DL3: lists, tuples, slices, comprehensions, built-ins, by data. -/
namespace L2.DL
open PySem PySem.Spec PyProof.Rows

/-- a list that Python can hold -/
@[irreducible] def lim {α : Type} (l : List α) : Option (List α) := if l.length ≤ 16777216 then some l else none
theorem lim_def {α : Type} (l : List α) : lim l = if l.length ≤ 16777216 then some l else none := by unfold lim; rfl
theorem lim_of {α : Type} {l : List α} (h : l.length ≤ 16777216) : lim l = some l := by rw [lim_def, if_pos h]
theorem of_lim {α : Type} {l r : List α} (h : lim l = some r) : l.length ≤ sizeLine ∧ r = l := by
  rw [lim_def] at h
  obtain ⟨a, b⟩ := some_if h
  exact ⟨by rw [sizeLine_eq]; exact a, b.symm⟩
def cut {α : Type} (xs : List α) (lo hi : Option Int) : List α := (xs.drop (HT.sIx xs.length 0 lo)).take (HT.sIx xs.length xs.length hi - HT.sIx xs.length 0 lo)
def rangeL (lo hi : Int) : List Int := (List.range (hi - lo).toNat).map fun (k : Nat) => lo + (k : Int)
@[irreducible] def rangeP (lo hi : Int) : Option (List Int) := if -(2 ^ 62) ≤ lo ∧ lo < 2 ^ 62 ∧ -(2 ^ 62) ≤ hi ∧ hi < 2 ^ 62 then some (rangeL lo hi) else none
theorem rangeP_def (lo hi : Int) : rangeP lo hi = if -(2 ^ 62) ≤ lo ∧ lo < 2 ^ 62 ∧ -(2 ^ 62) ≤ hi ∧ hi < 2 ^ 62 then some (rangeL lo hi) else none := by unfold rangeP; rfl
/-- all or nothing -/
def mapO {α β : Type} (f : α → Option β) : List α → Option (List β)
  | [] => some []
  | x :: xs => (f x).bind fun y => (mapO f xs).bind fun ys => some (y :: ys)
def compM {α β : Type} (p : α → Option Bool) (f : α → Option β) : List α → Option (List β)
  | [] => some []
  | x :: xs => (p x).bind fun b => if b = true then (f x).bind fun y => (compM p f xs).bind fun ys => some (y :: ys) else compM p f xs
theorem compM_map {α β : Type} {f : α → β} : ∀ xs : List α, compM (fun _ => some true) (fun x => some (f x)) xs = some (xs.map f)
  | [] => rfl
  | x :: xs => by
    simp only [compM, compM_map xs, Option.bind_some, if_true, List.map_cons]
theorem compM_mapO {α β : Type} {f : α → Option β} : ∀ xs : List α, compM (fun _ => some true) f xs = mapO f xs
  | [] => rfl
  | x :: xs => by
    simp only [compM, mapO, compM_mapO xs, Option.bind_some, if_true]
theorem compM_filter {α β : Type} {p : α → Bool} {f : α → β} : ∀ xs : List α, compM (fun x => some (p x)) (fun x => some (f x)) xs = some ((xs.filter p).map f)
  | [] => rfl
  | x :: xs => by
    cases h : p x <;> simp [compM, compM_filter xs, h]

section
variable {K : PySem.W.Frag} {t ta tb te : TE} {ρ : En} {m m1 m2 : Md}
variable {α β γ : Type} [Rp α] [Rp β] [Rp γ]
theorem rep_lst {H : Hp} {xs : List α} {v : V} (h : Rep K H (rp xs) v) : ∃ a vs, v = .ref a ∧ H a = some (.lst vs) ∧ RepL K H (rps xs) vs := by
  simp only [rp, Rp.rp, Rep] at h
  exact h
theorem rep_pair {H : Hp} {p : α × β} {v : V} (h : Rep K H (rp p) v) : ∃ a x y, v = .ref a ∧ H a = some (.tup [x, y]) ∧ Rep K H (rp p.1) x ∧ Rep K H (rp p.2) y := by
  simp only [rp, Rp.rp, Rep] at h
  obtain ⟨a, vs, e, h1, h2⟩ := h
  obtain ⟨x, r, rfl, r1, h2⟩ := h2.uncons
  obtain ⟨y, r', rfl, r2, h2⟩ := h2.uncons
  rw [h2.nil_iff] at h1
  exact ⟨a, x, y, e, h1, r1, r2⟩
theorem rep_t3 {H : Hp} {p : T3 α β γ} {v : V} (h : Rep K H (rp p) v) : ∃ a x y z, v = .ref a ∧ H a = some (.tup [x, y, z]) ∧ Rep K H (rp p.p) x ∧ Rep K H (rp p.q) y ∧ Rep K H (rp p.r) z := by
  simp only [rp, Rp.rp, Rep] at h
  obtain ⟨a, vs, e, h1, h2⟩ := h
  obtain ⟨x, r, rfl, r1, h2⟩ := h2.uncons
  obtain ⟨y, r', rfl, r2, h2⟩ := h2.uncons
  obtain ⟨z, r', rfl, r3, h2⟩ := h2.uncons
  rw [h2.nil_iff] at h1
  exact ⟨a, x, y, z, e, h1, r1, r2, r3⟩
theorem rep_tupL {H : Hp} {p : TupL α} {v : V} (h : Rep K H (rp p) v) : ∃ a vs, v = .ref a ∧ H a = some (.tup vs) ∧ RepL K H (rps p.l) vs := by
  simp only [rp, Rp.rp, Rep] at h
  exact h

/-! ### subscripts -/
theorem atI_rep {H : Hp} {xs : List α} {vs : List V} {i : Int} {x : α} (h : RepL K H (rps xs) vs) (e : atI xs i = some x) : ∃ v, atI vs i = some v ∧ Rep K H (rp x) v := by
  have hl : vs.length = xs.length := by rw [h.length, List.length_map]
  unfold atI at e ⊢
  rw [hl]
  obtain ⟨j, ej, e⟩ := some_bind e
  rw [ej]
  obtain ⟨v, e1, e2⟩ := h.get (i := j) (d := rp x) (by rw [rps, List.getElem?_map, e]; rfl)
  exact ⟨v, e1, e2⟩
theorem ev_ix {ra : Option (List α)} {rb : Option Int} (ha : EvB K ta ρ m ra) (hb : EvE K tb ρ m2 rb) : EvE K (tOp (rIxL K) ta tb) ρ m (ra.bind fun xs => rb.bind fun i => atI xs i) := fun Ht C0 C H σ I z e Q q => by
  obtain ⟨xs, ex, e⟩ := some_bind e
  obtain ⟨i, ei, e⟩ := some_bind e
  refine ha Ht C0 C H σ I xs ex _ fun a vs C1 H1 x1 h1 r1 => ?_
  refine hb Ht C0 C1 H1 σ (I.to x1) i ei _ fun u C2 H2 x2 r2 => ?_
  rw [r2.int_]
  obtain ⟨v, ev, rv⟩ := atI_rep (r1.mono (part_mono x2.c)) e
  exact ⟨a, vs, i, v, rfl, rfl, .of (x2.h _ _ h1), ev, q v C2 H2 (x1.trans x2) rv⟩
theorem ev_ixT {ra : Option (TupL α)} {rb : Option Int} (ha : EvE K ta ρ m ra) (hb : EvE K tb ρ m2 rb) : EvE K (tOp (rIxT K) ta tb) ρ m (ra.bind fun xs => rb.bind fun i => atI xs.l i) :=
  ev_two ha hb fun Ht C H x y z v u Q s e r1 r2 q => by
    obtain ⟨a, vs, rfl, h1, h2⟩ := rep_tupL r1
    rw [r2.int_]
    obtain ⟨w, ev, rv⟩ := atI_rep h2 e
    exact ⟨a, vs, y, w, rfl, rfl, .of (s _ _ (part_le _ _ h1)), ev, q w C H (.refl s) rv⟩
theorem ev_fst {ra : Option (α × β)} (ha : EvE K ta ρ m ra) : EvE K (tOp (rIxT K) ta (tC (.int 0))) ρ m (ra.map fun p => p.1) :=
  (ev_two (f := fun (p : α × β) (i : Int) => if i = 0 then some p.1 else none) ha (ev_int (i := 0)) fun Ht C H x y z v u Q s e r1 r2 q => by
    obtain ⟨rfl, rfl⟩ := some_if e
    obtain ⟨a, x1, y1, rfl, h1, h2, h3⟩ := rep_pair r1
    rw [r2.int_]
    exact ⟨a, _, 0, x1, rfl, rfl, .of (s _ _ (part_le _ _ h1)), atI_nat (j := 0) rfl, q x1 C H (.refl s) h2⟩).res (by cases ra <;> rfl)
theorem ev_snd {ra : Option (α × β)} (ha : EvE K ta ρ m ra) : EvE K (tOp (rIxT K) ta (tC (.int 1))) ρ m (ra.map fun p => p.2) :=
  (ev_two (f := fun (p : α × β) (i : Int) => if i = 1 then some p.2 else none) ha (ev_int (i := 1)) fun Ht C H x y z v u Q s e r1 r2 q => by
    obtain ⟨rfl, rfl⟩ := some_if e
    obtain ⟨a, x1, y1, rfl, h1, h2, h3⟩ := rep_pair r1
    rw [r2.int_]
    exact ⟨a, _, 1, y1, rfl, rfl, .of (s _ _ (part_le _ _ h1)), atI_nat (j := 1) rfl, q y1 C H (.refl s) h3⟩).res (by cases ra <;> rfl)
theorem ev_3a {ra : Option (T3 α β γ)} (ha : EvE K ta ρ m ra) : EvE K (tOp (rIxT K) ta (tC (.int 0))) ρ m (ra.map fun p => p.p) :=
  (ev_two (f := fun (p : T3 α β γ) (i : Int) => if i = 0 then some p.p else none) ha (ev_int (i := 0)) fun Ht C H x y z v u Q s e r1 r2 q => by
    obtain ⟨rfl, rfl⟩ := some_if e
    obtain ⟨a, x1, y1, z1, rfl, h1, h2, h3, h4⟩ := rep_t3 r1
    rw [r2.int_]
    exact ⟨a, _, 0, x1, rfl, rfl, .of (s _ _ (part_le _ _ h1)), atI_nat (j := 0) rfl, q x1 C H (.refl s) h2⟩).res (by cases ra <;> rfl)
theorem ev_3b {ra : Option (T3 α β γ)} (ha : EvE K ta ρ m ra) : EvE K (tOp (rIxT K) ta (tC (.int 1))) ρ m (ra.map fun p => p.q) :=
  (ev_two (f := fun (p : T3 α β γ) (i : Int) => if i = 1 then some p.q else none) ha (ev_int (i := 1)) fun Ht C H x y z v u Q s e r1 r2 q => by
    obtain ⟨rfl, rfl⟩ := some_if e
    obtain ⟨a, x1, y1, z1, rfl, h1, h2, h3, h4⟩ := rep_t3 r1
    rw [r2.int_]
    exact ⟨a, _, 1, y1, rfl, rfl, .of (s _ _ (part_le _ _ h1)), atI_nat (j := 1) rfl, q y1 C H (.refl s) h3⟩).res (by cases ra <;> rfl)
theorem ev_3c {ra : Option (T3 α β γ)} (ha : EvE K ta ρ m ra) : EvE K (tOp (rIxT K) ta (tC (.int 2))) ρ m (ra.map fun p => p.r) :=
  (ev_two (f := fun (p : T3 α β γ) (i : Int) => if i = 2 then some p.r else none) ha (ev_int (i := 2)) fun Ht C H x y z v u Q s e r1 r2 q => by
    obtain ⟨rfl, rfl⟩ := some_if e
    obtain ⟨a, x1, y1, z1, rfl, h1, h2, h3, h4⟩ := rep_t3 r1
    rw [r2.int_]
    exact ⟨a, _, 2, z1, rfl, rfl, .of (s _ _ (part_le _ _ h1)), atI_nat (j := 2) rfl, q z1 C H (.refl s) h4⟩).res (by cases ra <;> rfl)

/-! ### new lists and tuples -/
/-- the end of a rule that makes a new list -/
theorem new_list {Ht C H C1 H1 : Hp} {xs : List α} {vs : List V} {p : Addr} {Q : VK} (x : Ext C H C1 H1) (hp : H1 p = none) (r : RepL K (part m Ht C1) (rps xs) vs)
    (q : ∀ a vs C' H', Ext C H C' H' → H a = none → C' a = none → H' a = some (.lst vs) → RepL K (part m Ht C') (rps xs) vs → Q (.ref a) H') : Q (.ref p) (upd H1 p (.lst vs)) :=
  q p vs C1 (upd H1 p (.lst vs)) ⟨x.c, x.h.trans (same_upd hp), x.s.trans (same_upd hp), fun a h1 h2 => x.f a h1 h2⟩ (free_of x.h hp) (free_of x.s hp) upd_same r
/-- the new object joins the clean part -/
theorem new_clean {C H C1 H1 : Hp} {p : Addr} {o : HO} (x : Ext C H C1 H1) (hp : H1 p = none) : Ext C H (upd C1 p o) (upd H1 p o) :=
  ⟨x.c.trans (same_upd (free_of x.s hp)), x.h.trans (same_upd hp), fun b u e => by
    by_cases hb : b = p
    · subst hb
      rw [upd_same] at e ⊢
      exact e
    · rw [upd_ne hb] at e ⊢
      exact x.s _ _ e, fun b h1 h2 => by
    have nb : b ≠ p := fun z => by rw [z] at h1; exact h1 (free_of x.h hp)
    rw [upd_ne nb]
    exact x.f b h1 h2⟩
/-- the items of a display, from the left -/
def EvX (K : PySem.W.Frag) (t : TA) (ρ : En) (m : Md) (r : Option (List Dt)) : Prop :=
  ∀ (Ht C0 C H : Hp) (σ : St), EnvI K Ht C0 C H σ ρ → ∀ ds, r = some ds → ∀ Q : List V → Hp → Prop, (∀ vs C' H', Ext C H C' H' → RepL K (part m Ht C') ds vs → Q vs H') → t σ H Q
theorem ex_nil : EvX K tNil ρ m (some []) := fun Ht C0 C H σ I ds e Q q => by
  cases e
  exact q [] C H I.same .nil
theorem ex_cons {t : TA} {ra : Option α} {rb : Option (List Dt)} (ha : EvE K ta ρ m ra) (hb : EvX K t ρ m rb) : EvX K (tCons ta t) ρ m (ra.bind fun x => rb.bind fun ds => some (rp x :: ds)) := fun Ht C0 C H σ I ds e Q q => by
  obtain ⟨x, ex, e⟩ := some_bind e
  obtain ⟨y, ey, e⟩ := some_bind e
  cases e
  refine ha Ht C0 C H σ I x ex _ fun v C1 H1 x1 r1 => ?_
  refine hb Ht C0 C1 H1 σ (I.to x1) y ey _ fun u C2 H2 x2 r2 => ?_
  exact q (v :: u) C2 H2 (x1.trans x2) (.cons (r1.mono (part_mono x2.c)) r2)
/-- .. typed, n of them -/
def EvXs (K : PySem.W.Frag) {α : Type} [Rp α] (t : TA) (ρ : En) (m : Md) (n : Nat) (r : Option (List α)) : Prop := EvX K t ρ m (r.map rps) ∧ ∀ xs, r = some xs → xs.length = n
theorem exs_nil : EvXs K (α := α) tNil ρ m 0 (some []) := ⟨ex_nil, fun xs e => by cases e; rfl⟩
theorem exs_cons {t : TA} {n : Nat} {ra : Option α} {rb : Option (List α)} (ha : EvE K ta ρ m ra) (hb : EvXs K t ρ m n rb) : EvXs K (tCons ta t) ρ m (n + 1) (ra.bind fun x => rb.bind fun ds => some (x :: ds)) := by
  refine ⟨?_, fun xs e => ?_⟩
  · have h := ex_cons ha hb.1
    cases ra with
    | none => exact h
    | some x =>
      cases rb with
      | none => exact h
      | some y => exact h
  · obtain ⟨x, ex, e⟩ := some_bind e
    obtain ⟨y, ey, e⟩ := some_bind e
    cases e
    rw [List.length_cons, hb.2 y ey]
theorem ev_list {t : TA} {n : Nat} {r : Option (List α)} (h : EvXs K t ρ m n r) (hn : n ≤ 1000 := by decide) : EvL K (tLst t) ρ m r := fun Ht C0 C H σ I xs e Q q => by
  refine h.1 Ht C0 C H σ I (rps xs) (by rw [e]; rfl) _ fun vs C1 H1 x1 r1 => ⟨?_, fun p hp => new_list x1 hp r1 q⟩
  rw [r1.length, List.length_map, h.2 xs e]
  exact Nat.le_trans hn (by decide)
theorem ev_tup {t : TA} {r : Option (List Dt)} {rz : Option γ} (f : List Dt → γ) (h : EvX K t ρ m r) (hz : rz = r.map f) (hd : ∀ ds, r = some ds → rp (f ds) = .tup ds ∧ ds.length ≤ 1000) : EvE K (tTup t) ρ m rz := fun Ht C0 C H σ I z e Q q => by
  rw [hz] at e
  obtain ⟨ds, e2, rfl⟩ := some_map e
  refine h Ht C0 C H σ I ds e2 _ fun vs C1 H1 x1 r1 => ⟨?_, fun p hp => ?_⟩
  · rw [r1.length]
    exact Nat.le_trans (hd ds e2).2 (by decide)
  · refine q (.ref p) (upd C1 p (.tup vs)) _ (new_clean x1 hp) ?_
    rw [(hd ds e2).1]
    simp only [Rep]
    exact ⟨p, vs, rfl, part_at upd_same (free_of (I.ext.h.trans x1.h) hp), r1.mono (part_mono (same_upd (free_of x1.s hp)))⟩
theorem ev_pair {ra : Option α} {rb : Option β} (ha : EvE K ta ρ m ra) (hb : EvE K tb ρ m rb) : EvE K (tTup (tCons ta (tCons tb tNil))) ρ m (ra.bind fun x => rb.bind fun y => some (x, y)) := fun Ht C0 C H σ I z e Q q => by
  obtain ⟨x, ex, e⟩ := some_bind e
  obtain ⟨y, ey, e⟩ := some_bind e
  cases e
  refine ha Ht C0 C H σ I x ex _ fun v C1 H1 x1 r1 => ?_
  refine hb Ht C0 C1 H1 σ (I.to x1) y ey _ fun u C2 H2 x2 r2 => ⟨(by show 2 ≤ sizeLine; decide), fun p hp => ?_⟩
  refine q (.ref p) (upd C2 p (.tup [v, u])) _ (new_clean (x1.trans x2) hp) ?_
  simp only [rp, Rp.rp, Rep]
  have s2 := same_upd (o := .tup [v, u]) (free_of x2.s hp)
  exact ⟨p, _, rfl, part_at upd_same (free_of (I.ext.h.trans (x1.h.trans x2.h)) hp), .cons (r1.mono (part_mono (x2.c.trans s2))) (.cons (r2.mono (part_mono s2)) .nil)⟩
theorem ev_trip {tc : TE} {ra : Option α} {rb : Option β} {rc : Option γ} (ha : EvE K ta ρ m ra) (hb : EvE K tb ρ m rb) (hc : EvE K tc ρ m rc) : EvE K (tTup (tCons ta (tCons tb (tCons tc tNil)))) ρ m (ra.bind fun x => rb.bind fun y => rc.bind fun z => some (T3.mk x y z)) := fun Ht C0 C H σ I z e Q q => by
  obtain ⟨x, ex, e⟩ := some_bind e
  obtain ⟨y, ey, e⟩ := some_bind e
  obtain ⟨z, ez, e⟩ := some_bind e
  cases e
  refine ha Ht C0 C H σ I x ex _ fun v C1 H1 x1 r1 => ?_
  refine hb Ht C0 C1 H1 σ (I.to x1) y ey _ fun u C2 H2 x2 r2 => ?_
  refine hc Ht C0 C2 H2 σ ((I.to x1).to x2) z ez _ fun w C3 H3 x3 r3 => ⟨(by show 3 ≤ sizeLine; decide), fun p hp => ?_⟩
  refine q (.ref p) (upd C3 p (.tup [v, u, w])) _ (new_clean ((x1.trans x2).trans x3) hp) ?_
  simp only [rp, Rp.rp, Rep]
  have s3 := same_upd (o := .tup [v, u, w]) (free_of x3.s hp)
  exact ⟨p, _, rfl, part_at upd_same (free_of (I.ext.h.trans ((x1.h.trans x2.h).trans x3.h)) hp), .cons (r1.mono (part_mono ((x2.c.trans x3.c).trans s3))) (.cons (r2.mono (part_mono (x3.c.trans s3))) (.cons (r3.mono (part_mono s3)) .nil))⟩

/-! ### slices -/
theorem eo_no : EvO K tNoPart ρ (some none) := fun Ht C0 C H σ I x e Q q => by
  cases e
  exact q C H I.same
theorem eo_at {ra : Option Int} (ha : EvE K ta ρ m ra) : EvO K (tPart ta) ρ (ra.map some) := fun Ht C0 C H σ I x e Q q => by
  obtain ⟨i, ei, rfl⟩ := some_map e
  exact ha Ht C0 C H σ I i ei _ fun v C1 H1 x1 r1 => ⟨i, r1.int_, q C1 H1 x1⟩
theorem eo_atP {x : Int} (ha : EvE K ta ρ m (some x)) : EvO K (tPart ta) ρ (some (some x)) := eo_at ha
theorem cut_rep {H : Hp} {xs : List α} {vs : List V} {lo hi : Option Int} (h : RepL K H (rps xs) vs) : RepL K H (rps (cut xs lo hi)) (cutV vs lo hi) := by
  have hl : vs.length = xs.length := by rw [h.length, List.length_map]
  unfold cut cutV
  rw [hl, rps, List.map_take, List.map_drop]
  exact (h.drop _).take _
theorem ev_sl {tl th : TO} {ra : Option (List α)} {rl rh : Option (Option Int)} (ha : EvB K ta ρ m ra) (hl : EvO K tl ρ rl) (hh : EvO K th ρ rh) : EvL K (tSl (rSlL K) ta tl th) ρ m (ra.bind fun xs => rl.bind fun lo => rh.bind fun hi => some (cut xs lo hi)) := fun Ht C0 C H σ I z e Q q => by
  obtain ⟨xs, ex, e⟩ := some_bind e
  obtain ⟨lo, el, e⟩ := some_bind e
  obtain ⟨hi, eh, e⟩ := some_bind e
  cases e
  refine ha Ht C0 C H σ I xs ex _ fun a vs C1 H1 x1 h1 r1 => ?_
  refine hl Ht C0 C1 H1 σ (I.to x1) lo el _ fun C2 H2 x2 => ?_
  refine hh Ht C0 C2 H2 σ ((I.to x1).to x2) hi eh _ fun C3 H3 x3 => ?_
  exact ⟨a, vs, rfl, .of (x3.h _ _ (x2.h _ _ h1)), fun p hp => new_list ((x1.trans x2).trans x3) hp (cut_rep (r1.mono (part_mono (x2.c.trans x3.c)))) q⟩
theorem RepL.ints {H : Hp} : ∀ ns : List Int, RepL K H (rps ns) (ns.map V.int)
  | [] => .nil
  | n :: ns => .cons .ofInt (RepL.ints ns)
theorem RepL.ints_eq {H : Hp} : ∀ {ns : List Int} {vs : List V}, RepL K H (rps ns) vs → vs = ns.map V.int
  | [], vs, h => h.nil_iff
  | n :: ns, vs, h => by
    obtain ⟨v, r, rfl, h1, h2⟩ := h.uncons
    rw [h1.int_, h2.ints_eq]
    rfl
/-- of the script -/
theorem ev_slS {tl th : TO} {ra : Option Scr} {rl rh : Option (Option Int)} (ha : EvE K ta ρ m ra) (hl : EvO K tl ρ rl) (hh : EvO K th ρ rh) : EvL K (tSl (rSlL K) ta tl th) ρ .new (ra.bind fun xs => rl.bind fun lo => rh.bind fun hi => some (cut xs.l lo hi)) := fun Ht C0 C H σ I z e Q q => by
  obtain ⟨xs, ex, e⟩ := some_bind e
  obtain ⟨lo, el, e⟩ := some_bind e
  obtain ⟨hi, eh, e⟩ := some_bind e
  cases e
  refine ha Ht C0 C H σ I xs ex _ fun v C1 H1 x1 r1 => ?_
  refine hl Ht C0 C1 H1 σ (I.to x1) lo el _ fun C2 H2 x2 => ?_
  refine hh Ht C0 C2 H2 σ ((I.to x1).to x2) hi eh _ fun C3 H3 x3 => ?_
  simp only [rp, Rp.rp, Rep] at r1
  obtain ⟨a, rfl, r1⟩ := r1
  exact ⟨a, _, rfl, ((((part_le.trans x1.s).trans x2.h).trans x3.h)).seq r1, fun p hp => new_list ((x1.trans x2).trans x3) hp (cut_rep (RepL.ints xs.l)) q⟩

/-! ### + and * of lists -/
theorem ev_cat {ra rb : Option (List α)} (ha : EvB K ta ρ m ra) (hb : EvB K tb ρ m rb) : EvL K (tOp rCat ta tb) ρ m (ra.bind fun x => rb.bind fun y => lim (x ++ y)) := fun Ht C0 C H σ I z e Q q => by
  obtain ⟨x, ex, e⟩ := some_bind e
  obtain ⟨y, ey, e⟩ := some_bind e
  obtain ⟨hz, rfl⟩ := of_lim e
  refine ha Ht C0 C H σ I x ex _ fun a vs C1 H1 x1 h1 r1 => ?_
  refine hb Ht C0 C1 H1 σ (I.to x1) y ey _ fun b us C2 H2 x2 h2 r2 => ?_
  refine ⟨a, b, vs, us, rfl, rfl, x2.h _ _ h1, h2, ?_, fun p hp => new_list (x1.trans x2) hp ?_ q⟩
  · rw [r1.length, r2.length, List.length_map, List.length_map, ← List.length_append]
    exact hz
  · rw [rps, List.map_append]
    exact (r1.mono (part_mono x2.c)).append r2
/-- xs * k -/
@[irreducible] def repP {α : Type} (xs : List α) (k : Int) : Option (List α) := if -(2 ^ 63) ≤ k ∧ k < 2 ^ 63 ∧ xs.length * k.toNat ≤ 16777216 then some (List.replicate k.toNat xs).flatten else none
theorem repP_def {α : Type} (xs : List α) (k : Int) : repP xs k = if -(2 ^ 63) ≤ k ∧ k < 2 ^ 63 ∧ xs.length * k.toNat ≤ 16777216 then some (List.replicate k.toNat xs).flatten else none := by unfold repP; rfl
theorem ev_rep {ra : Option (List α)} {rb : Option Int} (ha : EvB K ta ρ m ra) (hb : EvE K tb ρ m2 rb) : EvL K (tOp rRep ta tb) ρ m (ra.bind fun x => rb.bind fun y => repP x y) := fun Ht C0 C H σ I z e Q q => by
  obtain ⟨x, ex, e⟩ := some_bind e
  obtain ⟨y, ey, e⟩ := some_bind e
  rw [repP_def] at e
  obtain ⟨⟨h1', h2', h3'⟩, rfl⟩ := some_if e
  refine ha Ht C0 C H σ I x ex _ fun a vs C1 H1 x1 h1 r1 => ?_
  refine hb Ht C0 C1 H1 σ (I.to x1) y ey _ fun b C2 H2 x2 r2 => ?_
  rw [r2.int_]
  refine ⟨a, y, vs, rfl, rfl, x2.h _ _ h1, h1', h2', ?_, fun p hp => new_list (x1.trans x2) hp ?_ q⟩
  · rw [r1.length, List.length_map, sizeLine_eq]
    exact h3'
  · rw [rps, List.map_flatten, List.map_replicate]
    exact (r1.mono (part_mono x2.c)).rep _

/-! ### built-ins -/
abbrev rLen (K : PySem.W.Frag) : List V → Hp → VK → Prop := fun xs H Q => ∃ p ys, xs = [.ref p] ∧ (SqL K H p ys ∨ SqT K H p ys) ∧ Q (.int ys.length) H
theorem ev_len {ra : Option (List α)} (ha : EvB K ta ρ m ra) : EvE K (tCB (rLen K) (tCons ta tNil)) ρ .new (ra.bind fun x => some (x.length : Int)) := fun Ht C0 C H σ I z e Q q => by
  obtain ⟨x, ex, e⟩ := some_bind e
  cases e
  refine ha Ht C0 C H σ I x ex _ fun a vs C1 H1 x1 h1 r1 => ⟨a, vs, rfl, .inl (.of h1), ?_⟩
  refine q _ C1 H1 x1 ?_
  rw [r1.length, List.length_map]
  exact .ofInt
theorem ev_lenT {ra : Option (TupL α)} (ha : EvE K ta ρ m ra) : EvE K (tCB (rLen K) (tCons ta tNil)) ρ .new (ra.bind fun x => some (x.l.length : Int)) := fun Ht C0 C H σ I z e Q q => by
  obtain ⟨x, ex, e⟩ := some_bind e
  cases e
  refine ha Ht C0 C H σ I x ex _ fun v C1 H1 x1 r1 => ?_
  obtain ⟨a, vs, rfl, h1, h2⟩ := rep_tupL r1
  refine ⟨a, vs, rfl, .inr (.of (x1.s _ _ (part_le _ _ h1))), q _ C1 H1 x1 ?_⟩
  rw [h2.length, List.length_map]
  exact .ofInt
/-- one argument, an int -/
theorem ev_one {r : List V → Hp → VK → Prop} {ra : Option α} {f : α → Option β} (ha : EvE K ta ρ m1 ra)
    (h : ∀ (Ht C H : Hp) (x : α) (y : β) (v : V) (Q : VK), Same C H → f x = some y → Rep K (part m1 Ht C) (rp x) v → (∀ w C' H', Ext C H C' H' → Rep K (part m Ht C') (rp y) w → Q w H') → r [v] H Q) :
    EvE K (tCB r (tCons ta tNil)) ρ m (ra.bind f) := fun Ht C0 C H σ I z e Q q => by
  obtain ⟨x, ex, e⟩ := some_bind e
  refine ha Ht C0 C H σ I x ex _ fun v C1 H1 x1 r1 => ?_
  exact h Ht C1 H1 x z v Q x1.s e r1 fun w C' H' x2 r2 => q w C' H' (x1.trans x2) r2
theorem ev_abs {ra : Option Int} (ha : EvE K ta ρ m1 ra) : EvE K (tCB (fun xs H Q => ∃ i, xs = [.int i] ∧ Q (.int (if i < 0 then -i else i)) H) (tCons ta tNil)) ρ .new (ra.bind fun x => some (if x < 0 then -x else x)) :=
  ev_one ha fun Ht C H x y v Q s e r q => by
    cases e
    rw [r.int_]
    exact ⟨x, rfl, q _ C H (.refl s) .ofInt⟩
theorem ev_intI {ra : Option Int} (ha : EvE K ta ρ m1 ra) : EvE K (tCB (fun xs H Q => (∃ i, xs = [.int i] ∧ Q (.int i) H) ∨ ∃ k, xs = [.bl k] ∧ Q (.int (if k then 1 else 0)) H) (tCons ta tNil)) ρ .new ra :=
  (ev_one (f := fun x => some x) ha fun Ht C H x y v Q s e r q => by
    cases e
    rw [r.int_]
    exact .inl ⟨x, rfl, q _ C H (.refl s) .ofInt⟩).res (by cases ra <;> rfl)
theorem ev_intB {ra : Option Bool} (ha : EvE K ta ρ m1 ra) : EvE K (tCB (fun xs H Q => (∃ i, xs = [.int i] ∧ Q (.int i) H) ∨ ∃ k, xs = [.bl k] ∧ Q (.int (if k then 1 else 0)) H) (tCons ta tNil)) ρ .new (ra.bind fun b => some (if b = true then (1 : Int) else 0)) :=
  ev_one ha fun Ht C H x y v Q s e r q => by
    cases e
    rw [r.bl_]
    exact .inr ⟨x, rfl, q _ C H (.refl s) .ofInt⟩
theorem ev_maxI2 {ra rb : Option Int} (ha : EvE K ta ρ m1 ra) (hb : EvE K tb ρ m2 rb) : EvE K (tCB (fun xs H Q => ∃ i j, xs = [.int i, .int j] ∧ Q (.int (if j > i then j else i)) H) (tCons ta (tCons tb tNil))) ρ .new (ra.bind fun x => rb.bind fun y => some (if y > x then y else x)) := fun Ht C0 C H σ I z e Q q => by
  obtain ⟨x, ex, e⟩ := some_bind e
  obtain ⟨y, ey, e⟩ := some_bind e
  cases e
  refine ha Ht C0 C H σ I x ex _ fun v C1 H1 x1 r1 => ?_
  refine hb Ht C0 C1 H1 σ (I.to x1) y ey _ fun u C2 H2 x2 r2 => ?_
  rw [r1.int_, r2.int_]
  exact ⟨x, y, rfl, q _ C2 H2 (x1.trans x2) .ofInt⟩
theorem ev_minI2 {ra rb : Option Int} (ha : EvE K ta ρ m1 ra) (hb : EvE K tb ρ m2 rb) : EvE K (tCB (fun xs H Q => ∃ i j, xs = [.int i, .int j] ∧ Q (.int (if j < i then j else i)) H) (tCons ta (tCons tb tNil))) ρ .new (ra.bind fun x => rb.bind fun y => some (if y < x then y else x)) := fun Ht C0 C H σ I z e Q q => by
  obtain ⟨x, ex, e⟩ := some_bind e
  obtain ⟨y, ey, e⟩ := some_bind e
  cases e
  refine ha Ht C0 C H σ I x ex _ fun v C1 H1 x1 r1 => ?_
  refine hb Ht C0 C1 H1 σ (I.to x1) y ey _ fun u C2 H2 x2 r2 => ?_
  rw [r1.int_, r2.int_]
  exact ⟨x, y, rfl, q _ C2 H2 (x1.trans x2) .ofInt⟩
/-- one argument, a list of ints, read -/
theorem ev_oneB {r : List V → Hp → VK → Prop} {ra : Option (List α)} {f : List α → Option β} (ha : EvB K ta ρ m1 ra)
    (h : ∀ (Ht C H : Hp) (x : List α) (y : β) (a : Addr) (vs : List V) (Q : VK), Same C H → f x = some y → H a = some (.lst vs) → RepL K (part m1 Ht C) (rps x) vs → (∀ w C' H', Ext C H C' H' → Rep K (part m Ht C') (rp y) w → Q w H') → r [.ref a] H Q) :
    EvE K (tCB r (tCons ta tNil)) ρ m (ra.bind f) := fun Ht C0 C H σ I z e Q q => by
  obtain ⟨x, ex, e⟩ := some_bind e
  refine ha Ht C0 C H σ I x ex _ fun a vs C1 H1 x1 h1 r1 => ?_
  exact h Ht C1 H1 x z a vs Q x1.s e h1 r1 fun w C' H' x2 r2 => q w C' H' (x1.trans x2) r2
theorem ev_sum {ra : Option (List Int)} (ha : EvB K ta ρ m1 ra) : EvE K (tCB (rSum K) (tCons ta tNil)) ρ .new (ra.bind fun x => some x.sum) :=
  ev_oneB ha fun Ht C H x y a vs Q s e h r q => by
    cases e
    rw [r.ints_eq] at h
    exact ⟨a, x, rfl, .of h, q _ C H (.refl s) .ofInt⟩
/-- the greatest, the least number of a list -/
def maxL : List Int → Option Int
  | [] => none
  | x :: xs => some (xs.foldl (fun a b => if b > a then b else a) x)
def minL : List Int → Option Int
  | [] => none
  | x :: xs => some (xs.foldl (fun a b => if b < a then b else a) x)
theorem maxL_spec {xs : List Int} {y : Int} (h : maxL xs = some y) : y ∈ xs ∧ ∀ z ∈ xs, z ≤ y := by
  cases xs with
  | nil => cases h
  | cons x xs =>
    have e : xs.foldl (fun a b => if b > a then b else a) x = y := Option.some.inj h
    have key : ∀ (l : List Int) (x : Int), l.foldl (fun a b => if b > a then b else a) x ∈ x :: l ∧ x ≤ l.foldl (fun a b => if b > a then b else a) x ∧ ∀ z ∈ l, z ≤ l.foldl (fun a b => if b > a then b else a) x := by
      intro l
      induction l with
      | nil => intro x; exact ⟨List.mem_cons_self, Int.le_refl _, fun z hz => absurd hz (by simp)⟩
      | cons b l ih =>
        intro x
        rw [List.foldl_cons]
        obtain ⟨i1, i2, i3⟩ := ih (if b > x then b else x)
        refine ⟨?_, ?_, fun z hz => ?_⟩
        · rcases List.mem_cons.mp i1 with i1 | i1
          · rw [i1]
            split
            · exact List.mem_cons_of_mem _ List.mem_cons_self
            · exact List.mem_cons_self
          · exact List.mem_cons_of_mem _ (List.mem_cons_of_mem _ i1)
        · refine Int.le_trans ?_ i2
          split <;> omega
        · rcases List.mem_cons.mp hz with rfl | hz
          · refine Int.le_trans ?_ i2
            split <;> omega
          · exact i3 z hz
    obtain ⟨k1, k2, k3⟩ := key xs x
    rw [e] at k1 k2 k3
    exact ⟨k1, fun z hz => (List.mem_cons.mp hz).elim (fun e => e ▸ k2) (k3 z)⟩
theorem minL_spec {xs : List Int} {y : Int} (h : minL xs = some y) : y ∈ xs ∧ ∀ z ∈ xs, y ≤ z := by
  cases xs with
  | nil => cases h
  | cons x xs =>
    have e : xs.foldl (fun a b => if b < a then b else a) x = y := Option.some.inj h
    have key : ∀ (l : List Int) (x : Int), l.foldl (fun a b => if b < a then b else a) x ∈ x :: l ∧ l.foldl (fun a b => if b < a then b else a) x ≤ x ∧ ∀ z ∈ l, l.foldl (fun a b => if b < a then b else a) x ≤ z := by
      intro l
      induction l with
      | nil => intro x; exact ⟨List.mem_cons_self, Int.le_refl _, fun z hz => absurd hz (by simp)⟩
      | cons b l ih =>
        intro x
        rw [List.foldl_cons]
        obtain ⟨i1, i2, i3⟩ := ih (if b < x then b else x)
        refine ⟨?_, ?_, fun z hz => ?_⟩
        · rcases List.mem_cons.mp i1 with i1 | i1
          · rw [i1]
            split
            · exact List.mem_cons_of_mem _ List.mem_cons_self
            · exact List.mem_cons_self
          · exact List.mem_cons_of_mem _ (List.mem_cons_of_mem _ i1)
        · refine Int.le_trans i2 ?_
          split <;> omega
        · rcases List.mem_cons.mp hz with rfl | hz
          · refine Int.le_trans i2 ?_
            split <;> omega
          · exact i3 z hz
    obtain ⟨k1, k2, k3⟩ := key xs x
    rw [e] at k1 k2 k3
    exact ⟨k1, fun z hz => (List.mem_cons.mp hz).elim (fun e => e ▸ k2) (k3 z)⟩
theorem ev_max {ra : Option (List Int)} (ha : EvB K ta ρ m1 ra) : EvE K (tCB (rMax K) (tCons ta tNil)) ρ .new (ra.bind maxL) :=
  ev_oneB ha fun Ht C H x y a vs Q s e h r q => by
    rw [r.ints_eq] at h
    obtain ⟨k1, k2⟩ := maxL_spec e
    refine ⟨a, x, rfl, .of h, List.length_pos_of_mem k1, fun z h1 h2 => ?_⟩
    have ez : z = y := by have := k2 z h1; have := h2 y k1; omega
    rw [ez]
    exact q _ C H (.refl s) .ofInt
theorem ev_min {ra : Option (List Int)} (ha : EvB K ta ρ m1 ra) : EvE K (tCB (rMin K) (tCons ta tNil)) ρ .new (ra.bind minL) :=
  ev_oneB ha fun Ht C H x y a vs Q s e h r q => by
    rw [r.ints_eq] at h
    obtain ⟨k1, k2⟩ := minL_spec e
    refine ⟨a, x, rfl, .of h, List.length_pos_of_mem k1, fun z h1 h2 => ?_⟩
    have ez : z = y := by have := k2 z h1; have := h2 y k1; omega
    rw [ez]
    exact q _ C H (.refl s) .ofInt
/-- list(xs): a new list -/
abbrev rListOf (K : PySem.W.Frag) : List V → Hp → VK → Prop := fun xs H Q => ∃ p ys, xs = [.ref p] ∧ (SqL K H p ys ∨ SqT K H p ys) ∧ ∀ l, H l = none → Q (.ref l) (upd H l (.lst ys))
theorem ev_listOf {ra : Option (List α)} (ha : EvB K ta ρ m ra) : EvL K (tCB (rListOf K) (tCons ta tNil)) ρ m ra := fun Ht C0 C H σ I x ex Q q => by
  refine ha Ht C0 C H σ I x ex _ fun a vs C1 H1 x1 h1 r1 => ⟨a, vs, rfl, .inl (.of h1), fun p hp => new_list x1 hp r1 q⟩
theorem ev_listOfT {ra : Option (TupL α)} (ha : EvE K ta ρ m ra) : EvL K (tCB (rListOf K) (tCons ta tNil)) ρ m (ra.map TupL.l) := fun Ht C0 C H σ I z e Q q => by
  obtain ⟨x, ex, rfl⟩ := some_map e
  refine ha Ht C0 C H σ I x ex _ fun v C1 H1 x1 r1 => ?_
  obtain ⟨a, vs, rfl, h1, h2⟩ := rep_tupL r1
  exact ⟨a, vs, rfl, .inr (.of (x1.s _ _ (part_le _ _ h1))), fun p hp => new_list x1 hp h2 q⟩
/-- tuple(xs): a new tuple -/
abbrev rTupOf (K : PySem.W.Frag) : List V → Hp → VK → Prop := fun xs H Q => ∃ p ys, xs = [.ref p] ∧ ((SqL K H p ys ∧ ∀ l, H l = none → Q (.ref l) (upd H l (.tup ys))) ∨ (SqT K H p ys ∧ Q (.ref p) H))
theorem ev_tupOf {ra : Option (List α)} (ha : EvB K ta ρ m ra) : EvE K (tCB (rTupOf K) (tCons ta tNil)) ρ m (ra.map TupL.mk) := fun Ht C0 C H σ I z e Q q => by
  obtain ⟨x, ex, rfl⟩ := some_map e
  refine ha Ht C0 C H σ I x ex _ fun a vs C1 H1 x1 h1 r1 => ⟨a, vs, rfl, .inl ⟨.of h1, fun p hp => ?_⟩⟩
  refine q (.ref p) (upd C1 p (.tup vs)) _ (new_clean x1 hp) ?_
  simp only [rp, Rp.rp, Rep]
  exact ⟨p, vs, rfl, part_at upd_same (free_of (I.ext.h.trans x1.h) hp), r1.mono (part_mono (same_upd (free_of x1.s hp)))⟩

/-! ### isinstance -/
def isTyN (n t : String) : Bool := t == n || (t == "bool" && n == "int")
def tyName : Dt → String
  | .non => "NoneType"
  | .bl _ => "bool"
  | .int _ => "int"
  | .str _ => "str"
  | .lst _ => "list"
  | .tup _ => "tuple"
  | .frz _ => "list"
def isTy (n : String) (d : Dt) : Bool := isTyN n (tyName d)
def tyNames : List String := ["NoneType", "bool", "int", "str", "list", "tuple"]
theorem tyName_in (d : Dt) : tyName d ∈ tyNames := by cases d <;> simp [tyName, tyNames]
theorem rep_ty {H H' : Hp} (hs : Same H H') : ∀ {d : Dt} {v : V}, (∀ l, d ≠ .frz l) → Rep K H d v → TyX K H' v (.type (tyName d))
  | .non, v, _, h => by simp only [Rep] at h; subst h; exact .base .non
  | .bl _, v, _, h => by simp only [Rep] at h; subst h; exact .base (.bl _)
  | .int _, v, _, h => by simp only [Rep] at h; subst h; exact .base (.int _)
  | .str _, v, _, h => by simp only [Rep] at h; subst h; exact .base (.str _)
  | .lst _, v, _, h => by
    simp only [Rep] at h
    obtain ⟨a, vs, rfl, e, _⟩ := h
    exact .base (.lst (hs _ _ e))
  | .tup _, v, _, h => by
    simp only [Rep] at h
    obtain ⟨a, vs, rfl, e, _⟩ := h
    exact .base (.tup (hs _ _ e))
  | .frz l, v, n, h => absurd rfl (n l)
def noFrz : Dt → Bool
  | .frz _ => false
  | _ => true
theorem ev_isi {n : String} {ra : Option α} (ha : EvE K ta ρ m1 ra) (hk : ∀ t ∈ tyNames, kitB t n = some (isTyN n t) := by decide +kernel) :
    EvE K (tCB (rIsi K) (tCons ta (tCons (tC (.ty n)) tNil))) ρ .new (ra.bind fun x => if noFrz (rp x) = true then some (isTy n (rp x)) else none) := fun Ht C0 C H σ I z e Q q => by
  obtain ⟨x, ex, e⟩ := some_bind e
  obtain ⟨hf, rfl⟩ := some_if e
  refine ha Ht C0 C H σ I x ex _ fun v C1 H1 x1 r1 => ?_
  refine ⟨v, .ty n, .type (tyName (rp x)), .type n, isTy n (rp x), rfl, .ty n, rep_ty (part_le.trans x1.s) (fun l e => ?_) r1, kit_ty (hk _ (tyName_in (rp x))), q _ C1 H1 x1 .ofBl⟩
  rw [e] at hf
  cases hf

/-! ### == of data -/
mutual
def toPy : Dt → PyData
  | .non => .none
  | .bl b => .bool b
  | .int i => .int i
  | .str s => .str s
  | .lst l => .list (toPyL l)
  | .tup l => .tuple (toPyL l)
  | .frz l => .list (l.map .int)
def toPyL : List Dt → List PyData
  | [] => []
  | d :: ds => toPy d :: toPyL ds
end
theorem dpInts {H : Hp} : ∀ l : List Int, DpAll K H (l.map V.int) (l.map PyData.int)
  | [] => .nil
  | i :: l => .cons (.int i) (dpInts l)
mutual
theorem rep_dp {H : Hp} : ∀ (d : Dt) (v : V), Rep K H d v → Dp K H v (toPy d)
  | .non, v, h => by simp only [Rep] at h; subst h; exact .non
  | .bl _, v, h => by simp only [Rep] at h; subst h; exact .bl _
  | .int _, v, h => by simp only [Rep] at h; subst h; exact .int _
  | .str _, v, h => by simp only [Rep] at h; subst h; exact .str _
  | .lst l, v, h => by
    simp only [Rep] at h
    obtain ⟨a, vs, rfl, e, r⟩ := h
    simp only [toPy]
    exact .lst (.of e) (rep_dpL l vs r)
  | .tup l, v, h => by
    simp only [Rep] at h
    obtain ⟨a, vs, rfl, e, r⟩ := h
    simp only [toPy]
    exact .tup (.of e) (rep_dpL l vs r)
  | .frz l, v, h => by
    simp only [Rep] at h
    obtain ⟨a, rfl, e⟩ := h
    simp only [toPy]
    exact .lst e (dpInts l)
theorem rep_dpL {H : Hp} : ∀ (ds : List Dt) (vs : List V), RepL K H ds vs → DpAll K H vs (toPyL ds)
  | [], vs, h => by rw [h.nil_iff]; exact .nil
  | d :: ds, vs, h => by
    obtain ⟨v, r, rfl, h1, h2⟩ := h.uncons
    exact .cons (rep_dp d v h1) (rep_dpL ds r h2)
end
def eqD (x y : Dt) : Option Bool := if SeqAt.shaped (toPy x) = true ∧ SeqAt.shaped (toPy y) = true then some (PyData.eqv (toPy x) (toPy y)) else none
theorem ev_eqD {ra : Option α} {rb : Option β} (ha : EvE K ta ρ m1 ra) (hb : EvE K tb ρ m2 rb) : EvE K (tOp (rEqD K) ta tb) ρ .new (ra.bind fun x => rb.bind fun y => eqD (rp x) (rp y)) :=
  ev_two ha hb fun Ht C H x y z v u Q s e r1 r2 q => by
    obtain ⟨⟨h1, h2⟩, rfl⟩ := some_if e
    exact ⟨_, _, rep_dp _ _ (r1.mono (part_le.trans s)), rep_dp _ _ (r2.mono (part_le.trans s)), h1, h2, q _ C H (.refl s) .ofBl⟩
theorem ev_neD {ra : Option α} {rb : Option β} (ha : EvE K ta ρ m1 ra) (hb : EvE K tb ρ m2 rb) : EvE K (tOp (rNeD K) ta tb) ρ .new (ra.bind fun x => rb.bind fun y => (eqD (rp x) (rp y)).map fun b => !b) :=
  ev_two ha hb fun Ht C H x y z v u Q s e r1 r2 q => by
    obtain ⟨b, eb, rfl⟩ := some_map e
    obtain ⟨⟨h1, h2⟩, rfl⟩ := some_if eb
    exact ⟨_, _, rep_dp _ _ (r1.mono (part_le.trans s)), rep_dp _ _ (r2.mono (part_le.trans s)), h1, h2, q _ C H (.refl s) .ofBl⟩
/-- .. of lists that are read -/
theorem ev_eqB' {ra : Option (List α)} {rb : Option (List β)} {neg : Bool} (ha : EvB K ta ρ m1 ra) (hb : EvB K tb ρ m2 rb) {r : R2} (hr : r = if neg then rNeD K else rEqD K) : EvE K (tOp r ta tb) ρ .new (ra.bind fun x => rb.bind fun y => (eqD (rp x) (rp y)).map fun b => b != neg) := fun Ht C0 C H σ I z e Q q => by
  obtain ⟨x, ex, e⟩ := some_bind e
  obtain ⟨y, ey, e⟩ := some_bind e
  obtain ⟨b, eb, rfl⟩ := some_map e
  obtain ⟨⟨k1, k2⟩, rfl⟩ := some_if eb
  refine ha Ht C0 C H σ I x ex _ fun a vs C1 H1 x1 h1 r1 => ?_
  refine hb Ht C0 C1 H1 σ (I.to x1) y ey _ fun c us C2 H2 x2 h2 r2 => ?_
  have d1 : Dp K H2 (.ref a) (toPy (rp x)) := by
    refine rep_dp _ _ ?_
    simp only [rp, Rp.rp, Rep]
    exact ⟨a, vs, rfl, x2.h _ _ h1, r1.mono ((part_mono x2.c).trans (part_le.trans x2.s))⟩
  have d2 : Dp K H2 (.ref c) (toPy (rp y)) := by
    refine rep_dp _ _ ?_
    simp only [rp, Rp.rp, Rep]
    exact ⟨c, us, rfl, h2, r2.mono (part_le.trans x2.s)⟩
  subst hr
  cases neg with
  | false => exact ⟨_, _, d1, d2, k1, k2, by have := q _ C2 H2 (x1.trans x2) (.ofBl (i := PyData.eqv (toPy (rp x)) (toPy (rp y)) != false)); rwa [Bool.bne_false] at this⟩
  | true => exact ⟨_, _, d1, d2, k1, k2, by have := q _ C2 H2 (x1.trans x2) (.ofBl (i := PyData.eqv (toPy (rp x)) (toPy (rp y)) != true)); rwa [Bool.bne_true] at this⟩
theorem ev_eqL {ra : Option (List α)} {rb : Option (List β)} (ha : EvB K ta ρ m1 ra) (hb : EvB K tb ρ m2 rb) : EvE K (tOp (rEqD K) ta tb) ρ .new (ra.bind fun x => rb.bind fun y => eqD (rp x) (rp y)) :=
  (ev_eqB' (neg := false) ha hb rfl).res (by cases ra <;> cases rb <;> simp)
theorem ev_neL {ra : Option (List α)} {rb : Option (List β)} (ha : EvB K ta ρ m1 ra) (hb : EvB K tb ρ m2 rb) : EvE K (tOp (rNeD K) ta tb) ρ .new (ra.bind fun x => rb.bind fun y => (eqD (rp x) (rp y)).map fun b => !b) :=
  (ev_eqB' (neg := true) ha hb rfl).res (by cases ra <;> cases rb <;> simp)
/-- is None -/
theorem ev_isN {ra : Option (Option α)} (ha : EvE K ta ρ m1 ra) (hn : ∀ H (x : α), ¬ Rep K H (rp x) .non := by intro H x; simp [rp, Rp.rp, Rep]) : EvE K (tOp (fun x y H Q => y = .non ∧ Q (.bl (decide (x = .non))) H) ta (tC .non)) ρ .new (ra.bind fun x => some x.isNone) := fun Ht C0 C H σ I z e Q q => by
  obtain ⟨x, ex, e⟩ := some_bind e
  cases e
  refine ha Ht C0 C H σ I x ex _ fun v C1 H1 x1 r1 => ⟨rfl, q _ C1 H1 x1 ?_⟩
  cases x with
  | none =>
    simp only [rp, Rp.rp, Rep] at r1 ⊢
    simp [r1]
  | some y =>
    have nv : v ≠ .non := fun z => hn (part m1 Ht C1) y (z ▸ r1)
    simp only [rp, Rp.rp, Rep]
    simp [nv]
theorem ev_notN {ra : Option (Option α)} (ha : EvE K ta ρ m1 ra) (hn : ∀ H (x : α), ¬ Rep K H (rp x) .non := by intro H x; simp [rp, Rp.rp, Rep]) : EvE K (tOp (fun x y H Q => y = .non ∧ Q (.bl (!decide (x = .non))) H) ta (tC .non)) ρ .new (ra.bind fun x => some x.isSome) := fun Ht C0 C H σ I z e Q q => by
  obtain ⟨x, ex, e⟩ := some_bind e
  cases e
  refine ha Ht C0 C H σ I x ex _ fun v C1 H1 x1 r1 => ⟨rfl, q _ C1 H1 x1 ?_⟩
  cases x with
  | none =>
    simp only [rp, Rp.rp, Rep] at r1 ⊢
    simp [r1]
  | some y =>
    have nv : v ≠ .non := fun z => hn (part m1 Ht C1) y (z ▸ r1)
    simp only [rp, Rp.rp, Rep]
    simp [nv]
/-- x in xs: ints -/
theorem eqV_int {i j : Int} : eqV (.int i) (.int j) = decide (i = j) := by
  rw [eqV]
  exact Bool.beq_eq_decide_eq ..
theorem inV_ints (i : Int) : ∀ xs : List Int, inV (.int i) (xs.map V.int) = decide (i ∈ xs)
  | [] => by simp [inV]
  | x :: xs => by
    have ih := inV_ints i xs
    unfold inV at ih ⊢
    rw [List.map_cons, List.any_cons, ih, eqV_int]
    by_cases h : x = i
    · subst h; simp
    · have h' : ¬ i = x := fun e => h e.symm
      simp [h, h']
theorem flat_ints : ∀ xs : List Int, (xs.map V.int).all flatV = true
  | [] => rfl
  | x :: xs => by rw [List.map_cons, List.all_cons, flat_ints xs]; rfl
theorem ev_inI {ra : Option Int} {rb : Option (List Int)} (ha : EvE K ta ρ m1 ra) (hb : EvB K tb ρ m2 rb) : EvE K (tOp (rIn K false) ta tb) ρ .new (ra.bind fun x => rb.bind fun xs => some (decide (x ∈ xs))) := fun Ht C0 C H σ I z e Q q => by
  obtain ⟨x, ex, e⟩ := some_bind e
  obtain ⟨y, ey, e⟩ := some_bind e
  cases e
  refine ha Ht C0 C H σ I x ex _ fun v C1 H1 x1 r1 => ?_
  refine hb Ht C0 C1 H1 σ (I.to x1) y ey _ fun c us C2 H2 x2 h2 r2 => ?_
  rw [r1.int_]
  rw [r2.ints_eq] at h2
  refine ⟨c, _, rfl, .inl (.of h2), rfl, flat_ints y, ?_⟩
  rw [inV_ints]
  exact q _ C2 H2 (x1.trans x2) .ofBl
theorem ev_ninI {ra : Option Int} {rb : Option (List Int)} (ha : EvE K ta ρ m1 ra) (hb : EvB K tb ρ m2 rb) : EvE K (tOp (rIn K true) ta tb) ρ .new (ra.bind fun x => rb.bind fun xs => some (decide (x ∉ xs))) := fun Ht C0 C H σ I z e Q q => by
  obtain ⟨x, ex, e⟩ := some_bind e
  obtain ⟨y, ey, e⟩ := some_bind e
  cases e
  refine ha Ht C0 C H σ I x ex _ fun v C1 H1 x1 r1 => ?_
  refine hb Ht C0 C1 H1 σ (I.to x1) y ey _ fun c us C2 H2 x2 h2 r2 => ?_
  rw [r1.int_]
  rw [r2.ints_eq] at h2
  refine ⟨c, _, rfl, .inl (.of h2), rfl, flat_ints y, ?_⟩
  rw [inV_ints]
  have := q _ C2 H2 (x1.trans x2) (.ofBl (i := decide (x ∉ y)))
  simpa using this
end
end L2.DL

/-! DL4: what is walked, comprehensions, statements, defs, by data. -/
namespace L2.DL
open PySem PySem.Spec PyProof.Rows

/-! ### weaker environments -/
inductive SlotW : Slot → Slot → Prop
  | id {s : Slot} : SlotW s s
  | un {s : Slot} : SlotW s .un
  | old {m : Md} {d : Dt} : SlotW (.dat m d) (.dat .old d)
  | sc {m m' : Md} {α : Type} [Rp α] [Scal α] {x : α} : SlotW (.dat m (rp x)) (.dat m' (rp x))
  | oldO {m : Md} {l : List Dt} : SlotW (.own m l) (.own .old l)
  | scO {m m' : Md} {α : Type} [Rp α] [Scal α] {x : List α} : SlotW (.own m (rps x)) (.own m' (rps x))
inductive EnvW : En → En → Prop
  | nil : EnvW [] []
  | cons {s s' : Slot} {ρ ρ' : En} : SlotW s s' → EnvW ρ ρ' → EnvW (s :: ρ) (s' :: ρ')
theorem EnvW.refl : ∀ {ρ : En}, EnvW ρ ρ
  | [] => .nil
  | _ :: _ => .cons .id EnvW.refl
theorem EnvW.at : ∀ {ρ ρ' : En} {i : Nat} {s' : Slot}, EnvW ρ ρ' → ρ'[i]? = some s' → ∃ s, ρ[i]? = some s ∧ SlotW s s'
  | _, _, i, s', .nil, e => by simp at e
  | _, _, 0, s', .cons h t, e => by
    simp at e
    subst e
    exact ⟨_, rfl, h⟩
  | _, _, i + 1, s', .cons h t, e => by
    obtain ⟨s, e1, e2⟩ := t.at (i := i) (s' := s') (by simpa using e)
    exact ⟨s, by simpa using e1, e2⟩
theorem EnvW.len : ∀ {ρ ρ' : En}, EnvW ρ ρ' → ρ.length = ρ'.length
  | _, _, .nil => rfl
  | _, _, .cons h t => by rw [List.length_cons, List.length_cons, t.len]
section
variable {K : PySem.W.Frag} {Ht C0 C H : Hp} {σ : St} {ρ ρ' : En}
theorem SlotOk.weak {o : Option (Option V)} {s s' : Slot} (w : SlotW s s') (h : SlotOk K Ht C H o s) : SlotOk K Ht C H o s' := by
  cases w with
  | id => exact h
  | un => trivial
  | old =>
    obtain ⟨v, e, r⟩ := h
    exact ⟨v, e, r.mono part_le⟩
  | sc =>
    obtain ⟨v, e, r⟩ := h
    exact ⟨v, e, Scal.ok K _ _ _ v r⟩
  | oldO =>
    obtain ⟨a, vs, e, h1, h2, h3, r⟩ := h
    exact ⟨a, vs, e, h1, h2, h3, r.mono part_le⟩
  | scO =>
    obtain ⟨a, vs, e, h1, h2, h3, r⟩ := h
    exact ⟨a, vs, e, h1, h2, h3, r.scal⟩
theorem SlotW.own {s : Slot} {m : Md} {l : List Dt} (w : SlotW s (.own m l)) : ∃ m', s = .own m' l := by
  cases w with
  | id => exact ⟨m, rfl⟩
  | oldO => exact ⟨_, rfl⟩
  | scO => exact ⟨_, rfl⟩
theorem EnvI.weak (I : EnvI K Ht C0 C H σ ρ) (w : EnvW ρ ρ') : EnvI K Ht C0 C H σ ρ' := by
  refine ⟨I.ext, I.len.trans w.len, fun i s' e => ?_, fun i j a mi li mj lj n e1 e2 e3 e4 => ?_⟩
  · obtain ⟨s, e1, w1⟩ := w.at e
    exact (I.ok i s e1).weak w1
  · obtain ⟨s1, f1, w1⟩ := w.at e1
    obtain ⟨s2, f2, w2⟩ := w.at e2
    obtain ⟨m1, rfl⟩ := w1.own
    obtain ⟨m2, rfl⟩ := w2.own
    exact I.sep i j a _ _ _ _ n f1 f2 e3 e4
end

/-! ### targets -/
def EvG (K : PySem.W.Frag) (g : TG) (m : Md) (d : Dt) (ρ ρ' : En) (vs : List Nat) : Prop :=
  ∀ (Ht C0 C H : Hp) (σ : St) (v : V), EnvI K Ht C0 C H σ ρ → Rep K (part m Ht C) d v → ∀ Q : St → Hp → Prop,
    (∀ σ', EnvI K Ht C0 C H σ' ρ' → (∀ j, j ∉ vs → σ'[j]? = σ[j]?) → σ'.length = σ.length → Q σ' H) → g v σ H Q
section
variable {K : PySem.W.Frag} {ρ ρ' ρ2 : En} {m m1 m2 : Md}
variable {α β γ : Type} [Rp α] [Rp β] [Rp γ]
theorem eg_name {i : Nat} {d : Dt} : EvG K (gName i) m d ρ (ρ.set i (.dat m d)) [i] := fun Ht C0 C H σ v I r Q q => by
  refine q _ (I.set r) (fun j hj => ?_) (List.length_set ..)
  rw [List.getElem?_set_ne (fun e => hj (by simp [e]))]
theorem eg_nameS [Scal α] {i : Nat} {x : α} : EvG K (gName i) m (rp x) ρ (ρ.set i (.dat m1 (rp x))) [i] := fun Ht C0 C H σ v I r Q q => by
  refine q _ (I.set (Scal.ok K _ _ x v r)) (fun j hj => ?_) (List.length_set ..)
  rw [List.getElem?_set_ne (fun e => hj (by simp [e]))]
theorem EvG.weak {g : TG} {d : Dt} {vs : List Nat} (h : EvG K g m d ρ ρ' vs) (w : EnvW ρ' ρ2) : EvG K g m d ρ ρ2 vs := fun Ht C0 C H σ v I r Q q =>
  h Ht C0 C H σ v I r Q fun σ' I' e1 e2 => q σ' (I'.weak w) e1 e2
/-- a, b = a pair -/
theorem eg_pair {g1 g2 : TG} {x : α × β} {v1 v2 : List Nat} (h1 : EvG K g1 m (rp x.1) ρ ρ' v1) (h2 : EvG K g2 m (rp x.2) ρ' ρ2 v2) : EvG K (gTup K 2 (gCons g1 (gCons g2 gNil))) m (rp x) ρ ρ2 (v1 ++ v2) := fun Ht C0 C H σ v I r Q q => by
  obtain ⟨a, u, w, rfl, e, r1, r2⟩ := rep_pair r
  refine ⟨a, [u, w], rfl, .of (I.sub _ _ (part_le _ _ e)), rfl, u, [w], rfl, ?_⟩
  refine h1 Ht C0 C H σ u I r1 _ fun σ1 I1 e1 l1 => ⟨w, [], rfl, ?_⟩
  refine h2 Ht C0 C H σ1 w I1 r2 _ fun σ2 I2 e2 l2 => ⟨rfl, q σ2 I2 (fun j hj => ?_) (l2.trans l1)⟩
  rw [e2 j fun z => hj (List.mem_append_right _ z), e1 j fun z => hj (List.mem_append_left _ z)]
theorem eg_trip {g1 g2 g3 : TG} {x : T3 α β γ} {ρ3 : En} {v1 v2 v3 : List Nat} (h1 : EvG K g1 m (rp x.p) ρ ρ' v1) (h2 : EvG K g2 m (rp x.q) ρ' ρ2 v2) (h3 : EvG K g3 m (rp x.r) ρ2 ρ3 v3) :
    EvG K (gTup K 3 (gCons g1 (gCons g2 (gCons g3 gNil)))) m (rp x) ρ ρ3 (v1 ++ (v2 ++ v3)) := fun Ht C0 C H σ v I r Q q => by
  obtain ⟨a, u, w, w3, rfl, e, r1, r2, r3⟩ := rep_t3 r
  refine ⟨a, [u, w, w3], rfl, .of (I.sub _ _ (part_le _ _ e)), rfl, u, [w, w3], rfl, ?_⟩
  refine h1 Ht C0 C H σ u I r1 _ fun σ1 I1 e1 l1 => ⟨w, [w3], rfl, ?_⟩
  refine h2 Ht C0 C H σ1 w I1 r2 _ fun σ2 I2 e2 l2 => ⟨w3, [], rfl, ?_⟩
  refine h3 Ht C0 C H σ2 w3 I2 r3 _ fun σ3 I3 e3 l3 => ⟨rfl, q σ3 I3 (fun j hj => ?_) (l3.trans (l2.trans l1))⟩
  rw [e3 j fun z => hj (List.mem_append_right _ (List.mem_append_right _ z)), e2 j fun z => hj (List.mem_append_right _ (List.mem_append_left _ z)), e1 j fun z => hj (List.mem_append_left _ z)]
end

/-! ### what is walked -/
structure ItOk (K : PySem.W.Frag) (J : It) (Ht Ci : Hp) (m : Md) (ds : List Dt) : Prop where
  go : ∀ (i : Nat) (C H : Hp) (d : Dt), ds[i]? = some d → Same Ci C → Same C H → Same Ht H → J.go i H ∧ ∀ x H', J.yld i H x H' → ∃ C', Ext C H C' H' ∧ Rep K (part m Ht C') d x
  stop : ∀ (C H : Hp), Same Ci C → Same C H → J.stop ds.length H
def EvI (K : PySem.W.Frag) {α : Type} [Rp α] (w : TI) (ρ : En) (m : Md) (r : Option (List α)) : Prop :=
  ∀ (Ht C0 C H : Hp) (σ : St), EnvI K Ht C0 C H σ ρ → ∀ xs, r = some xs → ∀ R : It → Hp → Prop, (∀ J C' H', Ext C H C' H' → ItOk K J Ht C' m (rps xs) → R J H') → w σ H R
section
variable {K : PySem.W.Frag} {ta tb : TE} {ρ : En} {m m1 m2 : Md}
variable {α β γ : Type} [Rp α] [Rp β] [Rp γ]
theorem ei_list {ra : Option (List α)} (ha : EvE K ta ρ m ra) : EvI K (iList K ta) ρ m ra := fun Ht C0 C H σ I xs ex R q => by
  refine ha Ht C0 C H σ I xs ex _ fun v C1 H1 x1 r1 => ?_
  obtain ⟨a, vs, rfl, e, r⟩ := rep_lst r1
  have ec : C1 a = some (.lst vs) := part_le _ _ e
  refine ⟨a, rfl, ⟨vs, .of (x1.s _ _ ec)⟩, q _ C1 H1 x1 ⟨fun i C2 H2 d ed hc hs _ => ?_, fun C2 H2 hc hs => ⟨vs, .of (hs _ _ (hc _ _ ec)), ?_⟩⟩⟩
  · obtain ⟨u, eu, ru⟩ := r.get ed
    have s2 : SqL K H2 a vs := .of (hs _ _ (hc _ _ ec))
    refine ⟨⟨vs, u, s2, eu⟩, fun x H' y => ?_⟩
    obtain ⟨rfl, y⟩ := y
    have e2 := y vs s2
    rw [eu] at e2
    cases e2
    exact ⟨C2, .refl hs, ru.mono (part_mono hc)⟩
  · rw [r.length]
    exact Nat.le_refl _
theorem ei_tup {ra : Option (TupL α)} (ha : EvE K ta ρ m ra) : EvI K (iTup K ta) ρ m (ra.map TupL.l) := fun Ht C0 C H σ I xs ex R q => by
  obtain ⟨t, et, rfl⟩ := some_map ex
  refine ha Ht C0 C H σ I t et _ fun v C1 H1 x1 r1 => ?_
  obtain ⟨a, vs, rfl, e, r⟩ := rep_tupL r1
  have ec : C1 a = some (.tup vs) := part_le _ _ e
  refine ⟨a, rfl, ⟨vs, .of (x1.s _ _ ec)⟩, q _ C1 H1 x1 ⟨fun i C2 H2 d ed hc hs _ => ?_, fun C2 H2 hc hs => ⟨vs, .of (hs _ _ (hc _ _ ec)), ?_⟩⟩⟩
  · obtain ⟨u, eu, ru⟩ := r.get ed
    have s2 : SqT K H2 a vs := .of (hs _ _ (hc _ _ ec))
    refine ⟨⟨vs, u, s2, eu⟩, fun x H' y => ?_⟩
    obtain ⟨rfl, y⟩ := y
    have e2 := y vs s2
    rw [eu] at e2
    cases e2
    exact ⟨C2, .refl hs, ru.mono (part_mono hc)⟩
  · rw [r.length]
    exact Nat.le_refl _
theorem rangeL_length (lo hi : Int) : (rangeL lo hi).length = (hi - lo).toNat := by simp [rangeL]
theorem rangeL_get {lo hi : Int} {i : Nat} {d : Dt} (h : (rps (rangeL lo hi))[i]? = some d) : i < (hi - lo).toNat ∧ d = .int (lo + i) := by
  have hl : i < (rps (rangeL lo hi)).length := (List.getElem?_eq_some_iff.mp h).1
  rw [List.length_map, rangeL_length] at hl
  refine ⟨hl, ?_⟩
  rw [rps, rangeL, List.map_map, List.getElem?_map, List.getElem?_range hl] at h
  exact (Option.some.inj h).symm
theorem it_range {Ht C : Hp} {lo hi : Int} : ItOk K (Itr lo (hi - lo).toNat) Ht C m (rps (rangeL lo hi)) := by
  refine ⟨fun i C2 H2 d ed hc hs _ => ?_, fun C2 H2 hc hs => ?_⟩
  · obtain ⟨hi', rfl⟩ := rangeL_get ed
    refine ⟨hi', fun x H' y => ?_⟩
    obtain ⟨rfl, rfl⟩ := y
    exact ⟨C2, .refl hs, by simp only [Rep]⟩
  · show _ ≤ _
    rw [List.length_map, rangeL_length]
    exact Nat.le_refl _
theorem ei_range1 {ra : Option Int} (ha : EvE K ta ρ m1 ra) : EvI K (iRng1 (tCons ta tNil)) ρ .new (ra.bind fun n => rangeP 0 n) := fun Ht C0 C H σ I xs ex R q => by
  obtain ⟨n, en, ex⟩ := some_bind ex
  rw [rangeP_def] at ex
  obtain ⟨⟨h1, h2, h3, h4⟩, rfl⟩ := some_if ex
  refine ha Ht C0 C H σ I n en _ fun v C1 H1 x1 r1 => ?_
  rw [r1.int_]
  refine ⟨n, rfl, h3, h4, q _ C1 H1 x1 ?_⟩
  have := it_range (K := K) (m := .new) (Ht := Ht) (C := C1) (lo := 0) (hi := n)
  rwa [Int.sub_zero] at this
theorem ei_range2 {ra rb : Option Int} (ha : EvE K ta ρ m1 ra) (hb : EvE K tb ρ m2 rb) : EvI K (iRng2 (tCons ta (tCons tb tNil))) ρ .new (ra.bind fun l => rb.bind fun n => rangeP l n) := fun Ht C0 C H σ I xs ex R q => by
  obtain ⟨l, el, ex⟩ := some_bind ex
  obtain ⟨n, en, ex⟩ := some_bind ex
  rw [rangeP_def] at ex
  obtain ⟨⟨h1, h2, h3, h4⟩, rfl⟩ := some_if ex
  refine ha Ht C0 C H σ I l el _ fun v C1 H1 x1 r1 => ?_
  refine hb Ht C0 C1 H1 σ (I.to x1) n en _ fun u C2 H2 x2 r2 => ?_
  rw [r1.int_, r2.int_]
  exact ⟨l, n, rfl, ⟨h1, h2, h3, h4⟩, q _ C2 H2 (x1.trans x2) it_range⟩
theorem EvI.sc [Scal α] {w : TI} {r : Option (List α)} (h : EvI K w ρ m r) : EvI K w ρ m1 r := fun Ht C0 C H σ I xs ex R q =>
  h Ht C0 C H σ I xs ex R fun J C' H' x ok => q J C' H' x ⟨fun i C2 H2 d ed hc hs ht => by
    obtain ⟨g, y⟩ := ok.go i C2 H2 d ed hc hs ht
    refine ⟨g, fun x H3 hy => ?_⟩
    obtain ⟨C3, x3, r3⟩ := y x H3 hy
    refine ⟨C3, x3, ?_⟩
    rw [rps, List.getElem?_map] at ed
    obtain ⟨z, _, rfl⟩ := some_map ed
    exact Scal.ok K _ _ z x r3, ok.stop⟩
theorem EvI.res {w : TI} {r r' : Option (List α)} (h : EvI K w ρ m r) (e : r' = r) : EvI K w ρ m r' := e ▸ h
end

/-! ### comprehensions -/
def wipeE (ρ : En) : List Nat → En
  | [] => ρ
  | v :: vs => (wipeE ρ vs).set v .un
section
variable {K : PySem.W.Frag} {Ht C0 C H : Hp} {σ : St} {ρ : En}
theorem wipeE_at : ∀ {vs : List Nat} {i : Nat} {s : Slot}, (wipeE ρ vs)[i]? = some s → s = .un ∨ (i ∉ vs ∧ ρ[i]? = some s)
  | [], i, s, h => .inr ⟨by simp, h⟩
  | v :: vs, i, s, h => by
    rcases get_set h with ⟨rfl, rfl⟩ | ⟨n, h⟩
    · exact .inl rfl
    · rcases wipeE_at h with rfl | ⟨h1, h2⟩
      · exact .inl rfl
      · exact .inr ⟨fun z => (List.mem_cons.mp z).elim n h1, h2⟩
theorem wipeE_length : ∀ vs : List Nat, (wipeE ρ vs).length = ρ.length
  | [] => rfl
  | v :: vs => by unfold wipeE; rw [List.length_set, wipeE_length vs]
theorem EnvI.wipe (I : EnvI K Ht C0 C H σ ρ) (vs : List Nat) : EnvI K Ht C0 C H (wipe σ vs) (wipeE ρ vs) := by
  refine I.forget (by rw [wipe_length, wipeE_length]; exact I.len) fun i s e => ?_
  rcases wipeE_at e with rfl | ⟨h1, h2⟩
  · exact .inl rfl
  · exact .inr ⟨h2, wipe_out h1⟩
theorem wipe_in : ∀ {vs : List Nat} {i : Nat}, i ∈ vs → (wipe σ vs)[i]? = if i < σ.length then some none else none
  | v :: vs, i, h => by
    unfold L2.wipe
    by_cases e : v = i
    · subst e
      by_cases hv : v < σ.length
      · rw [List.getElem?_set_self (by rw [wipe_length]; exact hv), if_pos hv]
      · rw [List.getElem?_eq_none (by rw [List.length_set, wipe_length]; omega), if_neg hv]
    · rw [List.getElem?_set_ne e]
      exact wipe_in ((List.mem_cons.mp h).elim (fun z => absurd z.symm e) id)
theorem wipe_eq {σ' : St} {vs : List Nat} (h : ∀ j, j ∉ vs → σ'[j]? = (wipe σ vs)[j]?) (hl : σ'.length = σ.length) : wipe σ' vs = wipe σ vs := by
  refine List.ext_getElem? fun i => ?_
  by_cases hi : i ∈ vs
  · rw [wipe_in hi, wipe_in hi, hl]
  · rw [wipe_out hi, h i hi]
end
section
variable {K : PySem.W.Frag} {te : TE} {ρ : En} {m mi : Md} {w : TI} {g : TG} {tt : TT}
variable {α β γ : Type} [Rp α] [Rp β] [Rp γ]
theorem et_yes : EvT K tYes ρ (some true) := fun Ht C0 C H σ I b e Q q => by
  cases e
  exact q C H I.same
theorem ev_lc {vs : List Nat} {rx : Option (List α)} {p : α → Option Bool} {f : α → Option β} {Eb : α → En} (hi : EvI K w ρ mi rx) (hg : ∀ x, EvG K g mi (rp x) (wipeE ρ vs) (Eb x) vs)
    (ht : ∀ x, EvT K tt (Eb x) (p x)) (he : ∀ x, EvE K te (Eb x) m (f x)) : EvL K (tLc w g tt te vs) ρ m (rx.bind fun xs => (compM p f xs).bind lim) := fun Ht C0 C H σ I z e Q q => by
  obtain ⟨xs, ex, e⟩ := some_bind e
  obtain ⟨all, ea, e⟩ := some_bind e
  obtain ⟨hz, rfl⟩ := of_lim e
  refine hi Ht C0 C H σ I xs ex _ fun J C1 H1 x1 ok => fun D hD => ?_
  refine ⟨fun i n Hc => n = xs.length - i ∧ i ≤ xs.length ∧ ∃ Cc ys acc rest, Ext C1 H1 Cc Hc ∧ Cc D = none ∧ Hc D = some (.lst acc) ∧ RepL K (part m Ht Cc) (rps ys) acc ∧ compM p f (xs.drop i) = some rest ∧ ys ++ rest = z,
    ⟨xs.length, rfl, Nat.zero_le _, C1, [], [], z, ⟨.refl _, same_upd hD, x1.s.trans (same_upd hD), fun a _ h => h⟩, free_of x1.s hD, upd_same, .nil, ea, rfl⟩, ?_⟩
  rintro i n Hc ⟨rfl, hi', Cc, ys, acc, rest, xc, cD, hDc, ra, er, eq⟩
  by_cases hlt : i < xs.length
  · have ed : (rps xs)[i]? = some (rp xs[i]) := by rw [rps, List.getElem?_map, List.getElem?_eq_getElem hlt]; rfl
    obtain ⟨go, yl⟩ := ok.go i Cc Hc _ ed xc.c xc.s (I.ext.h.trans (x1.h.trans xc.h))
    refine .inr ⟨go, fun H' => ∃ Cc ys acc rest, Ext C1 H1 Cc H' ∧ Cc D = none ∧ H' D = some (.lst acc) ∧ RepL K (part m Ht Cc) (rps ys) acc ∧ compM p f (xs.drop (i + 1)) = some rest ∧ ys ++ rest = z,
      fun H' h => ⟨xs.length - (i + 1), by omega, rfl, hlt, h⟩, fun x H' hy => ?_⟩
    obtain ⟨C2, x2, r2⟩ := yl x H' hy
    have dn : Hc D ≠ none := by rw [hDc]; simp
    rw [List.drop_eq_getElem_cons hlt] at er
    obtain ⟨b, eb, er⟩ := some_bind er
    have I2 := ((I.to x1).to (xc.trans x2)).wipe vs
    refine hg xs[i] Ht C0 C2 H' (wipe σ vs) x I2 r2 _ fun σ3 I3 e3 l3 => ⟨wipe_eq e3 (l3.trans (wipe_length _ _)), ?_⟩
    refine ht xs[i] Ht C0 C2 H' σ3 I3 b eb _ fun C4 H4 x4 => ?_
    have xa := (xc.trans x2).trans x4
    cases b with
    | false =>
      rw [if_neg Bool.false_ne_true] at er
      exact iteF ⟨C4, ys, acc, rest, xa, x4.f D (Same.ne x2.h dn) (x2.f D dn cD), x4.h _ _ (x2.h _ _ hDc), ra.mono (part_mono (x2.c.trans x4.c)), er, eq⟩
    | true =>
      rw [if_pos rfl] at er
      obtain ⟨y, ey, er⟩ := some_bind er
      obtain ⟨rest', er', er⟩ := some_bind er
      cases er
      refine iteT (he xs[i] Ht C0 C4 H4 σ3 (I3.to x4) y ey _ fun v C5 H5 x5 r5 => ?_)
      have xb := xa.trans x5
      have hl : acc.length < sizeLine := by
        rw [ra.length, List.length_map]
        have hzz := hz
        rw [← eq, List.length_append, List.length_cons] at hzz
        omega
      refine ⟨acc, x5.h _ _ (x4.h _ _ (x2.h _ _ hDc)), hl, C5, ys ++ [y], acc ++ [v], rest', ⟨xb.c, fun a o ha => ?_, fun a o ha => ?_, xb.f⟩, ?_, upd_same, ?_, er', by rw [← eq, List.append_assoc]; rfl⟩
      · rw [upd_ne (ne_of_none ha hD)]
        exact xb.h _ _ ha
      · have c5 : C5 D = none := x5.f D (Same.ne x4.h (Same.ne x2.h dn)) (x4.f D (Same.ne x2.h dn) (x2.f D dn cD))
        rw [upd_ne (ne_of_none ha c5)]
        exact xb.s _ _ ha
      · exact x5.f D (Same.ne x4.h (Same.ne x2.h dn)) (x4.f D (Same.ne x2.h dn) (x2.f D dn cD))
      · rw [rps, List.map_append]
        exact (ra.mono (part_mono ((x2.c.trans x4.c).trans x5.c))).append (.cons r5 .nil)
  · have hie : i = xs.length := by omega
    subst hie
    rw [List.drop_length] at er
    cases er
    rw [List.append_nil] at eq
    subst eq
    have st := ok.stop Cc Hc xc.c xc.s
    rw [List.length_map] at st
    refine .inl ⟨st, q D acc Cc Hc (x1.trans xc) (free_of x1.h hD) cD hDc ra⟩
/-- .. its plain forms -/
theorem ev_lcM {vs : List Nat} {rx : Option (List α)} {f : α → β} {Eb : α → En} (hi : EvI K w ρ mi rx) (hg : ∀ x, EvG K g mi (rp x) (wipeE ρ vs) (Eb x) vs) (he : ∀ x, EvE K te (Eb x) m (some (f x))) :
    EvL K (tLc w g tYes te vs) ρ m (rx.bind fun xs => lim (xs.map f)) :=
  (ev_lc (p := fun _ => some true) (f := fun x => some (f x)) hi hg (fun _ => et_yes) he).res (by cases rx <;> simp [compM_map])
theorem ev_lcO {vs : List Nat} {rx : Option (List α)} {f : α → Option β} {Eb : α → En} (hi : EvI K w ρ mi rx) (hg : ∀ x, EvG K g mi (rp x) (wipeE ρ vs) (Eb x) vs) (he : ∀ x, EvE K te (Eb x) m (f x)) :
    EvL K (tLc w g tYes te vs) ρ m (rx.bind fun xs => (mapO f xs).bind lim) :=
  (ev_lc (p := fun _ => some true) hi hg (fun _ => et_yes) he).res (by cases rx <;> simp [compM_mapO])
theorem ev_lcF {vs : List Nat} {rx : Option (List α)} {p : α → Bool} {f : α → β} {Eb : α → En} (hi : EvI K w ρ mi rx) (hg : ∀ x, EvG K g mi (rp x) (wipeE ρ vs) (Eb x) vs) (ht : ∀ x, EvT K tt (Eb x) (some (p x))) (he : ∀ x, EvE K te (Eb x) m (some (f x))) :
    EvL K (tLc w g tt te vs) ρ m (rx.bind fun xs => lim ((xs.filter p).map f)) :=
  (ev_lc (p := fun x => some (p x)) (f := fun x => some (f x)) hi hg ht he).res (by cases rx <;> simp [compM_filter])
end

/-! ### statements -/
section
variable (K : PySem.W.Frag)
/-- what holds at every state of an environment, later -/
def Thn (Ht C0 C : Hp) (ρ : En) (P : St → Hp → Prop) : Prop := ∀ C' H' σ', EnvI K Ht C0 C' H' σ' ρ → Same C C' → P σ' H'
/-- a statement goes on -/
def EvN {S : Type} (t : TS) (ρ : En) (E : S → En) (o : Option S) : Prop :=
  ∀ (Ht C0 C H : Hp) (σ : St), EnvI K Ht C0 C H σ ρ → ∀ s, o = some s → ∀ D : Ends, Thn K Ht C0 C (E s) D.nx → t D σ H
/-- .. returns -/
def EvR {R : Type} [Rp R] (t : TS) (ρ : En) (m : Md) (o : Option R) : Prop :=
  ∀ (Ht C0 C H : Hp) (σ : St), EnvI K Ht C0 C H σ ρ → ∀ r, o = some r → ∀ D : Ends, (∀ v C' H', Ext C0 Ht C' H' → Rep K (part m Ht C') (rp r) v → D.rt v H') → t D σ H
end
/-- where a statement leads: on, out of the loop, to its next turn, back -/
inductive Fl (S T R : Type) where
  | nx (s : S) | bk (t : T) | ct (t : T) | rt (r : R)
def FlOk (K : PySem.W.Frag) {S T R : Type} [Rp R] (Ht C0 C : Hp) (E : S → En) (L : T → En) (m : Md) (D : Ends) : Fl S T R → Prop
  | .nx s => Thn K Ht C0 C (E s) D.nx
  | .bk s => Thn K Ht C0 C (L s) D.bk
  | .ct s => Thn K Ht C0 C (L s) D.ct
  | .rt r => ∀ v C' H', Ext C0 Ht C' H' → Rep K (part m Ht C') (rp r) v → D.rt v H'
/-- .. any of these -/
def EvF (K : PySem.W.Frag) {S T R : Type} [Rp R] (t : TS) (ρ : En) (E : S → En) (L : T → En) (m : Md) (o : Option (Fl S T R)) : Prop :=
  ∀ (Ht C0 C H : Hp) (σ : St), EnvI K Ht C0 C H σ ρ → ∀ f, o = some f → ∀ D : Ends, FlOk K Ht C0 C E L m D f → t D σ H
def Fl.seq {S S2 T R : Type} (o : Option (Fl S T R)) (f : S → Option (Fl S2 T R)) : Option (Fl S2 T R) := o.bind fun x => match x with
  | .nx s => f s
  | .bk s => some (.bk s)
  | .ct s => some (.ct s)
  | .rt r => some (.rt r)
/-- a loop's turns, that may leave -/
def forL {α S T R : Type} (f : S → α → Option (Fl S S R)) : List α → S → Option (Fl S T R)
  | [], s => some (.nx s)
  | x :: xs, s => (f s x).bind fun o => match o with
    | .nx s' => forL f xs s'
    | .ct s' => forL f xs s'
    | .bk s' => some (.nx s')
    | .rt r => some (.rt r)
def whileL {S T R : Type} (c : S → Option Bool) (f : S → Option (Fl S S R)) : Nat → S → Option (Fl S T R)
  | 0, _ => none
  | n + 1, s => (c s).bind fun b => if b = true then (f s).bind fun o => match o with
    | .nx s' => whileL c f n s'
    | .ct s' => whileL c f n s'
    | .bk s' => some (.nx s')
    | .rt r => some (.rt r)
    else some (.nx s)
def whileN {S : Type} (c : S → Option Bool) (f : S → Option S) : Nat → S → Option S
  | 0, _ => none
  | n + 1, s => (c s).bind fun b => if b = true then (f s).bind fun s' => whileN c f n s' else some s
/-- what comes behind a statement that may have returned -/
def Fl.ret {S T R : Type} (o : Option (Fl S T R)) (f : S → Option R) : Option R := o.bind fun x => match x with
  | .nx s => f s
  | .rt r => some r
  | _ => none

section
variable {K : PySem.W.Frag} {t u v : TS} {te ta tb : TE} {ρ ρ' : En} {m m1 m2 mi : Md} {S S2 T R : Type} [Rp R] {E : S → En} {E2 : S2 → En} {L : T → En}
variable {α β γ : Type} [Rp α] [Rp β] [Rp γ]
theorem Thn.next {Ht C0 C C1 : Hp} {P : St → Hp → Prop} (h : Thn K Ht C0 C ρ P) (s : Same C C1) : Thn K Ht C0 C1 ρ P := fun C' H' σ' I s' => h C' H' σ' I (s.trans s')
theorem Thn.wk {Ht C0 C : Hp} {P : St → Hp → Prop} (h : Thn K Ht C0 C ρ' P) (w : EnvW ρ ρ') : Thn K Ht C0 C ρ P := fun C' H' σ' I s' => h C' H' σ' (I.weak w) s'

theorem EvN.weakL {o : Option S} (h : EvN K t ρ' E o) (w : EnvW ρ ρ') : EvN K t ρ E o := fun Ht C0 C H σ I => h Ht C0 C H σ (I.weak w)
theorem EvR.weakL {o : Option R} (h : EvR K t ρ' m o) (w : EnvW ρ ρ') : EvR K t ρ m o := fun Ht C0 C H σ I => h Ht C0 C H σ (I.weak w)
theorem EvF.weakL {o : Option (Fl S T R)} (h : EvF K t ρ' E L m o) (w : EnvW ρ ρ') : EvF K t ρ E L m o := fun Ht C0 C H σ I => h Ht C0 C H σ (I.weak w)
theorem EvN.res {o o' : Option S} (h : EvN K t ρ E o) (e : o' = o) : EvN K t ρ E o' := e ▸ h
theorem EvR.res {o o' : Option R} (h : EvR K t ρ m o) (e : o' = o) : EvR K t ρ m o' := e ▸ h
theorem EvF.res {o o' : Option (Fl S T R)} (h : EvF K t ρ E L m o) (e : o' = o) : EvF K t ρ E L m o' := e ▸ h
/-- to another form of the environment -/
theorem EvN.to {o : Option S} (h : EvN K t ρ E o) (f : S → S2) (w : ∀ s, EnvW (E s) (E2 (f s))) : EvN K t ρ E2 (o.map f) := fun Ht C0 C H σ I s e D q => by
  obtain ⟨s', es, rfl⟩ := some_map e
  exact h Ht C0 C H σ I s' es D (q.wk (w s'))
/-- a list held becomes a datum -/
theorem freeze_same {Ht C0 C H : Hp} {σ : St} (I : EnvI K Ht C0 C H σ ρ) {i : Nat} {m : Md} {l : List Dt} (hi : ρ[i]? = some (.own m l)) : ∃ C', EnvI K Ht C0 C' H σ (ρ.set i (.dat m (.lst l))) ∧ Same C C' := I.freeze hi
theorem EvN.frz {o : Option S} {i : Nat} {l : List Dt} (h : EvN K t (ρ.set i (.dat m (.lst l))) E o) (hi : ρ[i]? = some (.own m l) := by rfl) : EvN K t ρ E o := fun Ht C0 C H σ I s e D q => by
  obtain ⟨C', I', s'⟩ := freeze_same I hi
  exact h Ht C0 C' H σ I' s e D (q.next s')
theorem EvR.frz {o : Option R} {i : Nat} {l : List Dt} (h : EvR K t (ρ.set i (.dat m1 (.lst l))) m o) (hi : ρ[i]? = some (.own m1 l) := by rfl) : EvR K t ρ m o := fun Ht C0 C H σ I => by
  obtain ⟨C', I', s'⟩ := freeze_same I hi
  exact h Ht C0 C' H σ I'
theorem EvF.frz {o : Option (Fl S T R)} {i : Nat} {l : List Dt} (h : EvF K t (ρ.set i (.dat m1 (.lst l))) E L m o) (hi : ρ[i]? = some (.own m1 l) := by rfl) : EvF K t ρ E L m o := fun Ht C0 C H σ I f e D q => by
  obtain ⟨C', I', s'⟩ := freeze_same I hi
  refine h Ht C0 C' H σ I' f e D ?_
  cases f with
  | nx s => exact Thn.next q s'
  | bk s => exact Thn.next q s'
  | ct s => exact Thn.next q s'
  | rt r => exact q
/-- between the forms -/
theorem EvN.F {o : Option S} (h : EvN K t ρ E o) : EvF K t ρ E L m (o.map Fl.nx : Option (Fl S T R)) := fun Ht C0 C H σ I f e D q => by
  obtain ⟨s, es, rfl⟩ := some_map e
  exact h Ht C0 C H σ I s es D q
theorem EvR.F {o : Option R} (h : EvR K t ρ m o) : EvF K t ρ E L m (o.map Fl.rt : Option (Fl S T R)) := fun Ht C0 C H σ I f e D q => by
  obtain ⟨s, es, rfl⟩ := some_map e
  exact h Ht C0 C H σ I s es D q
/-- a body's end -/
theorem en_nil : EvN K tNext ρ (fun _ : Unit => ρ) (some ()) := fun Ht C0 C H σ I s e D q => q C H σ I (.refl _)
theorem en_end {s : S} (w : EnvW ρ (E s)) : EvN K tNext ρ E (some s) := fun Ht C0 C H σ I s' e D q => by
  cases e
  exact q C H σ (I.weak w) (.refl _)
theorem ef_end {s : S} (w : EnvW ρ (E s)) : EvF K tNext ρ E L m (some (.nx s : Fl S T R)) := fun Ht C0 C H σ I s' e D q => by
  cases e
  exact q C H σ (I.weak w) (.refl _)
theorem ef_bk {s : T} (w : EnvW ρ (L s)) : EvF K tBreak ρ E L m (some (.bk s : Fl S T R)) := fun Ht C0 C H σ I s' e D q => by
  cases e
  exact q C H σ (I.weak w) (.refl _)
theorem ef_ct {s : T} (w : EnvW ρ (L s)) : EvF K tCont ρ E L m (some (.ct s : Fl S T R)) := fun Ht C0 C H σ I s' e D q => by
  cases e
  exact q C H σ (I.weak w) (.refl _)
/-- one after the other -/
theorem en_seq {o : Option S} {f : S → Option S2} (h1 : EvN K t ρ E o) (h2 : ∀ s, EvN K u (E s) E2 (f s)) : EvN K (tSeq t u) ρ E2 (o.bind f) := fun Ht C0 C H σ I s e D q => by
  obtain ⟨s1, e1, e⟩ := some_bind e
  exact h1 Ht C0 C H σ I s1 e1 _ fun C' H' σ' I' s' => h2 s1 Ht C0 C' H' σ' I' s e D (q.next s')
theorem er_seq {o : Option S} {f : S → Option R} (h1 : EvN K t ρ E o) (h2 : ∀ s, EvR K u (E s) m (f s)) : EvR K (tSeq t u) ρ m (o.bind f) := fun Ht C0 C H σ I s e D q => by
  obtain ⟨s1, e1, e⟩ := some_bind e
  exact h1 Ht C0 C H σ I s1 e1 _ fun C' H' σ' I' _ => h2 s1 Ht C0 C' H' σ' I' s e D q
theorem er_seqF {o : Option (Fl S T R)} {f : S → Option R} (h1 : EvF K t ρ E L m o) (h2 : ∀ s, EvR K u (E s) m (f s)) : EvR K (tSeq t u) ρ m (Fl.ret o f) := fun Ht C0 C H σ I s e D q => by
  obtain ⟨s1, e1, e⟩ := some_bind e
  cases s1 with
  | nx s1 => exact h1 Ht C0 C H σ I _ e1 _ fun C' H' σ' I' _ => h2 s1 Ht C0 C' H' σ' I' s e D q
  | rt r => cases e; exact h1 Ht C0 C H σ I _ e1 _ q
  | bk s1 => cases e
  | ct s1 => cases e
theorem ef_seq {o : Option S} {f : S → Option (Fl S2 T R)} (h1 : EvN K t ρ E o) (h2 : ∀ s, EvF K u (E s) E2 L m (f s)) : EvF K (tSeq t u) ρ E2 L m (o.bind f) := fun Ht C0 C H σ I s e D q => by
  obtain ⟨s1, e1, e⟩ := some_bind e
  refine h1 Ht C0 C H σ I s1 e1 _ fun C' H' σ' I' s' => h2 s1 Ht C0 C' H' σ' I' s e D ?_
  cases s with
  | nx s => exact Thn.next q s'
  | bk s => exact Thn.next q s'
  | ct s => exact Thn.next q s'
  | rt r => exact q
theorem ef_seqF {o : Option (Fl S T R)} {f : S → Option (Fl S2 T R)} (h1 : EvF K t ρ E L m o) (h2 : ∀ s, EvF K u (E s) E2 L m (f s)) : EvF K (tSeq t u) ρ E2 L m (Fl.seq o f) := fun Ht C0 C H σ I s e D q => by
  obtain ⟨s1, e1, e⟩ := some_bind e
  cases s1 with
  | nx s1 =>
    refine h1 Ht C0 C H σ I _ e1 _ fun C' H' σ' I' s' => h2 s1 Ht C0 C' H' σ' I' s e D ?_
    cases s with
    | nx s => exact Thn.next q s'
    | bk s => exact Thn.next q s'
    | ct s => exact Thn.next q s'
    | rt r => exact q
  | rt r => cases e; exact h1 Ht C0 C H σ I _ e1 { D with nx := u D } q
  | bk s1 => cases e; exact h1 Ht C0 C H σ I _ e1 { D with nx := u D } q
  | ct s1 => cases e; exact h1 Ht C0 C H σ I _ e1 { D with nx := u D } q
/-- a return ends a block -/
theorem er_cut {o : Option R} (h : EvR K t ρ m o) : EvR K (tSeq t u) ρ m o := fun Ht C0 C H σ I s e D q => h Ht C0 C H σ I s e _ q
theorem er_nx {o : Option R} (h : EvR K u ρ m o) : EvR K (tSeq tNext u) ρ m o := fun Ht C0 C H σ I s e D q => h Ht C0 C H σ I s e D q
theorem ef_cutR {o : Option R} (h : EvR K t ρ m o) : EvF K (tSeq t u) ρ E L m (o.map Fl.rt : Option (Fl S T R)) := fun Ht C0 C H σ I f e D q => by
  obtain ⟨s, es, rfl⟩ := some_map e
  exact h Ht C0 C H σ I s es _ q
theorem ef_cutB {s : T} (w : EnvW ρ (L s)) : EvF K (tSeq tBreak u) ρ E L m (some (.bk s : Fl S T R)) := fun Ht C0 C H σ I s' e D q => by
  cases e
  exact q C H σ (I.weak w) (.refl _)
theorem ef_cutC {s : T} (w : EnvW ρ (L s)) : EvF K (tSeq tCont u) ρ E L m (some (.ct s : Fl S T R)) := fun Ht C0 C H σ I s' e D q => by
  cases e
  exact q C H σ (I.weak w) (.refl _)
theorem ef_nx {o : Option (Fl S T R)} (h : EvF K u ρ E L m o) : EvF K (tSeq tNext u) ρ E L m o := fun Ht C0 C H σ I s e D q => h Ht C0 C H σ I s e D q
theorem en_nx {o : Option S} (h : EvN K u ρ E o) : EvN K (tSeq tNext u) ρ E o := fun Ht C0 C H σ I s e D q => h Ht C0 C H σ I s e D q
/-- blocks are read from the left -/
theorem er_assoc {o : Option R} {w : TS} (h : EvR K (tSeq t (tSeq u w)) ρ m o) : EvR K (tSeq (tSeq t u) w) ρ m o := h
theorem ef_assoc {o : Option (Fl S T R)} {w : TS} (h : EvF K (tSeq t (tSeq u w)) ρ E L m o) : EvF K (tSeq (tSeq t u) w) ρ E L m o := h
theorem en_assoc {o : Option S} {w : TS} (h : EvN K (tSeq t (tSeq u w)) ρ E o) : EvN K (tSeq (tSeq t u) w) ρ E o := h
/-- return -/
theorem er_ret {o : Option R} (h : EvE K te ρ m o) : EvR K (tRet te) ρ m o := fun Ht C0 C H σ I r e D q =>
  h Ht C0 C H σ I r e _ fun v C' H' x rv => q v C' H' (I.ext.trans x) rv
theorem er_retN {A : Type} [Rp A] : EvR K tRetN ρ m (some (none : Option A)) := fun Ht C0 C H σ I r e D q => by
  cases e
  exact q .non C H I.ext (by simp only [rp, Rp.rp, Rep])
/-- name = a datum -/
theorem en_set {i : Nat} {ra : Option α} (h : EvE K te ρ m ra) : EvN K (tAsg te (gName i)) ρ (fun x => ρ.set i (.dat m (rp x))) ra := fun Ht C0 C H σ I x e D q =>
  h Ht C0 C H σ I x e _ fun v C' H' y rv => q C' H' _ ((I.to y).set rv) y.c
/-- name = a new list -/
theorem en_own {i : Nat} {ra : Option (List α)} (h : EvL K te ρ m ra) : EvN K (tAsg te (gName i)) ρ (fun x => ρ.set i (.own m (rps x))) ra := fun Ht C0 C H σ I x e D q => by
  refine h Ht C0 C H σ I x e _ fun a vs C' H' y hn hc ha rv => q C' H' _ ((I.to y).setOwn (free_of I.ext.h hn) hc ha rv fun j mj lj _ e1 e2 => ?_) y.c
  obtain ⟨b, us, e3, _, _, h3, _⟩ := I.ok j _ e1
  rw [e2] at e3
  cases e3
  rw [h3] at hn
  cases hn
/-- a target = a datum -/
theorem en_asg {g : TG} {ra : Option α} {vs : List Nat} {E : α → En} (h : EvE K te ρ m ra) (hg : ∀ x, EvG K g m (rp x) ρ (E x) vs) : EvN K (tAsg te g) ρ E ra := fun Ht C0 C H σ I x e D q =>
  h Ht C0 C H σ I x e _ fun v C' H' y rv => hg x Ht C0 C' H' σ v (I.to y) rv _ fun σ' I' _ _ => q C' H' σ' I' y.c
/-- a, b = x, y -/
theorem en_par {i j : Nat} {ra : Option α} {rb : Option β} (ha : EvE K ta ρ m1 ra) (hb : EvE K tb ρ m2 rb) : EvN K (tPar i j (tCons ta (tCons tb tNil))) ρ (fun p : α × β => (ρ.set i (.dat m1 (rp p.1))).set j (.dat m2 (rp p.2))) (ra.bind fun x => rb.bind fun y => some (x, y)) := fun Ht C0 C H σ I p e D q => by
  obtain ⟨x, ex, e⟩ := some_bind e
  obtain ⟨y, ey, e⟩ := some_bind e
  cases e
  refine ha Ht C0 C H σ I x ex _ fun v C1 H1 x1 r1 => ?_
  refine hb Ht C0 C1 H1 σ (I.to x1) y ey _ fun w C2 H2 x2 r2 => ⟨v, w, rfl, q C2 H2 _ ?_ (x1.c.trans x2.c)⟩
  exact (((I.to x1).to x2).set (r1.mono (part_mono x2.c))).set r2
/-! if -/
variable {c : TT} {rc : Option Bool}
theorem en_if {o1 o2 : Option S} (hc : EvT K c ρ rc) (h1 : EvN K t ρ E o1) (h2 : EvN K u ρ E o2) : EvN K (tIfS c t u) ρ E (rc.bind fun b => if b = true then o1 else o2) := fun Ht C0 C H σ I s e D q => by
  obtain ⟨b, eb, e⟩ := some_bind e
  refine hc Ht C0 C H σ I b eb _ fun C' H' x => ?_
  cases b with
  | true => rw [if_pos rfl] at e; exact iteT (h1 Ht C0 C' H' σ (I.to x) s e D (q.next x.c))
  | false => rw [if_neg Bool.false_ne_true] at e; exact iteF (h2 Ht C0 C' H' σ (I.to x) s e D (q.next x.c))
theorem er_if {o1 o2 : Option R} (hc : EvT K c ρ rc) (h1 : EvR K t ρ m o1) (h2 : EvR K u ρ m o2) : EvR K (tIfS c t u) ρ m (rc.bind fun b => if b = true then o1 else o2) := fun Ht C0 C H σ I s e D q => by
  obtain ⟨b, eb, e⟩ := some_bind e
  refine hc Ht C0 C H σ I b eb _ fun C' H' x => ?_
  cases b with
  | true => rw [if_pos rfl] at e; exact iteT (h1 Ht C0 C' H' σ (I.to x) s e D q)
  | false => rw [if_neg Bool.false_ne_true] at e; exact iteF (h2 Ht C0 C' H' σ (I.to x) s e D q)
theorem ef_if {o1 o2 : Option (Fl S T R)} (hc : EvT K c ρ rc) (h1 : EvF K t ρ E L m o1) (h2 : EvF K u ρ E L m o2) : EvF K (tIfS c t u) ρ E L m (rc.bind fun b => if b = true then o1 else o2) := fun Ht C0 C H σ I s e D q => by
  obtain ⟨b, eb, e⟩ := some_bind e
  refine hc Ht C0 C H σ I b eb _ fun C' H' x => ?_
  have q' : FlOk K Ht C0 C' E L m D s := by
    cases s with
    | nx s => exact Thn.next q x.c
    | bk s => exact Thn.next q x.c
    | ct s => exact Thn.next q x.c
    | rt r => exact q
  cases b with
  | true => rw [if_pos rfl] at e; exact iteT (h1 Ht C0 C' H' σ (I.to x) s e D q')
  | false => rw [if_neg Bool.false_ne_true] at e; exact iteF (h2 Ht C0 C' H' σ (I.to x) s e D q')
/-- what follows an if, pushed into both its ways -/
theorem er_ifS {w : TS} {o : Option R} (h : EvR K (tIfS c (tSeq t w) (tSeq u w)) ρ m o) : EvR K (tSeq (tIfS c t u) w) ρ m o := h
theorem ef_ifS {w : TS} {o : Option (Fl S T R)} (h : EvF K (tIfS c (tSeq t w) (tSeq u w)) ρ E L m o) : EvF K (tSeq (tIfS c t u) w) ρ E L m o := h
theorem en_ifS {w : TS} {o : Option S} (h : EvN K (tIfS c (tSeq t w) (tSeq u w)) ρ E o) : EvN K (tSeq (tIfS c t u) w) ρ E o := h
end

/-! ### loops -/
section
variable {K : PySem.W.Frag} {t : TS} {ρ : En} {m mi : Md} {S T R : Type} [Rp R] {E : S → En} {L : T → En}
variable {α : Type} [Rp α] {w : TI} {g : TG} {c : TT}
theorem en_for {vs : List Nat} {rx : Option (List α)} {s0 : S} {f : S → α → Option S} {Eb : S → α → En} (hi : EvI K w ρ mi rx) (h0 : EnvW ρ (E s0)) (hg : ∀ s x, EvG K g mi (rp x) (E s) (Eb s x) vs)
    (hb : ∀ s x, EvN K t (Eb s x) E (f s x)) : EvN K (tFor w g t) ρ E (rx.bind fun xs => xs.foldlM f s0) := fun Ht C0 C H σ I fin e D q => by
  obtain ⟨xs, ex, e⟩ := some_bind e
  refine hi Ht C0 C H σ I xs ex _ fun J C1 H1 x1 ok => ?_
  refine ⟨fun i n σ' Hc => n = xs.length - i ∧ i ≤ xs.length ∧ ∃ s Cc, EnvI K Ht C0 Cc Hc σ' (E s) ∧ Same C1 Cc ∧ (xs.drop i).foldlM f s = some fin, ⟨xs.length, rfl, Nat.zero_le _, s0, C1, (I.to x1).weak h0, .refl _, e⟩, ?_⟩
  rintro i n σ' Hc ⟨rfl, hi', s, Cc, Ic, sc, er⟩
  by_cases hlt : i < xs.length
  · have ed : (rps xs)[i]? = some (rp xs[i]) := by rw [rps, List.getElem?_map, List.getElem?_eq_getElem hlt]; rfl
    obtain ⟨go, yl⟩ := ok.go i Cc Hc _ ed sc Ic.sub Ic.ext.h
    refine .inr ⟨go, fun σ2 H2 => ∃ s Cc, EnvI K Ht C0 Cc H2 σ2 (E s) ∧ Same C1 Cc ∧ (xs.drop (i + 1)).foldlM f s = some fin, fun σ2 H2 h => ⟨xs.length - (i + 1), by omega, rfl, hlt, h⟩, fun x H2 hy => ?_⟩
    obtain ⟨C2, x2, r2⟩ := yl x H2 hy
    rw [List.drop_eq_getElem_cons hlt, List.foldlM_cons] at er
    obtain ⟨s2, e2, er⟩ := some_bind er
    refine hg s xs[i] Ht C0 C2 H2 σ' x (Ic.to x2) r2 _ fun σ3 I3 _ _ => ?_
    exact hb s xs[i] Ht C0 C2 H2 σ3 I3 s2 e2 _ fun C4 H4 σ4 I4 s4 => ⟨s2, C4, I4, (sc.trans x2.c).trans s4, er⟩
  · have hie : i = xs.length := by omega
    subst hie
    rw [List.drop_length] at er
    cases er
    have st := ok.stop Cc Hc sc Ic.sub
    rw [List.length_map] at st
    exact .inl ⟨st, q Cc Hc σ' Ic (x1.c.trans sc)⟩
theorem ef_for {vs : List Nat} {rx : Option (List α)} {s0 : S} {f : S → α → Option (Fl S S R)} {Eb : S → α → En} (hi : EvI K w ρ mi rx) (h0 : EnvW ρ (E s0)) (hg : ∀ s x, EvG K g mi (rp x) (E s) (Eb s x) vs)
    (hb : ∀ s x, EvF K t (Eb s x) E E m (f s x)) : EvF K (tFor w g t) ρ E L m (rx.bind fun xs => forL f xs s0) := fun Ht C0 C H σ I fin e D q => by
  obtain ⟨xs, ex, e⟩ := some_bind e
  refine hi Ht C0 C H σ I xs ex _ fun J C1 H1 x1 ok => ?_
  refine ⟨fun i n σ' Hc => n = xs.length - i ∧ i ≤ xs.length ∧ ∃ s Cc, EnvI K Ht C0 Cc Hc σ' (E s) ∧ Same C1 Cc ∧ forL f (xs.drop i) s = some fin, ⟨xs.length, rfl, Nat.zero_le _, s0, C1, (I.to x1).weak h0, .refl _, e⟩, ?_⟩
  rintro i n σ' Hc ⟨rfl, hi', s, Cc, Ic, sc, er⟩
  by_cases hlt : i < xs.length
  · have ed : (rps xs)[i]? = some (rp xs[i]) := by rw [rps, List.getElem?_map, List.getElem?_eq_getElem hlt]; rfl
    obtain ⟨go, yl⟩ := ok.go i Cc Hc _ ed sc Ic.sub Ic.ext.h
    refine .inr ⟨go, fun σ2 H2 => ∃ s Cc, EnvI K Ht C0 Cc H2 σ2 (E s) ∧ Same C1 Cc ∧ forL f (xs.drop (i + 1)) s = some fin, fun σ2 H2 h => ⟨xs.length - (i + 1), by omega, rfl, hlt, h⟩, fun x H2 hy => ?_⟩
    obtain ⟨C2, x2, r2⟩ := yl x H2 hy
    rw [List.drop_eq_getElem_cons hlt] at er
    obtain ⟨o, e2, er⟩ := some_bind er
    refine hg s xs[i] Ht C0 C2 H2 σ' x (Ic.to x2) r2 _ fun σ3 I3 _ _ => ?_
    refine hb s xs[i] Ht C0 C2 H2 σ3 I3 o e2 _ ?_
    have sc2 := sc.trans x2.c
    cases o with
    | nx s2 => exact fun C4 H4 σ4 I4 s4 => ⟨s2, C4, I4, sc2.trans s4, er⟩
    | ct s2 => exact fun C4 H4 σ4 I4 s4 => ⟨s2, C4, I4, sc2.trans s4, er⟩
    | bk s2 => cases er; exact fun C4 H4 σ4 I4 s4 => q C4 H4 σ4 I4 (x1.c.trans (sc2.trans s4))
    | rt r => cases er; exact q
  · have hie : i = xs.length := by omega
    subst hie
    rw [List.drop_length] at er
    cases er
    have st := ok.stop Cc Hc sc Ic.sub
    rw [List.length_map] at st
    exact .inl ⟨st, q Cc Hc σ' Ic (x1.c.trans sc)⟩
theorem en_while {n : Nat} {s0 : S} {cf : S → Option Bool} {f : S → Option S} (h0 : EnvW ρ (E s0)) (hc : ∀ s, EvT K c (E s) (cf s)) (hb : ∀ s, EvN K t (E s) E (f s)) : EvN K (tWhile c t) ρ E (whileN cf f n s0) := fun Ht C0 C H σ I fin e D q => by
  refine ⟨fun k σ' Hc => ∃ s Cc, EnvI K Ht C0 Cc Hc σ' (E s) ∧ Same C Cc ∧ whileN cf f k s = some fin, ⟨n, s0, C, I.weak h0, .refl _, e⟩, ?_⟩
  rintro k σ' Hc ⟨s, Cc, Ic, sc, er⟩
  cases k with
  | zero => cases er
  | succ k =>
    obtain ⟨b, eb, er⟩ := some_bind er
    refine hc s Ht C0 Cc Hc σ' Ic b eb _ fun C2 H2 x2 => ?_
    cases b with
    | true =>
      rw [if_pos rfl] at er
      obtain ⟨s2, e2, er⟩ := some_bind er
      refine iteT ⟨fun σ3 H3 => ∃ s Cc, EnvI K Ht C0 Cc H3 σ3 (E s) ∧ Same C Cc ∧ whileN cf f k s = some fin, fun σ3 H3 h => ⟨k, Nat.lt_succ_self k, h⟩, ?_⟩
      exact hb s Ht C0 C2 H2 σ' (Ic.to x2) s2 e2 _ fun C4 H4 σ4 I4 s4 => ⟨s2, C4, I4, (sc.trans x2.c).trans s4, er⟩
    | false =>
      rw [if_neg Bool.false_ne_true] at er
      cases er
      exact iteF (q C2 H2 σ' (Ic.to x2) (sc.trans x2.c))
theorem ef_while {n : Nat} {s0 : S} {cf : S → Option Bool} {f : S → Option (Fl S S R)} (h0 : EnvW ρ (E s0)) (hc : ∀ s, EvT K c (E s) (cf s)) (hb : ∀ s, EvF K t (E s) E E m (f s)) : EvF K (tWhile c t) ρ E L m (whileL cf f n s0) := fun Ht C0 C H σ I fin e D q => by
  refine ⟨fun k σ' Hc => ∃ s Cc, EnvI K Ht C0 Cc Hc σ' (E s) ∧ Same C Cc ∧ whileL cf f k s = some fin, ⟨n, s0, C, I.weak h0, .refl _, e⟩, ?_⟩
  rintro k σ' Hc ⟨s, Cc, Ic, sc, er⟩
  cases k with
  | zero => cases er
  | succ k =>
    obtain ⟨b, eb, er⟩ := some_bind er
    refine hc s Ht C0 Cc Hc σ' Ic b eb _ fun C2 H2 x2 => ?_
    have sc2 := sc.trans x2.c
    cases b with
    | true =>
      rw [if_pos rfl] at er
      obtain ⟨o, e2, er⟩ := some_bind er
      refine iteT ⟨fun σ3 H3 => ∃ s Cc, EnvI K Ht C0 Cc H3 σ3 (E s) ∧ Same C Cc ∧ whileL cf f k s = some fin, fun σ3 H3 h => ⟨k, Nat.lt_succ_self k, h⟩, ?_⟩
      refine hb s Ht C0 C2 H2 σ' (Ic.to x2) o e2 _ ?_
      cases o with
      | nx s2 => exact fun C4 H4 σ4 I4 s4 => ⟨s2, C4, I4, sc2.trans s4, er⟩
      | ct s2 => exact fun C4 H4 σ4 I4 s4 => ⟨s2, C4, I4, sc2.trans s4, er⟩
      | bk s2 => cases er; exact fun C4 H4 σ4 I4 s4 => q C4 H4 σ4 I4 (sc2.trans s4)
      | rt r => cases er; exact q
    | false =>
      rw [if_neg Bool.false_ne_true] at er
      cases er
      exact iteF (q C2 H2 σ' (Ic.to x2) sc2)
/-- a loop without a return -/
def Fl.go {S T : Type} (o : Option (Fl S T Empty)) : Option S := o.bind fun x => match x with
  | .nx s => some s
  | _ => none
instance : Rp Empty := ⟨fun e => nomatch e⟩
theorem EvF.N {o : Option (Fl S T Empty)} (h : EvF K t ρ E L m o) : EvN K t ρ E (Fl.go o) := fun Ht C0 C H σ I s e D q => by
  obtain ⟨f, ef, e⟩ := some_bind e
  cases f with
  | nx s' => cases e; exact h Ht C0 C H σ I _ ef D q
  | rt r => cases e
  | bk s' => cases e
  | ct s' => cases e
end

/-! ### lists changed in place -/
section
variable {K : PySem.W.Frag} {te ta tb : TE} {ρ : En} {m m1 m2 : Md}
variable {α β : Type} [Rp α] [Rp β]
theorem en_append {i : Nat} {xs : List α} {ra : Option α} (h : EvE K te ρ m ra) (hi : ρ[i]? = some (.own m (rps xs)) := by rfl) :
    EvN K (tDrop (tBM K "list" rAppend (tVar i) (tCons te tNil))) ρ (fun x => ρ.set i (.own m (rps x))) (ra.bind fun x => lim (xs ++ [x])) := fun Ht C0 C H σ I z e D q => by
  obtain ⟨x, ex, e⟩ := some_bind e
  obtain ⟨hz, rfl⟩ := of_lim e
  obtain ⟨a, vs, e1, hn, hc, ha, rv⟩ := I.ok i _ hi
  refine ⟨.ref a, e1, .inl ⟨rfl, _, .of ha⟩, h Ht C0 C H σ I x ex _ fun v C1 H1 x1 r1 => ?_⟩
  have I1 := I.to x1
  refine ⟨a, vs, v, rfl, rfl, x1.h _ _ ha, ?_, q C1 _ σ (I1.write hi e1 ?_) x1.c⟩
  · rw [List.length_append, List.length_singleton] at hz
    rw [rv.length, List.length_map]
    omega
  · rw [rps, List.map_append]
    exact (rv.mono (part_mono x1.c)).append (.cons r1 .nil)
/-- xs[i] = e -/
def setP {α : Type} (xs : List α) (i : Int) (x : α) : Option (List α) := (ixN xs.length i).map fun j => xs.set j x
theorem en_setix {i : Nat} {xs : List α} {rk : Option Int} {ra : Option α} (h : EvE K te ρ m ra) (hk : EvE K tb ρ m2 rk) (hi : ρ[i]? = some (.own m (rps xs)) := by rfl) :
    EvN K (tAsg te (gSub (tVar i) tb rSetL)) ρ (fun x => ρ.set i (.own m (rps x))) (ra.bind fun x => rk.bind fun k => setP xs k x) := fun Ht C0 C H σ I z e D q => by
  obtain ⟨x, ex, e⟩ := some_bind e
  obtain ⟨k, ek, e⟩ := some_bind e
  obtain ⟨j, ej, rfl⟩ := some_map e
  refine h Ht C0 C H σ I x ex _ fun v C1 H1 x1 r1 => ?_
  obtain ⟨a, vs, e1, hn, hc, ha, rv⟩ := (I.to x1).ok i _ hi
  refine ⟨.ref a, e1, hk Ht C0 C1 H1 σ (I.to x1) k ek _ fun u C2 H2 x2 r2 => ?_⟩
  rw [r2.int_]
  refine ⟨a, vs, k, j, rfl, rfl, x2.h _ _ ha, by rw [rv.length, List.length_map]; exact ej, q C2 _ σ (((I.to x1).to x2).write hi e1 ?_) (x1.c.trans x2.c)⟩
  rw [rps, List.map_set]
  exact (rv.mono (part_mono x2.c)).set j (r1.mono (part_mono x2.c))
end

/-! ### defs -/
/-- a def's promise by data: from the arguments' data, in the clean part, the value of f, in what is new (or anywhere) -/
def spA (K : PySem.W.Frag) {A R : Type} [Rp R] (ds : A → List Dt) (f : A → Option R) (m : Md) : Sp := fun vs H Q _ => ∃ (C : Hp) (x : A) (r : R), Same C H ∧ RepL K C (ds x) vs ∧ f x = some r ∧
  ∀ u C' H', Ext C H C' H' → Rep K (part m H C') (rp r) u → Q u H'
section
variable {K : PySem.W.Frag} {A R : Type} [Rp R] {ds : A → List Dt} {f : A → Option R} {m m1 m2 m3 m4 m5 m6 : Md} {ρ : En} {E : XK} {t : TA}
theorem ev_callA {ra : Option A} (h : EvA K ds t ρ ra) : EvE K (tCall (spA K ds f m) [] E t) ρ m (ra.bind f) := fun Ht C0 C H σ I z e Q q => by
  obtain ⟨x, ex, e⟩ := some_bind e
  refine h Ht C0 C H σ I x ex _ fun vs C1 H1 x1 r1 => ?_
  rw [List.append_nil]
  exact ⟨C1, x, z, x1.s, r1, e, fun u C' H' y ru => q u C' H' (x1.trans y) (ru.mono (part_ht (I.ext.h.trans x1.h)))⟩
variable {a1 a2 a3 a4 a5 a6 : Type} [Rp a1] [Rp a2] [Rp a3] [Rp a4] [Rp a5] [Rp a6] {t1 t2 t3 t4 t5 t6 : TE}
abbrev sp1 (K : PySem.W.Frag) (f : a1 → Option R) (m : Md) : Sp := spA K (fun x : a1 => [rp x]) f m
abbrev sp2 (K : PySem.W.Frag) (f : a1 → a2 → Option R) (m : Md) : Sp := spA K (fun x : a1 × a2 => [rp x.1, rp x.2]) (fun x => f x.1 x.2) m
abbrev sp3 (K : PySem.W.Frag) (f : a1 → a2 → a3 → Option R) (m : Md) : Sp := spA K (fun x : a1 × a2 × a3 => [rp x.1, rp x.2.1, rp x.2.2]) (fun x => f x.1 x.2.1 x.2.2) m
abbrev sp4 (K : PySem.W.Frag) (f : a1 → a2 → a3 → a4 → Option R) (m : Md) : Sp := spA K (fun x : a1 × a2 × a3 × a4 => [rp x.1, rp x.2.1, rp x.2.2.1, rp x.2.2.2]) (fun x => f x.1 x.2.1 x.2.2.1 x.2.2.2) m
abbrev sp5 (K : PySem.W.Frag) (f : a1 → a2 → a3 → a4 → a5 → Option R) (m : Md) : Sp := spA K (fun x : a1 × a2 × a3 × a4 × a5 => [rp x.1, rp x.2.1, rp x.2.2.1, rp x.2.2.2.1, rp x.2.2.2.2]) (fun x => f x.1 x.2.1 x.2.2.1 x.2.2.2.1 x.2.2.2.2) m
theorem ea_cons {A' : Type} {ds' : A' → List Dt} {r1 : Option a1} {r2 : Option A'} {te : TE} (h1 : EvE K te ρ m1 r1) (h2 : EvA K ds' t ρ r2) : EvA K (fun x : a1 × A' => rp x.1 :: ds' x.2) (tCons te t) ρ (r1.bind fun x => r2.bind fun y => some (x, y)) := fun Ht C0 C H σ I z e Q q => by
  obtain ⟨x, ex, e⟩ := some_bind e
  obtain ⟨y, ey, e⟩ := some_bind e
  cases e
  refine h1 Ht C0 C H σ I x ex _ fun v C1 H1 x1 q1 => ?_
  refine h2 Ht C0 C1 H1 σ (I.to x1) y ey _ fun vs C2 H2 x2 q2 => q (v :: vs) C2 H2 (x1.trans x2) (.cons (q1.mono (part_le.trans x2.c)) q2)
theorem ea_one {r1 : Option a1} {te : TE} (h1 : EvE K te ρ m1 r1) : EvA K (fun x : a1 => [rp x]) (tCons te tNil) ρ r1 := fun Ht C0 C H σ I z e Q q =>
  h1 Ht C0 C H σ I z e _ fun v C1 H1 x1 q1 => q [v] C1 H1 x1 (.cons (q1.mono part_le) .nil)
theorem ev_call1 {f : a1 → Option R} {r1 : Option a1} (h1 : EvE K t1 ρ m1 r1) : EvE K (tCall (sp1 K f m) [] E (tCons t1 tNil)) ρ m (r1.bind f) := ev_callA (ea_one h1)
theorem ev_call2 {f : a1 → a2 → Option R} {r1 : Option a1} {r2 : Option a2} (h1 : EvE K t1 ρ m1 r1) (h2 : EvE K t2 ρ m2 r2) : EvE K (tCall (sp2 K f m) [] E (tCons t1 (tCons t2 tNil))) ρ m (r1.bind fun x => r2.bind fun y => f x y) :=
  (ev_callA (ea_cons h1 (ea_one h2))).res (by cases r1 <;> cases r2 <;> rfl)
theorem ev_call3 {f : a1 → a2 → a3 → Option R} {r1 : Option a1} {r2 : Option a2} {r3 : Option a3} (h1 : EvE K t1 ρ m1 r1) (h2 : EvE K t2 ρ m2 r2) (h3 : EvE K t3 ρ m3 r3) : EvE K (tCall (sp3 K f m) [] E (tCons t1 (tCons t2 (tCons t3 tNil)))) ρ m (r1.bind fun x => r2.bind fun y => r3.bind fun z => f x y z) :=
  (ev_callA (ea_cons h1 (ea_cons h2 (ea_one h3)))).res (by cases r1 <;> cases r2 <;> cases r3 <;> rfl)
theorem ev_call4 {f : a1 → a2 → a3 → a4 → Option R} {r1 : Option a1} {r2 : Option a2} {r3 : Option a3} {r4 : Option a4} (h1 : EvE K t1 ρ m1 r1) (h2 : EvE K t2 ρ m2 r2) (h3 : EvE K t3 ρ m3 r3) (h4 : EvE K t4 ρ m4 r4) : EvE K (tCall (sp4 K f m) [] E (tCons t1 (tCons t2 (tCons t3 (tCons t4 tNil))))) ρ m (r1.bind fun x => r2.bind fun y => r3.bind fun z => r4.bind fun w => f x y z w) :=
  (ev_callA (ea_cons h1 (ea_cons h2 (ea_cons h3 (ea_one h4))))).res (by cases r1 <;> cases r2 <;> cases r3 <;> cases r4 <;> rfl)
theorem ev_call5 {f : a1 → a2 → a3 → a4 → a5 → Option R} {r1 : Option a1} {r2 : Option a2} {r3 : Option a3} {r4 : Option a4} {r5 : Option a5} (h1 : EvE K t1 ρ m1 r1) (h2 : EvE K t2 ρ m2 r2) (h3 : EvE K t3 ρ m3 r3) (h4 : EvE K t4 ρ m4 r4) (h5 : EvE K t5 ρ m5 r5) : EvE K (tCall (sp5 K f m) [] E (tCons t1 (tCons t2 (tCons t3 (tCons t4 (tCons t5 tNil)))))) ρ m (r1.bind fun x => r2.bind fun y => r3.bind fun z => r4.bind fun w => r5.bind fun v => f x y z w v) :=
  (ev_callA (ea_cons h1 (ea_cons h2 (ea_cons h3 (ea_cons h4 (ea_one h5)))))).res (by cases r1 <;> cases r2 <;> cases r3 <;> cases r4 <;> cases r5 <;> rfl)
/-- a list of flat things that a def hands back new may be held -/
theorem EvE.L {α : Type} [Rp α] [Scal α] {te : TE} {sp : Sp} {r : Option (List α)} (h : ∀ (Ht C0 C H : Hp) (σ : St), EnvI K Ht C0 C H σ ρ → ∀ x, r = some x → ∀ Q : VK, (∀ v C' H', Ext C H C' H' → Rep K (part .new H C') (rp x) v → Q v H') → te σ H Q) : EvL K te ρ m r := fun Ht C0 C H σ I xs e Q q => by
  refine h Ht C0 C H σ I xs e Q fun v C' H' x rv => ?_
  obtain ⟨a, vs, rfl, h1, h2⟩ := rep_lst rv
  have hn : H a = none := by
    simp only [part] at h1
    split at h1
    · rename_i z; simpa using z
    · cases h1
  -- the clean part as it was
  exact q a vs C H' ⟨.refl _, x.h, I.sub.trans x.h, fun _ _ z => z⟩ hn (free_of I.sub hn) (x.s _ _ (part_le _ _ h1)) h2.scal
theorem ev_callL {α : Type} [Rp α] [Scal α] {f : A → Option (List α)} {ra : Option A} (h : EvA K ds t ρ ra) : EvL K (tCall (spA K ds f .new) [] E t) ρ m (ra.bind f) := fun Ht C0 C H σ I z e Q q => by
  obtain ⟨x, ex, e⟩ := some_bind e
  refine h Ht C0 C H σ I x ex _ fun vs C1 H1 x1 r1 => ?_
  rw [List.append_nil]
  refine ⟨C1, x, z, x1.s, r1, e, fun u C' H' y ru => ?_⟩
  obtain ⟨a, us, rfl, h1, h2⟩ := rep_lst ru
  have hn : H1 a = none := by
    simp only [part] at h1
    split at h1
    · rename_i z; simpa using z
    · cases h1
  exact q a us C1 H' ⟨x1.c, x1.h.trans y.h, x1.s.trans y.h, x1.f⟩ (free_of x1.h hn) (free_of x1.s hn) (y.s _ _ (part_le _ _ h1)) h2.scal
theorem ev_callL1 {α : Type} [Rp α] [Scal α] {f : a1 → Option (List α)} {r1 : Option a1} (h1 : EvE K t1 ρ m1 r1) : EvL K (tCall (sp1 K f .new) [] E (tCons t1 tNil)) ρ m (r1.bind f) := ev_callL (ea_one h1)
theorem ev_callL2 {α : Type} [Rp α] [Scal α] {f : a1 → a2 → Option (List α)} {r1 : Option a1} {r2 : Option a2} (h1 : EvE K t1 ρ m1 r1) (h2 : EvE K t2 ρ m2 r2) : EvL K (tCall (sp2 K f .new) [] E (tCons t1 (tCons t2 tNil))) ρ m (r1.bind fun x => r2.bind fun y => f x y) :=
  (ev_callL (ea_cons h1 (ea_one h2))).res (by cases r1 <;> cases r2 <;> rfl)
theorem ev_callL3 {α : Type} [Rp α] [Scal α] {f : a1 → a2 → a3 → Option (List α)} {r1 : Option a1} {r2 : Option a2} {r3 : Option a3} (h1 : EvE K t1 ρ m1 r1) (h2 : EvE K t2 ρ m2 r2) (h3 : EvE K t3 ρ m3 r3) : EvL K (tCall (sp3 K f .new) [] E (tCons t1 (tCons t2 (tCons t3 tNil)))) ρ m (r1.bind fun x => r2.bind fun y => r3.bind fun z => f x y z) :=
  (ev_callL (ea_cons h1 (ea_cons h2 (ea_one h3)))).res (by cases r1 <;> cases r2 <;> cases r3 <;> rfl)
theorem ev_callL4 {α : Type} [Rp α] [Scal α] {f : a1 → a2 → a3 → a4 → Option (List α)} {r1 : Option a1} {r2 : Option a2} {r3 : Option a3} {r4 : Option a4} (h1 : EvE K t1 ρ m1 r1) (h2 : EvE K t2 ρ m2 r2) (h3 : EvE K t3 ρ m3 r3) (h4 : EvE K t4 ρ m4 r4) : EvL K (tCall (sp4 K f .new) [] E (tCons t1 (tCons t2 (tCons t3 (tCons t4 tNil))))) ρ m (r1.bind fun x => r2.bind fun y => r3.bind fun z => r4.bind fun w => f x y z w) :=
  (ev_callL (ea_cons h1 (ea_cons h2 (ea_cons h3 (ea_one h4))))).res (by cases r1 <;> cases r2 <;> cases r3 <;> cases r4 <;> rfl)
/-- a body's reading, from its promise -/
theorem of_body {N : List Str} {tb : TS} {vs : List V} {H : Hp} {Q : VK} {E : XK} (hb : ∀ x : A, EvR K tb ((ds x).map (.dat .old) ++ List.replicate (N.length - (ds x).length) .un) m (f x)) (hN : ∀ x, (ds x).length ≤ N.length) (h : spA K ds f m vs H Q E) :
    tb { nx := fun _ H' => Q .non H', rt := Q } (start N vs) H := by
  obtain ⟨C, x, r, s, ra, ef, q⟩ := h
  have hl := ra.length
  refine hb x H C C H (start N vs) ⟨.refl s, ?_, fun i sl e => ?_, fun i j a mi li mj lj n e1 _ _ => ?_⟩ r ef _ fun v C' H' y rv => q v C' H' y rv
  · unfold start
    rw [List.length_append, List.length_append, List.length_map, List.length_map, List.length_replicate, List.length_replicate, hl]
  · by_cases hi : i < (ds x).length
    · rw [List.getElem?_append_left (by rw [List.length_map]; exact hi), List.getElem?_map] at e
      obtain ⟨d, ed, rfl⟩ := some_map e
      obtain ⟨v, ev, rv⟩ := ra.get ed
      refine ⟨v, ?_, rv⟩
      unfold start
      rw [List.getElem?_append_left (by rw [List.length_map, hl]; exact hi), List.getElem?_map, ev]
      rfl
    · rw [List.getElem?_append_right (by rw [List.length_map]; omega), List.getElem?_replicate] at e
      split at e
      · cases e; trivial
      · cases e
  · by_cases hi : i < (ds x).length
    · rw [List.getElem?_append_left (by rw [List.length_map]; exact hi), List.getElem?_map] at e1
      obtain ⟨d, ed, z⟩ := some_map e1
      cases z
    · rw [List.getElem?_append_right (by rw [List.length_map]; omega), List.getElem?_replicate] at e1
      split at e1
      · cases e1
      · cases e1
theorem spA_len {n : Nat} {vs : List V} {H : Hp} {Q : VK} {E : XK} (h : spA K ds f m vs H Q E) (hn : ∀ x, (ds x).length = n) : vs.length = n := by
  obtain ⟨C, x, r, s, ra, _⟩ := h
  rw [ra.length, hn]
end
end L2.DL

/-! DL5: further rules. -/
namespace L2.DL
open PySem PySem.Spec PyProof.Rows

/-! ### defs of the text -/
structure DefAt (K : PySem.W.Frag) (mg : Str → Option Value) (x : Str) (st : Stmt) (ps : List Str) where
  a : Addr
  d : FuncData
  F : Fun K x x st a d
  g : mg x = some (.ref a)
  b : Binds K d ps []
  b1 : ∀ (s : Shared) (u : Value), ps.length = 1 → BindsTo s d ⟨[u], []⟩ (ps.zip [u])
def at_mk {K : PySem.W.Frag} {h : Heap} {mg : Str → Option Value} {x : Str} {st : Stmt} {ps : List Str} {f : Addr} {od an : Option Addr} {sl : Array (Option Value)} {oc kV dc pm cd ct : Value} (X : K.In h) (G : h.Ns mainGlobals mg)
    (a : PySem.W.nsIn K mainGlobals x = some (some (.ref f))) (l : K.lookup f = some ⟨oc, od, .func (PySem.W.fnOf x x (defArgs st) (defBody st) (defScope st) .none kV dc pm an cd ct), sl⟩) (c : PySem.W.codeIn K cd x = true) (k : PySem.W.keepIn K (.ref f) = true)
    (hb : ∀ (kV doc pm : Value) (an : Option Addr) (cdv ct : Value) (us : List Value), us.length = ps.length → bindArgs (PySem.W.fnOf x x (defArgs st) (defBody st) (defScope st) .none kV doc pm an cdv ct) ⟨us, []⟩ = pure (ps.zip us)) : DefAt K mg x st ps :=
  ⟨f, _, fun_mk l c k, PySem.W.mg_of X G a, (fun_mk l c k).binds hb, fun s u e => .of_eq (hb _ _ _ _ _ _ [u] e.symm)⟩

section
variable {K : PySem.W.Frag} {t u : TS} {te ta tb tc td : TE} {ρ : En} {m m1 m2 m3 m4 : Md} {S T R : Type} [Rp R] {E : S → En} {L : T → En}
variable {α β γ δ : Type} [Rp α] [Rp β] [Rp γ] [Rp δ]
/-- the last statement of a block -/
theorem en_last {o : Option S} (h : EvN K (tSeq t tNext) ρ E o) : EvN K t ρ E o := h
theorem ef_last {o : Option (Fl S T R)} (h : EvF K (tSeq t tNext) ρ E L m o) : EvF K t ρ E L m o := h
theorem ev_unit : EvE K (tC .non) ρ .new (some ()) := ev_c fun H => by simp only [rp, Rp.rp, Rep]
theorem ev_isB {ra rb : Option Bool} (ha : EvE K ta ρ m1 ra) (hb : EvE K tb ρ m2 rb) : EvE K (tOp (fun x y H Q => ∃ a b, x = .bl a ∧ y = .bl b ∧ Q (.bl (decide (a = b))) H) ta tb) ρ .new (ra.bind fun x => rb.bind fun y => some (decide (x = y))) :=
  ev_two ha hb fun Ht C H x y z v u Q s e r1 r2 q => by
    cases e
    rw [r1.bl_, r2.bl_]
    exact ⟨x, y, rfl, rfl, q _ C H (.refl s) .ofBl⟩
theorem ev_notB {ra rb : Option Bool} (ha : EvE K ta ρ m1 ra) (hb : EvE K tb ρ m2 rb) : EvE K (tOp (fun x y H Q => ∃ a b, x = .bl a ∧ y = .bl b ∧ Q (.bl (!decide (a = b))) H) ta tb) ρ .new (ra.bind fun x => rb.bind fun y => some (decide (x ≠ y))) :=
  ev_two ha hb fun Ht C H x y z v u Q s e r1 r2 q => by
    cases e
    rw [r1.bl_, r2.bl_]
    exact ⟨x, y, rfl, rfl, q _ C H (.refl s) (by simp only [rp, Rp.rp, Rep, ne_eq, decide_not])⟩
theorem ev_revSl {ra : Option (List α)} (ha : EvB K ta ρ m ra) : EvL K (tRevL K ta) ρ m (ra.bind fun x => some x.reverse) := fun Ht C0 C H σ I z e Q q => by
  obtain ⟨x, ex, e⟩ := some_bind e
  cases e
  refine ha Ht C0 C H σ I x ex _ fun a vs C1 H1 x1 h1 r1 => ⟨a, vs, rfl, .of h1, fun p hp => new_list x1 hp ?_ q⟩
  rw [rps, List.map_reverse]
  exact r1.reverse
/-- xs.extend(ys) -/
theorem en_extend {i : Nat} {xs : List α} {ra : Option (List α)} (h : EvE K te ρ m ra) (hi : ρ[i]? = some (.own m (rps xs)) := by rfl) :
    EvN K (tDrop (tBM K "list" rExtend (tVar i) (tCons te tNil))) ρ (fun x => ρ.set i (.own m (rps x))) (ra.bind fun x => lim (xs ++ x)) := fun Ht C0 C H σ I z e D q => by
  obtain ⟨x, ex, e⟩ := some_bind e
  obtain ⟨hz, rfl⟩ := of_lim e
  obtain ⟨a, vs, e1, hn, hc, ha, rv⟩ := I.ok i _ hi
  refine ⟨.ref a, e1, .inl ⟨rfl, _, .of ha⟩, h Ht C0 C H σ I x ex _ fun v C1 H1 x1 r1 => ?_⟩
  obtain ⟨b, us, rfl, hb, rb⟩ := rep_lst r1
  have I1 := I.to x1
  refine ⟨a, b, vs, us, rfl, rfl, x1.h _ _ ha, x1.s _ _ (part_le _ _ hb), ?_, q C1 _ σ (I1.write hi e1 ?_) x1.c⟩
  · rw [rv.length, rb.length, List.length_map, List.length_map, ← List.length_append]
    exact hz
  · rw [rps, List.map_append]
    exact (rv.mono (part_mono x1.c)).append rb
end
section
variable {K : PySem.W.Frag} {ta tb tc td : TE} {ρ : En} {m : Md}
variable {α β γ δ : Type} [Rp α] [Rp β] [Rp γ] [Rp δ]
/-- four of them -/
theorem ev_quad {ra : Option α} {rb : Option β} {rc : Option γ} {rd : Option δ} (ha : EvE K ta ρ m ra) (hb : EvE K tb ρ m rb) (hc : EvE K tc ρ m rc) (hd : EvE K td ρ m rd) : EvE K (tTup (tCons ta (tCons tb (tCons tc (tCons td tNil))))) ρ m (ra.bind fun x => rb.bind fun y => rc.bind fun z => rd.bind fun w => some (T4.mk x y z w)) := fun Ht C0 C H σ I z e Q q => by
  obtain ⟨x, ex, e⟩ := some_bind e
  obtain ⟨y, ey, e⟩ := some_bind e
  obtain ⟨z, ez, e⟩ := some_bind e
  obtain ⟨w, ew, e⟩ := some_bind e
  cases e
  refine ha Ht C0 C H σ I x ex _ fun v1 C1 H1 x1 r1 => ?_
  refine hb Ht C0 C1 H1 σ (I.to x1) y ey _ fun v2 C2 H2 x2 r2 => ?_
  refine hc Ht C0 C2 H2 σ ((I.to x1).to x2) z ez _ fun v3 C3 H3 x3 r3 => ?_
  refine hd Ht C0 C3 H3 σ (((I.to x1).to x2).to x3) w ew _ fun v4 C4 H4 x4 r4 => ⟨(by show 4 ≤ sizeLine; decide), fun p hp => ?_⟩
  have xx := ((x1.trans x2).trans x3).trans x4
  refine q (.ref p) (upd C4 p (.tup [v1, v2, v3, v4])) _ (new_clean xx hp) ?_
  simp only [rp, Rp.rp, Rep]
  have s4 := same_upd (o := .tup [v1, v2, v3, v4]) (free_of x4.s hp)
  have c34 := x4.c.trans s4
  have c234 := x3.c.trans c34
  exact ⟨p, _, rfl, part_at upd_same (free_of (I.ext.h.trans xx.h) hp), .cons (r1.mono (part_mono (x2.c.trans c234))) (.cons (r2.mono (part_mono c234)) (.cons (r3.mono (part_mono c34)) (.cons (r4.mono (part_mono s4)) .nil)))⟩
theorem rep_t4 {H : Hp} {p : T4 α β γ δ} {v : V} (h : Rep K H (rp p) v) : ∃ a x y z w, v = .ref a ∧ H a = some (.tup [x, y, z, w]) ∧ Rep K H (rp p.p) x ∧ Rep K H (rp p.q) y ∧ Rep K H (rp p.r) z ∧ Rep K H (rp p.s) w := by
  simp only [rp, Rp.rp, Rep] at h
  obtain ⟨a, vs, e, h1, h2⟩ := h
  obtain ⟨x, r, rfl, r1, h2⟩ := h2.uncons
  obtain ⟨y, r', rfl, r2, h2⟩ := h2.uncons
  obtain ⟨z, r', rfl, r3, h2⟩ := h2.uncons
  obtain ⟨w, r', rfl, r4, h2⟩ := h2.uncons
  rw [h2.nil_iff] at h1
  exact ⟨a, x, y, z, w, e, h1, r1, r2, r3, r4⟩
theorem eg_quad {g1 g2 g3 g4 : TG} {x : T4 α β γ δ} {ρ1 ρ2 ρ3 ρ4 : En} {v1 v2 v3 v4 : List Nat} (h1 : EvG K g1 m (rp x.p) ρ ρ1 v1) (h2 : EvG K g2 m (rp x.q) ρ1 ρ2 v2) (h3 : EvG K g3 m (rp x.r) ρ2 ρ3 v3) (h4 : EvG K g4 m (rp x.s) ρ3 ρ4 v4) :
    EvG K (gTup K 4 (gCons g1 (gCons g2 (gCons g3 (gCons g4 gNil))))) m (rp x) ρ ρ4 (v1 ++ (v2 ++ (v3 ++ v4))) := fun Ht C0 C H σ v I r Q q => by
  obtain ⟨a, u1, u2, u3, u4, rfl, e, r1, r2, r3, r4⟩ := rep_t4 r
  refine ⟨a, [u1, u2, u3, u4], rfl, .of (I.sub _ _ (part_le _ _ e)), rfl, u1, [u2, u3, u4], rfl, ?_⟩
  refine h1 Ht C0 C H σ u1 I r1 _ fun σ1 I1 e1 l1 => ⟨u2, [u3, u4], rfl, ?_⟩
  refine h2 Ht C0 C H σ1 u2 I1 r2 _ fun σ2 I2 e2 l2 => ⟨u3, [u4], rfl, ?_⟩
  refine h3 Ht C0 C H σ2 u3 I2 r3 _ fun σ3 I3 e3 l3 => ⟨u4, [], rfl, ?_⟩
  refine h4 Ht C0 C H σ3 u4 I3 r4 _ fun σ4 I4 e4 l4 => ⟨rfl, q σ4 I4 (fun j hj => ?_) (l4.trans (l3.trans (l2.trans l1)))⟩
  simp only [List.mem_append, not_or] at hj
  rw [e4 j hj.2.2.2, e3 j hj.2.2.1, e2 j hj.2.1, e1 j hj.1]
end

/-! ### lists that are held, lent to a call whose answer is new -/
open Classical in
noncomputable def wOwn (σ : St) (ρ : En) (C H : Hp) : Hp := fun a => if (∃ (i : Nat) (m : Md) (l : List Dt), ρ[i]? = some (.own m l) ∧ σ[i]? = some (some (.ref a))) then H a else C a
def EvP (K : PySem.W.Frag) {α : Type} [Rp α] (t : TE) (ρ : En) (r : Option α) : Prop :=
  ∀ (Ht C0 C H : Hp) (σ : St), EnvI K Ht C0 C H σ ρ → ∀ x, r = some x → ∀ Q : VK, (∀ v C' H', Ext C H C' H' → Rep K (wOwn σ ρ C' H') (rp x) v → Q v H') → t σ H Q
section
variable {K : PySem.W.Frag} {t t1 t2 t3 t4 t5 : TE} {ta : TA} {ρ : En} {m m1 m2 m3 : Md} {E : XK}
variable {α R A : Type} [Rp α] [Rp R]
theorem wOwn_c {Ht C0 C H : Hp} {σ : St} (I : EnvI K Ht C0 C H σ ρ) : Same C (wOwn σ ρ C H) := fun a o e => by
  unfold wOwn
  split
  · exact I.sub _ _ e
  · exact e
theorem wOwn_h {Ht C0 C H : Hp} {σ : St} (I : EnvI K Ht C0 C H σ ρ) : Same (wOwn σ ρ C H) H := fun a o e => by
  unfold wOwn at e
  split at e
  · exact e
  · exact I.sub _ _ e
theorem wOwn_x {C H C' H' : Hp} {σ : St} (x : Ext C H C' H') : Same (wOwn σ ρ C H) (wOwn σ ρ C' H') := fun a o e => by
  unfold wOwn at e ⊢
  split at e
  · rename_i hh; rw [if_pos hh]; exact x.h _ _ e
  · rename_i hh; rw [if_neg hh]; exact x.c _ _ e
theorem EvE.P {r : Option α} (h : EvE K t ρ m r) : EvP K t ρ r := fun Ht C0 C H σ I x e Q q =>
  h Ht C0 C H σ I x e Q fun v C' H' y rv => q v C' H' y (rv.mono (part_le.trans (wOwn_c (I.to y))))
theorem ep_own {i : Nat} {xs : List α} (h : ρ[i]? = some (.own m (rps xs)) := by rfl) : EvP K (tVar i) ρ (some xs) := fun Ht C0 C H σ I y e Q q => by
  cases e
  obtain ⟨a, vs, e1, _, _, h3, r⟩ := I.ok i _ h
  refine ⟨.ref a, e1, q _ C H I.same ?_⟩
  simp only [rp, Rp.rp, Rep]
  refine ⟨a, vs, rfl, ?_, r.mono (part_le.trans (wOwn_c I))⟩
  unfold wOwn
  rw [if_pos ⟨i, m, _, h, e1⟩]
  exact h3
def EvPs (K : PySem.W.Frag) {A : Type} (ds : A → List Dt) (t : TA) (ρ : En) (r : Option A) : Prop :=
  ∀ (Ht C0 C H : Hp) (σ : St), EnvI K Ht C0 C H σ ρ → ∀ x, r = some x → ∀ Q : List V → Hp → Prop, (∀ vs C' H', Ext C H C' H' → RepL K (wOwn σ ρ C' H') (ds x) vs → Q vs H') → t σ H Q
theorem ep_one {r : Option α} (h : EvP K t ρ r) : EvPs K (fun x : α => [rp x]) (tCons t tNil) ρ r := fun Ht C0 C H σ I z e Q q =>
  h Ht C0 C H σ I z e _ fun v C1 H1 x1 q1 => q [v] C1 H1 x1 (.cons q1 .nil)
theorem ep_cons {ds : A → List Dt} {r : Option α} {r2 : Option A} (h1 : EvP K t ρ r) (h2 : EvPs K ds ta ρ r2) : EvPs K (fun x : α × A => rp x.1 :: ds x.2) (tCons t ta) ρ (r.bind fun x => r2.bind fun y => some (x, y)) := fun Ht C0 C H σ I z e Q q => by
  obtain ⟨x, ex, e⟩ := some_bind e
  obtain ⟨y, ey, e⟩ := some_bind e
  cases e
  refine h1 Ht C0 C H σ I x ex _ fun v C1 H1 x1 q1 => ?_
  refine h2 Ht C0 C1 H1 σ (I.to x1) y ey _ fun vs C2 H2 x2 q2 => q (v :: vs) C2 H2 (x1.trans x2) (.cons (q1.mono (wOwn_x x2)) q2)
/-- what a call with an answer that is new leaves -/
theorem lent {Ht C0 C H C' H' : Hp} {σ : St} (I : EnvI K Ht C0 C H σ ρ) (x : Ext (wOwn σ ρ C H) H C' H') : ∃ C2, Ext C H C2 H' ∧ Same (part .new H C') (part .new Ht C2) := by
  refine ⟨fun a => if (H a).isNone = true then C' a else C a, ⟨fun a o e => ?_, x.h, fun a o e => ?_, fun a h1 h2 => ?_⟩, fun a o e => ?_⟩
  · have : ¬ (H a).isNone = true := by rw [I.sub _ _ e]; simp
    rw [if_neg this]
    exact e
  · split at e
    · exact x.s _ _ e
    · exact x.h _ _ (I.sub _ _ e)
  · have : ¬ (H a).isNone = true := by simpa using h1
    rw [if_neg this]
    exact h2
  · simp only [part] at e ⊢
    split at e
    · rename_i hn
      have hn' : H a = none := by simpa using hn
      rw [free_of I.ext.h hn']
      simp only [Option.isNone_none, if_true]
      rw [if_pos hn]
      exact e
    · cases e
theorem ev_callP {ds : A → List Dt} {f : A → Option R} {ra : Option A} (h : EvPs K ds ta ρ ra) : EvE K (tCall (spA K ds f .new) [] E ta) ρ .new (ra.bind f) := fun Ht C0 C H σ I z e Q q => by
  obtain ⟨x, ex, e⟩ := some_bind e
  refine h Ht C0 C H σ I x ex _ fun vs C1 H1 x1 r1 => ?_
  rw [List.append_nil]
  have I1 := I.to x1
  refine ⟨wOwn σ ρ C1 H1, x, z, wOwn_h I1, r1, e, fun u C' H' y ru => ?_⟩
  obtain ⟨C2, x2, s2⟩ := lent I1 y
  exact q u C2 H' (x1.trans x2) (ru.mono s2)
theorem ev_callPL {α : Type} [Rp α] [Scal α] {ds : A → List Dt} {f : A → Option (List α)} {ra : Option A} (h : EvPs K ds ta ρ ra) : EvL K (tCall (spA K ds f .new) [] E ta) ρ m (ra.bind f) := fun Ht C0 C H σ I z e Q q => by
  obtain ⟨x, ex, e⟩ := some_bind e
  refine h Ht C0 C H σ I x ex _ fun vs C1 H1 x1 r1 => ?_
  rw [List.append_nil]
  have I1 := I.to x1
  refine ⟨wOwn σ ρ C1 H1, x, z, wOwn_h I1, r1, e, fun u C' H' y ru => ?_⟩
  obtain ⟨a, us, rfl, h1, h2⟩ := rep_lst ru
  have hn : H1 a = none := by
    simp only [part] at h1
    split at h1
    · rename_i z; simpa using z
    · cases h1
  exact q a us C1 H' ⟨x1.c, x1.h.trans y.h, x1.s.trans y.h, x1.f⟩ (free_of x1.h hn) (free_of x1.s hn) (y.s _ _ (part_le _ _ h1)) h2.scal
variable {a1 a2 a3 a4 a5 : Type} [Rp a1] [Rp a2] [Rp a3] [Rp a4] [Rp a5]
theorem ev_callP1 {f : a1 → Option R} {r1 : Option a1} (h1 : EvP K t1 ρ r1) : EvE K (tCall (sp1 K f .new) [] E (tCons t1 tNil)) ρ .new (r1.bind f) := ev_callP (ep_one h1)
theorem ev_callP2 {f : a1 → a2 → Option R} {r1 : Option a1} {r2 : Option a2} (h1 : EvP K t1 ρ r1) (h2 : EvP K t2 ρ r2) : EvE K (tCall (sp2 K f .new) [] E (tCons t1 (tCons t2 tNil))) ρ .new (r1.bind fun x => r2.bind fun y => f x y) :=
  (ev_callP (ep_cons h1 (ep_one h2))).res (by cases r1 <;> cases r2 <;> rfl)
theorem ev_callP3 {f : a1 → a2 → a3 → Option R} {r1 : Option a1} {r2 : Option a2} {r3 : Option a3} (h1 : EvP K t1 ρ r1) (h2 : EvP K t2 ρ r2) (h3 : EvP K t3 ρ r3) : EvE K (tCall (sp3 K f .new) [] E (tCons t1 (tCons t2 (tCons t3 tNil)))) ρ .new (r1.bind fun x => r2.bind fun y => r3.bind fun z => f x y z) :=
  (ev_callP (ep_cons h1 (ep_cons h2 (ep_one h3)))).res (by cases r1 <;> cases r2 <;> cases r3 <;> rfl)
theorem ev_callP4 {f : a1 → a2 → a3 → a4 → Option R} {r1 : Option a1} {r2 : Option a2} {r3 : Option a3} {r4 : Option a4} (h1 : EvP K t1 ρ r1) (h2 : EvP K t2 ρ r2) (h3 : EvP K t3 ρ r3) (h4 : EvP K t4 ρ r4) : EvE K (tCall (sp4 K f .new) [] E (tCons t1 (tCons t2 (tCons t3 (tCons t4 tNil))))) ρ .new (r1.bind fun x => r2.bind fun y => r3.bind fun z => r4.bind fun w => f x y z w) :=
  (ev_callP (ep_cons h1 (ep_cons h2 (ep_cons h3 (ep_one h4))))).res (by cases r1 <;> cases r2 <;> cases r3 <;> cases r4 <;> rfl)
theorem ev_callPL1 {α : Type} [Rp α] [Scal α] {f : a1 → Option (List α)} {r1 : Option a1} (h1 : EvP K t1 ρ r1) : EvL K (tCall (sp1 K f .new) [] E (tCons t1 tNil)) ρ m (r1.bind f) := ev_callPL (ep_one h1)
theorem ev_callPL2 {α : Type} [Rp α] [Scal α] {f : a1 → a2 → Option (List α)} {r1 : Option a1} {r2 : Option a2} (h1 : EvP K t1 ρ r1) (h2 : EvP K t2 ρ r2) : EvL K (tCall (sp2 K f .new) [] E (tCons t1 (tCons t2 tNil))) ρ m (r1.bind fun x => r2.bind fun y => f x y) :=
  (ev_callPL (ep_cons h1 (ep_one h2))).res (by cases r1 <;> cases r2 <;> rfl)
end
end L2.DL
namespace L2.DL
theorem ten18 : (10 : Int) ^ (18 : Int).toNat = 1000000000000000000 := by decide +kernel
theorem ten9 : (10 : Int) ^ (9 : Int).toNat = 1000000000 := by decide +kernel
theorem ten12 : (10 : Int) ^ (12 : Int).toNat = 1000000000000 := by decide +kernel
theorem ten6 : (10 : Int) ^ (6 : Int).toNat = 1000000 := by decide +kernel
theorem map_bind_ {A B : Type} (f : A → B) (x : Option A) : x.map f = x.bind fun a => some (f a) := by cases x <;> rfl
theorem bind_some_ {A : Type} (x : Option A) : (x.bind fun a => some a) = x := by cases x <;> rfl
end L2.DL
namespace L2.DL
open PySem PySem.Spec PyProof.Rows
section
variable {K : PySem.W.Frag} {t u : TS} {ρ : En} {m mi : Md} {S T R : Type} [Rp R] {E : S → En} {L : T → En} {α : Type} [Rp α] {c : TT} {w : TI} {g : TG} {ta : TA}
theorem EvXs.res {n : Nat} {r r' : Option (List α)} (h : EvXs K ta ρ m n r) (e : r' = r) : EvXs K ta ρ m n r' := e ▸ h
theorem en_ifP {b : Bool} {o1 o2 : Option S} (hc : EvT K c ρ (some b)) (h1 : EvN K t ρ E o1) (h2 : EvN K u ρ E o2) : EvN K (tIfS c t u) ρ E (if b = true then o1 else o2) := en_if hc h1 h2
theorem er_ifP {b : Bool} {o1 o2 : Option R} (hc : EvT K c ρ (some b)) (h1 : EvR K t ρ m o1) (h2 : EvR K u ρ m o2) : EvR K (tIfS c t u) ρ m (if b = true then o1 else o2) := er_if hc h1 h2
theorem ef_ifP {b : Bool} {o1 o2 : Option (Fl S T R)} (hc : EvT K c ρ (some b)) (h1 : EvF K t ρ E L m o1) (h2 : EvF K u ρ E L m o2) : EvF K (tIfS c t u) ρ E L m (if b = true then o1 else o2) := ef_if hc h1 h2
theorem en_forP {vs : List Nat} {xs : List α} {s0 : S} {f : S → α → Option S} {Eb : S → α → En} (hi : EvI K w ρ mi (some xs)) (h0 : EnvW ρ (E s0)) (hg : ∀ s x, EvG K g mi (rp x) (E s) (Eb s x) vs)
    (hb : ∀ s x, EvN K t (Eb s x) E (f s x)) : EvN K (tFor w g t) ρ E (xs.foldlM f s0) := en_for hi h0 hg hb
theorem ef_forP {vs : List Nat} {xs : List α} {s0 : S} {f : S → α → Option (Fl S S R)} {Eb : S → α → En} (hi : EvI K w ρ mi (some xs)) (h0 : EnvW ρ (E s0)) (hg : ∀ s x, EvG K g mi (rp x) (E s) (Eb s x) vs)
    (hb : ∀ s x, EvF K t (Eb s x) E E m (f s x)) : EvF K (tFor w g t) ρ E L m (forL f xs s0) := ef_for hi h0 hg hb
theorem EvR.FP {r : R} (h : EvR K t ρ m (some r)) : EvF K t ρ E L m (some (.rt r : Fl S T R)) := EvR.F h
theorem ef_cutRP {r : R} (h : EvR K t ρ m (some r)) : EvF K (tSeq t u) ρ E L m (some (.rt r : Fl S T R)) := ef_cutR h
theorem ev_powV {a b v : Int} (h : 0 ≤ b ∧ b ≤ 1000000 ∧ a.natAbs < 2 ^ 64 := by decide) (hv : a ^ b.toNat = v := by decide +kernel) : EvE K (tOp (rI CPow fun i j => .int (i ^ j.toNat)) (tC (.int a)) (tC (.int b))) ρ .new (some v) := hv ▸ ev_pow h
end
end L2.DL

namespace L2.DL
open PySem PySem.Spec PyProof.Rows

/-! ## plain laws: what a mirror returns -/
def Rets {α : Type} (m : Option α) (Q : α → Prop) : Prop := ∃ x, m = some x ∧ Q x
section
variable {α β γ : Type} {m : Option α} {Q : α → Prop} {R : β → Prop}
theorem Rets.pure {x : α} (h : Q x) : Rets (some x) Q := ⟨x, rfl, h⟩
theorem Rets.bind {f : α → Option β} (h : Rets m Q) (k : ∀ x, Q x → Rets (f x) R) : Rets (m.bind f) R := by
  obtain ⟨x, rfl, q⟩ := h
  exact k x q
theorem Rets.some {x : α} {f : α → Option β} (k : Rets (f x) R) : Rets ((some x).bind f) R := k
theorem Rets.mono {Q' : α → Prop} (h : Rets m Q) (k : ∀ x, Q x → Q' x) : Rets m Q' := by
  obtain ⟨x, rfl, q⟩ := h
  exact ⟨x, rfl, k x q⟩
theorem Rets.ite {c : Prop} [Decidable c] {a b : Option α} (h1 : c → Rets a Q) (h2 : ¬ c → Rets b Q) : Rets (if c then a else b) Q := by
  split
  · exact h1 ‹_›
  · exact h2 ‹_›
theorem Rets.fold {f : β → α → Option β} (I : Nat → β → Prop) {N : Nat} : ∀ (l : List α) (k : Nat) (s : β), k + l.length ≤ N → I k s → (∀ k s x, x ∈ l → k < N → I k s → Rets (f s x) (I (k + 1))) → Rets (l.foldlM f s) (I (k + l.length))
  | [], k, s, _, h, _ => ⟨s, rfl, h⟩
  | x :: l, k, s, hN, h, st => by
    rw [List.length_cons] at hN
    obtain ⟨t, et, ht⟩ := st k s x List.mem_cons_self (by omega) h
    have h2 := Rets.fold I l (k + 1) t (by omega) ht fun k s y hy => st k s y (List.mem_cons_of_mem _ hy)
    have e : (x :: l).foldlM f s = l.foldlM f t := by
      rw [List.foldlM_cons, et]
      rfl
    rw [e, List.length_cons, show k + (l.length + 1) = k + 1 + l.length by omega]
    exact h2
theorem foldlM_app {f : β → α → Option β} : ∀ (l r : List α) (s : β), (l ++ r).foldlM f s = (l.foldlM f s).bind fun t => r.foldlM f t := fun l r s => by
  rw [List.foldlM_append]
  rfl
theorem foldlM_cons' {f : β → α → Option β} (x : α) (l : List α) (s : β) : (x :: l).foldlM f s = (f s x).bind fun t => l.foldlM f t := by
  rw [List.foldlM_cons]
  rfl
theorem foldlM_one {f : β → α → Option β} (x : α) (s : β) : [x].foldlM f s = f s x := by
  rw [foldlM_cons']
  cases f s x <;> rfl
theorem rangeL_nat (n : Nat) : rangeL 0 (n : Int) = (List.range n).map fun k : Nat => (k : Int) := by
  unfold rangeL
  rw [show ((n : Int) - 0).toNat = n by omega]
  exact List.map_congr_left fun k _ => by omega
theorem rangeP_nat {n : Nat} (h : n < 2 ^ 62) : rangeP 0 (n : Int) = some ((List.range n).map fun k : Nat => (k : Int)) := by
  rw [rangeP_def, rangeL_nat, if_pos]
  refine ⟨by decide, by decide, by omega, by omega⟩
theorem fold_range {f : β → Int → Option β} (I : Nat → β → Prop) {s : β} (h0 : I 0 s) : ∀ (n : Nat), (∀ k s, k < n → I k s → Rets (f s (k : Int)) (I (k + 1))) → Rets (((List.range n).map fun k : Nat => (k : Int)).foldlM f s) (I n)
  | 0, _ => ⟨s, rfl, h0⟩
  | n + 1, st => by
    obtain ⟨t, et, ht⟩ := fold_range I h0 n fun k s hk => st k s (by omega)
    obtain ⟨u, eu, hu⟩ := st n t (by omega) ht
    refine ⟨u, ?_, hu⟩
    rw [List.range_succ, List.map_append, foldlM_app, et]
    show [(n : Int)].foldlM f t = Option.some u
    rw [foldlM_one]
    exact eu
theorem Rets.range {f : β → Int → Option β} {n : Int} (I : Nat → β → Prop) {s : β} (hn : n < 2 ^ 62) (hn0 : 0 ≤ n) (h0 : I 0 s) (st : ∀ k s, k < n.toNat → I k s → Rets (f s (k : Int)) (I (k + 1))) : Rets ((rangeP 0 n).bind fun l => l.foldlM f s) (I n.toNat) := by
  have e : rangeP 0 n = rangeP 0 ((n.toNat : Nat) : Int) := congrArg _ (by omega)
  rw [e, rangeP_nat (by omega)]
  exact fold_range I h0 _ st
theorem atI_nat {l : List α} {k : Nat} (h : k < l.length) : atI l (k : Int) = Option.some l[k] := by
  unfold atI ixN
  rw [if_pos (by omega), if_pos (by omega)]
  show l[(k : Int).toNat]? = _
  rw [Int.toNat_natCast, List.getElem?_eq_getElem h]
theorem atI_int {l : List α} {i : Int} (h0 : 0 ≤ i) (h : i < l.length) : atI l i = Option.some (l[i.toNat]'(by omega)) := by
  obtain ⟨k, rfl⟩ := Int.eq_ofNat_of_zero_le h0
  exact atI_nat (k := k) (by omega)
theorem cut_take {l : List α} {k : Nat} : cut l none (Option.some (k : Int)) = l.take k := by
  unfold cut
  rw [HT.sIx_none, HT.sIx_nat]
  simp only [List.drop_zero, Nat.sub_zero]
  rcases Nat.le_total k l.length with h | h
  · rw [Nat.min_eq_left h]
  · rw [Nat.min_eq_right h, List.take_length, List.take_of_length_le h]
theorem cut_drop {l : List α} {k : Nat} : cut l (Option.some (k : Int)) none = l.drop k := by
  unfold cut
  rw [HT.sIx_none, HT.sIx_nat]
  rcases Nat.le_total k l.length with h | h
  · rw [Nat.min_eq_left h]
    exact List.take_of_length_le (by simp)
  · rw [Nat.min_eq_right h, List.drop_length, List.drop_of_length_le h, List.take_nil]
theorem cut_both {l : List α} {j k : Nat} : cut l (Option.some (j : Int)) (Option.some (k : Int)) = (l.drop j).take (k - j) := by
  unfold cut
  rw [HT.sIx_nat, HT.sIx_nat]
  rcases Nat.le_total j l.length with h | h
  · rw [Nat.min_eq_left h]
    rcases Nat.le_total k l.length with h' | h'
    · rw [Nat.min_eq_left h']
    · rw [Nat.min_eq_right h', List.take_of_length_le (by simp), List.take_of_length_le (by simp; omega)]
  · rw [Nat.min_eq_right h, List.drop_length, List.drop_of_length_le h]
    simp
end
/-- every draw -/
def Drawn (l : List Int) : Prop := ∀ x ∈ l, 0 ≤ x ∧ x < 1000003
theorem Drawn.snoc {l : List Int} {x : Int} (h : Drawn l) (h0 : 0 ≤ x) (h1 : x < 1000003) : Drawn (l ++ [x]) := fun y hy => by
  rcases List.mem_append.mp hy with h' | h'
  · exact h y h'
  · rw [List.mem_singleton.mp h']
    exact ⟨h0, h1⟩
def drawsP (a_script : Scr) (a_many : Int) : Option (List Int) :=
 (some ([] : (List Int))).bind fun found_1 =>
 ((cut a_script.l none (some (63 : Int))).foldlM (fun (s5 : (List Int)) (cell_6 : Int) =>
 (some (if cell_6 < 0 then -cell_6 else cell_6)).bind fun number_8 =>
 (if (decide ((1000000000000000000 : Int) ≤ number_8)) = true then
 ((rangeP 0 (60 : Int)).bind fun l23 => l23.foldlM (fun (s12 : ((List Int) × Int)) (k_13 : Int) =>
 (if (decide ((0 : Int) < s12.2)) = true then
 (lim (s12.1 ++ [(s12.2 % 1000003)])).bind fun found_16 =>
 (some (s12.2 / 1000003)).bind fun number_20 =>
 some (found_16, number_20)
else
 some (s12.1, s12.2))) (s5, number_8)).bind fun (s24 : ((List Int) × Int)) =>
 some s24.1
else
 (some ((((number_8 * 48271) + (7 * (s5.length : Int))) + (11 : Int)) % 2147483647)).bind fun mixed_33 =>
 ((rangeP 0 (4 : Int)).bind fun l53 => l53.foldlM (fun (s35 : ((List Int) × Int)) (k_36 : Int) =>
 (some (((((s35.2 * 69621) + (s35.2 / 65536)) + (13 * k_36)) + (5 : Int)) % 2147483629)).bind fun mixed_47 =>
 (lim (s35.1 ++ [((mixed_47 / 8) % 1000003)])).bind fun found_48 =>
 some (found_48, mixed_47)) (s5, mixed_33)).bind fun (s54 : ((List Int) × Int)) =>
 some s54.1)) found_1).bind fun (s58 : (List Int)) =>
 ((rangeP 0 a_many).bind fun l91 => l91.foldlM (fun (s60 : (List Int)) (k_61 : Int) =>
 (if (decide ((s60.length : Int) < a_many)) = true then
 (some (0 : Int)).bind fun base_65 =>
 ((if (decide ((0 : Int) < (s60.length : Int))) = true then
 ((modP k_61 (s60.length : Int)).bind fun v74 => atI s60 v74).bind fun base_75 =>
 some base_75
else
 some base_65)).bind fun (s77 : Int) =>
 (lim (s60 ++ [((((s77 * 16807) + (31 * (s60.length : Int))) + (17 : Int)) % 1000003)])).bind fun found_78 =>
 some found_78
else
 some s60)) s58).bind fun (s92 : (List Int)) =>
 some (cut s92 none (some a_many))
theorem drawsP_ok {ns : List Int} {many : Nat} (hm : many ≤ 1000) : Rets (drawsP ⟨ns⟩ (many : Int)) fun ds => ds.length = many ∧ Drawn ds := by
  unfold drawsP
  refine .some ?_
  refine .bind (Q := fun s : List Int => s.length ≤ 3780 ∧ Drawn s) ?_ ?_
  · have hl : (cut (Scr.mk ns).l none (some (63 : Int))).length ≤ 63 := by
      show (cut ns none (some ((63 : Nat) : Int))).length ≤ 63
      rw [cut_take, List.length_take]
      omega
    refine (Rets.fold (N := 63) (fun k (s : List Int) => s.length ≤ 60 * k ∧ Drawn s) _ 0 _ (by omega) ⟨Nat.zero_le _, by simp [Drawn]⟩ ?_).mono fun s h => ?_
    · intro k s x hx hk hI
      refine .some ?_
      obtain ⟨h1, h2⟩ := hI
      refine .ite (fun _ => ?_) fun _ => ?_
      · refine .bind (Rets.range (fun j (t : List Int × Int) => t.1.length ≤ 60 * k + j ∧ Drawn t.1) (by decide) (by decide) ⟨by omega, h2⟩ ?_) fun t ht => .pure ⟨by have := ht.1; simp only [Int.reduceToNat] at this; omega, ht.2⟩
        intro j t hj ht
        have hj' : j < 60 := hj
        refine .ite (fun _ => ?_) fun _ => .pure ⟨by show t.1.length ≤ _; omega, ht.2⟩
        rw [lim_of (by rw [List.length_append, List.length_singleton]; omega)]
        exact .pure ⟨by rw [List.length_append, List.length_singleton]; omega, ht.2.snoc (by omega) (by omega)⟩
      · refine .some ?_
        refine .bind (Rets.range (fun j (t : List Int × Int) => t.1.length ≤ 60 * k + j ∧ Drawn t.1) (by decide) (by decide) ⟨by omega, h2⟩ ?_) fun t ht => .pure ⟨by have := ht.1; simp only [Int.reduceToNat] at this; omega, ht.2⟩
        intro j t hj ht
        have hj' : j < 4 := hj
        refine .some ?_
        rw [lim_of (by rw [List.length_append, List.length_singleton]; omega)]
        exact .pure ⟨by rw [List.length_append, List.length_singleton]; omega, ht.2.snoc (by omega) (by omega)⟩
    · obtain ⟨h1, h2⟩ := h
      exact ⟨by omega, h2⟩
  · intro s hs
    refine .bind (Rets.range (fun j (t : List Int) => t.length ≤ 3780 + j ∧ Drawn t ∧ (j ≤ t.length ∨ many ≤ t.length)) (by omega) (by omega) ⟨by omega, hs.2, by omega⟩ ?_) fun t ht => ?_
    · intro j t hj ⟨h1, h2, h3⟩
      refine .ite (fun h => ?_) fun h => .pure ⟨by omega, h2, ?_⟩
      · refine .some ?_
        refine .bind (Q := fun _ => True) ?_ fun b _ => ?_
        · refine .ite (fun h4 => ?_) fun _ => .pure trivial
          have h4' := of_decide_eq_true h4
          rw [modP_def, if_pos h4']
          rw [show (some ((j : Int) % (t.length : Int))).bind (fun v74 => atI t v74) = atI t ((j : Int) % (t.length : Int)) from rfl]
          rw [atI_int (Int.emod_nonneg _ (by omega)) (Int.emod_lt_of_pos _ h4')]
          exact .pure trivial
        · rw [lim_of (by rw [List.length_append, List.length_singleton]; omega)]
          refine .pure ⟨by rw [List.length_append, List.length_singleton]; omega, h2.snoc (by omega) (by omega), ?_⟩
          rw [List.length_append, List.length_singleton]
          have := of_decide_eq_true h
          omega
      · have : ¬ (t.length : Int) < many := fun q => h (decide_eq_true q)
        omega
    · obtain ⟨h1, h2, h3⟩ := ht
      rw [cut_take]
      refine .pure ⟨by rw [List.length_take]; omega, fun x hx => h2 x (List.mem_of_mem_take hx)⟩
/-! ### == of data, of the types at hand -/
class EqR (α : Type) [Rp α] [DecidableEq α] where
  dep : Nat
  lay : ∀ x : α, PyData.canLay0 (toPy (rp x)) = true ∧ PyData.depth (toPy (rp x)) ≤ dep
  eq : ∀ x y : α, PyData.eqv (toPy (rp x)) (toPy (rp y)) = decide (x = y)
section
variable {α β γ δ : Type} [Rp α] [Rp β] [Rp γ] [Rp δ] [DecidableEq α] [DecidableEq β] [DecidableEq γ] [DecidableEq δ]
instance : EqR Int := ⟨0, fun x => ⟨by simp [rp, Rp.rp, toPy, PyData.canLay0], by simp [rp, Rp.rp, toPy, PyData.depth]⟩, fun x y => by simp only [rp, Rp.rp, toPy, PyData.eqv]; rfl⟩
instance : EqR Bool := ⟨0, fun x => ⟨by simp [rp, Rp.rp, toPy, PyData.canLay0], by simp [rp, Rp.rp, toPy, PyData.depth]⟩, fun x y => by simp only [rp, Rp.rp, toPy, PyData.eqv]; cases x <;> cases y <;> rfl⟩
theorem toPyL_map : ∀ l : List Dt, toPyL l = l.map toPy
  | [] => by simp only [toPyL, List.map_nil]
  | d :: l => by simp only [toPyL, List.map_cons, toPyL_map l]
theorem layAll [EqR α] : ∀ l : List α, PyData.canLayAll0 (toPyL (l.map rp)) = true ∧ PyData.depthAll (toPyL (l.map rp)) ≤ EqR.dep α
  | [] => by simp [toPyL, PyData.canLayAll0, PyData.depthAll]
  | x :: l => by
    obtain ⟨h1, h2⟩ := EqR.lay x
    obtain ⟨h3, h4⟩ := layAll l
    simp only [List.map_cons, toPyL, PyData.canLayAll0, PyData.depthAll]
    exact ⟨by rw [h1, h3]; rfl, by omega⟩
theorem eqAll [EqR α] : ∀ l r : List α, PyData.eqvAll (toPyL (l.map rp)) (toPyL (r.map rp)) = decide (l = r)
  | [], [] => by simp [toPyL, PyData.eqvAll]
  | [], _ :: _ => by simp [toPyL, PyData.eqvAll]
  | _ :: _, [] => by simp [toPyL, PyData.eqvAll]
  | x :: l, y :: r => by
    simp only [List.map_cons, toPyL, PyData.eqvAll]
    rw [EqR.eq x y, eqAll l r]
    by_cases h1 : x = y <;> by_cases h2 : l = r <;> simp [h1, h2]
instance [EqR α] : EqR (List α) := ⟨EqR.dep α + 1, fun l => by
  obtain ⟨h3, h4⟩ := layAll l
  simp only [rp, Rp.rp, toPy, PyData.canLay0, PyData.depth]
  exact ⟨h3, by omega⟩, fun l r => by
  simp only [rp, Rp.rp, toPy, PyData.eqv]
  exact eqAll l r⟩
instance [EqR α] [EqR β] : EqR (α × β) := ⟨max (EqR.dep α) (EqR.dep β) + 1, fun l => by
  obtain ⟨h1, h2⟩ := EqR.lay l.1
  obtain ⟨h3, h4⟩ := EqR.lay l.2
  simp only [rp, Rp.rp, toPy, toPyL, PyData.canLay0, PyData.canLayAll0, PyData.depth, PyData.depthAll] at *
  exact ⟨by simp [h1, h3], by omega⟩, fun l r => by
  have h1 := EqR.eq l.1 r.1
  have h2 := EqR.eq l.2 r.2
  simp only [rp, Rp.rp, toPy, toPyL, PyData.eqv, PyData.eqvAll] at *
  rw [h1, h2]
  by_cases h1 : l.1 = r.1 <;> by_cases h2 : l.2 = r.2 <;> simp [h1, h2, Prod.ext_iff]⟩
theorem eqD_of [EqR α] {x y : α} (h : EqR.dep α ≤ 64) : eqD (rp x) (rp y) = some (decide (x = y)) := by
  unfold eqD SeqAt.shaped
  obtain ⟨h1, h2⟩ := EqR.lay x
  obtain ⟨h3, h4⟩ := EqR.lay y
  rw [if_pos, EqR.eq]
  rw [h1, h3, decide_eq_true (Nat.le_trans h2 h), decide_eq_true (Nat.le_trans h4 h)]
  exact ⟨rfl, rfl⟩
theorem eqD_int {x y : Int} : eqD (rp x) (rp y) = some (decide (x = y)) := eqD_of (by decide)
theorem eqD_ints {x y : List Int} : eqD (rp x) (rp y) = some (decide (x = y)) := eqD_of (by decide)
theorem eqD_intss {x y : List (List Int)} : eqD (rp x) (rp y) = some (decide (x = y)) := eqD_of (by decide)
end
/-! ### steps of a mirror, that simp takes as steps and not as unfoldings -/
theorem bind_s {α β : Type} {x : α} {f : α → Option β} : (some x).bind f = f x := by rw [Option.bind_some]
theorem map_s {α β : Type} {x : α} {f : α → β} : (some x).map f = some (f x) := by rw [Option.map_some]
theorem not_t : (!true) = false := by rw [Bool.not_true]
theorem not_f : (!false) = true := by rw [Bool.not_false]
theorem ret_nx {S T R : Type} {s : S} {f : S → Option R} : Fl.ret (T := T) (some (.nx s)) f = f s := by
  unfold Fl.ret
  rw [bind_s]
theorem ret_rt {S T R : Type} {r : R} {f : S → Option R} : Fl.ret (T := T) (some (.rt r)) f = some r := by
  unfold Fl.ret
  rw [bind_s]
theorem if_ft {α : Type} {a b : α} : (if false = true then a else b) = b := if_neg Bool.false_ne_true
theorem if_tt {α : Type} {a b : α} : (if true = true then a else b) = a := if_pos rfl
theorem draw_at {ds : List Int} {n : Nat} (h : ds.length = n ∧ Drawn ds) (j : Int) (h0 : 0 ≤ j) (h1 : j < n) : ∃ x, atI ds j = some x ∧ 0 ≤ x ∧ x < 1000003 :=
  ⟨_, atI_int h0 (by rw [h.1]; exact h1), h.2 _ (List.getElem_mem _)⟩
end L2.DL

namespace L2.DL
open PySem PySem.Spec PyProof.Rows
section
variable {K : PySem.W.Frag} {ta tb : TE} {ρ : En} {m m1 m2 : Md}
variable {α β γ : Type} [Rp α] [Rp β] [Rp γ]
/-! ### an option that is there -/
theorem EvE.un {r : Option (Option α)} (h : EvE K ta ρ m r) : EvE K ta ρ m (r.bind fun x => x) := fun Ht C0 C H σ I x e Q q => by
  obtain ⟨y, ey, e⟩ := some_bind e
  subst e
  exact h Ht C0 C H σ I _ ey Q fun v C' H' z rv => q v C' H' z rv
/-! ### sorted -/
def insI (x : Int) : List Int → List Int
  | [] => [x]
  | y :: l => if x ≤ y then x :: y :: l else y :: insI x l
def sortI : List Int → List Int
  | [] => []
  | x :: l => insI x (sortI l)
theorem insI_perm (x : Int) : ∀ l : List Int, (insI x l).Perm (x :: l)
  | [] => .refl _
  | y :: l => by
    unfold insI
    split
    · exact .refl _
    · exact (List.Perm.cons y (insI_perm x l)).trans (List.Perm.swap x y l)
theorem sortI_perm : ∀ xs : List Int, (sortI xs).Perm xs
  | [] => .refl _
  | x :: l => (insI_perm x (sortI l)).trans (List.Perm.cons x (sortI_perm l))
theorem insI_pw (x : Int) : ∀ l : List Int, l.Pairwise (· ≤ ·) → (insI x l).Pairwise (· ≤ ·)
  | [], _ => List.pairwise_singleton _ _
  | y :: l, h => by
    unfold insI
    split
    · rename_i hxy
      refine List.pairwise_cons.mpr ⟨fun z hz => ?_, h⟩
      rcases List.mem_cons.mp hz with rfl | hz
      · exact hxy
      · have := (List.pairwise_cons.mp h).1 z hz
        omega
    · rename_i hxy
      refine List.pairwise_cons.mpr ⟨fun z hz => ?_, insI_pw x l (List.pairwise_cons.mp h).2⟩
      rcases List.mem_cons.mp ((insI_perm x l).mem_iff.mp hz) with rfl | hz
      · omega
      · exact (List.pairwise_cons.mp h).1 z hz
theorem sortI_pw : ∀ xs : List Int, (sortI xs).Pairwise (· ≤ ·)
  | [] => List.Pairwise.nil
  | x :: l => insI_pw x _ (sortI_pw l)
theorem sortI_uniq {xs ys : List Int} (h1 : ys.Perm xs) (h2 : ys.Pairwise (· ≤ ·)) : ys = sortI xs :=
  (h1.trans (sortI_perm xs).symm).eq_of_pairwise (le := (· ≤ ·)) (fun a b _ _ h h' => by omega) h2 (sortI_pw xs)
theorem ev_sortI {ra : Option (List Int)} (ha : EvB K ta ρ m1 ra) : EvL K (tCB (rSortedI K) (tCons ta tNil)) ρ .new (ra.bind fun x => some (sortI x)) := fun Ht C0 C H σ I z e Q q => by
  obtain ⟨x, ex, e⟩ := some_bind e
  cases e
  refine ha Ht C0 C H σ I x ex _ fun a vs C1 H1 x1 h1 r1 => ?_
  rw [r1.ints_eq] at h1
  refine ⟨a, x, rfl, .of h1, fun ns' p hp hw hn => ?_⟩
  rw [sortI_uniq hp hw]
  exact new_list x1 hn (RepL.ints _) q
end
theorem EvG.sub {K : PySem.W.Frag} {g : TG} {m : Md} {d : Dt} {ρ ρ' : En} {a b : List Nat} (h : EvG K g m d ρ ρ' a) (hs : ∀ i ∈ a, i ∈ b) : EvG K g m d ρ ρ' b := fun Ht C0 C H σ v I r Q q =>
  h Ht C0 C H σ v I r Q fun σ' I' e l => q σ' I' (fun j hj => e j fun hm => hj (hs j hm)) l
/-! ### comprehensions with two sources -/
def comp2 {α β γ : Type} (p : α → Option Bool) (r : α → Option (List γ)) (q : α → γ → Option Bool) (f : α → γ → Option β) : List α → Option (List β)
  | [] => some []
  | x :: xs => (p x).bind fun b => if b = true then (r x).bind fun us => (compM (q x) (f x) us).bind fun ys => (comp2 p r q f xs).bind fun zs => some (ys ++ zs) else comp2 p r q f xs
inductive OwnSub : En → En → Prop
  | nil : OwnSub [] []
  | un {a b : En} {s : Slot} : OwnSub a b → OwnSub (.un :: a) (s :: b)
  | dat {a b : En} {s : Slot} {m : Md} {d : Dt} : OwnSub a b → OwnSub (.dat m d :: a) (s :: b)
  | own {a b : En} {m : Md} {l : List Dt} : OwnSub a b → OwnSub (.own m l :: a) (.own m l :: b)
theorem OwnSub.at {a b : En} (h : OwnSub a b) : ∀ {i : Nat} {m : Md} {l : List Dt}, a[i]? = some (.own m l) → b[i]? = some (.own m l) := by
  induction h with
  | nil => intro i m l e; exact e
  | un h ih =>
    intro i m l e
    cases i with
    | zero => simp at e
    | succ i => simpa using ih (by simpa using e)
  | dat h ih =>
    intro i m l e
    cases i with
    | zero => simp at e
    | succ i => simpa using ih (by simpa using e)
  | own h ih =>
    intro i m l e
    cases i with
    | zero => simpa using e
    | succ i => simpa using ih (by simpa using e)
def era (D : Addr) (H : Hp) : Hp := fun a => if a = D then none else H a
theorem era_ne {D a : Addr} {H : Hp} (h : a ≠ D) : era D H a = H a := if_neg h
theorem era_le {D : Addr} {H : Hp} : Same (era D H) H := fun a o e => by
  by_cases h : a = D
  · rw [era, if_pos h] at e; cases e
  · rw [era_ne h] at e; exact e
theorem era_upd {D : Addr} {H : Hp} {o : HO} : era D (upd H D o) = era D H := by
  funext a
  by_cases h : a = D
  · simp only [era, if_pos h]
  · rw [era_ne h, era_ne h, upd_ne h]
theorem Ext.era {C H C' H' : Hp} {D : Addr} (x : Ext C H C' H') (h : H D ≠ none) (c : C D = none) : Ext C (DL.era D H) C' (DL.era D H') := by
  have c' := x.f D h c
  refine ⟨x.c, fun a o e => ?_, fun a o e => ?_, fun a e n => ?_⟩
  · by_cases hd : a = D
    · rw [DL.era, if_pos hd] at e; cases e
    · rw [era_ne hd] at e ⊢
      exact x.h _ _ e
  · have hd : a ≠ D := fun z => by rw [z, c'] at e; cases e
    rw [era_ne hd]
    exact x.s _ _ e
  · have hd : a ≠ D := fun z => e (by rw [z]; exact if_pos rfl)
    rw [era_ne hd] at e
    exact x.f a e n
theorem EnvI.back {K : PySem.W.Frag} {Ht C0 C H : Hp} {σ : St} {ρ : En} {D : Addr} (I : EnvI K Ht C0 C (era D H) σ ρ) : EnvI K Ht C0 C H σ ρ :=
  ⟨⟨I.ext.c, I.ext.h.trans era_le, I.ext.s.trans era_le, I.ext.f⟩, I.len, fun i s e => by
    have := I.ok i s e
    cases s with
    | un => exact this
    | dat m d => exact this
    | isl A d => exact this
    | err a dd fs => exact ⟨this.1, fun y e => era_le _ _ (this.2 y e)⟩
    | own m l =>
      obtain ⟨a, vs, h1, h2, h3, h4, h5⟩ := this
      exact ⟨a, vs, h1, h2, h3, era_le _ _ h4, h5⟩, I.sep⟩
theorem EnvI.era {K : PySem.W.Frag} {Ht C0 C H : Hp} {σ : St} {ρ : En} {D : Addr} (I : EnvI K Ht C0 C H σ ρ) (ht : Ht D = none) (hc : C D = none) (ho : ∀ (i : Nat) m l, ρ[i]? = some (.own m l) → σ[i]? ≠ some (some (.ref D))) (hl : ∃ l, H D = some (.lst l)) : EnvI K Ht C0 C (DL.era D H) σ ρ :=
  ⟨⟨I.ext.c, fun a o e => by
      rw [era_ne (fun z => by rw [z, ht] at e; cases e)]
      exact I.ext.h _ _ e, fun a o e => by
      rw [era_ne (fun z => by rw [z, hc] at e; cases e)]
      exact I.ext.s _ _ e, I.ext.f⟩, I.len, fun i s e => by
    have := I.ok i s e
    cases s with
    | un => exact this
    | dat m d => exact this
    | isl A d => exact this
    | err a dd fs => exact ⟨this.1, fun y ey => by
        have hy := this.2 y ey
        obtain ⟨l, hl⟩ := hl
        rw [era_ne (fun z => by rw [z, hl] at hy; cases hy)]
        exact hy⟩
    | own m l =>
      obtain ⟨a, vs, h1, h2, h3, h4, h5⟩ := this
      refine ⟨a, vs, h1, h2, h3, ?_, h5⟩
      rw [era_ne (fun z => ho i m l e (by rw [h1, z]))]
      exact h4, I.sep⟩
section
variable {K : PySem.W.Frag} {te : TE} {ρ : En} {m mi mj : Md} {w w1 : TI} {g g1 : TG} {tt tt1 : TT}
variable {α β γ : Type} [Rp α] [Rp β] [Rp γ]
theorem ev_lc2 {vs vs1 : List Nat} {rx : Option (List α)} {p : α → Option Bool} {r : α → Option (List γ)} {q : α → γ → Option Bool} {f : α → γ → Option β} {Eb : α → En} {Ec : α → γ → En}
    (hi : EvI K w ρ mi rx) (hg : ∀ x, EvG K g mi (rp x) (wipeE ρ vs) (Eb x) vs) (ho : ∀ x, OwnSub (Eb x) (wipeE ρ vs)) (ht : ∀ x, EvT K tt (Eb x) (p x))
    (hi1 : ∀ x, EvI K w1 (Eb x) mj (r x)) (hg1 : ∀ x u, EvG K g1 mj (rp u) (wipeE (Eb x) vs1) (Ec x u) vs1) (ht1 : ∀ x u, EvT K tt1 (Ec x u) (q x u)) (he : ∀ x u, EvE K te (Ec x u) m (f x u)) :
    EvL K (tLc2 w g tt w1 g1 tt1 te vs vs1) ρ m (rx.bind fun xs => (comp2 p r q f xs).bind lim) := fun Ht C0 C H σ I z e Q qq => by
  obtain ⟨xs, ex, e⟩ := some_bind e
  obtain ⟨all, ea, e⟩ := some_bind e
  obtain ⟨hz, rfl⟩ := of_lim e
  refine hi Ht C0 C H σ I xs ex _ fun J C1 H1 x1 ok => fun D hD => ?_
  refine ⟨fun i n Hc => n = xs.length - i ∧ i ≤ xs.length ∧ ∃ Cc ys acc rest, Ext C1 H1 Cc Hc ∧ Cc D = none ∧ Hc D = some (.lst acc) ∧ RepL K (part m Ht Cc) (rps ys) acc ∧ comp2 p r q f (xs.drop i) = some rest ∧ ys ++ rest = z,
    ⟨xs.length, rfl, Nat.zero_le _, C1, [], [], z, ⟨.refl _, same_upd hD, x1.s.trans (same_upd hD), fun a _ h => h⟩, free_of x1.s hD, upd_same, .nil, ea, rfl⟩, ?_⟩
  rintro i n Hc ⟨rfl, hi', Cc, ys, acc, rest, xc, cD, hDc, ra, er, eq⟩
  by_cases hlt : i < xs.length
  · have ed : (rps xs)[i]? = some (rp xs[i]) := by rw [rps, List.getElem?_map, List.getElem?_eq_getElem hlt]; rfl
    obtain ⟨go, yl⟩ := ok.go i Cc Hc _ ed xc.c xc.s (I.ext.h.trans (x1.h.trans xc.h))
    refine .inr ⟨go, fun H' => ∃ Cc ys acc rest, Ext C1 H1 Cc H' ∧ Cc D = none ∧ H' D = some (.lst acc) ∧ RepL K (part m Ht Cc) (rps ys) acc ∧ comp2 p r q f (xs.drop (i + 1)) = some rest ∧ ys ++ rest = z,
      fun H' h => ⟨xs.length - (i + 1), by omega, rfl, hlt, h⟩, fun x H' hy => ?_⟩
    obtain ⟨C2, x2, r2⟩ := yl x H' hy
    have dn : Hc D ≠ none := by rw [hDc]; simp
    rw [List.drop_eq_getElem_cons hlt] at er
    obtain ⟨b, eb, er⟩ := some_bind er
    have I1 := I.to x1
    have I2 := (I1.to (xc.trans x2)).wipe vs
    refine hg xs[i] Ht C0 C2 H' (wipe σ vs) x I2 r2 _ fun σ3 I3 e3 l3 => ⟨wipe_eq e3 (l3.trans (wipe_length _ _)), ?_⟩
    refine ht xs[i] Ht C0 C2 H' σ3 I3 b eb _ fun C4 H4 x4 => ?_
    have xa := (xc.trans x2).trans x4
    have d2 : H' D ≠ none := Same.ne x2.h dn
    have d4 : H4 D ≠ none := Same.ne x4.h d2
    have c4 : C4 D = none := x4.f D d2 (x2.f D dn cD)
    cases b with
    | false =>
      rw [if_neg Bool.false_ne_true] at er
      exact iteF ⟨C4, ys, acc, rest, xa, c4, x4.h _ _ (x2.h _ _ hDc), ra.mono (part_mono (x2.c.trans x4.c)), er, eq⟩
    | true =>
      rw [if_pos rfl] at er
      obtain ⟨us, eu, er⟩ := some_bind er
      obtain ⟨in1, e1, er⟩ := some_bind er
      obtain ⟨rest', er', er⟩ := some_bind er
      cases er
      have hown : ∀ (k : Nat) mo l, (Eb xs[i])[k]? = some (.own mo l) → σ3[k]? ≠ some (some (.ref D)) := fun k mo l ek => by
        have e5 := (ho xs[i]).at ek
        rcases wipeE_at e5 with z | ⟨n1, n2⟩
        · cases z
        · rw [e3 k n1, wipe_out n1]
          obtain ⟨a, vs', h1, h2, h3, h4, h5⟩ := I1.ok k _ n2
          intro z
          rw [h1] at z
          cases z
          rw [hD] at h4
          cases h4
      refine iteT (hi1 xs[i] Ht C0 C4 H4 σ3 (I3.to x4) us eu _ fun J1 C5 H5 x5 ok1 => ?_)
      have xb := xa.trans x5
      have d5 : H5 D ≠ none := Same.ne x5.h d4
      have c5 : C5 D = none := x5.f D d4 c4
      have tD : Ht D = none := free_of (I.ext.h.trans x1.h) hD
      have IE : EnvI K Ht C0 C5 (era D H5) σ3 (Eb xs[i]) := ((I3.to x4).to x5).era tD c5 hown ⟨_, x5.h _ _ (x4.h _ _ (x2.h _ _ hDc))⟩
      refine ⟨fun j k Hd => k = us.length - j ∧ j ≤ us.length ∧ ∃ Cd ys acc r1, Ext C5 (era D H5) Cd (era D Hd) ∧ Cd D = none ∧ Hd D = some (.lst acc) ∧ RepL K (part m Ht Cd) (rps ys) acc ∧ compM (q xs[i]) (f xs[i]) (us.drop j) = some r1 ∧ ys ++ (r1 ++ rest') = z,
        ⟨us.length, rfl, Nat.zero_le _, C5, ys, acc, in1, .refl IE.ext.s, c5, x5.h _ _ (x4.h _ _ (x2.h _ _ hDc)), ra.mono (part_mono ((x2.c.trans x4.c).trans x5.c)), e1, eq⟩, ?_⟩
      rintro j k Hd ⟨rfl, hj', Cd, zs, acd, r1, xd, dD, hDd, rd, ed1, eqd⟩
      have ddn : Hd D ≠ none := by rw [hDd]; simp
      have sd : Same Cd Hd := xd.s.trans era_le
      have tH : Same Ht Hd := (IE.ext.h.trans xd.h).trans era_le
      by_cases hltj : j < us.length
      · have edj : (rps us)[j]? = some (rp us[j]) := by rw [rps, List.getElem?_map, List.getElem?_eq_getElem hltj]; rfl
        obtain ⟨go1, yl1⟩ := ok1.go j Cd Hd _ edj xd.c sd tH
        refine .inr ⟨go1, fun H' => ∃ Cd ys acc r1, Ext C5 (era D H5) Cd (era D H') ∧ Cd D = none ∧ H' D = some (.lst acc) ∧ RepL K (part m Ht Cd) (rps ys) acc ∧ compM (q xs[i]) (f xs[i]) (us.drop (j + 1)) = some r1 ∧ ys ++ (r1 ++ rest') = z,
          fun H' h => ⟨us.length - (j + 1), by omega, rfl, hltj, h⟩, fun y H6 hy6 => ?_⟩
        obtain ⟨C6, x6, r6⟩ := yl1 y H6 hy6
        rw [List.drop_eq_getElem_cons hltj] at ed1
        obtain ⟨b1, eb1, ed1⟩ := some_bind ed1
        have d6 : H6 D ≠ none := Same.ne x6.h ddn
        have c6 : C6 D = none := x6.f D ddn dD
        have I6 : EnvI K Ht C0 C6 H6 σ3 (Eb xs[i]) := ((IE.to xd).back).to x6
        refine hg1 xs[i] us[j] Ht C0 C6 H6 (wipe σ3 vs1) y (I6.wipe vs1) r6 _ fun σ7 I7 e7 l7 => ⟨wipe_eq e7 (l7.trans (wipe_length _ _)), ?_⟩
        refine ht1 xs[i] us[j] Ht C0 C6 H6 σ7 I7 b1 eb1 _ fun C8 H8 x8 => ?_
        have d8 : H8 D ≠ none := Same.ne x8.h d6
        have c8 : C8 D = none := x8.f D d6 c6
        have xe := (x6.trans x8)
        cases b1 with
        | false =>
          rw [if_neg Bool.false_ne_true] at ed1
          exact iteF ⟨C8, zs, acd, r1, xd.trans (xe.era ddn dD), c8, xe.h _ _ hDd, rd.mono (part_mono xe.c), ed1, eqd⟩
        | true =>
          rw [if_pos rfl] at ed1
          obtain ⟨v, ev, ed1⟩ := some_bind ed1
          obtain ⟨r1', er1, ed1⟩ := some_bind ed1
          cases ed1
          refine iteT (he xs[i] us[j] Ht C0 C8 H8 σ7 (I7.to x8) v ev _ fun u C9 H9 x9 r9 => ?_)
          have xf := xe.trans x9
          have hl : acd.length < sizeLine := by
            rw [rd.length, List.length_map]
            have hzz := hz
            rw [← eqd, List.length_append, List.length_append, List.length_cons] at hzz
            omega
          refine ⟨acd, xf.h _ _ hDd, hl, C9, zs ++ [v], acd ++ [u], r1', ?_, x9.f D d8 c8, upd_same, ?_, er1, by rw [← eqd, List.append_assoc]; rfl⟩
          · rw [era_upd]
            exact xd.trans (xf.era ddn dD)
          · rw [rps, List.map_append]
            exact (rd.mono (part_mono xf.c)).append (.cons r9 .nil)
      · have hje : j = us.length := by omega
        subst hje
        rw [List.drop_length] at ed1
        cases ed1
        have st := ok1.stop Cd Hd xd.c sd
        rw [List.length_map] at st
        refine .inl ⟨st, Cd, zs, acd, rest', ⟨xb.c.trans xd.c, fun a o ha => ?_, sd, fun a n1 n2 => ?_⟩, dD, hDd, rd, er', eqd⟩
        · have hne := ne_of_none ha hD
          refine era_le _ _ (xd.h a o ?_)
          rw [era_ne hne]
          exact xb.h _ _ ha
        · have hne : a ≠ D := fun z => n1 (by rw [z]; exact hD)
          refine xd.f a ?_ (xb.f a n1 n2)
          rw [era_ne hne]
          exact Same.ne xb.h n1
  · have hie : i = xs.length := by omega
    subst hie
    rw [List.drop_length] at er
    cases er
    rw [List.append_nil] at eq
    subst eq
    have st := ok.stop Cc Hc xc.c xc.s
    rw [List.length_map] at st
    refine .inl ⟨st, qq D acc Cc Hc (x1.trans xc) (free_of x1.h hD) cD hDc ra⟩
/-- no tests -/
theorem compM_yes {α β : Type} {f : α → Option β} (xs : List α) : compM (fun _ => some true) f xs = mapO f xs := compM_mapO xs
end
/-! ### rules whose relation names the fragment, for the insides of comprehensions -/
section
variable {X : Cx} (K : PySem.W.Frag)
theorem op_eqDK (hu : X.A.units + 64 < cLine) (hK : X.K = K := by rfl) : OpR X (compareOp .Eq) (rEqD K) := hK ▸ op_eqD hu
theorem op_neDK (hu : X.A.units + 64 < cLine) (hK : X.K = K := by rfl) : OpR X (compareOp .NotEq) (rNeD K) := hK ▸ op_neD hu
theorem op_in_seqK (hK : X.K = K := by rfl) : OpR X (compareOp .In) (rIn K false) := hK ▸ op_in_seq
theorem op_notIn_seqK (hK : X.K = K := by rfl) : OpR X (compareOp .NotIn) (rIn K true) := hK ▸ op_notIn_seq
theorem op_catTK (hK : X.K = K := by rfl) : OpR X (binaryOp .Add) (rCatT K) := hK ▸ op_catT
theorem sl_listK (hK : X.K = K := by rfl) : SlR X (rSlL K) := hK ▸ sl_list
theorem ix_listK (hK : X.K = K := by rfl) : IxR X (rIxL K) := hK ▸ ix_list
theorem ix_tupK (hK : X.K = K := by rfl) : IxR X (rIxT K) := hK ▸ ix_tup
theorem call_len_seqK (hK : X.K = K := by rfl) : CallR X (.builtin "len") (fun xs H Q => ∃ p ys, xs = [.ref p] ∧ (SqL K H p ys ∨ SqT K H p ys) ∧ Q (.int ys.length) H) := hK ▸ call_len_seq
theorem call_list_ofK (hK : X.K = K := by rfl) : CallR X (.type "list") (rListOf K) := hK ▸ call_list_of
theorem call_tuple_ofK (hK : X.K = K := by rfl) : CallR X (.type "tuple") (rTupOf K) := hK ▸ call_tuple_of
theorem cr_sumK (hc : X.calm = true) (hK : X.K = K := by rfl) : CallR X (.builtin "sum") (rSum K) := hK ▸ cr_sum hc
theorem cr_minK' (hc : X.calm = true) (hK : X.K = K := by rfl) : CallR X (.builtin "min") (rMin K) := hK ▸ cr_min hc
theorem cr_maxK' (hc : X.calm = true) (hK : X.K = K := by rfl) : CallR X (.builtin "max") (rMax K) := hK ▸ cr_max hc
theorem call_isiK (hK : X.K = K := by rfl) : CallR X (.builtin "isinstance") (rIsi K) := hK ▸ call_isi
theorem cr_sortedIK (hK : X.K = K := by rfl) : CallR X (.builtin "sorted") (rSortedI K) := hK ▸ cr_sortedI
theorem pi_listK {tg l : Expr} {tl : TE} (hl : PE X l tl) (hK : X.K = K := by rfl) : PI X tg l (iList K tl) := hK ▸ pi_list hl
theorem pi_tupK {tg l : Expr} {tl : TE} (hl : PE X l tl) (hK : X.K = K := by rfl) : PI X tg l (iTup K tl) := hK ▸ pi_tup hl
end
end L2.DL

namespace L2.DL
open PySem PySem.Spec PyProof.Rows
/-! ## plain laws: loops -/
section
variable {α β S T R : Type}
theorem forL_nx {f : S → α → Option (Fl S S R)} {s : S} : ∀ {l : List α}, (∀ x ∈ l, f s x = some (.nx s)) → forL (T := T) f l s = some (.nx s)
  | [], _ => rfl
  | x :: l, h => by
    simp only [forL, h x List.mem_cons_self, bind_s]
    exact forL_nx fun y hy => h y (List.mem_cons_of_mem _ hy)
/-- a loop that asks, and leaves at the first yes -/
theorem ask_loop {f : α → Option Bool} {g : α → Bool} {r : R} : ∀ {l : List α}, (∀ x ∈ l, f x = some (g x)) →
    forL (T := T) (R := R) (fun (s : Unit) x => (f x).bind fun b => (if b = true then some (.rt r) else some (.nx ()))) l () = if l.any g then some (.rt r) else some (.nx ())
  | [], _ => rfl
  | x :: l, h => by
    rw [List.any_cons]
    simp only [forL, h x List.mem_cons_self, bind_s]
    cases e : g x with
    | true =>
      simp only [if_true, Bool.true_or]
      rw [bind_s]
    | false =>
      simp only [Bool.false_eq_true, if_false, Bool.false_or]
      rw [bind_s]
      exact ask_loop fun y hy => h y (List.mem_cons_of_mem _ hy)
theorem ask_loop' {F : Unit → α → Option (Fl Unit Unit R)} {g : α → Bool} {r : R} : ∀ {l : List α}, (∀ x ∈ l, F () x = if g x = true then some (.rt r) else some (.nx ())) →
    forL (T := T) (R := R) F l () = if l.any g = true then some (.rt r) else some (.nx ())
  | [], _ => rfl
  | x :: l, h => by
    rw [List.any_cons]
    simp only [forL, h x List.mem_cons_self]
    cases e : g x with
    | true =>
      simp only [if_true, Bool.true_or]
      rw [bind_s]
    | false =>
      simp only [Bool.false_eq_true, if_false, Bool.false_or]
      rw [bind_s]
      exact ask_loop' fun y hy => h y (List.mem_cons_of_mem _ hy)
theorem forL_range {f : S → Int → Option (Fl S S R)} (I : Nat → S → Prop) : ∀ (n k : Nat) {s : S}, I k s → (∀ j s, k ≤ j → j < k + n → I j s → ∃ s', f s (j : Int) = some (.nx s') ∧ I (j + 1) s') → ∃ s', forL (T := T) f ((List.range' k n).map fun k : Nat => (k : Int)) s = some (.nx s') ∧ I (k + n) s'
  | 0, k, s, h, _ => ⟨s, rfl, h⟩
  | n + 1, k, s, h, st => by
    obtain ⟨s1, e1, h1⟩ := st k s (Nat.le_refl _) (by omega) h
    obtain ⟨s2, e2, h2⟩ := forL_range I n (k + 1) h1 fun j s a b => st j s (by omega) (by omega)
    refine ⟨s2, ?_, by rwa [show k + (n + 1) = k + 1 + n by omega]⟩
    rw [List.range'_succ, List.map_cons]
    simp only [forL]
    rw [e1, bind_s]
    exact e2
theorem mapO_some {f : α → Option β} {g : α → β} : ∀ {l : List α}, (∀ x ∈ l, f x = some (g x)) → mapO f l = some (l.map g)
  | [], _ => rfl
  | x :: l, h => by
    simp only [mapO, h x List.mem_cons_self, mapO_some fun y hy => h y (List.mem_cons_of_mem _ hy), bind_s, List.map_cons]
theorem compM_some {p : α → Option Bool} {q : α → Bool} {f : α → Option β} {g : α → β} : ∀ {l : List α}, (∀ x ∈ l, p x = some (q x)) → (∀ x ∈ l, f x = some (g x)) → compM p f l = some ((l.filter q).map g)
  | [], _, _ => rfl
  | x :: l, h, h' => by
    simp only [compM, h x List.mem_cons_self, h' x List.mem_cons_self, compM_some (fun y hy => h y (List.mem_cons_of_mem _ hy)) (fun y hy => h' y (List.mem_cons_of_mem _ hy)), bind_s, List.filter_cons]
    cases q x <;> simp only [if_true, Bool.false_eq_true, if_false, List.map_cons]
/-- a loop that appends -/
theorem append_loop {g : α → Option β} {h : α → β} : ∀ {l : List α} {s : List β}, s.length + l.length ≤ 16777216 → (∀ x ∈ l, g x = some (h x)) →
    l.foldlM (fun (s : List β) x => ((g x).bind fun v => lim (s ++ [v])).bind fun y => some y) s = some (s ++ l.map h)
  | [], s, _, _ => by rw [List.map_nil, List.append_nil]; rfl
  | x :: l, s, hz, hg => by
    rw [List.length_cons] at hz
    rw [foldlM_cons', hg x List.mem_cons_self, bind_s, lim_of (by rw [List.length_append, List.length_singleton]; omega), bind_s, bind_s, append_loop (by rw [List.length_append, List.length_singleton]; omega) fun y hy => hg y (List.mem_cons_of_mem _ hy), List.append_assoc]
    rfl
theorem range'_map0 (n : Nat) : ((List.range n).map fun k : Nat => (k : Int)) = (List.range' 0 n).map fun k : Nat => (k : Int) := by rw [List.range_eq_range']
end
theorem mulP_of {x y : Int} (hx : x.natAbs ≤ 2 ^ 64) (hy : y.natAbs ≤ 2 ^ 64) : mulP x y = some (x * y) := by
  have : 2 ^ 64 < 2 ^ 4096 := Nat.pow_lt_pow_right (by decide) (by decide)
  rw [mulP_def, if_pos ⟨by omega, by omega⟩]
theorem divP_of {x y : Int} (hy : 0 < y) (hy2 : y ≤ 2 ^ 64) : divP x y = some (x / y) := by
  have : (2 : Int) ^ 64 < 2 ^ 4096 := by decide +kernel
  rw [divP_def, if_pos ⟨by omega, by omega⟩]
theorem modP_of {x y : Int} (hy : 0 < y) : modP x y = some (x % y) := by rw [modP_def, if_pos hy]
theorem minL_some {l : List Int} (h : l ≠ []) : ∃ y, minL l = some y ∧ y ∈ l ∧ ∀ z ∈ l, y ≤ z := by
  cases l with
  | nil => exact absurd rfl h
  | cons x xs => exact ⟨_, rfl, minL_spec rfl⟩
theorem maxL_some {l : List Int} (h : l ≠ []) : ∃ y, maxL l = some y ∧ y ∈ l ∧ ∀ z ∈ l, z ≤ y := by
  cases l with
  | nil => exact absurd rfl h
  | cons x xs => exact ⟨_, rfl, maxL_spec rfl⟩
def rot (k : Nat) (l : List Int) : List Int := l.drop k ++ l.take k
theorem rot_len {k : Nat} {l : List Int} : (rot k l).length = l.length := by
  unfold rot
  rw [List.length_append, List.length_drop, List.length_take]
  omega
theorem rot_sum {k : Nat} {l : List Int} : (rot k l).sum = l.sum := by
  unfold rot
  have h := List.take_append_drop k l
  have h2 : (l.take k).sum + (l.drop k).sum = l.sum := by rw [← List.sum_append, h]
  rw [List.sum_append]
  omega
theorem rot_mem {k : Nat} {l : List Int} {x : Int} : x ∈ rot k l → x ∈ l := fun h => by
  rcases List.mem_append.mp h with h | h
  · exact List.mem_of_mem_drop h
  · exact List.mem_of_mem_take h
theorem seq_nx {S S2 T R : Type} {s : S} {f : S → Option (Fl S2 T R)} : Fl.seq (some (.nx s)) f = f s := by
  unfold Fl.seq
  rw [bind_s]
theorem Rets.get {α : Type} {m : Option α} {v : α} (h : Rets m (· = v)) : m = Option.some v := by
  obtain ⟨x, e, rfl⟩ := h
  exact e
theorem cut_len {α : Type} {l : List α} {a b : Option Int} : (cut l a b).length ≤ l.length := by
  unfold cut
  rw [List.length_take, List.length_drop]
  omega
def nats (n : Nat) : List Int := (List.range n).map fun k : Nat => (k : Int)
theorem nats_len (n : Nat) : (nats n).length = n := by simp [nats]
theorem mem_nats {n : Nat} {x : Int} (h : x ∈ nats n) : 0 ≤ x ∧ x < n := by
  unfold nats at h
  obtain ⟨i, hi, rfl⟩ := List.mem_map.mp h
  have := List.mem_range.mp hi
  omega
theorem rangeP_nats {n : Nat} (h : n < 2 ^ 62) : rangeP 0 (n : Int) = some (nats n) := rangeP_nat h
theorem repP_ok {α : Type} {l : List α} {k : Int} (h0 : 0 ≤ k) (h1 : k < 2 ^ 63) (h2 : l.length * k.toNat ≤ 16777216) : ∃ r, repP l k = some r ∧ r.length = l.length * k.toNat ∧ ∀ x ∈ r, x ∈ l := by
  refine ⟨_, by rw [repP_def, if_pos ⟨by omega, h1, h2⟩], ?_, ?_⟩
  · rw [List.length_flatten, List.map_replicate, List.sum_replicate_nat, Nat.mul_comm]
  · intro x hx
    obtain ⟨m, h1, h2⟩ := List.mem_flatten.mp hx
    rwa [(List.mem_replicate.mp h1).2] at h2
theorem gcd_mod (a b : Int) : Int.gcd b (a % b) = Int.gcd a b := by
  refine Nat.dvd_antisymm ?_ ?_
  · have h1 := Int.gcd_dvd_left (a := b) (b := a % b)
    have h2 := Int.gcd_dvd_right (a := b) (b := a % b)
    refine Int.dvd_gcd ?_ h1
    have h3 := Int.dvd_add (Int.dvd_trans h1 (Int.dvd_mul_right _ (a / b))) h2
    rwa [Int.mul_ediv_add_emod a b] at h3
  · have h1 := Int.gcd_dvd_left (a := a) (b := b)
    have h2 := Int.gcd_dvd_right (a := a) (b := b)
    refine Int.dvd_gcd h2 ?_
    rw [Int.emod_def]
    exact Int.dvd_sub h1 (Int.dvd_trans h2 (Int.dvd_mul_right _ _))
theorem gcd_loop : ∀ {fuel : Nat} {a b : Int}, 0 ≤ a → 0 ≤ b → b < fuel → ∃ s : Int × Int, whileN (fun (s5 : (Int × Int)) => some (decide (s5.2 ≠ (0 : Int)))) (fun (s5 : (Int × Int)) =>
 (modP s5.1 s5.2).bind fun rest_10 =>
 (some s5.2).bind fun first_11 =>
 (some rest_10).bind fun second_12 =>
 some (first_11, second_12)) fuel (a, b) = some s ∧ s.1 = (Int.gcd a b : Nat)
  | 0, a, b, _, h, h1 => by omega
  | n + 1, a, b, ha, hb, h1 => by
    simp only [whileN, bind_s]
    by_cases h : b = 0
    · subst h
      rw [if_neg (by simp)]
      exact ⟨_, rfl, by simp; omega⟩
    · rw [if_pos (decide_eq_true h), modP_def, if_pos (by omega)]
      simp only [bind_s]
      obtain ⟨s, e, hs⟩ := gcd_loop (fuel := n) (a := b) (b := a % b) hb (Int.emod_nonneg _ h) (by have := Int.emod_lt_of_pos a (b := b) (by omega); omega)
      exact ⟨s, e, by rw [hs, gcd_mod]⟩
end L2.DL

namespace L2.DL
open PySem PySem.Spec PyProof.Rows PySem.W
/-! ### order of data -/
class OrR (α : Type) [Rp α] [DecidableEq α] extends EqR α where
  lt : α → α → Bool
  al : ∀ x y : α, PySem.W.alike (toPy (rp x)) (toPy (rp y)) = true
  nn : ∀ x : α, toPy (rp x) ≠ .none
  ok : ∀ x y : α, PySem.W.dataLt (toPy (rp x)) (toPy (rp y)) = lt x y
section
variable {α β : Type} [Rp α] [Rp β] [DecidableEq α] [DecidableEq β]
def ltLst (lt : α → α → Bool) : List α → List α → Bool
  | [], [] => false
  | [], _ :: _ => true
  | _ :: _, [] => false
  | x :: xs, y :: ys => if x = y then ltLst lt xs ys else lt x y
instance : OrR Int := { lt := fun x y => decide (x < y), al := fun x y => by simp [rp, Rp.rp, toPy, PySem.W.alike], nn := fun x => by simp [rp, Rp.rp, toPy], ok := fun x y => by simp only [rp, Rp.rp, toPy]; exact PySem.W.dataLt_int x y }
theorem al_all [OrR α] : ∀ xs ys : List α, PySem.W.alikeAll (toPyL (xs.map rp)) (toPyL (ys.map rp)) = true
  | [], [] => by simp [toPyL, PySem.W.alikeAll]
  | [], _ :: _ => by simp [toPyL, PySem.W.alikeAll]
  | _ :: _, [] => by simp [toPyL, PySem.W.alikeAll]
  | x :: xs, y :: ys => by
    simp only [List.map_cons, toPyL, PySem.W.alikeAll, OrR.al x y, al_all xs ys, Bool.and_self]
theorem lt_all [OrR α] : ∀ xs ys : List α, PyProof.Rows.lexLt PyProof.Rows.itemOrd (PySem.W.keyToksAll (toPyL (xs.map rp))) (PySem.W.keyToksAll (toPyL (ys.map rp))) = ltLst OrR.lt xs ys
  | [], [] => PyProof.Rows.lex_irrefl _
  | [], y :: ys => by
    simp only [List.map_cons, List.map_nil, toPyL, ltLst]
    rw [PySem.W.toks_all_cons]
    simp only [PySem.W.keyToksAll]
    rw [PyProof.Rows.lex_diff (O := PyProof.Rows.itemOrd) (by simp)]
    rfl
  | x :: xs, [] => by
    simp only [List.map_cons, List.map_nil, toPyL, ltLst]
    rw [PySem.W.toks_all_cons]
    simp only [PySem.W.keyToksAll]
    rw [PyProof.Rows.lex_diff (O := PyProof.Rows.itemOrd) (by simp)]
    rfl
  | x :: xs, y :: ys => by
    simp only [List.map_cons, toPyL, ltLst]
    rw [PySem.W.dataLt_cons (OrR.al x y), OrR.ok, EqR.eq, lt_all xs ys]
    simp only [decide_eq_true_eq]
instance [OrR α] : OrR (List α) where
  lt := ltLst OrR.lt
  al := fun x y => by
    simp only [rp, Rp.rp, toPy, PySem.W.alike]
    exact al_all x y
  nn := fun x => by simp [rp, Rp.rp, toPy]
  ok := fun x y => by
    simp only [rp, Rp.rp, toPy]
    rw [PySem.W.dataLt_list]
    exact lt_all x y
instance [OrR α] [OrR β] : OrR (α × β) where
  lt := fun x y => if x.1 = y.1 then (if x.2 = y.2 then false else OrR.lt x.2 y.2) else OrR.lt x.1 y.1
  al := fun x y => by
    have h1 := OrR.al x.1 y.1
    have h2 := OrR.al x.2 y.2
    simp only [rp, Rp.rp, toPy, toPyL, PySem.W.alike, PySem.W.alikeAll] at *
    rw [h1, h2]
    rfl
  nn := fun x => by simp [rp, Rp.rp, toPy]
  ok := fun x y => by
    have h1 := PySem.W.dataLt_pair (OrR.al x.1 y.1) (OrR.al x.2 y.2)
    have e1 := EqR.eq x.1 y.1
    have e2 := EqR.eq x.2 y.2
    have o1 := OrR.ok x.1 y.1
    have o2 := OrR.ok x.2 y.2
    rw [e1, e2, o1, o2] at h1
    simp only [decide_eq_true_eq] at h1
    rw [← h1]
    simp only [rp, Rp.rp, toPy, toPyL]
/-- x < y, x <= y -/
def ltG [OrR α] (x y : α) : Bool := OrR.lt x y
def leG [OrR α] (x y : α) : Bool := !OrR.lt y x
theorem toPy_inj [EqR α] [OrR α] {x y : α} (h : toPy (rp x) = toPy (rp y)) : x = y := by
  have e := EqR.eq x y
  rw [h] at e
  have e2 := PySem.W.eqv_refl_alike _ (OrR.al y y)
  rw [e2] at e
  exact of_decide_eq_true e.symm
end
/-! #### its rules -/
section
variable {X : Cx}
def rLtD (K : PySem.W.Frag) (b : Bool) (sw : Bool) : R2 := fun x y H Q => ∃ d e, Dp K H x d ∧ Dp K H y e ∧ PySem.W.alike d e = true ∧ d ≠ .none ∧ d.depth ≤ 64 ∧ Q (.bl (b != (if sw then PySem.W.dataLt e d else PySem.W.dataLt d e))) H
theorem depth_room {A : Around} {d e : PyData} (hu : A.units + 64 < cLine) (h : d.depth ≤ 64) : A.units + min d.depth e.depth < cLine := by
  have : min d.depth e.depth ≤ d.depth := Nat.min_le_left _ _
  omega
variable (K : PySem.W.Frag)
theorem op_ltD (hu : X.A.units + 64 < cLine) (hK : X.K = K := by rfl) : OpR X (compareOp .Lt) (rLtD K false false) := by
  subst hK
  intro pins s σ H x y v u Q I rx ry h
  obtain ⟨d, e, hd, he, ha, hn, hz, q⟩ := h
  obtain ⟨as, r1⟩ := Dp.reads I d x v hd rx
  obtain ⟨bs, r2⟩ := Dp.reads I e y u he ry
  exact PySem.W.lt_data r1 r2 ha hn (depth_room hu hz) ⟨.bl _, H, I, by simp; rfl, q⟩
theorem op_gtD (hu : X.A.units + 64 < cLine) (hK : X.K = K := by rfl) : OpR X (compareOp .Gt) (rLtD K false true) := by
  subst hK
  intro pins s σ H x y v u Q I rx ry h
  obtain ⟨d, e, hd, he, ha, hn, hz, q⟩ := h
  obtain ⟨as, r1⟩ := Dp.reads I d x v hd rx
  obtain ⟨bs, r2⟩ := Dp.reads I e y u he ry
  exact PySem.W.gt_data r1 r2 ha hn (depth_room hu hz) ⟨.bl _, H, I, by simp; rfl, q⟩
theorem op_leD (hu : X.A.units + 64 < cLine) (hK : X.K = K := by rfl) : OpR X (compareOp .LtE) (rLtD K true true) := by
  subst hK
  intro pins s σ H x y v u Q I rx ry h
  obtain ⟨d, e, hd, he, ha, hn, hz, q⟩ := h
  obtain ⟨as, r1⟩ := Dp.reads I d x v hd rx
  obtain ⟨bs, r2⟩ := Dp.reads I e y u he ry
  exact PySem.W.le_data r1 r2 ha hn (depth_room hu hz) ⟨.bl _, H, I, by simp; rfl, q⟩
theorem op_geD (hu : X.A.units + 64 < cLine) (hK : X.K = K := by rfl) : OpR X (compareOp .GtE) (rLtD K true false) := by
  subst hK
  intro pins s σ H x y v u Q I rx ry h
  obtain ⟨d, e, hd, he, ha, hn, hz, q⟩ := h
  obtain ⟨as, r1⟩ := Dp.reads I d x v hd rx
  obtain ⟨bs, r2⟩ := Dp.reads I e y u he ry
  exact PySem.W.ge_data r1 r2 ha hn (depth_room hu hz) ⟨.bl _, H, I, by simp; rfl, q⟩
end
/-! #### as judgements -/
section
variable {K : PySem.W.Frag} {ta tb : TE} {ρ : En} {m m1 m2 : Md}
variable {α : Type} [Rp α] [DecidableEq α] [OrR α]
theorem ev_ordB {b sw : Bool} {ra rb : Option (List α)} (ha : EvB K ta ρ m1 ra) (hb : EvB K tb ρ m2 rb) (hz : EqR.dep (List α) ≤ 64) :
    EvE K (tOp (rLtD K b sw) ta tb) ρ .new (ra.bind fun x => rb.bind fun y => some (b != (if sw then ltG y x else ltG x y))) := fun Ht C0 C H σ I z e Q q => by
  obtain ⟨x, ex, e⟩ := some_bind e
  obtain ⟨y, ey, e⟩ := some_bind e
  cases e
  refine ha Ht C0 C H σ I x ex _ fun a vs C1 H1 x1 h1 r1 => ?_
  refine hb Ht C0 C1 H1 σ (I.to x1) y ey _ fun c us C2 H2 x2 h2 r2 => ?_
  have d1 : Dp K H2 (.ref a) (toPy (rp x)) := by
    refine rep_dp _ _ ?_
    simp only [rp, Rp.rp, Rep]
    exact ⟨a, vs, rfl, x2.h _ _ h1, r1.mono ((part_mono x2.c).trans (part_le.trans x2.s))⟩
  have d2 : Dp K H2 (.ref c) (toPy (rp y)) := by
    refine rep_dp _ _ ?_
    simp only [rp, Rp.rp, Rep]
    exact ⟨c, us, rfl, h2, r2.mono (part_le.trans x2.s)⟩
  refine ⟨_, _, d1, d2, OrR.al x y, OrR.nn x, Nat.le_trans (EqR.lay x).2 hz, ?_⟩
  rw [OrR.ok, OrR.ok]
  exact q _ C2 H2 (x1.trans x2) .ofBl
theorem ev_ltL {ra rb : Option (List α)} (ha : EvB K ta ρ m1 ra) (hb : EvB K tb ρ m2 rb) (hz : EqR.dep (List α) ≤ 64 := by decide) : EvE K (tOp (rLtD K false false) ta tb) ρ .new (ra.bind fun x => rb.bind fun y => some (ltG x y)) :=
  (ev_ordB ha hb hz).res (by cases ra <;> cases rb <;> simp)
theorem ev_gtL {ra rb : Option (List α)} (ha : EvB K ta ρ m1 ra) (hb : EvB K tb ρ m2 rb) (hz : EqR.dep (List α) ≤ 64 := by decide) : EvE K (tOp (rLtD K false true) ta tb) ρ .new (ra.bind fun x => rb.bind fun y => some (ltG y x)) :=
  (ev_ordB ha hb hz).res (by cases ra <;> cases rb <;> simp)
theorem ev_leL {ra rb : Option (List α)} (ha : EvB K ta ρ m1 ra) (hb : EvB K tb ρ m2 rb) (hz : EqR.dep (List α) ≤ 64 := by decide) : EvE K (tOp (rLtD K true true) ta tb) ρ .new (ra.bind fun x => rb.bind fun y => some (leG x y)) :=
  (ev_ordB ha hb hz).res (by cases ra <;> cases rb <;> simp [leG, ltG])
theorem ev_geL {ra rb : Option (List α)} (ha : EvB K ta ρ m1 ra) (hb : EvB K tb ρ m2 rb) (hz : EqR.dep (List α) ≤ 64 := by decide) : EvE K (tOp (rLtD K true false) ta tb) ρ .new (ra.bind fun x => rb.bind fun y => some (leG y x)) :=
  (ev_ordB ha hb hz).res (by cases ra <;> cases rb <;> simp [leG, ltG])
/-! ### the least, the greatest of a list of data -/
def minG : List α → Option α
  | [] => none
  | x :: xs => some (xs.foldl (fun a y => if ltG y a then y else a) x)
def maxG : List α → Option α
  | [] => none
  | x :: xs => some (xs.foldl (fun a y => if ltG a y then y else a) x)
theorem minD_eq (x : α) (xs : List α) : minD (toPy (rp x)) (toPyL (xs.map rp)) = toPy (rp (xs.foldl (fun a y => if ltG y a then y else a) x)) := by
  unfold minD
  induction xs generalizing x with
  | nil => simp [toPyL]
  | cons y xs ih =>
    simp only [List.map_cons, toPyL, List.foldl_cons]
    rw [OrR.ok]
    show List.foldl _ (if ltG y x = true then toPy (rp y) else toPy (rp x)) _ = _
    split
    · exact ih y
    · exact ih x
theorem maxD_eq (x : α) (xs : List α) : maxD (toPy (rp x)) (toPyL (xs.map rp)) = toPy (rp (xs.foldl (fun a y => if ltG a y then y else a) x)) := by
  unfold maxD
  induction xs generalizing x with
  | nil => simp [toPyL]
  | cons y xs ih =>
    simp only [List.map_cons, toPyL, List.foldl_cons]
    rw [OrR.ok]
    show List.foldl _ (if ltG x y = true then toPy (rp y) else toPy (rp x)) _ = _
    split
    · exact ih y
    · exact ih x
end
theorem fold_mem {α : Type} {c : α → α → Bool} : ∀ {xs : List α} {x : α}, xs.foldl (fun a y => if c y a then y else a) x ∈ x :: xs
  | [], x => by simp
  | y :: xs, x => by
    rw [List.foldl_cons]
    have h := fold_mem (c := c) (xs := xs) (x := if c y x = true then y else x)
    rcases List.mem_cons.mp h with h | h
    · rw [h]
      split
      · exact List.mem_cons_of_mem _ List.mem_cons_self
      · exact List.mem_cons_self
    · exact List.mem_cons_of_mem _ (List.mem_cons_of_mem _ h)
section
variable {X : Cx} (K : PySem.W.Frag)
def rPick (K : PySem.W.Frag) (f : PyData → List PyData → PyData) : List V → Hp → VK → Prop := fun xs H Q => ∃ a vs d ds, xs = [V.ref a] ∧ SqL K H a vs ∧ DpAll K H vs (d :: ds) ∧ AlikeAll (d :: ds) ∧ PyData.depthAll (d :: ds) ≤ 62 ∧ ∀ (i : Nat) v, vs[i]? = some v → (d :: ds)[i]? = some (f d ds) → Q v H
theorem pick_core {pins : List (Addr × Obj)} {s : Shared} {σ : St} {H : Hp} {f : PyData → List PyData → PyData} {vs : List V} {d : PyData} {ds : List PyData} {its : List Value} (I : Inv X pins σ H s) (rv : Vals vs its) (hd : DpAll X.K H vs (d :: ds)) (hA : AlikeAll (d :: ds)) (hf : f d ds ∈ d :: ds)
    {i : Nat} {u : Value} {h' : Heap} {bs : List Addr} (hu : its[i]? = some u) (hr : Reads h' u (f d ds) bs) (hk : ∀ b o, s.heap.get? b = some o → h'.get? b = some o) : ∃ v, vs[i]? = some v ∧ RelV v u ∧ (d :: ds)[i]? = some (f d ds) := by
  obtain ⟨as, ra⟩ := Dp.readsAll I _ _ _ hd rv
  obtain ⟨hi, rfl⟩ := List.getElem?_eq_some_iff.mp hu
  have hl : vs.length = its.length := rv.length
  have hiv : i < vs.length := by omega
  obtain ⟨u', e', ru⟩ := rv.get (List.getElem?_eq_getElem hiv)
  rw [List.getElem?_eq_getElem hi] at e'
  cases e'
  refine ⟨_, List.getElem?_eq_getElem hiv, ru, ?_⟩
  obtain ⟨cs, r2, h3, h4, _⟩ := readsAll_at ra i its[i] (List.getElem?_eq_getElem hi)
  have hk2 := reads_keeps hk r2
  have := PySem.W.alike_unique _ _ _ _ _ (hA.1 _ h4 _ hf) hk2 hr
  rw [List.getD_eq_getElem?_getD, List.getElem?_eq_getElem h3, Option.getD_some] at this
  rw [List.getElem?_eq_getElem h3, this]
theorem cr_minD (hc : X.calm = true) (hu : X.A.units + 64 < cLine) (hK : X.K = K := by rfl) : CallR X (.builtin "min") (rPick K minD) := by
  subst hK
  intro pins s σ H xs us Q I r h
  obtain ⟨a, vs, d, ds, rfl, hs, hd, hA, hz, q⟩ := h
  obtain ⟨its, rv, hl, _⟩ := I.list hs
  rw [Vals.ref1 r]
  obtain ⟨as, ra⟩ := Dp.readsAll I _ _ _ hd rv
  refine min_list_data (I.ok.hd hc) hl.isList (by simpa using ra) hA (by omega) fun i v h' tk bs hv hr hk => ?_
  obtain ⟨v', e1, e2, e3⟩ := pick_core I rv hd hA fold_mem (i := i) (u := v) (by simpa using hv) hr hk
  exact ⟨v', H, I.kept hk, e2, q i v' e1 e3⟩
theorem cr_maxD (hc : X.calm = true) (hu : X.A.units + 64 < cLine) (hK : X.K = K := by rfl) : CallR X (.builtin "max") (rPick K maxD) := by
  subst hK
  intro pins s σ H xs us Q I r h
  obtain ⟨a, vs, d, ds, rfl, hs, hd, hA, hz, q⟩ := h
  obtain ⟨its, rv, hl, _⟩ := I.list hs
  rw [Vals.ref1 r]
  obtain ⟨as, ra⟩ := Dp.readsAll I _ _ _ hd rv
  refine max_list_data (I.ok.hd hc) hl.isList (by simpa using ra) hA (by omega) fun i v h' tk bs hv hr hk => ?_
  obtain ⟨v', e1, e2, e3⟩ := pick_core I rv hd hA (fold_mem (c := fun y a => PySem.W.dataLt a y)) (i := i) (u := v) (by simpa using hv) hr hk
  exact ⟨v', H, I.kept hk, e2, q i v' e1 e3⟩
end
section
variable {K : PySem.W.Frag} {ta tb : TE} {ρ : En} {m m1 m2 : Md}
variable {α : Type} [Rp α] [DecidableEq α] [OrR α]
theorem al_list (l : List α) : AlikeAll (toPyL (l.map rp)) := by
  rw [toPyL_map, List.map_map]
  refine ⟨fun x hx y hy => ?_, fun x hx => ?_⟩
  · obtain ⟨a, _, rfl⟩ := List.mem_map.mp hx
    obtain ⟨b, _, rfl⟩ := List.mem_map.mp hy
    exact OrR.al a b
  · obtain ⟨a, _, rfl⟩ := List.mem_map.mp hx
    exact OrR.nn a
theorem ev_pick {f : PyData → List PyData → PyData} {g : α → List α → α} {ra : Option (List α)} (ha : EvB K ta ρ m ra) (hz : EqR.dep α ≤ 62) (hf : ∀ x xs, f (toPy (rp x)) (toPyL (List.map rp xs)) = toPy (rp (g x xs))) (hm : ∀ x xs, g x xs ∈ x :: xs) :
    EvE K (tCB (rPick K f) (tCons ta tNil)) ρ m (ra.bind fun l => match l with | [] => none | x :: xs => some (g x xs)) := fun Ht C0 C H σ I z e Q q => by
  obtain ⟨l, el, e⟩ := some_bind e
  cases l with
  | nil => cases e
  | cons x xs =>
    cases e
    refine ha Ht C0 C H σ I _ el _ fun a vs C1 H1 x1 h1 r1 => ?_
    have hd : DpAll K H1 vs (toPyL ((x :: xs).map rp)) := rep_dpL _ _ (r1.mono (part_le.trans x1.s))
    simp only [List.map_cons, toPyL] at hd
    have hA := al_list (x :: xs)
    simp only [List.map_cons, toPyL] at hA
    have hD := (layAll (x :: xs)).2
    simp only [List.map_cons, toPyL] at hD
    refine ⟨a, vs, _, _, rfl, .of h1, hd, hA, by omega, fun i v hv hi => ?_⟩
    rw [hf] at hi
    have hi2 : (toPyL ((x :: xs).map rp))[i]? = some (toPy (rp (g x xs))) := by simp only [List.map_cons, toPyL]; exact hi
    rw [toPyL_map, List.map_map, List.getElem?_map] at hi2
    obtain ⟨y, ey, e3⟩ := some_map hi2
    have eg : y = g x xs := toPy_inj e3
    obtain ⟨d, ed, rd⟩ := r1.at hv
    rw [rps, List.getElem?_map, ey] at ed
    cases ed
    rw [eg] at rd
    exact q v C1 H1 x1 rd
theorem ev_minG {ra : Option (List α)} (ha : EvB K ta ρ m ra) (hz : EqR.dep α ≤ 62 := by decide) : EvE K (tCB (rPick K minD) (tCons ta tNil)) ρ m (ra.bind minG) :=
  (ev_pick ha hz minD_eq fun _ _ => fold_mem).res (by cases ra with | none => rfl | some l => cases l <;> rfl)
theorem ev_maxG {ra : Option (List α)} (ha : EvB K ta ρ m ra) (hz : EqR.dep α ≤ 62 := by decide) : EvE K (tCB (rPick K maxD) (tCons ta tNil)) ρ m (ra.bind maxG) :=
  (ev_pick ha hz maxD_eq fun _ _ => fold_mem (c := fun y a => ltG a y)).res (by cases ra with | none => rfl | some l => cases l <;> rfl)
end
/-! ### sorted, of data -/
def rSortB (K : PySem.W.Frag) (β : Type) (enc : β → PyData) (val : β → V) : List V → Hp → VK → Prop := fun xs H Q => ∃ (a : Addr) (bs : List β), xs = [V.ref a] ∧ SqL K H a (bs.map val) ∧ DpAll K H (bs.map val) (bs.map enc) ∧ AllAlike (bs.map enc) ∧ Sortable (bs.map enc) ∧ (∀ b ∈ bs, (enc b).depth ≤ 60) ∧
  ∀ p, H p = none → Q (.ref p) (upd H p (.lst ((bs.mergeSort (dataLe false enc)).map val)))
theorem each_rel {β : Type} {val : β → V} : ∀ {bs : List β} {us : List Value}, Vals (bs.map val) us → EachIs (fun v b => RelV (val b) v) us bs
  | [], us, r => by cases r; exact .nil
  | b :: bs, us, r => by cases r with | cons h t => exact .cons h (each_rel t)
theorem rel_each {β : Type} {val : β → V} : ∀ {bs : List β} {us : List Value}, EachIs (fun v b => RelV (val b) v) us bs → Vals (bs.map val) us
  | [], us, r => by cases r; exact .nil
  | b :: bs, us, r => by cases r with | cons h t => exact .cons h (rel_each t)
section
variable {X : Cx} (K : PySem.W.Frag)
theorem cr_sortedB {β : Type} {enc : β → PyData} {val : β → V} (hu : X.A.units + 64 < cLine) (hK : X.K = K := by rfl) : CallR X (.builtin "sorted") (rSortB K β enc val) := by
  subst hK
  intro pins s σ H xs us Q I r h
  obtain ⟨a, bs, rfl, hs, hd, hA, hS, hz, q⟩ := h
  obtain ⟨its, rv, hl, hlen⟩ := I.list hs
  rw [Vals.ref1 r]
  obtain ⟨as, ra⟩ := Dp.readsAll I _ _ _ hd rv
  have hn : its.length = bs.length := by rw [← rv.length, List.length_map]
  rw [List.length_map] at hlen
  refine sorted_data (R := fun v b => RelV (val b) v) (by simpa using hl.isList) (each_rel rv) (readsAll_each enc ra) hA hS hlen (fun b hb => by have := hz b hb; omega) fun out ho he => ?_
  obtain ⟨ep, he'⟩ := PyProof.Rows.sortedAll_at s.heap its out.toArray
  have rr := rel_each he
  have hl2 : ((bs.mergeSort (dataLe false enc)).map val).length ≤ sizeLine := by
    rw [List.length_map, List.length_mergeSort]
    exact hlen
  exact ⟨.ref _, upd H (s.heap.objs.size + 1) (.lst ((bs.mergeSort (dataLe false enc)).map val)), I.laid (t' := s.toks) (fun _ _ => PyProof.Rows.sortedAll_old) (Nat.le_succ _) ⟨hl2, out, ep, rr, he'⟩, rfl, q _ (I.hok.fresh (Nat.le_succ _))⟩
end
theorem room65 {k : Nat} {A : Around} (r : Room k A) : A.units + 65 < cLine := by have := r.un; omega
section
variable {X : Cx} (K : PySem.W.Frag)
theorem op_inDK (hu : X.A.units + 65 < cLine) (hK : X.K = K := by rfl) : OpR X (compareOp .In) (rInD K) := hK ▸ op_inD hu
theorem op_notInDK (hu : X.A.units + 65 < cLine) (hK : X.K = K := by rfl) : OpR X (compareOp .NotIn) (rNotInD K) := hK ▸ op_notInD hu
end
section
variable {K : PySem.W.Frag} {ta tb : TE} {ρ : En} {m m1 m2 : Md}
variable {α : Type} [Rp α] [DecidableEq α]
theorem any_mem [EqR α] (x : α) : ∀ l : List α, (toPyL (l.map rp)).any (fun z => PyData.eqv z (toPy (rp x))) = decide (x ∈ l)
  | [] => by simp [toPyL]
  | y :: l => by
    simp only [List.map_cons, toPyL, List.any_cons]
    rw [any_mem x l, EqR.eq]
    by_cases h1 : y = x
    · simp [h1]
    · by_cases h2 : x ∈ l <;> simp [h1, h2, Ne.symm h1, eq_comm]
theorem shaped_of [EqR α] (x : α) (h : EqR.dep α ≤ 64) : SeqAt.shaped (toPy (rp x)) = true := by
  unfold SeqAt.shaped
  obtain ⟨h1, h2⟩ := EqR.lay x
  rw [h1, decide_eq_true (Nat.le_trans h2 h)]
  rfl
theorem ev_inG [EqR α] {ra : Option α} {rb : Option (List α)} (ha : EvE K ta ρ m1 ra) (hb : EvB K tb ρ m2 rb) (hz : EqR.dep (List α) ≤ 64 := by decide) : EvE K (tOp (rInD K) ta tb) ρ .new (ra.bind fun x => rb.bind fun y => some (decide (x ∈ y))) := fun Ht C0 C H σ I z e Q q => by
  obtain ⟨x, ex, e⟩ := some_bind e
  obtain ⟨y, ey, e⟩ := some_bind e
  cases e
  refine ha Ht C0 C H σ I x ex _ fun v C1 H1 x1 r1 => ?_
  refine hb Ht C0 C1 H1 σ (I.to x1) y ey _ fun c us C2 H2 x2 h2 r2 => ?_
  have d1 : Dp K H2 v (toPy (rp x)) := rep_dp _ _ (r1.mono ((part_mono x2.c).trans (part_le.trans x2.s)))
  have d2 : Dp K H2 (.ref c) (toPy (rp y)) := by
    refine rep_dp _ _ ?_
    simp only [rp, Rp.rp, Rep]
    exact ⟨c, us, rfl, h2, r2.mono (part_le.trans x2.s)⟩
  have s2 := shaped_of y hz
  have e2 : toPy (rp y) = .list (toPyL (y.map rp)) := by simp only [rp, Rp.rp, toPy]
  have hz1 : EqR.dep α ≤ 64 := Nat.le_trans (Nat.le_succ _) hz
  rw [e2] at d2 s2
  refine ⟨_, _, d1, d2, shaped_of x hz1, s2, ?_⟩
  rw [any_mem]
  exact q _ C2 H2 (x1.trans x2) .ofBl
theorem ev_ninG [EqR α] {ra : Option α} {rb : Option (List α)} (ha : EvE K ta ρ m1 ra) (hb : EvB K tb ρ m2 rb) (hz : EqR.dep (List α) ≤ 64 := by decide) : EvE K (tOp (rNotInD K) ta tb) ρ .new (ra.bind fun x => rb.bind fun y => some (decide (x ∉ y))) := fun Ht C0 C H σ I z e Q q => by
  obtain ⟨x, ex, e⟩ := some_bind e
  obtain ⟨y, ey, e⟩ := some_bind e
  cases e
  refine ha Ht C0 C H σ I x ex _ fun v C1 H1 x1 r1 => ?_
  refine hb Ht C0 C1 H1 σ (I.to x1) y ey _ fun c us C2 H2 x2 h2 r2 => ?_
  have d1 : Dp K H2 v (toPy (rp x)) := rep_dp _ _ (r1.mono ((part_mono x2.c).trans (part_le.trans x2.s)))
  have d2 : Dp K H2 (.ref c) (toPy (rp y)) := by
    refine rep_dp _ _ ?_
    simp only [rp, Rp.rp, Rep]
    exact ⟨c, us, rfl, h2, r2.mono (part_le.trans x2.s)⟩
  have s2 := shaped_of y hz
  have e2 : toPy (rp y) = .list (toPyL (y.map rp)) := by simp only [rp, Rp.rp, toPy]
  have hz1 : EqR.dep α ≤ 64 := Nat.le_trans (Nat.le_succ _) hz
  rw [e2] at d2 s2
  refine ⟨_, _, d1, d2, shaped_of x hz1, s2, ?_⟩
  rw [any_mem]
  have e3 : (!decide (x ∈ y)) = decide (x ∉ y) := by by_cases h : x ∈ y <;> simp [h]
  rw [e3]
  exact q _ C2 H2 (x1.trans x2) .ofBl
variable [OrR α]
def sortG (xs : List α) : List α := xs.mergeSort leG
def encG (b : V × α) : PyData := toPy (rp b.2)
theorem repL_zip {H : Hp} : ∀ {xs : List α} {vs : List V}, RepL K H (xs.map rp) vs → (vs.zip xs).map (·.1) = vs ∧ (vs.zip xs).map (·.2) = xs ∧ ∀ b ∈ vs.zip xs, Rep K H (rp b.2) b.1
  | [], vs, r => by
    rw [List.map_nil] at r
    rw [r.nil_iff]
    exact ⟨rfl, rfl, fun b h => by cases h⟩
  | x :: xs, vs, r => by
    rw [List.map_cons] at r
    obtain ⟨v, us, rfl, h1, h2⟩ := r.uncons
    obtain ⟨e1, e2, e3⟩ := repL_zip h2
    refine ⟨by simp only [List.zip_cons_cons, List.map_cons, e1], by simp only [List.zip_cons_cons, List.map_cons, e2], fun b h => ?_⟩
    rcases List.mem_cons.mp h with h | h
    · rw [h]
      exact h1
    · exact e3 b h
theorem zip_repL {H : Hp} : ∀ {bs : List (V × α)}, (∀ b ∈ bs, Rep K H (rp b.2) b.1) → RepL K H ((bs.map (·.2)).map rp) (bs.map (·.1))
  | [], _ => .nil
  | b :: bs, h => .cons (h b List.mem_cons_self) (zip_repL fun c hc => h c (List.mem_cons_of_mem _ hc))
theorem ev_sortG {ra : Option (List α)} (ha : EvB K ta ρ m ra) (hS : ∀ l : List α, Sortable (l.map fun a => toPy (rp a))) (hz : EqR.dep α ≤ 60 := by decide) : EvL K (tCB (rSortB K (V × α) encG (fun b => b.1)) (tCons ta tNil)) ρ m (ra.bind fun x => some (sortG x)) := fun Ht C0 C H σ I z e Q q => by
  obtain ⟨x, ex, e⟩ := some_bind e
  cases e
  refine ha Ht C0 C H σ I x ex _ fun a vs C1 H1 x1 h1 r1 => ?_
  obtain ⟨e1, e2, e3⟩ := repL_zip r1
  have hd : DpAll K H1 vs (toPyL (x.map rp)) := rep_dpL _ _ (r1.mono (part_le.trans x1.s))
  have ee : (vs.zip x).map encG = toPyL (x.map rp) := by
    rw [toPyL_map, List.map_map, ← e2, List.map_map, e2]
    rfl
  have hA := al_list x
  refine ⟨a, vs.zip x, rfl, by rw [e1]; exact .of h1, by rw [e1, ee]; exact hd, ?_, ?_, fun b _ => Nat.le_trans (EqR.lay b.2).2 hz, fun p hp => ?_⟩
  · rw [ee]
    exact fun d h d' h' => hA.1 d h d' h'
  · rw [ee, toPyL_map, List.map_map]
    exact hS x
  · have hs : ((vs.zip x).mergeSort (dataLe false encG)).map (·.2) = sortG x := by
      unfold sortG
      rw [List.map_mergeSort (s := leG), e2]
      intro b _ c _
      rw [dataLe_eq]
      show (!dataLt (encG c) (encG b)) = leG b.2 c.2
      unfold encG leG
      rw [OrR.ok]
    have hr : RepL K (part m Ht C1) ((sortG x).map rp) (((vs.zip x).mergeSort (dataLe false encG)).map (·.1)) := by
      rw [← hs]
      exact zip_repL fun b hb => e3 b ((List.mergeSort_perm _ _).mem_iff.mp hb)
    exact new_list x1 hp hr q
end
theorem sortableL {α : Type} [Rp α] (l : List (List α)) : Sortable (l.map fun a => toPy (rp a)) := .inr fun d hd => by
  obtain ⟨a, _, rfl⟩ := List.mem_map.mp hd
  simp only [rp, Rp.rp, toPy]
  exact ⟨by simp, by simp⟩
theorem sortableP {α β : Type} [Rp α] [Rp β] (l : List (α × β)) : Sortable (l.map fun a => toPy (rp a)) := .inl fun d hd => by
  obtain ⟨a, _, rfl⟩ := List.mem_map.mp hd
  simp only [rp, Rp.rp, toPy, toPyL]
  exact ⟨_, _, rfl⟩
end L2.DL

namespace L2.DL
open PySem PySem.Spec PyProof.Rows PySem.W
/-! ### min of two data -/
section
variable {prog : Program} {w : World} {A : Around} {E : Value → Shared → Prop} {s : Shared}
theorem min_two_data {a b : Value} {x y : PyData} {as bs : List Addr} {Q : Value → Shared → Prop} (hh : A.handled = none)
    (r1 : Reads s.heap a x as) (r2 : Reads s.heap b y bs) (ha : AlikeAll [x, y]) (hu : A.units + 1 + PyData.depthAll [x, y] < cLine)
    (h : ∀ (i : Nat) v h' tk cs, [a, b][i]? = some v → Reads h' v (minD x [y]) cs → (∀ c o, s.heap.get? c = some o → h'.get? c = some o) → Q v { s with heap := h', toks := tk }) :
    wpAny (model prog w) A (call (.builtin "min") [a, b]) Q E s := by
  refine call_function_tree F.kind_min F.plain_min F.entry_min
    (F.args_min2 _ _) ?_
  refine wpAny_bind (wpAny_of_eq
    (show Builtin.Builtins.bindParams "min" ["key", "default"] 0 ⟨[], []⟩
      = pure [none, none] from rfl) ?_)
  show wpAny _ A.in1
    (newTuple [a, b] >>= _) _ _ s
  refine wpAny_bind (wpAny_newObj_type ?_)
  have ht : (s.heap.push { cls := .type "tuple", data := .seq #[a, b] }).IsTuple s.heap.objs.size #[a, b] := ⟨_, Heap.get?_push_size _ rfl, rfl, _, rfl⟩
  have hkeep : ∀ c o, s.heap.get? c = some o → (s.heap.push { cls := .type "tuple", data := .seq #[a, b] }).get? c = some o := fun c o e => Heap.get?_push_of_some _ e
  refine wpAny_bind (iter_tupleW (A := A.in1) (s := { s with heap := s.heap.push { cls := .type "tuple", data := .seq #[a, b] } }) hh ht fun s₂ e W st hfp hw hk => ?_)
  refine wpAny_bind (wpAny_newObj_type ?_)
  have hSf : s₂.heap.objs.size ∉ [_, _] := fun hm => Nat.lt_irrefl _
    (hfp _ hm)
  have k1 := Reads.keeps hkeep r1
  have k2 := Reads.keeps hkeep r2
  have hr : ReadsAll (s.heap.push { cls := .type "tuple", data := .seq #[a, b] }) (#[a, b] : Array Value).toList [x, y] _ := ReadsAll.cons k1 (ReadsAll.cons k2 ReadsAll.nil)
  have hname : (toString "min" ++ toString ".loop" : String)
      = "min.loop" := by decide
  rw [hname]
  refine wpAny_pure ⟨plainId_quiet F.plain_min_loop _,
    codeAny_min_loop_firstH W _ hw _ (cmpIn_lt (s := { s with heap := s.heap.push { cls := .type "tuple", data := .seq #[a, b] } }) (A := A.in1) hr ha (by show A.units + 1 + _ < _; exact hu)) s₂.heap.objs.size hSf (fresh_in hk) _ (by show 0 < 2; decide)
      (fun b o e => Heap.get?_push_of_some _ (hk b o e)) (W.frame 0 s₂ _ s₂.toks st (Nat.le_refl _) fun b _ o e => Heap.get?_push_of_some _ e) (Heap.get?_push_size _ rfl) fun v s' hP hm => ?_⟩
  have m := Moved.drop_new (tk := s₂.toks) hm (Nat.le_refl _)
  obtain ⟨h', tk, rfl, hk'⟩ := moved_old e rfl m
  obtain ⟨cs, r, _, _, _⟩ := readsAll_atA hr _ v hP
  have e2 : [x, y].getD (argBest (fun i j => dataLt ([x, y].getD i PyData.none) ([x, y].getD j PyData.none)) 1) PyData.none = [y].foldl (fun a z => if dataLt z a = true then z else a) x := (argBest_fold dataLt PyData.none x [y] 1 (Nat.le_refl _)).2
  rw [← Array.getElem?_toList] at hP
  exact h _ v h' tk cs hP (reads_keeps hk' (by unfold minD; rw [← e2]; exact r)) fun c o e => hk' c o (hkeep c o e)
end
section
variable {X : Cx} (K : PySem.W.Frag)
def rMin2D (K : PySem.W.Frag) : List V → Hp → VK → Prop := fun xs H Q => ∃ v u d e, xs = [v, u] ∧ Dp K H v d ∧ Dp K H u e ∧ AlikeAll [d, e] ∧ PyData.depthAll [d, e] ≤ 62 ∧ ∀ (i : Nat) z, [v, u][i]? = some z → [d, e][i]? = some (minD d [e]) → Q z H
theorem cr_min2D (hc : X.calm = true) (hu : X.A.units + 64 < cLine) (hK : X.K = K := by rfl) : CallR X (.builtin "min") (rMin2D K) := by
  subst hK
  intro pins s σ H xs us Q I r h
  obtain ⟨v, u, d, e, rfl, hd, he, hA, hz, q⟩ := h
  obtain ⟨a, b, rfl, ra, rb⟩ := vals2 r
  obtain ⟨as, r1⟩ := Dp.reads I d v a hd ra
  obtain ⟨bs, r2⟩ := Dp.reads I e u b he rb
  refine min_two_data (I.ok.hd hc) r1 r2 hA (by omega) fun i w h' tk cs hv hr hk => ?_
  obtain ⟨v', e1, e2, e3⟩ := pick_core I (vs := [v, u]) (its := [a, b]) (.cons ra (.cons rb .nil)) (.cons hd (.cons he .nil)) hA (fold_mem (xs := [e]) (c := fun y a => dataLt y a)) hv hr hk
  exact ⟨v', H, I.kept hk, e2, q i v' e1 e3⟩
end
theorem kPE {X : Cx} {e : Expr} (K : PySem.W.Frag) (f : PySem.W.Frag → TE) (h : PE X e (f X.K)) (hK : X.K = K := by rfl) : PE X e (f K) := hK ▸ h
section
variable {K : PySem.W.Frag} {ta tb : TE} {ρ : En} {m m1 m2 : Md}
variable {α : Type} [Rp α] [DecidableEq α] [OrR α]
def min2G (x y : α) : α := if ltG y x then y else x
theorem ev_min2G {ra rb : Option α} (ha : EvE K ta ρ m ra) (hb : EvE K tb ρ m rb) (hz : EqR.dep α ≤ 62 := by decide) :
    EvE K (tCB (rMin2D K) (tCons ta (tCons tb tNil))) ρ m (ra.bind fun x => rb.bind fun y => some (min2G x y)) := fun Ht C0 C H σ I z e Q q => by
  obtain ⟨x, ex, e⟩ := some_bind e
  obtain ⟨y, ey, e⟩ := some_bind e
  cases e
  refine ha Ht C0 C H σ I x ex _ fun v C1 H1 x1 r1 => ?_
  refine hb Ht C0 C1 H1 σ (I.to x1) y ey _ fun u C2 H2 x2 r2 => ?_
  have k1 := r1.mono (part_mono (m := m) (Ht := Ht) x2.c)
  have d1 : Dp K H2 v (toPy (rp x)) := rep_dp _ _ (k1.mono (part_le.trans x2.s))
  have d2 : Dp K H2 u (toPy (rp y)) := rep_dp _ _ (r2.mono (part_le.trans x2.s))
  have hA := al_list [x, y]
  simp only [List.map_cons, List.map_nil, toPyL] at hA
  have hD := (layAll [x, y]).2
  simp only [List.map_cons, List.map_nil, toPyL] at hD
  have hm := minD_eq x [y]
  simp only [List.map_cons, List.map_nil, toPyL, List.foldl_cons, List.foldl_nil] at hm
  refine ⟨v, u, _, _, rfl, d1, d2, hA, by omega, fun i w hw hi => ?_⟩
  rw [hm] at hi
  have fin : Rep K (part m Ht C2) (rp (min2G x y)) w := by
    match i, hw, hi with
    | 0, hw, hi =>
      simp only [List.getElem?_cons_zero, Option.some.injEq] at hw hi
      have eg := toPy_inj hi
      rw [← hw]
      show Rep K _ (rp (if ltG y x = true then y else x)) v
      rw [← eg]
      exact k1
    | 1, hw, hi =>
      simp only [List.getElem?_cons_succ, List.getElem?_cons_zero, Option.some.injEq] at hw hi
      have eg := toPy_inj hi
      rw [← hw]
      show Rep K _ (rp (if ltG y x = true then y else x)) u
      rw [← eg]
      exact r2
    | i + 2, hw, hi => simp at hw
  exact q w C2 H2 (x1.trans x2) fin
end
section
variable {K : PySem.W.Frag} {ta tb : TE} {ρ : En} {m m1 m2 : Md}
/-- xs.count(k) of ints -/
theorem ev_countI {ra : Option (List Int)} {rb : Option Int} (ha : EvB K ta ρ m1 ra) (hb : EvE K tb ρ m2 rb) :
    EvE K (tBM K "list" (rCntI K) ta (tCons tb tNil)) ρ .new (ra.bind fun x => rb.bind fun k => some (x.count k : Int)) := fun Ht C0 C H σ I z e Q q => by
  obtain ⟨x, ex, e⟩ := some_bind e
  obtain ⟨k, ek, e⟩ := some_bind e
  cases e
  refine ha Ht C0 C H σ I x ex _ fun a vs C1 H1 x1 h1 r1 => ?_
  refine ⟨.inl ⟨rfl, _, .of h1⟩, ?_⟩
  refine hb Ht C0 C1 H1 σ (I.to x1) k ek _ fun u C2 H2 x2 r2 => ?_
  have h2 := x2.h _ _ h1
  rw [r1.ints_eq] at h2
  rw [r2.int_]
  exact ⟨a, x, k, rfl, rfl, .of h2, q _ C2 H2 (x1.trans x2) .ofInt⟩
end
end L2.DL

namespace L2.DL
open PySem PySem.Spec PyProof.Rows
/-! ### list(range(..)) -/
@[irreducible] def listRg (a b : Int) : Option (List Int) := if -(2 ^ 62) ≤ a ∧ a < 2 ^ 62 ∧ -(2 ^ 62) ≤ b ∧ b < 2 ^ 62 ∧ (b - a).toNat ≤ 2 ^ 24 then some (rangeL a b) else none
theorem listRg_def (a b : Int) : listRg a b = if -(2 ^ 62) ≤ a ∧ a < 2 ^ 62 ∧ -(2 ^ 62) ≤ b ∧ b < 2 ^ 62 ∧ (b - a).toNat ≤ 2 ^ 24 then some (rangeL a b) else none := by unfold listRg; rfl
section
variable {K : PySem.W.Frag} {ta tb : TE} {ρ : En} {m m1 m2 : Md}
theorem rgV_rangeL (a b : Int) : rgV a b = (rangeL a b).map V.int := by
  unfold rgV rangeL
  rw [List.map_map]
  rfl
theorem ev_listRg1 {ra : Option Int} (ha : EvE K ta ρ m1 ra) : EvL K (tLstRg (tRg1 ta)) ρ .new (ra.bind fun n => listRg 0 n) := fun Ht C0 C H σ I z e Q q => by
  obtain ⟨n, en, e⟩ := some_bind e
  rw [listRg_def] at e
  obtain ⟨hb, rfl⟩ := some_if e
  refine ha Ht C0 C H σ I n en _ fun v C1 H1 x1 r1 => ⟨n, r1.int_, hb, fun p hp => ?_⟩
  rw [rgV_rangeL]
  exact new_list x1 hp (RepL.ints _) q
theorem ev_listRg2 {ra rb : Option Int} (ha : EvE K ta ρ m1 ra) (hb : EvE K tb ρ m2 rb) : EvL K (tLstRg (tRg2 ta tb)) ρ .new (ra.bind fun l => rb.bind fun n => listRg l n) := fun Ht C0 C H σ I z e Q q => by
  obtain ⟨l, el, e⟩ := some_bind e
  obtain ⟨n, en, e⟩ := some_bind e
  rw [listRg_def] at e
  obtain ⟨hbd, rfl⟩ := some_if e
  refine ha Ht C0 C H σ I l el _ fun v C1 H1 x1 r1 => ?_
  refine hb Ht C0 C1 H1 σ (I.to x1) n en _ fun u C2 H2 x2 r2 => ⟨l, n, r1.int_, r2.int_, hbd, fun p hp => ?_⟩
  rw [rgV_rangeL]
  exact new_list (x1.trans x2) hp (RepL.ints _) q
end
/-! ### reversed(xs), walked -/
section
variable {K : PySem.W.Frag} {ta tb : TE} {ρ : En} {m m1 m2 : Md}
variable {α : Type} [Rp α]
theorem ei_rev {ra : Option (List α)} (ha : EvE K ta ρ m ra) : EvI K (RT.iRevA K ta) ρ m (ra.map List.reverse) := fun Ht C0 C H σ I xs ex R q => by
  obtain ⟨l, el, rfl⟩ := some_map ex
  refine ha Ht C0 C H σ I l el _ fun v C1 H1 x1 r1 => ?_
  obtain ⟨a, vs, rfl, e, r⟩ := rep_lst r1
  have ec : C1 a = some (.lst vs) := part_le _ _ e
  have hl : vs.length = l.length := by rw [r.length, List.length_map]
  refine ⟨a, vs, rfl, .inl ⟨.of (x1.s _ _ ec), q _ C1 H1 x1 ⟨fun i C2 H2 d ed hc hs _ => ?_, fun C2 H2 hc hs => ?_⟩⟩⟩
  · have hi : i < l.length := by
      have := (List.getElem?_eq_some_iff.mp ed).1
      rwa [List.length_map, List.length_reverse] at this
    have ed2 : (rps l)[vs.length - 1 - i]? = some d := by
      rw [rps, List.map_reverse, List.getElem?_reverse (by rw [List.length_map]; exact hi), List.length_map] at ed
      rw [hl]
      exact ed
    obtain ⟨u, eu, ru⟩ := r.get ed2
    have s2 : SqL K H2 a vs := .of (hs _ _ (hc _ _ ec))
    refine ⟨⟨by omega, vs, u, s2, eu⟩, fun x H' y => ?_⟩
    obtain ⟨rfl, y⟩ := y
    have e2 := y vs s2
    rw [eu] at e2
    cases e2
    exact ⟨C2, .refl hs, ru.mono (part_mono hc)⟩
  · show vs.length ≤ _
    rw [List.length_map, List.length_reverse]
    omega
end
theorem pi_revAK {X : Cx} (K : PySem.W.Frag) {tg e : Expr} {te : TE} {p pos : Pos} (hg : Gl X "reversed") (hm : X.mg "reversed" = none) (he : PE X e te)
    (hs : starEach [e] X.env = (false, eval e X.env) :: starEach [] X.env := by rfl) (hK : X.K = K := by rfl) : PI X tg (.Call (.Name "reversed" p) [e] [] pos) (RT.iRevA K te) := hK ▸ RT.pi_revA hg hm he hs
/-! ### in a tuple of ints -/
section
variable {K : PySem.W.Frag} {ta tb : TE} {ρ : En} {m m1 m2 : Md}
theorem ev_inT {ra : Option Int} {rb : Option (TupL Int)} (ha : EvE K ta ρ m1 ra) (hb : EvE K tb ρ m2 rb) : EvE K (tOp (rIn K false) ta tb) ρ .new (ra.bind fun x => rb.bind fun xs => some (decide (x ∈ xs.l))) := fun Ht C0 C H σ I z e Q q => by
  obtain ⟨x, ex, e⟩ := some_bind e
  obtain ⟨y, ey, e⟩ := some_bind e
  cases e
  refine ha Ht C0 C H σ I x ex _ fun v C1 H1 x1 r1 => ?_
  refine hb Ht C0 C1 H1 σ (I.to x1) y ey _ fun u C2 H2 x2 r2 => ?_
  obtain ⟨c, us, rfl, h2, h3⟩ := rep_tupL r2
  rw [r1.int_]
  have h4 := x2.s _ _ (part_le _ _ h2)
  rw [h3.ints_eq] at h4
  refine ⟨c, _, rfl, .inr (.of h4), rfl, flat_ints y.l, ?_⟩
  rw [inV_ints]
  exact q _ C2 H2 (x1.trans x2) .ofBl
end
/-! ### len(set(xs)), xs a list of ints -/
def met (ns : List Int) : List Int := ns.foldl step_dedup []
theorem getD_range : ∀ ns : List Int, (List.range ns.length).map (fun i => ns.getD i 0) = ns := fun ns => by
  refine List.ext_getElem (by simp) fun i h1 h2 => ?_
  simp [h2]
theorem met_eq (ns : List Int) : firstMet (fun i => ns.getD i 0) ns.length = met ns := by
  unfold firstMet met
  rw [getD_range]
def tLenSet (K : PySem.W.Frag) (ta : TE) : TE := fun σ H Q => ta σ H fun x H1 => ∃ (l : Addr) (ns : List Int), x = .ref l ∧ SqL K H1 l (ns.map V.int) ∧ ns.length ≤ 4000 ∧ Q (.int ((met ns).length : Nat)) H1
theorem pe_lenSet {X : Cx} (K : PySem.W.Frag) {a : Expr} {ta : TE} {p p2 q pos : Pos} (hg : Gl X "len") (hm : X.mg "len" = none) (hg2 : Gl X "set") (hm2 : X.mg "set" = none) (ha : PE X a ta) (hc : X.calm = true := by rfl)
    (na : starEach [a] X.env = (false, eval a X.env) :: starEach [] X.env := by rfl) (hK : X.K = K := by rfl) :
    PE X (.Call (.Name "len" p) [.Call (.Name "set" p2) [a] [] q] [] pos) (tLenSet K ta) := by
  subst hK
  refine ⟨fun pins st σ H Q J hq0 => Call_ (ld_blt J hg hm boot_len (callWith_builtin1 (args_cons
    (Call_ (ld_blt J hg2 hm2 boot_set (callWith_type1 (args_cons (thn (ha.run pins st σ H _ J hq0) fun v st1 ⟨x, H1, J1, rel, hq⟩ => args_nil ?_) na) na rfl))) rfl) rfl rfl))⟩
  obtain ⟨l, ns, rfl, hs, hl, fin⟩ := hq
  cases rel
  obtain ⟨its, rv, pl, hz⟩ := J1.list hs
  have hn : its.toArray.size = ns.length := by
    rw [List.size_toArray, ← rv.length, List.length_map]
  refine call_set_list (J1.ok.hd hc) pl.isList
    (by simpa using ints_of_vals rv) (by rw [hn]; unfold scanBound; omega) fun hp tk hS hk => args_nil ?_
  rw [hn, met_eq] at hS
  have hle : (met ns).length ≤ ns.length := by
    rw [← met_eq]
    exact firstMet_length_le _ _
  obtain ⟨ob, es, ep, tb, h1, h2, h3, _, _, _, h4, h5⟩ := hS
  have J2 : Inv X pins σ H1 { st1 with heap := hp, toks := tk } := J1.kept
    fun b o e => hk b o (Heap.lt_size e) e
  exact call_len_set h1 h2 h3 h4 (by rw [h5]; omega)
    ⟨.int (met ns).length, H1, J2.tok _, ⟨_, by rw [h5]⟩, fin⟩
section
variable {K : PySem.W.Frag} {ta tb : TE} {ρ : En} {m m1 m2 : Md}
def lenSet (xs : List Int) : Option Int := if xs.length ≤ 4000 then some ((met xs).length : Nat) else none
theorem ev_lenSet {ra : Option (List Int)} (ha : EvB K ta ρ m ra) : EvE K (tLenSet K ta) ρ .new (ra.bind lenSet) := fun Ht C0 C H σ I z e Q q => by
  obtain ⟨x, ex, e⟩ := some_bind e
  unfold lenSet at e
  obtain ⟨hl, rfl⟩ := some_if e
  refine ha Ht C0 C H σ I x ex _ fun a vs C1 H1 x1 h1 r1 => ?_
  rw [r1.ints_eq] at h1
  exact ⟨a, x, rfl, .of h1, hl, q _ C1 H1 x1 .ofInt⟩
end
/-! ### xs.index(k), ints -/
def ixOf (k : Int) : List Int → Option Nat
  | [] => none
  | x :: xs => if x = k then some 0 else (ixOf k xs).map (· + 1)
theorem ixOf_spec {k : Int} : ∀ {xs : List Int} {j : Nat}, ixOf k xs = some j → xs[j]? = some k ∧ ∀ m : Nat, m < j → xs[m]? ≠ some k
  | [], j, h => by cases h
  | x :: xs, j, h => by
    unfold ixOf at h
    split at h
    · rename_i e
      cases h
      exact ⟨by rw [List.getElem?_cons_zero, e], fun m hm => by omega⟩
    · rename_i ne
      obtain ⟨i, e, rfl⟩ := Option.map_eq_some_iff.mp h
      obtain ⟨h1, h2⟩ := ixOf_spec e
      refine ⟨by rw [List.getElem?_cons_succ]; exact h1, fun m hm => ?_⟩
      cases m with
      | zero =>
        rw [List.getElem?_cons_zero]
        exact fun z => ne (Option.some.inj z)
      | succ m =>
        rw [List.getElem?_cons_succ]
        exact h2 m (by omega)
def indexI (xs : List Int) (k : Int) : Option Int := (ixOf k xs).map fun j : Nat => (j : Int)
section
variable {K : PySem.W.Frag} {ta tb : TE} {ρ : En} {m m1 m2 : Md}
theorem ev_indexI {ra : Option (List Int)} {rb : Option Int} (ha : EvB K ta ρ m1 ra) (hb : EvE K tb ρ m2 rb) :
    EvE K (tBM K "list" (rIndex K) ta (tCons tb tNil)) ρ .new (ra.bind fun x => rb.bind fun k => indexI x k) := fun Ht C0 C H σ I z e Q q => by
  obtain ⟨x, ex, e⟩ := some_bind e
  obtain ⟨k, ek, e⟩ := some_bind e
  unfold indexI at e
  obtain ⟨j, ej, rfl⟩ := some_map e
  obtain ⟨k1, k2⟩ := ixOf_spec ej
  refine ha Ht C0 C H σ I x ex _ fun a vs C1 H1 x1 h1 r1 => ?_
  refine ⟨.inl ⟨rfl, _, .of h1⟩, ?_⟩
  refine hb Ht C0 C1 H1 σ (I.to x1) k ek _ fun u C2 H2 x2 r2 => ?_
  have h2 := x2.h _ _ h1
  rw [r1.ints_eq] at h2
  rw [r2.int_]
  refine ⟨a, _, _, j, .int k, rfl, rfl, .of h2, rfl, flat_ints x, by rw [List.getElem?_map, k1]; rfl, ?_, fun i z hi hz => ?_, q _ C2 H2 (x1.trans x2) .ofInt⟩
  · simp [eqV]
  · rw [List.getElem?_map] at hz
    obtain ⟨y, ey, rfl⟩ := some_map hz
    have := k2 i hi
    have hne : y ≠ k := fun q => this (by rw [ey, q])
    simp [eqV, hne]
end
end L2.DL

/-! DL12: islands: an answer that is read, then changed, then forgotten -/
namespace L2.DL
open PySem PySem.Spec PyProof.Rows
theorem inA_in {A : Addr → Bool} {C : Hp} {a : Addr} {o : HO} (h : inA A C a = some o) : A a = true ∧ C a = some o := by
  unfold inA at h
  split at h
  · exact ⟨by assumption, h⟩
  · cases h
/-- into the island's block -/
inductive SlotIn (A : Addr → Bool) : Slot → Slot → Prop
  | un {s : Slot} : SlotIn A s .un
  | dat {m : Md} {d : Dt} : SlotIn A (.dat m d) (.dat (.out A) d)
  | sc {m m' : Md} {α : Type} [Rp α] [Scal α] {x : α} : SlotIn A (.dat m (rp x)) (.dat m' (rp x))
/-- out of it -/
inductive SlotEx (A : Addr → Bool) : Slot → Slot → Prop
  | un {s : Slot} : SlotEx A s .un
  | out {d : Dt} : SlotEx A (.dat (.out A) d) (.dat .old d)
  | new {d : Dt} : SlotEx A (.dat .new d) (.dat .new d)
  | sc {m m' : Md} {α : Type} [Rp α] [Scal α] {x : α} : SlotEx A (.dat m (rp x)) (.dat m' (rp x))
  | own {l : List Dt} : SlotEx A (.own .new l) (.own .new l)
inductive EnvZ (R : Slot → Slot → Prop) : En → En → Prop
  | nil : EnvZ R [] []
  | cons {s s' : Slot} {ρ ρ' : En} : R s s' → EnvZ R ρ ρ' → EnvZ R (s :: ρ) (s' :: ρ')
theorem EnvZ.at {R : Slot → Slot → Prop} : ∀ {ρ ρ' : En} {i : Nat} {s' : Slot}, EnvZ R ρ ρ' → ρ'[i]? = some s' → ∃ s, ρ[i]? = some s ∧ R s s'
  | _, _, i, s', .nil, e => by simp at e
  | _, _, 0, s', .cons h t, e => by
    simp at e
    subst e
    exact ⟨_, rfl, h⟩
  | _, _, i + 1, s', .cons h t, e => by
    obtain ⟨s, e1, e2⟩ := t.at (i := i) (s' := s') (by simpa using e)
    exact ⟨s, by simpa using e1, e2⟩
theorem EnvZ.len {R : Slot → Slot → Prop} : ∀ {ρ ρ' : En}, EnvZ R ρ ρ' → ρ.length = ρ'.length
  | _, _, .nil => rfl
  | _, _, .cons h t => by rw [List.length_cons, List.length_cons, t.len]
section
variable {K : PySem.W.Frag} {ρ ρ1 : En} {m : Md} {α R S : Type} [Rp α] [Rp R] {A : Addr → Bool}
theorem ev_isl {i : Nat} {x : α} (h : ρ[i]? = some (.isl A (rp x)) := by rfl) : EvE K (tVar i) ρ .old (some x) := fun Ht C0 C H σ I y e Q q => by
  cases e
  obtain ⟨v, e1, r⟩ := I.ok i _ h
  exact ⟨v, e1, q v C H I.same (r.mono inA_le)⟩
/-- a statement changes nothing but the island, and the names vs -/
def EvM (K : PySem.W.Frag) (t : TS) (ρ : En) (A : Addr → Bool) (vs : List Nat) (o : Option Unit) : Prop :=
  ∀ (Ht C0 C H : Hp) (σ : St), EnvI K Ht C0 C H σ ρ → o = some () → ∀ D : Ends, (∀ C1 H1 H' σ', Ext C H C1 H1 → (∀ a, A a = false → H' a = H1 a) → σ'.length = σ.length → (∀ j, j ∉ vs → σ'[j]? = σ[j]?) → D.nx σ' H') → t D σ H
theorem er_isl {A0 : Type} {ds : A0 → List Dt} {g : A0 → Option α} {ra : Option A0} {ta : TA} {E0 : XK} {i : Nat} {T1 M T2 : TS} {vs : List Nat} {ρ1 : (Addr → Bool) → En} {E : (Addr → Bool) → α → S → En} {ρ3 : α → S → En}
    {o : α → Option (Fl S Unit R)} {om : α → S → Option Unit} {f : α → S → Option R}
    (h : EvA K ds ta ρ ra) (hw : ∀ A, EnvZ (SlotIn A) ρ (ρ1 A)) (h1 : ∀ A x, EvF K T1 ((ρ1 A).set i (.isl A (rp x))) (E A x) (fun _ : Unit => []) m (o x)) (h2 : ∀ A x s, EvM K M (E A x s) A vs (om x s))
    (hx : ∀ A x s, EnvZ (SlotEx A) (E A x s) (ρ3 x s)) (hv : ∀ x s, (vs.all fun j => match (ρ3 x s)[j]? with | some .un => true | none => true | _ => false) = true) (h3 : ∀ x s, EvR K T2 (ρ3 x s) m (f x s)) :
    EvR K (tSeq (tAsg (tCall (spA K ds g .new) [] E0 ta) (gName i)) (tSeq T1 (tSeq M T2))) ρ m ((ra.bind g).bind fun x => Fl.ret (o x) fun s => (om x s).bind fun _ => f x s) := fun Ht C0 C H σ I r e D q => by
  obtain ⟨z, ez, e⟩ := some_bind e
  obtain ⟨x0, ex0, ez⟩ := some_bind ez
  refine h Ht C0 C H σ I x0 ex0 _ fun us Ca Ha xa ra' => ?_
  rw [List.append_nil]
  refine ⟨Ca, x0, z, xa.s, ra', ez, fun u Cb Hb xb ru => ?_⟩
  have Ia := I.to xa
  have mem : ∀ a : Addr, ((Ha a).isNone && (Cb a).isSome) = true ↔ Ha a = none ∧ Cb a ≠ none := fun a => by
    rw [Bool.and_eq_true]
    constructor
    · rintro ⟨a1, a2⟩
      refine ⟨by simpa using a1, fun z => ?_⟩
      rw [z] at a2
      cases a2
    · rintro ⟨a1, a2⟩
      refine ⟨by rw [a1]; rfl, ?_⟩
      obtain ⟨o, ho⟩ := some_of a2
      rw [ho]
      rfl
  generalize hA : (fun a : Addr => (Ha a).isNone && (Cb a).isSome) = A at *
  have mem : ∀ a : Addr, A a = true ↔ Ha a = none ∧ Cb a ≠ none := fun a => by rw [← hA]; exact mem a
  have memF : ∀ a : Addr, Ha a ≠ none → A a = false := fun a z => by
    cases hh : A a with
    | false => rfl
    | true => exact absurd ((mem a).mp hh).1 z
  -- the block's start
  have J : EnvI K Hb Cb Cb Hb (σ.set i (some u)) ((ρ1 A).set i (.isl A (rp z))) := by
    refine ⟨.refl xb.s, by rw [List.length_set, List.length_set, Ia.len, (hw A).len], fun j s ej => ?_, fun j k a mj lj mk lk n e1 e2 e3 e4 => ?_⟩
    · rcases get_set ej with ⟨rfl, rfl⟩ | ⟨n, ej⟩
      · have hj : j < (ρ1 A).length := by
          have := (List.getElem?_eq_some_iff.mp ej).1
          rwa [List.length_set] at this
        refine ⟨u, by rw [List.getElem?_set_self (by rw [Ia.len, (hw A).len]; exact hj)], ru.mono fun a o' ha => ?_⟩
        simp only [part] at ha
        split at ha
        · rename_i hn
          unfold inA
          rw [if_pos ((mem a).mpr ⟨by simpa using hn, by rw [ha]; simp⟩)]
          exact ha
        · cases ha
      · rw [List.getElem?_set_ne (Ne.symm n)]
        obtain ⟨s0, e0, w0⟩ := (hw A).at ej
        have ok0 := Ia.ok j s0 e0
        cases w0 with
        | un => trivial
        | dat =>
          obtain ⟨v, e1, r1⟩ := ok0
          refine ⟨v, e1, r1.mono fun a o' ha => ?_⟩
          have hca := part_le _ _ ha
          have hb := xb.c _ _ hca
          have hf := memF a (by rw [xa.s _ _ hca]; simp)
          simp only [part, hf, Bool.false_and, Bool.false_eq_true, if_false]
          exact hb
        | sc =>
          obtain ⟨v, e1, r1⟩ := ok0
          exact ⟨v, e1, Scal.ok K _ _ _ v r1⟩
    · rcases get_set e1 with ⟨_, q1⟩ | ⟨n1, e1⟩
      · cases q1
      · obtain ⟨s0, e0, w0⟩ := (hw A).at e1
        cases w0
  have X0 : Ext C0 Ht Cb Hb := (I.ext.trans xa).trans xb
  have inB : ∀ a : Addr, A a = true → Hb a ≠ none := fun a z => by
    obtain ⟨o', ho⟩ := some_of ((mem a).mp z).2
    rw [xb.s _ _ ho]
    simp
  unfold Fl.ret at e
  obtain ⟨w, ew, e⟩ := some_bind e
  show T1 { D with nx := tSeq M T2 D } (σ.set i (some u)) Hb
  refine h1 A z Hb Cb Cb Hb _ J w ew _ ?_
  cases w with
  | bk s => cases e
  | ct s => cases e
  | rt r' =>
    cases e
    exact fun v C' H' y rv => q v C' H' (X0.trans y) (rv.mono (part_ht X0.h))
  | nx s =>
    obtain ⟨_, eo, e⟩ := some_bind e
    intro C2 H2 σ2 I2 s2
    show M { D with nx := T2 D } σ2 H2
    refine h2 A z s Hb Cb C2 H2 σ2 I2 eo _ fun C1 H1 H' σ' x1 hh hl hj => h3 z s Ht C0 (fun a => if A a = true then none else C1 a) H' σ' ?_ r e D q
    have X1 : Ext C0 Ht C1 H1 := (X0.trans I2.ext).trans x1
    have I3 := I2.to x1
    have c3 : ∀ {a : Addr}, A a = false → (if A a = true then none else C1 a) = C1 a := fun {a} z => by rw [z]; rfl
    have nv : ∀ (j : Nat) (s' : Slot), (ρ3 z s)[j]? = some s' → s' = .un ∨ σ'[j]? = σ2[j]? := fun j s' ej => by
      by_cases hjv : j ∈ vs
      · have := List.all_eq_true.mp (hv z s) j hjv
        rw [ej] at this
        cases s' with
        | un => exact .inl rfl
        | dat m d => cases this
        | own m l => cases this
        | isl A d => cases this
        | err a' dd' fs' => cases this
      · exact .inr (hj j hjv)
    refine ⟨⟨fun a o' ha => ?_, fun a o' ha => ?_, fun a o' ha => ?_, fun a a1 a2 => ?_⟩, by rw [hl, I2.len, (hx A z s).len], fun j s' ej => ?_, fun j k a mj lj mk lk n e1 e2 e3 e4 => ?_⟩
    · have hf := memF a (by rw [xa.s _ _ (xa.c _ _ (I.ext.c _ _ ha))]; simp)
      exact (c3 hf).trans (X1.c _ _ ha)
    · have hf := memF a (by rw [xa.h _ _ (I.ext.h _ _ ha)]; simp)
      rw [hh a hf]
      exact X1.h _ _ ha
    · cases hf : A a with
      | true => rw [hf] at ha; cases ha
      | false =>
        rw [hf] at ha
        rw [hh a hf]
        exact X1.s _ _ ha
    · split
      · rfl
      · exact X1.f a a1 a2
    · rcases nv j s' ej with rfl | es
      · trivial
      · rw [es]
        obtain ⟨s0, e0, w0⟩ := (hx A z s).at ej
        have ok0 := I3.ok j s0 e0
        cases w0 with
        | un => trivial
        | out =>
          obtain ⟨v, e1, r1⟩ := ok0
          refine ⟨v, e1, r1.mono fun a o' ha => ?_⟩
          have hf : A a = false := by
            cases hf : A a with
            | false => rfl
            | true =>
              obtain ⟨o2, ho2⟩ := some_of (inB a hf)
              simp only [part, hf, ho2, Option.isSome_some, Bool.and_self, if_true] at ha
              cases ha
          exact (c3 hf).trans (part_le _ _ ha)
        | new =>
          obtain ⟨v, e1, r1⟩ := ok0
          refine ⟨v, e1, r1.mono fun a o' ha => ?_⟩
          simp only [part] at ha
          split at ha
          · rename_i hn
            have hn : Hb a = none := by simpa using hn
            have hf : A a = false := by
              cases hf : A a with
              | false => rfl
              | true => exact absurd hn (inB a hf)
            exact part_at ((c3 hf).trans ha) (free_of X0.h hn)
          · cases ha
        | sc =>
          obtain ⟨v, e1, r1⟩ := ok0
          exact ⟨v, e1, Scal.ok K _ _ _ v r1⟩
        | own =>
          obtain ⟨b, vs', e1, b1, b2, b3, b4⟩ := ok0
          have hf : A b = false := by
            cases hf : A b with
            | false => rfl
            | true => exact absurd b1 (inB b hf)
          refine ⟨b, vs', e1, free_of X0.h b1, (c3 hf).trans b2, by rw [hh b hf]; exact b3, b4.mono fun a o' ha => ?_⟩
          simp only [part] at ha
          split at ha
          · rename_i hn
            have hn : Hb a = none := by simpa using hn
            have hf : A a = false := by
              cases hf : A a with
              | false => rfl
              | true => exact absurd hn (inB a hf)
            exact part_at ((c3 hf).trans ha) (free_of X0.h hn)
          · cases ha
    · rcases nv j _ e1 with q1 | q1
      · cases q1
      · rcases nv k _ e2 with q2 | q2
        · cases q2
        · obtain ⟨t1, f1, w1⟩ := (hx A z s).at e1
          obtain ⟨t2, f2, w2⟩ := (hx A z s).at e2
          cases w1
          cases w2
          rw [q1] at e3
          rw [q2] at e4
          exact I2.sep j k a _ _ _ _ n f1 f2 e3 e4
theorem er_islP {A0 : Type} {ds : A0 → List Dt} {g : A0 → Option α} {x0 : A0} {ta : TA} {E0 : XK} {i : Nat} {T1 M T2 : TS} {vs : List Nat} {ρ1 : (Addr → Bool) → En} {E : (Addr → Bool) → α → S → En} {ρ3 : α → S → En}
    {o : α → Option (Fl S Unit R)} {om : α → S → Option Unit} {f : α → S → Option R}
    (h : EvA K ds ta ρ (some x0)) (hw : ∀ A, EnvZ (SlotIn A) ρ (ρ1 A)) (h1 : ∀ A x, EvF K T1 ((ρ1 A).set i (.isl A (rp x))) (E A x) (fun _ : Unit => []) m (o x)) (h2 : ∀ A x s, EvM K M (E A x s) A vs (om x s))
    (hx : ∀ A x s, EnvZ (SlotEx A) (E A x s) (ρ3 x s)) (hv : ∀ x s, (vs.all fun j => match (ρ3 x s)[j]? with | some .un => true | none => true | _ => false) = true) (h3 : ∀ x s, EvR K T2 (ρ3 x s) m (f x s)) :
    EvR K (tSeq (tAsg (tCall (spA K ds g .new) [] E0 ta) (gName i)) (tSeq T1 (tSeq M T2))) ρ m ((g x0).bind fun x => Fl.ret (o x) fun s => (om x s).bind fun _ => f x s) :=
  (er_isl h hw h1 h2 hx hv h3).res (by rw [Option.bind_some])
/-- arguments that are there -/
theorem ea_consP {a1 A' : Type} [Rp a1] {ds' : A' → List Dt} {x : a1} {y : A'} {te : TE} {t : TA} {m1 : Md} (h1 : EvE K te ρ m1 (some x)) (h2 : EvA K ds' t ρ (some y)) : EvA K (fun x : a1 × A' => rp x.1 :: ds' x.2) (tCons te t) ρ (some (x, y)) := ea_cons h1 h2
/-! ### the changes -/
theorem em_nx : EvM K tNext ρ A [] (some ()) := fun Ht C0 C H σ I e D q => q C H H σ I.same (fun _ _ => rfl) rfl fun _ _ => rfl
theorem em_if {c : TT} {t u : TS} {vs : List Nat} {rc : Option Bool} {o1 o2 : Option Unit} (hc : EvT K c ρ rc) (h1 : EvM K t ρ A vs o1) (h2 : EvM K u ρ A vs o2) : EvM K (tIfS c t u) ρ A vs (rc.bind fun b => if b = true then o1 else o2) := fun Ht C0 C H σ I e D q => by
  obtain ⟨b, eb, e⟩ := some_bind e
  refine hc Ht C0 C H σ I b eb _ fun C' H' x => ?_
  cases b with
  | true => rw [if_pos rfl] at e; exact iteT (h1 Ht C0 C' H' σ (I.to x) e D fun C1 H1 H2 σ' x1 => q C1 H1 H2 σ' (x.trans x1))
  | false => rw [if_neg Bool.false_ne_true] at e; exact iteF (h2 Ht C0 C' H' σ (I.to x) e D fun C1 H1 H2 σ' x1 => q C1 H1 H2 σ' (x.trans x1))
theorem EvM.res {t : TS} {vs : List Nat} {o o' : Option Unit} (h : EvM K t ρ A vs o) (e : o' = o) : EvM K t ρ A vs o' := e ▸ h
theorem ints_no_ref {H : Hp} : ∀ {xs : List Int} {vs : List V} {b : Addr}, RepL K H (rps xs) vs → V.ref b ∉ vs
  | [], vs, b, h => by rw [h.nil_iff]; simp
  | x :: xs, vs, b, h => by
    obtain ⟨v, r, rfl, h1, h2⟩ := h.uncons
    rw [h1.int_]
    intro hm
    rcases List.mem_cons.mp hm with q | q
    · cases q
    · exact ints_no_ref h2 q
/-- told[0].append(c), told a pair whose first item is a list -/
theorem em_app0T {i : Nat} {γ : Type} [Rp γ] {x : List Int × γ} {c : Int} (h : ρ[i]? = some (.isl A (rp x)) := by rfl) :
    EvM K (tDrop (tBM K "list" rAppend (tOp (rIxT K) (tVar i) (tC (.int 0))) (tCons (tC (.int c)) tNil))) ρ A [] ((lim (x.1 ++ [c])).map fun _ => ()) := fun Ht C0 C H σ I e D q => by
  obtain ⟨y, ey, _⟩ := some_map e
  obtain ⟨hz, _⟩ := of_lim ey
  obtain ⟨v, e1, r⟩ := I.ok i _ h
  obtain ⟨a, u, w, rfl, h1, r1, r2⟩ := rep_pair r
  obtain ⟨b, vs, rfl, h2, r3⟩ := rep_lst r1
  obtain ⟨ab, hb⟩ := inA_in h2
  have hbH := I.sub _ _ hb
  refine ⟨.ref a, e1, a, [.ref b, w], 0, .ref b, rfl, rfl, .of (I.sub _ _ (inA_le _ _ h1)), rfl, .inl ⟨rfl, _, .of hbH⟩, b, vs, .int c, rfl, rfl, hbH, ?_, ?_⟩
  · rw [List.length_append, List.length_singleton] at hz
    rw [r3.length, List.length_map]
    omega
  · exact q C H _ σ I.same (fun a' ha' => upd_ne (fun z => by rw [z, ab] at ha'; cases ha')) rfl fun _ _ => rfl
/-- told[0].append(c), told a list of lists -/
theorem em_app0L {i : Nat} {x : List (List Int)} {c : Int} (h : ρ[i]? = some (.isl A (rp x)) := by rfl) :
    EvM K (tDrop (tBM K "list" rAppend (tOp (rIxL K) (tVar i) (tC (.int 0))) (tCons (tC (.int c)) tNil))) ρ A [] ((atI x 0).bind fun y => (lim (y ++ [c])).map fun _ => ()) := fun Ht C0 C H σ I e D q => by
  obtain ⟨y, ey, e⟩ := some_bind e
  obtain ⟨_, ez, _⟩ := some_map e
  obtain ⟨hz, _⟩ := of_lim ez
  obtain ⟨v, e1, r⟩ := I.ok i _ h
  obtain ⟨a, us, rfl, h1, r1⟩ := rep_lst r
  obtain ⟨w, ew, rw'⟩ := atI_rep r1 ey
  obtain ⟨b, vs, rfl, h2, r3⟩ := rep_lst rw'
  obtain ⟨ab, hb⟩ := inA_in h2
  have hbH := I.sub _ _ hb
  refine ⟨.ref a, e1, a, us, 0, .ref b, rfl, rfl, .of (I.sub _ _ (inA_le _ _ h1)), ew, .inl ⟨rfl, _, .of hbH⟩, b, vs, .int c, rfl, rfl, hbH, ?_, ?_⟩
  · rw [List.length_append, List.length_singleton] at hz
    rw [r3.length, List.length_map]
    omega
  · exact q C H _ σ I.same (fun a' ha' => upd_ne (fun z => by rw [z, ab] at ha'; cases ha')) rfl fun _ _ => rfl
/-- told[0].append(c); told.pop() -/
theorem em_app0_pop {i : Nat} {x : List (List Int)} {c : Int} (h : ρ[i]? = some (.isl A (rp x)) := by rfl) :
    EvM K (tSeq (tDrop (tBM K "list" rAppend (tOp (rIxL K) (tVar i) (tC (.int 0))) (tCons (tC (.int c)) tNil))) (tDrop (tBM0 K "list" rPop (tVar i)))) ρ A [] ((atI x 0).bind fun y => (lim (y ++ [c])).map fun _ => ()) := fun Ht C0 C H σ I e D q => by
  obtain ⟨y, ey, e⟩ := some_bind e
  obtain ⟨_, ez, _⟩ := some_map e
  obtain ⟨hz, _⟩ := of_lim ez
  obtain ⟨v, e1, r⟩ := I.ok i _ h
  obtain ⟨a, us, rfl, h1, r1⟩ := rep_lst r
  obtain ⟨w, ew, rw'⟩ := atI_rep r1 ey
  obtain ⟨b, vs, rfl, h2, r3⟩ := rep_lst rw'
  obtain ⟨ab, hb⟩ := inA_in h2
  obtain ⟨aa, ha⟩ := inA_in h1
  have hbH := I.sub _ _ hb
  have haH := I.sub _ _ ha
  have hmem : V.ref b ∈ us := by
    unfold atI at ew
    obtain ⟨j, _, ew⟩ := some_bind ew
    exact List.mem_of_getElem? ew
  have nab : a ≠ b := fun z => by
    subst z
    rw [ha] at hb
    cases hb
    exact ints_no_ref r3 hmem
  have hlen : us.length ≠ 0 := fun z => by
    rw [List.length_eq_zero_iff.mp z] at hmem
    cases hmem
  have hlast : us[us.length - 1]? = some (us[us.length - 1]'(by omega)) := List.getElem?_eq_getElem (by omega)
  have haU : upd H b (.lst (vs ++ [.int c])) a = some (.lst us) := by rw [upd_ne nab]; exact haH
  refine ⟨.ref a, e1, a, us, 0, .ref b, rfl, rfl, .of haH, ew, .inl ⟨rfl, _, .of hbH⟩, b, vs, .int c, rfl, rfl, hbH, ?_, .ref a, e1, .inl ⟨rfl, _, .of haU⟩, a, us, _, rfl, rfl, haU, hlast, ?_⟩
  · rw [List.length_append, List.length_singleton] at hz
    rw [r3.length, List.length_map]
    omega
  · refine q C H _ σ I.same (fun a' ha' => ?_) rfl fun _ _ => rfl
    rw [upd_ne (fun z => by rw [z, aa] at ha'; cases ha'), upd_ne (fun z => by rw [z, ab] at ha'; cases ha')]
/-- for item in told: item.append(c); then told.append([d]) -/
theorem em_each {i j : Nat} {x : List (List Int)} {d : Int} {tv : TE} (hc : ∃ c : Int, ∀ σ H Q, Q (.int c) H → tv σ H Q) (h : ρ[i]? = some (.isl A (rp x)) := by rfl) (hij : i ≠ j := by decide) (hjl : Nat.ble (j + 1) ρ.length = true := by rfl) :
    EvM K (tSeq (tFor (iList K (tVar i)) (gName j) (tDrop (tBM K "list" rAppend (tVar j) (tCons tv tNil)))) (tDrop (tBM K "list" rAppend (tVar i) (tCons (tLst (tCons (tC (.int d)) tNil)) tNil)))) ρ A [j]
      (if (x.all (fun y => decide (y.length + x.length ≤ 16777216)) && decide (x.length < 16777216)) = true then some () else none) := fun Ht C0 C H σ I e D q => by
  obtain ⟨hz, _⟩ := some_if e
  obtain ⟨c, hc⟩ := hc
  rw [Bool.and_eq_true, decide_eq_true_eq] at hz
  obtain ⟨z1, z2⟩ := hz
  have hs : sizeLine = 16777216 := sizeLine_eq
  obtain ⟨v, e1, r⟩ := I.ok i _ h
  obtain ⟨a, us, rfl, h1, r1⟩ := rep_lst r
  obtain ⟨aa, ha⟩ := inA_in h1
  have haH := I.sub _ _ ha
  have hul : us.length = x.length := by rw [r1.length, List.length_map]
  have hjl2 : j < σ.length := by rw [I.len]; exact Nat.le_of_ble_eq_true hjl
  have items : ∀ (k : Nat) (w : V), us[k]? = some w → ∃ b ws, w = .ref b ∧ A b = true ∧ b ≠ a ∧ H b = some (.lst ws) ∧ ws.length + x.length ≤ 16777216 + 0 := fun k w ew => by
    obtain ⟨dd, ed, rd⟩ := r1.at ew
    rw [rps, List.getElem?_map] at ed
    obtain ⟨y, ey, rfl⟩ := some_map ed
    obtain ⟨b, ws, rfl, h2, r3⟩ := rep_lst rd
    obtain ⟨ab, hb⟩ := inA_in h2
    refine ⟨b, ws, rfl, ab, fun z => ?_, I.sub _ _ hb, ?_⟩
    · subst z
      rw [ha] at hb
      cases hb
      exact ints_no_ref r3 (List.mem_of_getElem? ew)
    · have := of_decide_eq_true (List.all_eq_true.mp z1 y (List.mem_of_getElem? ey))
      rw [r3.length, List.length_map]
      exact this
  refine ⟨.ref a, e1, a, rfl, ⟨us, .of haH⟩, ?_⟩
  refine ⟨fun k n σ' Hc => n = us.length - k ∧ k ≤ us.length ∧ (∀ a', A a' = false → Hc a' = H a') ∧ (∀ a', H a' ≠ none → Hc a' ≠ none) ∧ Hc a = some (.lst us) ∧ (∀ (l : Nat) (w : V), us[l]? = some w → ∃ b ws, w = .ref b ∧ A b = true ∧ b ≠ a ∧ Hc b = some (.lst ws) ∧ ws.length + x.length ≤ 16777216 + k) ∧ σ'.length = σ.length ∧ (∀ l, l ∉ [j] → σ'[l]? = σ[l]?),
    ⟨us.length, rfl, Nat.zero_le _, fun _ _ => rfl, fun _ z => z, haH, items, rfl, fun _ _ => rfl⟩, ?_⟩
  rintro k n σ' Hc ⟨rfl, hk, c1, c0, c2, c3, c4, c5⟩
  by_cases hlt : k < us.length
  · refine .inr ⟨⟨us, us[k], .of c2, List.getElem?_eq_getElem hlt⟩, fun σ2 H2 => k + 1 ≤ us.length ∧ (∀ a', A a' = false → H2 a' = H a') ∧ (∀ a', H a' ≠ none → H2 a' ≠ none) ∧ H2 a = some (.lst us) ∧ (∀ (l : Nat) (w : V), us[l]? = some w → ∃ b ws, w = .ref b ∧ A b = true ∧ b ≠ a ∧ H2 b = some (.lst ws) ∧ ws.length + x.length ≤ 16777216 + (k + 1)) ∧ σ2.length = σ.length ∧ (∀ l, l ∉ [j] → σ2[l]? = σ[l]?), fun σ2 H2 h => ⟨us.length - (k + 1), by omega, rfl, h⟩, fun w H2 hy => ?_⟩
    obtain ⟨rfl, hy⟩ := hy
    have ew := hy us (.of c2)
    obtain ⟨b, ws, rfl, ab, nba, hb, hwl⟩ := c3 k w ew
    refine ⟨.ref b, List.getElem?_set_self (by omega), .inl ⟨rfl, _, .of hb⟩, hc _ _ _ ?_⟩
    refine ⟨b, ws, .int c, rfl, rfl, hb, by omega, ?_⟩
    refine ⟨hlt, fun a' ha' => ?_, fun a' ha' => ?_, ?_, fun l w hw => ?_, by rw [List.length_set]; exact c4, fun l hl => ?_⟩
    · rw [upd_ne (fun z => by rw [z, ab] at ha'; cases ha')]
      exact c1 a' ha'
    · by_cases z : a' = b
      · subst z
        rw [upd_same]
        simp
      · rw [upd_ne z]
        exact c0 a' ha'
    · rw [upd_ne (Ne.symm nba)]
      exact c2
    · obtain ⟨b2, ws2, rfl, ab2, nb2, hb2, hl2⟩ := c3 l w hw
      by_cases z : b2 = b
      · subst z
        rw [hb] at hb2
        cases hb2
        exact ⟨b2, ws ++ [.int c], rfl, ab, nba, upd_same, by rw [List.length_append, List.length_singleton]; omega⟩
      · exact ⟨b2, ws2, rfl, ab2, nb2, by rw [upd_ne z]; exact hb2, by omega⟩
    · rw [List.getElem?_set_ne (fun z => hl (by rw [z]; exact List.mem_singleton_self _))]
      exact c5 l hl
  · have hke : k = us.length := by omega
    subst hke
    refine .inl ⟨⟨us, .of c2, Nat.le_refl _⟩, ?_⟩
    have ei : σ'[i]? = some (some (.ref a)) := by rw [c5 i (fun z => hij (List.mem_singleton.mp z))]; exact e1
    refine ⟨.ref a, ei, .inl ⟨rfl, _, .of c2⟩, (by show 1 ≤ sizeLine; omega), fun p hp => ?_⟩
    have hHp : H p = none := by
      cases hh : H p with
      | none => rfl
      | some o => exact absurd hp (c0 p (by rw [hh]; simp))
    have npa : a ≠ p := fun z => by rw [← z, c2] at hp; cases hp
    have c6 : upd Hc p (.lst [.int d]) a = some (.lst us) := by rw [upd_ne npa]; exact c2
    refine ⟨a, us, .ref p, rfl, rfl, c6, by omega, ?_⟩
    refine q C (upd H p (.lst [.int d])) _ σ' ⟨.refl _, same_upd hHp, I.sub.trans (same_upd hHp), fun _ _ z => z⟩ (fun a' ha' => ?_) c4 c5
    rw [upd_ne (fun z => by rw [z, aa] at ha'; cases ha')]
    by_cases z : a' = p
    · subst z
      rw [upd_same, upd_same]
    · rw [upd_ne z, upd_ne z]
      exact c1 a' ha'
/-! the statements' grouping -/
theorem er_grp {a t u w : TS} {o : Option R} (h : EvR K (tSeq a (tSeq (tSeq t u) w)) ρ m o) : EvR K (tSeq a (tSeq t (tSeq u w))) ρ m o := h
theorem er_grpM {a t u v w : TS} {o : Option R} (h : EvR K (tSeq a (tSeq t (tSeq (tSeq u v) w))) ρ m o) : EvR K (tSeq a (tSeq t (tSeq u (tSeq v w)))) ρ m o := h
end
section
variable {K : PySem.W.Frag} {ta tb : TE} {ρ : En} {m m1 m2 : Md} {α : Type} [Rp α] [DecidableEq α]
/-- in, for lists of data -/
def inG (x : α) (l : List α) : Bool := decide (x ∈ l)
theorem ev_inG' [EqR α] {ra : Option α} {rb : Option (List α)} (ha : EvE K ta ρ m1 ra) (hb : EvB K tb ρ m2 rb) (hz : EqR.dep (List α) ≤ 64 := by decide) : EvE K (tOp (rInD K) ta tb) ρ .new (ra.bind fun x => rb.bind fun y => some (inG x y)) := ev_inG ha hb hz
theorem ev_ninG' [EqR α] {ra : Option α} {rb : Option (List α)} (ha : EvE K ta ρ m1 ra) (hb : EvB K tb ρ m2 rb) (hz : EqR.dep (List α) ≤ 64 := by decide) : EvE K (tOp (rNotInD K) ta tb) ρ .new (ra.bind fun x => rb.bind fun y => some (!inG x y)) :=
  (ev_ninG ha hb hz).res (by
    cases ra <;> cases rb <;> simp [inG])
end
section
variable {K : PySem.W.Frag} {ta tb : TE} {ρ : En} {m m1 m2 : Md} {α β γ : Type} [Rp α] [Rp β] [Rp γ]
/-- len of a pair, of three -/
theorem ev_len2 {ra : Option (α × β)} (ha : EvE K ta ρ m ra) : EvE K (tCB (rLen K) (tCons ta tNil)) ρ .new (ra.bind fun _ => some (2 : Int)) := fun Ht C0 C H σ I z e Q q => by
  obtain ⟨x, ex, e⟩ := some_bind e
  cases e
  refine ha Ht C0 C H σ I x ex _ fun v C1 H1 x1 r1 => ?_
  obtain ⟨a, u, w, rfl, h1, _, _⟩ := rep_pair r1
  exact ⟨a, [u, w], rfl, .inr (.of (x1.s _ _ (part_le _ _ h1))), q _ C1 H1 x1 .ofInt⟩
theorem ev_len3 {ra : Option (T3 α β γ)} (ha : EvE K ta ρ m ra) : EvE K (tCB (rLen K) (tCons ta tNil)) ρ .new (ra.bind fun _ => some (3 : Int)) := fun Ht C0 C H σ I z e Q q => by
  obtain ⟨x, ex, e⟩ := some_bind e
  cases e
  refine ha Ht C0 C H σ I x ex _ fun v C1 H1 x1 r1 => ?_
  obtain ⟨a, u, w, y, rfl, h1, _, _, _⟩ := rep_t3 r1
  exact ⟨a, [u, w, y], rfl, .inr (.of (x1.s _ _ (part_le _ _ h1))), q _ C1 H1 x1 .ofInt⟩
end
end L2.DL

/-! DL13: sorted(set(xs)), xs a list of ints, any number of them -/
namespace L2.DL
open PySem PySem.Spec PyProof.Rows
/-- the set that is made empty -/
abbrev set0 (w : World) : Obj := { cls := .type "set", dict := none, data := .set #[] 0 (.fresh 0 0 (!w.params.followText "set-order")) }
section
variable {P : Program} {w : World} {A : Around} {E : Value → Shared → Prop} {s : Shared}
/-- what set(l) leaves -/
def Left (w : World) (s : Shared) (ns : List Int) (h' : Heap) (c : Nat) : Prop := SetR w h' s.heap.objs.size (fun j => decide (j ∈ ns)) c ∧ ∀ b o, s.heap.get? b = some o → h'.get? b = some o
theorem set_of_list {l : Addr} {its : Array Value} (ns : List Int) {Q : Value → Shared → Prop} (hh : A.handled = none) (hl : s.heap.IsList l its) (hi : IntsAre its.toList ns) (hb : ns.length + 1 < scanBound)
    (h : ∀ (h' : Heap) (tk c : Nat), Left w s ns h' c → Q (.ref s.heap.objs.size) { s with heap := h', toks := tk }) : wpAny (model P w) A (call (.type "set") [.ref l]) Q E s := by
  have hsz : its.size = ns.length := (Array.length_toList (xs := its)).symm.trans (IntsAre.length hi)
  have kk := F.called_set
  obtain ⟨c0, tl0, m0⟩ := kk.mro
  have k1 := kk.made
  have k2 := kk.sub
  have k3 := kk.notType
  have k4 := kk.canCreate
  have k5 := F.typeCall_set_1 (.ref l)
  refine wpAny_call (codeAny_of_tree ?_)
  show wpAny _ _ (callAny (.type "set") _) _ _ _
  refine wpAny_pure ⟨Code.quiet_builtin _ (by decide +kernel), codeAny_builtin F.entry_type_call ?_⟩
  rw [Around.under_plain (weight_type_call_type "set" [.ref l] []) rfl]
  repeat (any_goals (first | assumption | wp_step))
  refine codeAny_mono (code_set_led1 (.ref l) (E := E) (Q₁ := fun v t => v = .ref s.heap.objs.size ∧ t = { s with heap := s.heap.push (set0 w) }) ⟨rfl, rfl⟩) fun r t hr => ?_
  cases r with
  | error e => exact hr
  | ok f1 =>
    cases f1 with
    | ret v =>
      obtain ⟨rfl, rfl⟩ := hr
      have at0 : (s.heap.push (set0 w)).get? s.heap.objs.size = some (set0 w) := Heap.get?_push_size _ rfl
      have ty0 : Shared.TypeIs { s with heap := s.heap.push (set0 w) } (.ref s.heap.objs.size) "set" := ⟨_, at0, rfl⟩
      have k6 := kk.init.lookup
      have k7 := kk.init.bind (.ref s.heap.objs.size)
      repeat (any_goals (first | assumption | wp_step))
      refine codeAny_mono (codeAny_call_builtin (R := wants (fun v t => v = .none ∧ ∃ h' tk c, t = { s with heap := h', toks := tk } ∧ Left w s ns h' c) E) kk.init.plain F.entry_set_init (check_set_init_1 ty0 ?_)) fun r2 t2 hr2 => ?_
      · obtain ⟨o, ho, hc, n0, hd⟩ := hl
        obtain ⟨oc, od, oda, osl⟩ := o
        simp only at hc hd
        subst hc; subst hd
        have ho1 : (s.heap.push (set0 w)).get? l = some ⟨.type "list", od, .seq its n0, osl⟩ := Heap.get?_push_of_some _ ho
        have hl1 : (s.heap.push (set0 w)).IsList l its := ⟨_, ho1, rfl, n0, rfl⟩
        have q1 := F.sub_list_set
        have q2 := F.sub_list_frozenset
        have q3 : (Value.type "list" == Value.type "dict") = false := by decide
        unfold Builtin.«set.__init__» noKeywords Builtin.Frozenset.updateFrom
        generalize hG : pyIter = G
        wp_walk
        subst hG
        refine wpAny_pyIter_list hl1 (wpAny_bind (wpAny_runValue ?_))
        have ls : l < s.heap.objs.size := Heap.lt_size ho
        have hz : (s.heap.push (set0 w)).objs.size = s.heap.objs.size + 1 := Heap.size_push ..
        have nI : l ≠ (s.heap.push (set0 w)).objs.size := by rw [hz]; exact Nat.ne_of_lt (Nat.lt_succ_of_lt ls)
        have nS : s.heap.objs.size ∉ [(s.heap.push (set0 w)).objs.size, l] := by
          rw [hz]
          intro m
          rcases List.mem_cons.mp m with z | z
          · exact Nat.ne_of_lt (Nat.lt_succ_self _) z
          · exact Nat.ne_of_gt ls (List.mem_singleton.mp z)
        have hv : ∀ (i : Nat) (v : Value), its[i]? = some v → ∃ k t, ns[i]? = some k ∧ v = .int k t := fun i v e => by
          have il : i < ns.length := hsz ▸ (Array.getElem?_eq_some_iff.mp e).1
          obtain ⟨t, et⟩ := PyProof.Rows.IntsAre.int_at hi i v ((Array.getElem?_toList ..).trans e)
          refine ⟨ns[i], t, List.getElem?_eq_getElem il, ?_⟩
          rw [et, List.getD_eq_getElem?_getD, List.getElem?_eq_getElem il, Option.getD_some]
        have W := (Walks.list (prog := P) (w := w) (A := A.in1.in1.in1) (by simp [hh]) _ l nI its).toS
        refine set_update_ints W s.heap.objs.size nS ns hsz hb hv its.size 0 _ (by omega) (Nat.zero_le _) ⟨⟨_, Heap.get?_push_size _ rfl, rfl, rfl⟩, hl1.push _⟩ ⟨0, Nat.le_refl 0, setR_new_at (Heap.get?_push_of_some _ at0)⟩ fun t3 c3 mv _ R3 => ?_
        obtain ⟨h', g', d', tk', os'⟩ := t3
        have e1 : g' = s.gens := mv.gens
        have e2 : d' = s.drawn := mv.drawn
        have e3 : os' = s.os := mv.os
        subst e1; subst e2; subst e3
        show wpAny _ _ _ _ _ _
        refine wpAny_pure ?_
        show wpAny _ _ (ret Value.none) _ _ _
        refine wpAny_pure ⟨rfl, h', tk', c3, rfl, R3, fun b o e => mv.heap b o (fun m => ?_) (Heap.get?_push_of_some _ (Heap.get?_push_of_some _ e))⟩
        have bl : b < s.heap.objs.size := Heap.lt_size e
        rcases List.mem_cons.mp m with z | z
        · exact Nat.ne_of_lt bl z
        · have z2 := List.mem_singleton.mp z
          rw [hz] at z2
          exact Nat.ne_of_lt (Nat.lt_succ_of_lt bl) z2
      · cases r2 with
        | error e => exact hr2
        | ok f2 =>
          cases f2 with
          | ret v =>
            obtain ⟨rfl, h', tk, c, rfl, hL⟩ := hr2
            repeat (any_goals (first | assumption | wp_step))
            exact h _ _ _ hL
          | _ => exact hr2.elim
    | _ => exact hr.elim
/-- sorted of that set, however many its members -/
theorem sorted_of_set {a : Addr} {S : Int → Bool} {n : Nat} {Q : Value → Shared → Prop} (R : SetR w s.heap a S n) (hh : A.handled = none) (hz : n ≤ sizeLine)
    (hQ : ∀ s' p (out : Array Value) (c : Nat) (ns : List Int), (∀ b o, s.heap.get? b = some o → s'.heap.get? b = some o) → s'.gens = s.gens → s'.os = s.os → s.heap.objs.size ≤ p →
      s'.heap.get? p = some (seqObj "list" out c) → IntsAre out.toList ns → ns.Pairwise (· < ·) → (∀ k, k ∈ ns ↔ S k = true) → ns.length = n → Q (.ref p) s') :
    wpAny (model P w) A (call (.builtin "sorted") [.ref a]) Q E s := by
  obtain ⟨o, es, ep, t, ho, hx, hd, hg, nd, hm, hb, hf, hn, hr, hl⟩ := R
  refine Calls.call_function_entry kind_sorted plain_sorted entry_sorted (args_sorted1 _) ?_
  unfold Builtin.«sorted»
  refine wpAny_bind (m := checkCount "sorted" 1 1 _) (wpAny_pure (wpAny_bind (collect_set (A := A.in1) hh ⟨o, ho, hx.1, hd⟩ hf hb hr hl fun s1 vs k1 z1 g1 o1 pm => ?_)))
  have vl : vs.length = n := by rw [pm.length_eq, List.length_map, Array.length_toList]; exact hn
  have vi : IntsAre vs (vs.map Builtin.Re.reRawOf) := ints_of vs fun v hv => by
    obtain ⟨e, he, q⟩ := List.mem_map.mp (pm.mem_iff.mp hv)
    obtain ⟨k, tk, e1, _⟩ := hg e he
    exact ⟨k, tk, q ▸ e1⟩
  have pk : (vs.map Builtin.Re.reRawOf).Perm (es.toList.map keyOf) := by
    have q := pm.map Builtin.Re.reRawOf
    rwa [List.map_map] at q
  refine wpAny_bind (wpAny_newList ?_ (by rw [vl]; exact hz))
  have hL : (s1.heap.push (seqObj "list" vs.toArray 0)).get? s1.heap.objs.size = some (seqObj "list" vs.toArray 0) := Heap.get?_push_size _ rfl
  refine wpAny_bind (wpAny_holding (wpAny_call_entry slot_list_sort ⟨_, hL, rfl⟩ entry_list_sort (SrtO.list_sort_ord SrtO.swo_int hL (by rw [vl]; exact hz) (fun h2 => SrtO.ints_sortable vi h2) fun out a1 a2 => ⟨_, rfl, ?_⟩) (args_list_sort _)))
  obtain ⟨b1, b2, b3⟩ := SrtO.ints_out vi a1 a2
  obtain ⟨c, hc⟩ := sortedHeap_at (vs := vs) (out := out.toArray) hL
  have pn := b2.trans pk
  refine wpAny_pure ⟨_, rfl, hQ _ s1.heap.objs.size out.toArray c (out.map SrtO.iv) (fun b u e => ?_) g1 o1 z1 hc (by simpa using b1) (lt_of_le_nodup _ b3 (pn.nodup_iff.mpr nd)) (fun k => by rw [pn.mem_iff, ← hm k]) ?_⟩
  · have q := k1 b u e
    have lt := Heap.lt_size q
    show (sortedHeap (s1.heap.push (seqObj "list" vs.toArray 0)) s1.heap.objs.size vs out.toArray).get? b = some u
    rw [sortedHeap_old (Nat.ne_of_lt lt) (by rw [size_push']; exact Nat.lt_succ_of_lt lt)]
    exact Heap.get?_push_of_some _ q
  · rw [pn.length_eq, List.length_map, Array.length_toList]; exact hn
end
/-! ### by data -/
def tSortSet (K : PySem.W.Frag) (ta : TE) : TE := fun σ H Q => ta σ H fun x H1 => ∃ (l : Addr) (ns : List Int), x = .ref l ∧ SqL K H1 l (ns.map V.int) ∧ ns.length ≤ 4000 ∧
  ∀ (ms : List Int) (p : Addr), ms.Pairwise (· < ·) → (∀ k, k ∈ ms ↔ k ∈ ns) → H1 p = none → Q (.ref p) (upd H1 p (.lst (ms.map V.int)))
theorem pe_sortSet {X : Cx} (K : PySem.W.Frag) {a : Expr} {ta : TE} {p p2 q pos : Pos} (hg : Gl X "sorted") (hm : X.mg "sorted" = none) (hg2 : Gl X "set") (hm2 : X.mg "set" = none) (ha : PE X a ta) (hc : X.calm = true := by rfl)
    (na : starEach [a] X.env = (false, eval a X.env) :: starEach [] X.env := by rfl) (hK : X.K = K := by rfl) :
    PE X (.Call (.Name "sorted" p) [.Call (.Name "set" p2) [a] [] q] [] pos) (tSortSet K ta) := by
  subst hK
  refine ⟨fun pins st σ H Q J hq0 => Call_ (ld_blt J hg hm boot_sorted (callWith_builtin1 (args_cons
    (Call_ (ld_blt J hg2 hm2 boot_set (callWith_type1 (args_cons (thn (ha.run pins st σ H _ J hq0) fun v st1 ⟨x, H1, J1, rel, hq⟩ => args_nil ?_) na) na rfl))) rfl) rfl rfl))⟩
  obtain ⟨l, ns, rfl, hs, hl, fin⟩ := hq
  cases rel
  obtain ⟨its, rv, pl, hz⟩ := J1.list hs
  refine set_of_list ns (J1.ok.hd hc) pl.isList (by simpa using ints_of_vals rv) (by unfold scanBound; omega) fun hp tk c hL => args_nil ?_
  obtain ⟨hS, hk⟩ := hL
  have J2 : Inv X _ σ H1 { st1 with heap := hp, toks := tk } := J1.kept hk
  have hcl : c ≤ sizeLine := by
    obtain ⟨o, es, ep, t, _, _, _, _, nd, hm3, _, _, hn, _⟩ := id hS
    rw [← hn]
    have h1 : (es.toList.map keyOf).length ≤ ns.length := by
      have : ∀ (a b : List Int), a.Nodup → (∀ x ∈ a, x ∈ b) → a.length ≤ b.length := fun a => by
        induction a with
        | nil => intro b _ _; exact Nat.zero_le _
        | cons x a ih =>
          intro b h1 h2
          obtain ⟨n1, n2⟩ := List.nodup_cons.mp h1
          have hx := h2 x List.mem_cons_self
          have := ih (b.erase x) n2 fun y hy => (List.mem_erase_of_ne fun e => n1 (by rw [← e]; exact hy)).mpr (h2 y (List.mem_cons_of_mem _ hy))
          rw [List.length_erase_of_mem hx] at this
          have : 0 < b.length := List.length_pos_of_mem hx
          rw [List.length_cons]
          omega
      exact this _ _ nd fun x hx => by
        have := (hm3 x).mpr hx
        exact of_decide_eq_true this
    rw [List.length_map, Array.length_toList] at h1
    rw [sizeLine_eq]
    omega
  refine sorted_of_set hS (J2.ok.hd hc) hcl fun s' r out c2 ms k2 g2 o2 z2 hr hi hp2 hm3 hn => ?_
  have hlen : (ms.map V.int).length ≤ sizeLine := by rw [List.length_map, hn]; exact hcl
  have hfr : H1 r = none := J2.hok.fresh z2
  have J3 : Inv X _ σ (upd H1 r (.lst (ms.map V.int))) { ({ st1 with heap := hp, toks := tk } : Shared) with heap := s'.heap, gens := s'.gens, drawn := s'.drawn, toks := s'.toks } :=
    J2.call (ch := []) (Un.laid k2 z2 hfr) (J2.hok.laid k2 z2 ⟨hlen, out.toList, c2, vals_of_ints hi, hr⟩) (by rw [g2]; exact J2.bare) (fun _ z => nomatch z)
  have es : s' = { ({ st1 with heap := hp, toks := tk } : Shared) with heap := s'.heap, gens := s'.gens, drawn := s'.drawn, toks := s'.toks } := by
    obtain ⟨a1, a2, a3, a4, a5⟩ := s'
    cases o2
    rfl
  rw [es]
  exact ⟨.ref r, _, J3, rfl, fin ms r hp2 (fun k => by rw [hm3, decide_eq_true_eq]) hfr⟩
/-- sorted, each once -/
def sortS (xs : List Int) : List Int := sortI (met xs)
def sortSetL (xs : List Int) : Option (List Int) := if xs.length ≤ 4000 then some (sortS xs) else none
/-! unlike numbers -/
theorem step_mem {σ : List Int} {v k : Int} : k ∈ step_dedup σ v ↔ k ∈ σ ∨ k = v := by
  unfold step_dedup
  split
  · rename_i h
    obtain ⟨y, hy, e⟩ := List.any_eq_true.mp h
    have := eq_of_beq e
    subst this
    exact ⟨.inl, fun h => h.elim id fun h => h ▸ hy⟩
  · rw [List.mem_append, List.mem_singleton]
theorem step_nd {σ : List Int} {v : Int} (h : σ.Nodup) : (step_dedup σ v).Nodup := by
  unfold step_dedup
  split
  · exact h
  · rename_i q
    rw [List.nodup_append]
    refine ⟨h, by simp, fun a ha b hb e => q ?_⟩
    rw [List.mem_singleton.mp hb] at e
    exact List.any_eq_true.mpr ⟨a, ha, by rw [e]; exact beq_self_eq_true v⟩
theorem met_from : ∀ (l σ : List Int), σ.Nodup → (l.foldl step_dedup σ).Nodup ∧ ∀ k, k ∈ l.foldl step_dedup σ ↔ k ∈ σ ∨ k ∈ l
  | [], σ, h => ⟨h, fun k => by simp⟩
  | x :: l, σ, h => by
    obtain ⟨h1, h2⟩ := met_from l (step_dedup σ x) (step_nd h)
    refine ⟨h1, fun k => ?_⟩
    rw [List.foldl_cons, h2, step_mem, List.mem_cons, or_assoc]
theorem met_spec (l : List Int) : (met l).Nodup ∧ ∀ k, k ∈ met l ↔ k ∈ l := by
  obtain ⟨h1, h2⟩ := met_from l [] List.nodup_nil
  exact ⟨h1, fun k => by rw [met, h2]; simp⟩
theorem sortS_eq {xs ms : List Int} (h1 : ms.Pairwise (· < ·)) (h2 : ∀ k, k ∈ ms ↔ k ∈ xs) : ms = sortS xs := by
  obtain ⟨m1, m2⟩ := met_spec xs
  refine sortI_uniq ((List.perm_ext_iff_of_nodup (h1.imp fun h => by omega) m1).mpr fun k => by rw [h2, m2]) (h1.imp fun h => by omega)
theorem sortS_spec (xs : List Int) : (sortS xs).Pairwise (· < ·) ∧ ∀ k, k ∈ sortS xs ↔ k ∈ xs := by
  obtain ⟨m1, m2⟩ := met_spec xs
  have p := sortI_perm (met xs)
  refine ⟨?_, fun k => by rw [← m2]; exact p.mem_iff⟩
  have h := (sortI_pw (met xs)).and (p.nodup_iff.mpr m1)
  exact h.imp fun ⟨a, b⟩ => by omega
section
variable {K : PySem.W.Frag} {ta : TE} {ρ : En} {m : Md} {α : Type} [Rp α]
theorem ev_sortSetL {ra : Option (List Int)} (ha : EvB K ta ρ m ra) : EvL K (tSortSet K ta) ρ .new (ra.bind sortSetL) := fun Ht C0 C H σ I z e Q q => by
  obtain ⟨x, ex, e⟩ := some_bind e
  unfold sortSetL at e
  obtain ⟨hl, rfl⟩ := some_if e
  refine ha Ht C0 C H σ I x ex _ fun a vs C1 H1 x1 h1 r1 => ?_
  rw [r1.ints_eq] at h1
  refine ⟨a, x, rfl, .of h1, hl, fun ms p hp hm hf => ?_⟩
  refine new_list x1 hf ?_ q
  rw [← sortS_eq hp hm]
  have : ∀ (H : Hp) (l : List Int), RepL K H (rps l) (l.map V.int) := fun H l => by
    induction l with
    | nil => exact .nil
    | cons y l ih => exact .cons .ofInt ih
  exact this _ ms
/-- a list in which no none is left -/
theorem EvB.all {r : Option (List (Option α))} (h : EvB K ta ρ m r) : EvB K ta ρ m (r.bind fun l => mapO (fun x => x) l) := fun Ht C0 C H σ I xs e Q q => by
  obtain ⟨l, el, e⟩ := some_bind e
  refine h Ht C0 C H σ I l el Q fun a vs C' H' x h1 r1 => q a vs C' H' x h1 ?_
  have : ∀ (l : List (Option α)) (xs : List α), mapO (fun x => x) l = some xs → rps l = rps xs := fun l => by
    induction l with
    | nil => intro xs e; cases e; rfl
    | cons y l ih =>
      intro xs e
      obtain ⟨z, ez, e⟩ := some_bind e
      obtain ⟨zs, es, e⟩ := some_bind e
      cases e
      have hy : y = some z := ez
      rw [hy]
      show rp (some z) :: rps l = rp z :: rps zs
      rw [ih zs es]
      rfl
  rw [← this l xs e]
  exact r1
variable {β γ δ ε : Type} [Rp β] [Rp γ] [Rp δ] [Rp ε]
def fstU (z : (α × β) ⊕ (T4 α γ δ ε)) : α := match z with | .inl p => p.1 | .inr p => p.p
/-- the first item of one of two kinds of tuples -/
theorem ev_fstU {ra : Option ((α × β) ⊕ (T4 α γ δ ε))} (ha : EvE K ta ρ m ra) : EvE K (tOp (rIxT K) ta (tC (.int 0))) ρ m (ra.map fstU) := fun Ht C0 C H σ I z e Q q => by
  obtain ⟨x, ex, rfl⟩ := some_map e
  refine ha Ht C0 C H σ I x ex _ fun v C1 H1 x1 r1 => ?_
  cases x with
  | inl p =>
    obtain ⟨a, u, w, rfl, h1, h2, _⟩ := rep_pair (p := p) r1
    exact ⟨a, [u, w], 0, u, rfl, rfl, .of (x1.s _ _ (part_le _ _ h1)), rfl, q u C1 H1 x1 h2⟩
  | inr p =>
    obtain ⟨a, u, w, y, z, rfl, h1, h2, _, _, _⟩ := rep_t4 (p := p) r1
    exact ⟨a, [u, w, y, z], 0, u, rfl, rfl, .of (x1.s _ _ (part_le _ _ h1)), rfl, q u C1 H1 x1 h2⟩
end
end L2.DL

/-! DL14: repr(x) of a list or a tuple. A def that shows is promised only where no object is being shown (A.guards = some []):
FnOkG, with okG, pe_callG, walk_ofG in place of the library's Fun.ok, pe_call, walk_of (their proofs, turned to the one premise more). -/
namespace L2.DL
open PySem PySem.Spec PyProof.Rows
structure FnOkG (P : Program) (w : World) (K : PySem.W.Frag) (mg : Str → Option Value) (base : Heap) (k : Nat) (f : Addr) (fd : FuncData) (ps : List Str) (sp : Sp) : Prop where
  len : ∀ vs H Q E, sp vs H Q E → vs.length = ps.length
  run : ∀ (A : Around) (outer : List Env) (s : Shared) (H : Hp) (args : Args) (us : List Value) (vs : List V) (Q : VK) (E : XK), A.guards = some [] → Room k A → Env0 P w K mg base A outer s H → BindsTo s fd args (ps.zip us) → Vals vs us → sp vs H Q E →
    codeAny (model P w) A (.call (.ref f) args) (CR CX0 outer P w H s Q E) s
theorem okG {P : Program} {w : World} {K : PySem.W.Frag} {mg : Str → Option Value} {base : Heap} {x qual : Str} {st : Stmt} {f : Addr} {fd : FuncData} {N ps : List Str} {k : Nat} {sp : Sp} (F : Fun K x qual st f fd) (S : FnScope N ps (defScope st)) (len : ∀ vs H Q E, sp vs H Q E → vs.length = ps.length)
    (hbody : ∀ (cdv : Value) (A : Around) (outer : List Env) (s : Shared) (H : Hp) (vs : List V) (Q : VK) (E : XK), A.guards = some [] → Room k (A.deeper (envOfC qual (defScope st) s.heap.objs.size f cdv)) → sp vs H Q E →
      ∃ t, PSs (cxOf CX0 P w K mg base N qual (defScope st) f cdv A outer s H E).nox (defBody st) t ∧ t { nx := fun _ H' => Q .non H', rt := Q } (start N vs) H) : FnOkG P w K mg base (k + 1) f fd ps sp := by
  obtain ⟨oc, od, kV, doc, pm, an, cdv, ct, osl, rfl, lk, hcd⟩ := F.ex
  refine ⟨len, fun A outer s H args us vs Q E hG hr e0 hb r hsp => ?_⟩
  have hl := len _ _ _ _ hsp
  have KX : K.In s.heap := e0.mod.kin.keeps fun b o e => (e0.bs b o e).1
  have hkind : ∀ y ∈ ps.zip us, (defScope st).names.lookup y.1 = some .local ∨ ((defScope st).names.lookup y.1 = some .cell ∧ ((cellsFrom (s.heap.objs.size + 1) (defScope st).names []).lookup y.1).isSome = true) := fun ⟨n, v⟩ hy =>
    (S.par n (List.of_mem_zip hy).1).imp id fun q => ⟨q, PySem.W.cellsFrom_some _ _ _ (.inl q)⟩
  refine codeAny_call_function hr.depth (KX _ _ lk) rfl S.co S.gen rfl (PySem.W.codeRec_of KX hcd) (hb _ _ _ _ ?_)
  refine wpAny_newFunctionEnv_cells S.kind hkind fun env he s1 x => ?_
  subst he
  refine ⟨(e0.mod.nolimit.keeps fun b o e => (e0.bs b o e).1).keeps x.toInCall.keep, codeAny_func ?_⟩
  obtain ⟨t, ht0, hq⟩ := hbody cdv A outer s H vs Q E hG (hr.deeper _) hsp
  have ht := ht0.nox
  refine wpAny_mono (ht.run [] s1 (start N vs) H _ (inv_start S hr.hd e0 hl r x) hq) (fun fl s' hs => ?_) fun e s' hs => hs
  cases fl with
  | ret u =>
    obtain ⟨v, σ', H', J, rv, q⟩ := hs
    exact ⟨v, H', J.os, J.bare, J.base, J.hok, rv, q⟩
  | next =>
    obtain ⟨σ', H', J, q⟩ := hs
    exact ⟨V.non, H', J.os, J.bare, J.base, J.hok, rfl, q⟩
  | brk =>
    obtain ⟨_, _, _, q⟩ := hs
    exact q.elim
  | cont =>
    obtain ⟨_, _, _, q⟩ := hs
    exact q.elim
section
variable {X : Cx} {k : Nat} {f : Addr} {fd : FuncData} {ps : List Str} {sp : Sp} {dvs : List V} {ds : List Value} {E : XK} {x : Str} {p pos : Pos} {e : Expr} {es : List Expr} {t : TA}
theorem pe_callG (F : FnOkG X.prog X.w X.K X.mg X.base k f fd ps sp) (hG : X.A.guards = some []) (hr : Room k X.A) (hg : Gl X x) (hm : X.mg x = some (.ref f)) (hk : PySem.W.keepIn X.K (.ref f) = true) (hb : Binds X.K fd ps ds) (hd : Vals dvs ds) (hx : Passes CX0 X E)
    (ha : PA X (e :: es) t) (hdb : (x == ("__debug__" : Str)) = false := by decide) (he : starEach (e :: es) X.env = (false, eval e X.env) :: starEach es X.env := by rfl) (hpl : (backTo pos (starEach es X.env)).any (·.1) = false := by rfl) :
    PE X (.Call (.Name x p) (e :: es) [] pos) (tCall sp dvs E t) := by
  refine ⟨fun pins s σ H Q I h => wpAny_Call_Name_kw (ld_glob I hg hm ?_ hdb)⟩
  refine PySem.W.callWith_K (h₀ := X.base) I.ok.mod.kin hk (thn (ha.run pos pins s σ H _ I h) fun us s1 ⟨vs, H1, I1, r, q⟩ => ⟨I1.kIn, ?_⟩) he hpl
  have r2 : Vals (vs ++ dvs) (us ++ ds) := r.append hd
  have hl : (us ++ ds).length = ps.length := by rw [← r2.length]; exact F.len _ _ _ _ q
  refine wpAny_call (codeAny_mono (F.run X.A X.stack s1 H1 ⟨us, []⟩ (us ++ ds) (vs ++ dvs) Q E hG hr I1.env0 (hb s1 us I1.kIn hl) r2 q) fun r s' hq => ?_)
  cases r with
  | error e => exact hx pins σ H1 s1 e s' I1 hq
  | ok fl =>
    cases fl with
    | ret u => exact I1.after hq
    | next => exact False.elim hq
    | brk => exact False.elim hq
    | cont => exact False.elim hq
end
/-! ### repr -/
/-- what repr shows of data -/
def reprD (x : Dt) : Option Str := if (toPy x).showable = true ∧ (toPy x).hasDict = false ∧ (toPy x).depth ≤ 60 ∧ (toPy x).shown.length ≤ sizeLine then some (toPy x).shown else none
def rRepr (K : PySem.W.Frag) : List V → Hp → VK → Prop := fun xs H Q => ∃ a d, xs = [.ref a] ∧ Dp K H (.ref a) d ∧ d.showable = true ∧ d.hasDict = false ∧ d.depth ≤ 60 ∧ d.shown.length ≤ sizeLine ∧ Q (.str d.shown) H
theorem call_reprG {X : Cx} (hG : X.A.guards = some []) (hu : X.A.units + 64 < cLine) : CallR X (.builtin "repr") (rRepr X.K) := by
  intro pins s σ H xs us Q I r h
  obtain ⟨a, d, rfl, hd, h1, h2, h3, h4, q⟩ := h
  obtain rfl := Vals.ref1 r
  obtain ⟨as, r1⟩ := Dp.reads I d (.ref a) (.ref a) hd rfl
  exact repr_of_reads' r1 h1 (PyData.noDict_hsm h2) hG (by omega) (fun _ _ e => e) (fun h' u tk hk => ⟨.str d.shown, H, I.kept hk, ⟨u, rfl⟩, q⟩) h4
section
variable {K : PySem.W.Frag} {ta : TE} {ρ : En} {m : Md} {α : Type} [Rp α]
theorem ev_reprB {ra : Option (List α)} (ha : EvB K ta ρ m ra) : EvE K (tCB (rRepr K) (tCons ta tNil)) ρ .new (ra.bind fun x => reprD (rp x)) := fun Ht C0 C H σ I z e Q q => by
  obtain ⟨x, ex, e⟩ := some_bind e
  unfold reprD at e
  obtain ⟨⟨k1, k2, k3, k4⟩, rfl⟩ := some_if e
  refine ha Ht C0 C H σ I x ex _ fun a vs C1 H1 x1 h1 r1 => ?_
  have d1 : Dp K H1 (.ref a) (toPy (rp x)) := by
    refine rep_dp _ _ ?_
    simp only [rp, Rp.rp, Rep]
    exact ⟨a, vs, rfl, h1, r1.mono (part_le.trans x1.s)⟩
  exact ⟨a, _, rfl, d1, k1, k2, k3, k4, q _ C1 H1 x1 .ofStr⟩
end
/-! ### the end: where the claim's caller calls, nothing is being shown -/
theorem law_callG {P : Program} {w : World} {K : PySem.W.Frag} {mg mb : Str → Option Value} {k : Nat} {fa a : Addr} {fd : FuncData} {x : Str} {sp : Sp} {s₁ : Shared} {vs : List Value} {ns : List Int}
    (KX : K.In s₁.heap) (hns : s₁.heap.Ns mainGlobals mg) (hb : s₁.heap.Ns builtinsNs mb) (hbb : ∀ x : Str, x ≠ "__name__" → mb x = bootBuiltins x) (hlim : s₁.heap.NoLimit) (hg : s₁.gens = #[])
    (ha : s₁.heap.get? a = some { cls := .type "list", data := .seq vs.toArray }) (hi : IntsAre vs ns) (hl : ns.length ≤ sizeLine) (hr : Room k callerA)
    (F : ∀ base : Heap, K.In base → base.Ns mainGlobals mg → FnOkG P w K mg base k fa fd [x] sp) (hbind : ∀ (s : Shared) (u : Value), BindsTo s fd ⟨[u], []⟩ [(x, u)])
    (hsp : ∀ H : Hp, Only H → SqL K H a (ns.map V.int) → sp [.ref a] H (fun v _ => v = .bl true) fun _ _ _ => False) :
    codeAny (model P w) callerA (.call (.ref fa) ⟨[.ref a], []⟩) (fun r s' => r = .ok (.ret (.bool true)) ∧ OldK s₁.heap s'.heap ∧ s'.os = s₁.os ∧ AllBare s'.gens) s₁ := by
  have rv := vals_ints hi
  have lenV := hi.length
  have core : ∀ H : Hp, Only H → SqL K H a (ns.map V.int) → HOk P w H s₁.heap → (∀ b, H b ≠ none → b = a ∧ K.lookup a = none) →
      codeAny (model P w) callerA (.call (.ref fa) ⟨[.ref a], []⟩) (fun r s' => r = .ok (.ret (.bool true)) ∧ OldK s₁.heap s'.heap ∧ s'.os = s₁.os ∧ AllBare s'.gens) s₁ := by
    intro H hO hS hok hA
    have free : ∀ b, b ≠ a → H b = none := fun b n => Classical.byContradiction fun z => n (hA b z).1
    have keep : ∀ {b : Addr} {o : Obj}, s₁.heap.get? b = some o → b ≠ a → (hidT s₁.heap H).get? b = some o := fun e n => hidT_get e (free _ n)
    have nsK : ∀ {b : Addr} {m : Str → Option Value}, s₁.heap.Ns b m → (hidT s₁.heap H).Ns b m := fun {b m} ⟨o, es, ep, e, d, r⟩ => ⟨o, es, ep, keep e (fun z => by
      rw [z, ha] at e
      cases e
      cases (show Data.seq vs.toArray _ = Data.dict es ep from d)), d, r⟩
    have hKb : K.In (hidT s₁.heap H) := fun b o e => by
      by_cases n : H b = none
      · exact hidT_get (KX b o e) n
      · obtain ⟨rfl, z⟩ := hA b n
        rw [z] at e
        cases e
    have hM : Mod K mg (hidT s₁.heap H) := ⟨hKb, nsK hns, ⟨mb, nsK hb, hbb⟩, let ⟨mc, h1, h2⟩ := hlim; ⟨mc, nsK h1, h2⟩⟩
    have no : ∀ {b : Addr}, b ∉ frs ([] : List Env) := fun z => nomatch (show _ ∈ ([] : List Addr) from z)
    have e0 : Env0 P w K mg (hidT s₁.heap H) callerA [] s₁ H := ⟨rfl, hM, fun b o e => of_hidT e, Nat.le_of_eq (hidT_size _ _), trivial, fun b hb => (no hb).elim, hok, .of_eq hg⟩
    refine codeAny_mono ((F _ hKb (nsK hns)).run callerA [] s₁ H ⟨[.ref a], []⟩ [.ref a] [.ref a] _ _ rfl hr e0 (hbind s₁ (.ref a)) (.cons rfl .nil) (hsp H hO hS)) fun r s' h => ?_
    cases r with
    | error e => exact False.elim h
    | ok fl =>
      cases fl with
      | next => exact False.elim h
      | brk => exact False.elim h
      | cont => exact False.elim h
      | ret u =>
        obtain ⟨v, H', os, bare, un, hok', r', q⟩ := h
        subst q
        obtain rfl : u = Value.bool true := r'
        refine ⟨rfl, OldK.of_keep fun b o e => ?_, os, bare⟩
        rcases hO b with z | ⟨ob, xs, z⟩
        · exact un.keep b o e z no (fun z => nomatch z)
        · obtain ⟨e1, _⟩ := hok b _ z
          obtain ⟨e2, _⟩ := hok' b _ (un.frzs b ob _ z)
          rw [e] at e1
          cases e1
          exact e2
  cases hk : K.lookup a with
  | some o =>
    have e := KX a o hk
    rw [ha] at e
    cases e
    exact core (fun _ => none) (fun _ => .inl rfl) (.inr ⟨_, vs.toArray, _, hk, rfl, rfl, rfl, by rw [List.size_toArray, lenV]; exact hl, by simpa using rv⟩) (fun b u z => nomatch z) fun b z => absurd rfl z
  | none =>
    refine core (fun b => if b = a then some (.frz { cls := .type "list", data := .seq vs.toArray } (.lst (ns.map V.int))) else none) (fun b => ?_) (.inl (.inr ⟨{ cls := .type "list", data := .seq vs.toArray }, if_pos rfl⟩)) (fun b u z => ?_) fun b z => ⟨Classical.byContradiction fun n => z (if_neg n), hk⟩
    · by_cases n : b = a
      · exact .inr ⟨_, _, if_pos n⟩
      · exact .inl (if_neg n)
    · by_cases n : b = a
      · subst n
        cases (if_pos rfl).symm.trans z
        exact ⟨ha, by rw [List.length_map]; exact hl, vs, _, rv, ha⟩
      · cases (if_neg n).symm.trans z
theorem walk_ofG {l : PySem.W.OpenLaw} {n k : Nat} {q : Program} {loose : List Str} {XP : (Str → Option Value) → Heap → Prop} {YP : World → Heap → Prop} {d : DefRec} {K : Params → PySem.W.Frag} {sp : World → Sp} {x : Str}
    (hn : l.most = some n) (hn2 : n ≤ sizeLine) (hdf : d.params.defaults = []) (hr : Room k callerA)
    (hY : ∀ (w : World) (h : Heap), YP w h → (K w.params).In h)
    (F : ∀ (w : World) (mg : Str → Option Value) (fa : Addr) (h : Heap), (K w.params).In h → h.Ns mainGlobals mg → mg d.name = some (.ref fa) →
      ∃ fd : FuncData, (∀ (s : Shared) (u : Value), BindsTo s fd ⟨[u], []⟩ [(x, u)]) ∧
        ∀ base : Heap, (K w.params).In base → base.Ns mainGlobals mg → FnOkG l.prog w (K w.params) mg base k fa fd [x] (sp w))
    (hsp : ∀ (w : World) (H : Hp) (a : Addr) (ns : List Int), ns.length ≤ n → Only H → SqL (K w.params) H a (ns.map V.int) → sp w [.ref a] H (fun v _ => v = .bl true) fun _ _ _ => False) :
    PySem.W.WalkO q loose XP YP l.row.toRowW d [] (fun f vs => PySem.call f vs) := by
  refine Att.attach_call hn hdf fun w s₀ s₁ mg mb fa o pm cd doc a vs ns G Y ho hd hcd hmg hobj hints hlen hg => ?_
  have KX := hY w _ Y
  obtain ⟨fd, hb, hF⟩ := F w mg fa _ KX G.T.g hmg
  exact law_callG KX G.T.g G.T.b G.T.builtins G.T.nolimit hg hobj hints (Nat.le_trans hlen hn2) hr hF hb fun H hO hS => hsp w H a ns hlen hO hS
end L2.DL

/-! DL15: data of any kind, read as what a test has shown it to be -/
namespace L2.DL
open PySem PySem.Spec PyProof.Rows
class Un (α : Type) [Rp α] where
  rd : Dt → Option α
  ok : ∀ d x, rd d = some x → d = rp x
abbrev un {α : Type} [Rp α] [Un α] : Dt → Option α := Un.rd
instance : Un Dt := ⟨some, fun d x e => by cases e; rfl⟩
instance : Un Int := ⟨fun d => match d with | .int i => some i | _ => none, fun d x e => by
  cases d <;> simp at e
  subst e
  rfl⟩
def unL {α : Type} (f : Dt → Option α) : List Dt → Option (List α)
  | [] => some []
  | d :: l => (f d).bind fun x => (unL f l).bind fun xs => some (x :: xs)
theorem unL_ok {α : Type} [Rp α] {f : Dt → Option α} (h : ∀ d x, f d = some x → d = rp x) : ∀ {l : List Dt} {xs : List α}, unL f l = some xs → l = xs.map rp
  | [], xs, e => by cases e; rfl
  | d :: l, xs, e => by
    unfold unL at e
    obtain ⟨x, ex, e⟩ := some_bind e
    obtain ⟨ys, ey, e⟩ := some_bind e
    cases e
    rw [h d x ex, unL_ok h ey]
    rfl
instance {α : Type} [Rp α] [Un α] : Un (List α) := ⟨fun d => match d with | .lst l => unL un l | _ => none, fun d x e => by
  cases d with
  | lst l =>
    have e : unL un l = some x := e
    rw [unL_ok Un.ok e]
    rfl
  | _ => cases e⟩
section
variable {K : PySem.W.Frag} {ta : TE} {ρ : En} {m : Md} {α : Type} [Rp α] [Un α]
theorem ev_unD {r : Option Dt} (h : EvE K ta ρ m r) : EvE K ta ρ m (r.bind (un : Dt → Option α)) := fun Ht C0 C H σ I x e Q q => by
  obtain ⟨d, ed, e⟩ := some_bind e
  have hd := Un.ok d x e
  refine h Ht C0 C H σ I d ed Q fun v C' H' z rv => q v C' H' z ?_
  rw [← hd]
  exact rv
omit [Un α] in
theorem ev_tupX {t : TA} {n : Nat} {r : Option (List α)} (h : EvXs K t ρ m n r) (hn : n ≤ 1000 := by decide) : EvE K (tTup t) ρ m (r.map TupL.mk) := fun Ht C0 C H σ I z e Q q => by
  obtain ⟨xs, e2, rfl⟩ := some_map e
  refine h.1 Ht C0 C H σ I (rps xs) (by rw [e2]; rfl) _ fun vs C1 H1 x1 r1 => ⟨?_, fun p hp => ?_⟩
  · rw [r1.length, List.length_map, h.2 xs e2]
    exact Nat.le_trans hn (by decide)
  · refine q (.ref p) (upd C1 p (.tup vs)) _ (new_clean x1 hp) ?_
    simp only [rp, Rp.rp, Rep]
    exact ⟨p, vs, rfl, part_at upd_same (free_of (I.ext.h.trans x1.h) hp), r1.mono (part_mono (same_upd (free_of x1.s hp)))⟩
omit [Un α] in
theorem rp_lst (l : List α) : rp (l.map fun z => (rp z : Dt)) = rp l := by
  show Dt.lst ((l.map fun z => (rp z : Dt)).map rp) = Dt.lst (l.map rp)
  rw [List.map_map]
  rfl
end
section
variable {K : PySem.W.Frag} {ta : TE} {ρ : En} {m : Md}
/-- str(i) -/
def strI (i : Int) : Option Str := if i.natAbs.log2 < 1920 then some (toString i : String) else none
theorem ev_strI {ra : Option Int} (ha : EvE K ta ρ m ra) : EvE K (tCB (fun xs H Q => ∃ i : Int, xs = [.int i] ∧ i.natAbs.log2 < 1920 ∧ Q (.str (toString i : String)) H) (tCons ta tNil)) ρ .new (ra.bind strI) := fun Ht C0 C H σ I z e Q q => by
  obtain ⟨x, ex, e⟩ := some_bind e
  unfold strI at e
  obtain ⟨h1, rfl⟩ := some_if e
  refine ha Ht C0 C H σ I x ex _ fun v C1 H1 x1 r1 => ?_
  simp only [rp, Rp.rp, Rep] at r1
  subst r1
  exact ⟨x, rfl, h1, q _ C1 H1 x1 .ofStr⟩
end
end L2.DL

/-! the mirrors that the laws share, and what they return -/
namespace L2.DL.N
open PySem PySem.Spec PyProof.Rows
def f_law_all_words (a_letters : Int) (a_length : Int) : Option (List (List Int)) :=
 (some ([([] : (List Int))] : (List (List Int)))).bind fun found_3 =>
 ((rangeP 0 a_length).bind fun l27 => l27.foldlM (fun (s5 : (List (List Int))) (turn_6 : Int) =>
 (some ([] : (List (List Int)))).bind fun longer_7 =>
 (s5.foldlM (fun (s8 : (List (List Int))) (word_9 : (List Int)) =>
 (((rangeP 0 a_letters).bind fun v17 => (mapO (fun x11 => lim (word_9 ++ ([x11] : (List Int)))) v17).bind lim).bind fun v20 => lim (s8 ++ v20)).bind fun longer_21 =>
 some longer_21) longer_7).bind fun (s24 : (List (List Int))) =>
 (some s24).bind fun found_25 =>
 some found_25) found_3).bind fun (s28 : (List (List Int))) =>
 some s28
def f_law_turned (a_word : (List Int)) (a_k : Int) : Option (List Int) :=
 lim ((cut a_word (some a_k) none) ++ (cut a_word none (some a_k)))
def f_law_is_head (a_word : (List Int)) : Option Bool :=
 ((rangeP (1 : Int) (a_word.length : Int)).bind fun v11 => (compM (fun x4 => (f_law_turned a_word x4).bind fun v10 => some (leG v10 a_word)) (fun x4 => some x4) v11).bind lim).bind fun v14 => eqD (rp v14) (rp ([] : (List Int)))
def f_law_is_number (a_value : Int) : Option Bool :=
 some (true && (!false))
def f_law_is_numbers (a_value : (List Int)) : Option Bool :=
 (if (!true) = true then
 some false
else
 Fl.ret ((forL (T := Unit) (R := Bool) (fun (s2 : Unit) (item_3 : Int) =>
 ((f_law_is_number item_3).map fun b => !b).bind fun b4 => (if b4 = true then
 some (.rt false)
else
 some (.nx ()))) a_value ())) fun (s7 : Unit) =>
 some true)
def f_law_least (a_word : (List Int)) : Option (List Int) :=
 ((rangeP 0 (if (a_word.length : Int) > (1 : Int) then (a_word.length : Int) else (1 : Int))).bind fun v9 => (mapO (fun x5 => f_law_turned a_word x5) v9).bind lim).bind fun v10 => minG v10
def f_powers_up_to (a_prime : Int) (a_exponent : Int) : Option (List Int) :=
 (some ([(1 : Int)] : (List Int))).bind fun found_3 =>
 ((rangeP 0 a_exponent).bind fun l16 => l16.foldlM (fun (s5 : (List Int)) (__6 : Int) =>
 (((atI s5 (-(1 : Int))).bind fun v12 => mulP v12 a_prime).bind fun v14 => lim (s5 ++ [v14])).bind fun found_7 =>
 some found_7) found_3).bind fun (s17 : (List Int)) =>
 some s17
def f_taken_out (a_prime : Int) (a_number : Int) : Option (Int × Int) :=
 (some (0 : Int)).bind fun exponent_1 =>
 (whileN (fun (s2 : (Int × Int)) => (modP s2.1 a_prime).bind fun v7 => some (decide (v7 = (0 : Int)))) (fun (s2 : (Int × Int)) =>
 (divP s2.1 a_prime).bind fun number_10 =>
 (some (s2.2 + (1 : Int))).bind fun exponent_13 =>
 some (number_10, exponent_13)) 1000000 (a_number, exponent_1)).bind fun (s15 : (Int × Int)) =>
 some (s15.2, s15.1)
def f_primes_of (a_number : Int) : Option (List (Int × Int)) :=
 (some ([] : (List (Int × Int)))).bind fun found_1 =>
 (some a_number).bind fun left_2 =>
 (some (2 : Int)).bind fun prime_3 =>
 (whileN (fun (s4 : ((List (Int × Int)) × Int × Int)) => (mulP s4.2.2 s4.2.2).bind fun v9 => some (decide (v9 ≤ s4.2.1))) (fun (s4 : ((List (Int × Int)) × Int × Int)) =>
 (((modP s4.2.1 s4.2.2).bind fun v14 => some (decide (v14 = (0 : Int)))).bind fun b22 => (if b22 = true then
 (f_taken_out s4.2.2 s4.2.1).bind fun p17 =>
 (lim (s4.1 ++ [(s4.2.2, p17.1)])).bind fun found_18 =>
 some (found_18, p17.2)
else
 some (s4.1, s4.2.1))).bind fun (s23 : ((List (Int × Int)) × Int)) =>
 (some (s4.2.2 + (1 : Int))).bind fun prime_26 =>
 some (s23.1, s23.2, prime_26)) 1000000 (found_1, left_2, prime_3)).bind fun (s29 : ((List (Int × Int)) × Int × Int)) =>
 ((if (decide ((1 : Int) < s29.2.1)) = true then
 (lim (s29.1 ++ [(s29.2.1, (1 : Int))])).bind fun found_32 =>
 some found_32
else
 some s29.1)).bind fun (s37 : (List (Int × Int))) =>
 some s37
def f_divisors_of (a_number : Int) : Option (List Int) :=
 (some ([(1 : Int)] : (List Int))).bind fun found_3 =>
 ((f_primes_of a_number).bind fun l15 => l15.foldlM (fun (s4 : (List Int)) (x5 : (Int × Int)) =>
 ((comp2 (fun x6 => some true) (fun x6 => f_powers_up_to x5.1 x5.2) (fun x6 u7 => some true) (fun x6 u7 => mulP x6 u7) s4).bind lim).bind fun found_13 =>
 some found_13) found_3).bind fun (s16 : (List Int)) =>
 some (sortI s16)
def f_power (a_base : Int) (a_exponent : Int) : Option Int :=
 (some (1 : Int)).bind fun product_1 =>
 ((rangeP 0 a_exponent).bind fun l9 => l9.foldlM (fun (s3 : Int) (turn_4 : Int) =>
 (mulP s3 a_base).bind fun product_7 =>
 some product_7) product_1).bind fun (s10 : Int) =>
 some s10
def f_sign_of (a_number : Int) : Option Int :=
 (some (1 : Int)).bind fun sign_1 =>
 Fl.ret ((f_primes_of a_number).bind fun l10 => (forL (T := Unit) (R := Int) (fun (s2 : Int) (x3 : (Int × Int)) =>
 (if (decide ((1 : Int) < x3.2)) = true then
 some (.rt (0 : Int))
else
 (some (-s2)).bind fun sign_7 =>
 some (.nx sign_7))) l10 sign_1)) fun (s11 : Int) =>
 some s11
def f_head_count (a_letters : Int) (a_length : Int) : Option Int :=
 (some (0 : Int)).bind fun total_1 =>
 ((f_divisors_of a_length).bind fun l18 => l18.foldlM (fun (s2 : Int) (divisor_3 : Int) =>
 (((f_sign_of divisor_3).bind fun v11 => ((divP a_length divisor_3).bind fun v8 => f_power a_letters v8).bind fun v12 => mulP v11 v12).bind fun v15 => some (s2 + v15)).bind fun total_16 =>
 some total_16) total_1).bind fun (s19 : Int) =>
 divP s19 a_length
def f_count_of_units (a_number : Int) : Option Int :=
 (some (1 : Int)).bind fun count_1 =>
 ((f_primes_of a_number).bind fun l21 => l21.foldlM (fun (s2 : Int) (x3 : (Int × Int)) =>
 ((mulP s2 (x3.1 - (1 : Int))).bind fun v17 => ((f_powers_up_to x3.1 (x3.2 - (1 : Int))).bind fun v14 => atI v14 (-(1 : Int))).bind fun v18 => mulP v17 v18).bind fun count_19 =>
 some count_19) count_1).bind fun (s22 : Int) =>
 some s22
def f_wheel_count (a_letters : Int) (a_length : Int) : Option Int :=
 (some (0 : Int)).bind fun total_1 =>
 ((f_divisors_of a_length).bind fun l18 => l18.foldlM (fun (s2 : Int) (divisor_3 : Int) =>
 (((f_count_of_units divisor_3).bind fun v11 => ((divP a_length divisor_3).bind fun v8 => f_power a_letters v8).bind fun v12 => mulP v11 v12).bind fun v15 => some (s2 + v15)).bind fun total_16 =>
 some total_16) total_1).bind fun (s19 : Int) =>
 divP s19 a_length
def f_law_gcd (a_first : Int) (a_second : Int) : Option Int :=
 (some (if a_first < 0 then -a_first else a_first)).bind fun first_2 =>
 (some (if a_second < 0 then -a_second else a_second)).bind fun second_4 =>
 (whileN (fun (s5 : (Int × Int)) => some (decide (s5.2 ≠ (0 : Int)))) (fun (s5 : (Int × Int)) =>
 (modP s5.1 s5.2).bind fun rest_10 =>
 (some s5.2).bind fun first_11 =>
 (some rest_10).bind fun second_12 =>
 some (first_11, second_12)) 1000000 (first_2, second_4)).bind fun (s14 : (Int × Int)) =>
 some s14.1
def f_law_power (a_base : Int) (a_exponent : Int) : Option Int :=
 (some (1 : Int)).bind fun product_1 =>
 ((rangeP 0 a_exponent).bind fun l9 => l9.foldlM (fun (s3 : Int) (turn_4 : Int) =>
 (mulP s3 a_base).bind fun product_7 =>
 some product_7) product_1).bind fun (s10 : Int) =>
 some s10

/-! tables up to 60 -/
def DT : List (List Int) := [[1], [1, 2], [1, 3], [1, 2, 4], [1, 5], [1, 2, 3, 6], [1, 7], [1, 2, 4, 8], [1, 3, 9], [1, 2, 5, 10], [1, 11], [1, 2, 3, 4, 6, 12], [1, 13], [1, 2, 7, 14], [1, 3, 5, 15], [1, 2, 4, 8, 16], [1, 17], [1, 2, 3, 6, 9, 18], [1, 19], [1, 2, 4, 5, 10, 20], [1, 3, 7, 21], [1, 2, 11, 22], [1, 23], [1, 2, 3, 4, 6, 8, 12, 24], [1, 5, 25], [1, 2, 13, 26], [1, 3, 9, 27], [1, 2, 4, 7, 14, 28], [1, 29], [1, 2, 3, 5, 6, 10, 15, 30], [1, 31], [1, 2, 4, 8, 16, 32], [1, 3, 11, 33], [1, 2, 17, 34], [1, 5, 7, 35], [1, 2, 3, 4, 6, 9, 12, 18, 36], [1, 37], [1, 2, 19, 38], [1, 3, 13, 39], [1, 2, 4, 5, 8, 10, 20, 40], [1, 41], [1, 2, 3, 6, 7, 14, 21, 42], [1, 43], [1, 2, 4, 11, 22, 44], [1, 3, 5, 9, 15, 45], [1, 2, 23, 46], [1, 47], [1, 2, 3, 4, 6, 8, 12, 16, 24, 48], [1, 7, 49], [1, 2, 5, 10, 25, 50], [1, 3, 17, 51], [1, 2, 4, 13, 26, 52], [1, 53], [1, 2, 3, 6, 9, 18, 27, 54], [1, 5, 11, 55], [1, 2, 4, 7, 8, 14, 28, 56], [1, 3, 19, 57], [1, 2, 29, 58], [1, 59], [1, 2, 3, 4, 5, 6, 10, 12, 15, 20, 30, 60]]
def PH : List Int := [1, 1, 2, 2, 4, 2, 6, 4, 6, 4, 10, 4, 12, 6, 8, 8, 16, 6, 18, 8, 12, 10, 22, 8, 20, 12, 18, 12, 28, 8, 30, 16, 20, 16, 24, 12, 36, 18, 24, 16, 40, 12, 42, 20, 24, 22, 46, 16, 42, 20, 32, 24, 52, 18, 40, 24, 36, 28, 58, 16]
def MU : List Int := [1, -1, -1, 0, -1, 1, -1, 0, 0, 1, -1, 0, -1, 1, 1, 0, -1, 0, -1, 0, 1, 1, -1, 0, 0, 1, 0, 0, -1, -1, -1, 0, 1, 1, 1, 0, -1, 1, 1, 0, -1, -1, -1, 0, 0, 1, -1, 0, 0, 0, 1, 0, -1, 0, 1, 0, 1, 1, -1, 0]
def dv (n : Nat) : List Int := DT.getD (n - 1) []
def ph (n : Nat) : Int := PH.getD (n - 1) 0
def mu (n : Nat) : Int := MU.getD (n - 1) 0
def okN (n : Nat) : Bool := (f_divisors_of n == some (dv n)) && (f_count_of_units n == some (ph n)) && (f_sign_of n == some (mu n))
theorem tab_ok : ((List.range 60).all fun n => okN (n + 1)) = true := by decide +kernel
theorem tab_of {n : Int} (h0 : 1 ≤ n) (h1 : n ≤ 60) : f_divisors_of n = some (dv n.toNat) ∧ f_count_of_units n = some (ph n.toNat) ∧ f_sign_of n = some (mu n.toNat) := by
  have h := List.all_eq_true.mp tab_ok (n.toNat - 1) (List.mem_range.mpr (by omega))
  have e : n.toNat - 1 + 1 = n.toNat := by omega
  rw [e] at h
  unfold okN at h
  rw [show ((n.toNat : Nat) : Int) = n by omega] at h
  simp only [Bool.and_eq_true] at h
  exact ⟨eq_of_beq h.1.1, eq_of_beq h.1.2, eq_of_beq h.2⟩
theorem dv_ok : ((List.range 60).all fun n => ((dv (n + 1)).all fun d => decide (1 ≤ d) && decide (d ≤ ((n + 1 : Nat) : Int)) && decide (((n + 1 : Nat) : Int) % d = 0)) && ((rangeL 1 ((n + 1 : Nat) + 1)).filter (fun d => decide (((n + 1 : Nat) : Int) % d = 0)) == dv (n + 1)) && decide (0 ≤ ph (n + 1)) && decide (ph (n + 1) ≤ 60) && decide (-1 ≤ mu (n + 1)) && decide (mu (n + 1) ≤ 1)) = true := by decide +kernel
theorem dv_of {n : Nat} (h0 : 1 ≤ n) (h1 : n ≤ 60) : (∀ d ∈ dv n, 1 ≤ d ∧ d ≤ n ∧ (n : Int) % d = 0) ∧ (rangeL 1 ((n : Int) + 1)).filter (fun d => decide ((n : Int) % d = 0)) = dv n ∧ (0 ≤ ph n ∧ ph n ≤ 60) ∧ -1 ≤ mu n ∧ mu n ≤ 1 := by
  have h := List.all_eq_true.mp dv_ok (n - 1) (List.mem_range.mpr (by omega))
  rw [show n - 1 + 1 = n by omega] at h
  simp only [Bool.and_eq_true, List.all_eq_true, decide_eq_true_eq, beq_iff_eq] at h
  obtain ⟨⟨⟨⟨⟨h1, h2⟩, h3⟩, h4⟩, h5⟩, h6⟩ := h
  exact ⟨fun d hd => ⟨(h1 d hd).1.1, (h1 d hd).1.2, (h1 d hd).2⟩, h2, ⟨h3, h4⟩, h5, h6⟩
theorem fold_some {α β : Type} {f : β → α → Option β} {g : β → α → β} : ∀ {l : List α} {s : β}, (∀ s x, x ∈ l → f s x = some (g s x)) → l.foldlM f s = some (l.foldl g s)
  | [], s, _ => rfl
  | x :: l, s, h => by
    rw [foldlM_cons', h s x List.mem_cons_self, bind_s, List.foldl_cons]
    exact fold_some fun s y hy => h s y (List.mem_cons_of_mem _ hy)
theorem mulP_big {x y : Int} (hx : x.natAbs < 2 ^ 2000) (hy : y.natAbs < 2 ^ 2000) : mulP x y = some (x * y) := by
  have : 2 ^ 2000 < 2 ^ 4096 := Nat.pow_lt_pow_right (by decide) (by decide)
  rw [mulP_def, if_pos ⟨Nat.lt_trans hx this, Nat.lt_trans hy this⟩]
theorem small_big {x : Int} (h : x.natAbs ≤ 1000000) : x.natAbs < 2 ^ 2000 := by
  have h2 : 2 ^ 20 < 2 ^ 2000 := Nat.pow_lt_pow_right (by decide) (by decide)
  exact Nat.lt_of_le_of_lt (Nat.le_trans h (by decide)) h2
theorem pow_big {x k : Nat} (hx : x ≤ 1000) (hk : k ≤ 100) : ((x ^ k : Nat) : Int).natAbs < 2 ^ 2000 := by
  rw [Int.natAbs_natCast]
  have h1 : x ^ k ≤ 1000 ^ k := Nat.pow_le_pow_left hx k
  have h2 : 1000 ^ k ≤ 1000 ^ 100 := Nat.pow_le_pow_right (by decide) hk
  have h3 : 1000 ^ 100 ≤ (2 ^ 10) ^ 100 := Nat.pow_le_pow_left (by decide) 100
  have h4 : (2 ^ 10) ^ 100 = 2 ^ 1000 := (Nat.pow_mul 2 10 100).symm
  have h5 : 2 ^ 1000 < 2 ^ 2000 := Nat.pow_lt_pow_right (by decide) (by decide)
  exact Nat.lt_of_le_of_lt (Nat.le_trans h1 (Nat.le_trans h2 h3)) (by rw [h4]; exact h5)
theorem f_power_eq {x k : Nat} (hx : x ≤ 1000) (hk : k ≤ 100) : f_power x k = some ((x ^ k : Nat) : Int) := by
  refine Rets.get ?_
  unfold f_power
  refine .some (.bind (Rets.range (fun j (s : Int) => s = ((x ^ j : Nat) : Int)) (by omega) (by omega) rfl ?_) fun s hs => .pure (by rw [hs, Int.toNat_natCast]))
  rintro j _ hj rfl
  rw [mulP_big (pow_big hx (by omega)) (small_big (by omega)), bind_s]
  exact .pure (by rw [Nat.pow_succ, Int.natCast_mul])
theorem f_law_power_is : f_law_power = f_power := rfl
theorem f_law_gcd_eq {a b : Int} (ha : 0 ≤ a) (hb : 0 ≤ b) (h : b < 1000000) : f_law_gcd a b = some ((Int.gcd a b : Nat) : Int) := by
  unfold f_law_gcd
  rw [if_neg (by omega), if_neg (by omega)]
  obtain ⟨s, e, hs⟩ := gcd_loop (fuel := 1000000) ha hb h
  simp only [bind_s] at e ⊢
  rw [e, bind_s, hs]
theorem f_law_is_numbers_eq {l : List Int} : f_law_is_numbers l = some true := by
  unfold f_law_is_numbers
  rw [if_neg (by decide), forL_nx, ret_nx]
  intro x _
  rfl
/-- wheels and heads -/
def W (x n : Nat) : Int := (dv n).foldl (fun s d => s + ph d.toNat * ((x ^ (n / d.toNat) : Nat) : Int)) 0 / n
def Hd (x n : Nat) : Int := (dv n).foldl (fun s d => s + mu d.toNat * ((x ^ (n / d.toNat) : Nat) : Int)) 0 / n
theorem f_wheel_count_eq {x n : Nat} (hx : x ≤ 1000) (h0 : 1 ≤ n) (h1 : n ≤ 60) : f_wheel_count x n = some (W x n) := by
  obtain ⟨d1, d2, _⟩ := dv_of h0 h1
  unfold f_wheel_count
  rw [bind_s, (tab_of (n := n) (by omega) (by omega)).1, Int.toNat_natCast, bind_s, fold_some (g := fun s d => s + ph d.toNat * ((x ^ (n / d.toNat) : Nat) : Int)), bind_s, divP_of (by omega) (by omega)]
  · rfl
  · intro s d hd
    obtain ⟨a1, a2, a3⟩ := d1 d hd
    obtain ⟨D, rfl⟩ := Int.eq_ofNat_of_zero_le (show 0 ≤ d by omega)
    have hp := (dv_of (n := D) (by omega) (by omega)).2.2.1
    have hle : n / D ≤ n := Nat.div_le_self _ _
    rw [(tab_of (n := D) (by omega) (by omega)).2.1, bind_s, divP_of (by omega) (by omega), bind_s, ← Int.natCast_ediv, f_power_eq hx (by omega), bind_s, Int.toNat_natCast, mulP_big (small_big (by omega)) (pow_big hx (by omega)), bind_s, bind_s]
theorem f_head_count_eq {x n : Nat} (hx : x ≤ 1000) (h0 : 1 ≤ n) (h1 : n ≤ 60) : f_head_count x n = some (Hd x n) := by
  obtain ⟨d1, d2, _⟩ := dv_of h0 h1
  unfold f_head_count
  rw [bind_s, (tab_of (n := n) (by omega) (by omega)).1, Int.toNat_natCast, bind_s, fold_some (g := fun s d => s + mu d.toNat * ((x ^ (n / d.toNat) : Nat) : Int)), bind_s, divP_of (by omega) (by omega)]
  · rfl
  · intro s d hd
    obtain ⟨a1, a2, a3⟩ := d1 d hd
    obtain ⟨D, rfl⟩ := Int.eq_ofNat_of_zero_le (show 0 ≤ d by omega)
    have hp := (dv_of (n := D) (by omega) (by omega)).2.2.2
    have hle : n / D ≤ n := Nat.div_le_self _ _
    rw [(tab_of (n := D) (by omega) (by omega)).2.2, bind_s, divP_of (by omega) (by omega), bind_s, ← Int.natCast_ediv, f_power_eq hx (by omega), bind_s, Int.toNat_natCast, mulP_big (small_big (by omega)) (pow_big hx (by omega)), bind_s, bind_s]
/-- the sums, at all n up to 60 and all x up to 20 -/
def sums (x n : Nat) : Bool := decide (W x n = ((dv n).map fun d => Hd x d.toNat).sum) && decide (((dv n).map fun d => d * Hd x d.toNat).sum = ((x ^ n : Nat) : Int)) && decide (W x n * n = ((List.range n).map fun k => ((x ^ Nat.gcd (k + 1) n : Nat) : Int)).sum) && decide ((W x n).natAbs < 2 ^ 2000) && ((dv n).all fun d => decide ((Hd x d.toNat).natAbs < 2 ^ 2000))
set_option exponentiation.threshold 5000
theorem sums_ok : ((List.range 60).all fun n => (List.range 20).all fun x => sums (x + 1) (n + 1)) = true := by decide +kernel
end L2.DL.N

/-! the order of lists of numbers -/
namespace L2.DL
open PySem PySem.Spec PyProof.Rows
theorem ltG_nil_nil : ltG ([] : List Int) [] = false := rfl
theorem ltG_nil_cons {y : Int} {ys : List Int} : ltG ([] : List Int) (y :: ys) = true := rfl
theorem ltG_cons_nil {x : Int} {xs : List Int} : ltG (x :: xs) ([] : List Int) = false := rfl
theorem ltG_cons {x y : Int} {xs ys : List Int} : ltG (x :: xs) (y :: ys) = if x = y then ltG xs ys else decide (x < y) := rfl
theorem ltG_irr : ∀ a : List Int, ltG a a = false
  | [] => rfl
  | x :: xs => by rw [ltG_cons, if_pos rfl, ltG_irr xs]
theorem ltG_trans : ∀ {a b c : List Int}, ltG a b = true → ltG b c = true → ltG a c = true
  | [], [], _, h, _ => by cases h
  | [], _ :: _, [], _, h => by cases h
  | [], _ :: _, _ :: _, _, _ => rfl
  | _ :: _, [], _, h, _ => by cases h
  | _ :: _, _ :: _, [], _, h => by cases h
  | x :: xs, y :: ys, z :: zs, h1, h2 => by
    rw [ltG_cons] at h1 h2 ⊢
    by_cases e1 : x = y
    · rw [if_pos e1] at h1
      by_cases e2 : y = z
      · rw [if_pos e2] at h2
        rw [if_pos (e1.trans e2)]
        exact ltG_trans h1 h2
      · rw [if_neg e2] at h2
        rw [e1, if_neg e2]
        exact h2
    · rw [if_neg e1] at h1
      have h1 := of_decide_eq_true h1
      by_cases e2 : y = z
      · rw [← e2, if_neg e1]
        exact decide_eq_true h1
      · rw [if_neg e2] at h2
        have h2 := of_decide_eq_true h2
        rw [if_neg (by omega)]
        exact decide_eq_true (by omega)
theorem ltG_tri : ∀ a b : List Int, ltG a b = true ∨ a = b ∨ ltG b a = true
  | [], [] => .inr (.inl rfl)
  | [], _ :: _ => .inl rfl
  | _ :: _, [] => .inr (.inr rfl)
  | x :: xs, y :: ys => by
    rw [ltG_cons, ltG_cons]
    by_cases e : x = y
    · subst e
      rw [if_pos rfl, if_pos rfl]
      rcases ltG_tri xs ys with h | h | h
      · exact .inl h
      · exact .inr (.inl (by rw [h]))
      · exact .inr (.inr h)
    · rw [if_neg e, if_neg fun q => e q.symm]
      rcases Int.lt_or_gt_of_ne e with h | h
      · exact .inl (decide_eq_true h)
      · exact .inr (.inr (decide_eq_true h))
theorem ltG_asy {a b : List Int} (h : ltG a b = true) : ltG b a = false := by
  cases e : ltG b a with
  | false => rfl
  | true => rw [← ltG_irr a, ltG_trans h e]
theorem ltG_ne {a b : List Int} (h : ltG a b = true) : a ≠ b := fun e => by
  rw [e, ltG_irr] at h
  cases h
theorem leG_def {a b : List Int} : leG a b = !ltG b a := rfl
theorem leG_iff {a b : List Int} : leG a b = true ↔ ltG a b = true ∨ a = b := by
  rw [leG_def]
  constructor
  · intro h
    rcases ltG_tri a b with q | q | q
    · exact .inl q
    · exact .inr q
    · rw [q] at h; cases h
  · rintro (h | rfl)
    · rw [ltG_asy h]; rfl
    · rw [ltG_irr]; rfl
theorem leG_refl (a : List Int) : leG a a = true := leG_iff.mpr (.inr rfl)
theorem leG_total (a b : List Int) : (leG a b || leG b a) = true := by
  rcases ltG_tri a b with q | q | q
  · rw [leG_iff.mpr (.inl q)]; rfl
  · rw [leG_iff.mpr (.inr q)]; rfl
  · rw [leG_iff.mpr (.inl q), Bool.or_true]
theorem leG_trans {a b c : List Int} (h1 : leG a b = true) (h2 : leG b c = true) : leG a c = true := by
  rcases leG_iff.mp h1 with q | rfl
  · rcases leG_iff.mp h2 with q2 | rfl
    · exact leG_iff.mpr (.inl (ltG_trans q q2))
    · exact h1
  · exact h2
theorem leG_anti {a b : List Int} (h1 : leG a b = true) (h2 : leG b a = true) : a = b := by
  rcases leG_iff.mp h1 with q | q
  · rw [leG_def, q] at h2; cases h2
  · exact q
theorem not_ltG {a b : List Int} (h : ltG a b = false) : leG b a = true := by rw [leG_def, h]; rfl
theorem lt_of_lt_le {a b c : List Int} (h1 : ltG a b = true) (h2 : leG b c = true) : ltG a c = true := by
  rcases leG_iff.mp h2 with q | rfl
  · exact ltG_trans h1 q
  · exact h1
theorem lt_of_le_lt {a b c : List Int} (h1 : leG a b = true) (h2 : ltG b c = true) : ltG a c = true := by
  rcases leG_iff.mp h1 with q | rfl
  · exact ltG_trans q h2
  · exact h2
theorem fold_min : ∀ {xs : List (List Int)} {x : List Int}, ∀ y ∈ x :: xs, leG (xs.foldl (fun a y => if ltG y a then y else a) x) y = true
  | [], x, y, h => by
    rw [List.mem_singleton.mp h]
    exact leG_refl x
  | z :: xs, x, y, h => by
    rw [List.foldl_cons]
    rcases List.mem_cons.mp h with rfl | h
    · refine leG_trans (fold_min (xs := xs) _ List.mem_cons_self) ?_
      split
      · rename_i q; exact leG_iff.mpr (.inl q)
      · exact leG_refl _
    · rcases List.mem_cons.mp h with rfl | h
      · refine leG_trans (fold_min (xs := xs) _ List.mem_cons_self) ?_
        split
        · exact leG_refl _
        · rename_i q
          exact not_ltG (by simpa using q)
      · exact fold_min (xs := xs) y (List.mem_cons_of_mem _ h)
theorem minG_spec {l : List (List Int)} {m : List Int} (h : minG l = some m) : m ∈ l ∧ ∀ x ∈ l, leG m x = true := by
  cases l with
  | nil => cases h
  | cons x xs =>
    cases h
    exact ⟨fold_mem, fold_min⟩
theorem minG_some {l : List (List Int)} (h : l ≠ []) : ∃ m, minG l = some m ∧ m ∈ l ∧ ∀ x ∈ l, leG m x = true := by
  cases l with
  | nil => exact absurd rfl h
  | cons x xs => exact ⟨_, rfl, minG_spec rfl⟩
theorem minG_eq {l : List (List Int)} {m : List Int} (h : m ∈ l) (h2 : ∀ x ∈ l, leG m x = true) : minG l = some m := by
  obtain ⟨q, e, q1, q2⟩ := minG_some (List.ne_nil_of_mem h)
  rw [e, leG_anti (q2 m h) (h2 q q1)]
/-- sorted -/
theorem sortG_perm (l : List (List Int)) : (sortG l).Perm l := List.mergeSort_perm _ _
theorem sortG_pw (l : List (List Int)) : (sortG l).Pairwise fun a b => leG a b = true := by
  unfold sortG
  exact List.pairwise_mergeSort (le := leG) (fun a b c h1 h2 => leG_trans h1 h2) leG_total l
theorem sortG_uniq {l r : List (List Int)} (h1 : r.Perm l) (h2 : r.Pairwise fun a b => leG a b = true) : sortG l = r :=
  ((sortG_perm l).trans h1.symm).eq_of_pairwise (fun a b _ _ h1 h2 => leG_anti h1 h2) (sortG_pw l) h2

/-! least turns -/
def rots (w : List Int) : List (List Int) := (List.range (max 1 w.length)).map fun k => rot k w
def lstW (w : List Int) : List Int := (minG (rots w)).getD []
theorem rots_ne (w : List Int) : rots w ≠ [] := fun h => by
  have := congrArg List.length h
  unfold rots at this
  rw [List.length_map, List.length_range, List.length_nil] at this
  omega
theorem minG_rots (w : List Int) : minG (rots w) = some (lstW w) ∧ lstW w ∈ rots w ∧ ∀ x ∈ rots w, leG (lstW w) x = true := by
  obtain ⟨m, e, h1, h2⟩ := minG_some (rots_ne w)
  unfold lstW
  rw [e]
  exact ⟨rfl, h1, h2⟩
theorem rot_zero (w : List Int) : rot 0 w = w := by unfold rot; rw [List.drop_zero, List.take_zero, List.append_nil]
theorem f_turned_eq {w : List Int} {k : Nat} (h : w.length ≤ 16777216) : N.f_law_turned w (k : Int) = some (rot k w) := by
  unfold N.f_law_turned
  rw [cut_drop, cut_take]
  exact lim_of (by have := rot_len (k := k) (l := w); unfold rot at this; omega)
theorem mapO_turned {w : List Int} (h : w.length ≤ 16777216) (l : List Nat) : mapO (fun x5 => N.f_law_turned w x5) (l.map fun k : Nat => (k : Int)) = some (l.map fun k => rot k w) := by
  rw [mapO_some (g := fun x => rot x.toNat w)]
  · rw [List.map_map]
    rfl
  · intro x hx
    obtain ⟨k, _, rfl⟩ := List.mem_map.mp hx
    exact f_turned_eq h
theorem f_least_eq {w : List Int} (h : w.length ≤ 16777216) : N.f_law_least w = some (lstW w) := by
  unfold N.f_law_least
  have e : (if (w.length : Int) > (1 : Int) then (w.length : Int) else (1 : Int)) = ((max 1 w.length : Nat) : Int) := by split <;> omega
  have hm : max 1 w.length ≤ 16777216 := by omega
  rw [e, rangeP_nats (by omega), bind_s]
  unfold nats
  rw [mapO_turned h, bind_s, lim_of (by rw [List.length_map, List.length_range]; exact hm), bind_s]
  exact (minG_rots w).1
theorem mem_rots {w : List Int} {k : Nat} (h : k < w.length) : rot k w ∈ rots w := List.mem_map.mpr ⟨k, List.mem_range.mpr (by omega), rfl⟩
theorem self_rots (w : List Int) : w ∈ rots w := List.mem_map.mpr ⟨0, List.mem_range.mpr (by omega), rot_zero w⟩
theorem lstW_iff {w : List Int} : lstW w = w ↔ ∀ k, k < w.length → leG w (rot k w) = true := by
  obtain ⟨_, h1, h2⟩ := minG_rots w
  constructor
  · intro e k hk
    have := h2 _ (mem_rots hk)
    rwa [e] at this
  · intro h
    refine leG_anti (h2 _ (self_rots w)) ?_
    obtain ⟨k, hk, e⟩ := List.mem_map.mp h1
    rw [← e]
    by_cases q : k < w.length
    · exact h k q
    · have : rot k w = w := by
        unfold rot
        rw [List.drop_of_length_le (by omega), List.take_of_length_le (by omega), List.nil_append]
      rw [this]
      exact leG_refl w
/-- a loop that joins -/
theorem flat_loop {α β : Type} {F : List β → α → Option (List β)} {g : α → List β} : ∀ {l : List α} {s : List β}, s.length + (l.flatMap g).length ≤ 16777216 → (∀ s x, x ∈ l → s.length + (g x).length ≤ 16777216 → F s x = some (s ++ g x)) → l.foldlM F s = some (s ++ l.flatMap g)
  | [], s, _, _ => by rw [List.flatMap_nil, List.append_nil]; rfl
  | x :: l, s, h, hF => by
    rw [List.flatMap_cons, List.length_append] at h
    rw [foldlM_cons', hF s x List.mem_cons_self (by omega), bind_s, flat_loop (by rw [List.length_append]; omega) fun s y hy => hF s y (List.mem_cons_of_mem _ hy), List.flatMap_cons, List.append_assoc]
theorem flat_len {α β : Type} {g : α → List β} {m : Nat} : ∀ {l : List α}, (∀ x ∈ l, (g x).length ≤ m) → (l.flatMap g).length ≤ l.length * m
  | [], _ => by simp
  | x :: l, h => by
    rw [List.flatMap_cons, List.length_append, List.length_cons, Nat.succ_mul]
    have := h x List.mem_cons_self
    have := flat_len fun y hy => h y (List.mem_cons_of_mem x hy)
    omega
/-! all words -/
theorem ltG_app {w u v : List Int} : ltG (w ++ u) (w ++ v) = ltG u v := by
  induction w with
  | nil => rfl
  | cons x w ih => rw [List.cons_append, List.cons_append, ltG_cons, if_pos rfl, ih]
theorem ltG_more : ∀ {a b : List Int} (u v : List Int), a.length = b.length → ltG a b = true → ltG (a ++ u) (b ++ v) = true
  | [], [], u, v, _, h => by cases h
  | [], _ :: _, u, v, hl, h => by cases hl
  | _ :: _, [], u, v, hl, h => by cases hl
  | x :: a, y :: b, u, v, hl, h => by
    rw [List.cons_append, List.cons_append, ltG_cons]
    rw [ltG_cons] at h
    split
    · rename_i e
      rw [if_pos e] at h
      exact ltG_more u v (by simpa using hl) h
    · rename_i e
      rw [if_neg e] at h
      exact h
def aw (x : Nat) : Nat → List (List Int)
  | 0 => [[]]
  | n + 1 => (aw x n).flatMap fun w => (nats x).map fun j => w ++ [j]
theorem mem_natsI {n : Nat} {x : Int} : x ∈ nats n ↔ 0 ≤ x ∧ x < n :=
  ⟨mem_nats, fun h => List.mem_map.mpr ⟨x.toNat, List.mem_range.mpr (by omega), by omega⟩⟩
theorem aw_mem {x : Nat} : ∀ {n : Nat} {w : List Int}, w ∈ aw x n ↔ w.length = n ∧ ∀ y ∈ w, 0 ≤ y ∧ y < x
  | 0, w => by
    unfold aw
    rw [List.mem_singleton]
    constructor
    · rintro rfl
      exact ⟨rfl, by simp⟩
    · rintro ⟨h, _⟩
      exact List.length_eq_zero_iff.mp h
  | n + 1, w => by
    unfold aw
    rw [List.mem_flatMap]
    constructor
    · rintro ⟨v, hv, hw⟩
      obtain ⟨j, hj, rfl⟩ := List.mem_map.mp hw
      obtain ⟨h1, h2⟩ := aw_mem.mp hv
      refine ⟨by rw [List.length_append, List.length_singleton, h1], fun y hy => ?_⟩
      rcases List.mem_append.mp hy with h | h
      · exact h2 y h
      · rw [List.mem_singleton.mp h]
        exact mem_nats hj
    · rintro ⟨h1, h2⟩
      have hne : w ≠ [] := fun e => by rw [e] at h1; cases h1
      refine ⟨w.dropLast, aw_mem.mpr ⟨by rw [List.length_dropLast, h1]; rfl, fun y hy => h2 y (List.dropLast_subset w hy)⟩, List.mem_map.mpr ⟨w.getLast hne, mem_natsI.mpr (h2 _ (List.getLast_mem hne)), List.dropLast_concat_getLast hne⟩⟩
theorem nats_pw (n : Nat) : (nats n).Pairwise fun a b => a < b := by
  unfold nats
  rw [List.pairwise_map]
  exact List.pairwise_lt_range.imp fun h => by omega
theorem aw_pw (x : Nat) : ∀ n, (aw x n).Pairwise fun a b => ltG a b = true
  | 0 => by unfold aw; exact List.pairwise_singleton _ _
  | n + 1 => by
    unfold aw
    rw [List.pairwise_flatMap]
    refine ⟨fun w _ => ?_, ?_⟩
    · rw [List.pairwise_map]
      refine (nats_pw x).imp fun {a b} h => ?_
      rw [ltG_app, ltG_cons, if_neg (by omega)]
      exact decide_eq_true h
    · refine (List.Pairwise.and_mem.mp (aw_pw x n)).imp ?_
      rintro a b ⟨ha, hb, h⟩ u hu v hv
      obtain ⟨i, _, rfl⟩ := List.mem_map.mp hu
      obtain ⟨j, _, rfl⟩ := List.mem_map.mp hv
      exact ltG_more _ _ (by rw [(aw_mem.mp ha).1, (aw_mem.mp hb).1]) h
theorem aw_len (x : Nat) : ∀ n, (aw x n).length = x ^ n
  | 0 => rfl
  | n + 1 => by
    unfold aw
    rw [List.length_flatMap, Nat.pow_succ, ← aw_len x n]
    generalize aw x n = l
    induction l with
    | nil => simp
    | cons w l ih => rw [List.map_cons, List.sum_cons, List.length_map, nats_len, ih, List.length_cons, Nat.succ_mul, Nat.add_comm]
theorem f_all_words_eq {x n : Nat} (hx : x ≤ 16777216) (hn : n ≤ 1000) (h : x ^ n ≤ 16777216) (h0 : 1 ≤ x) : N.f_law_all_words x n = some (aw x n) := by
  refine Rets.get ?_
  unfold N.f_law_all_words
  rw [bind_s]
  refine .bind (Rets.range (fun t (s : List (List Int)) => s = aw x t) (by omega) (by omega) rfl ?_) fun s hs => .pure (by rw [hs, Int.toNat_natCast])
  rintro t _ ht rfl
  have ht : t < n := by omega
  have h2 : x ^ (t + 1) ≤ x ^ n := Nat.pow_le_pow_right h0 ht
  rw [bind_s, flat_loop (g := fun w => (nats x).map fun j => w ++ [j])]
  · rw [bind_s, bind_s, List.nil_append]
    exact .pure rfl
  · have e := aw_len x (t + 1)
    unfold aw at e
    rw [e, List.length_nil]
    omega
  · intro s w hw hl
    have hwl := (aw_mem.mp hw).1
    rw [rangeP_nats (by omega), bind_s, mapO_some (g := fun j => w ++ [j]) fun j _ => lim_of (by rw [List.length_append, List.length_singleton]; omega), bind_s, lim_of (by rw [List.length_map, nats_len]; exact hx), bind_s, lim_of (by rw [List.length_append]; exact hl), bind_s]
theorem pw_lt_nodup {l : List (List Int)} (h : l.Pairwise fun a b => ltG a b = true) : l.Nodup := h.imp fun h => ltG_ne h
theorem sortG_mem {l r : List (List Int)} (hl : l.Nodup) (hr : r.Pairwise fun a b => ltG a b = true) (hm : ∀ a, a ∈ r ↔ a ∈ l) : sortG l = r :=
  sortG_uniq ((List.perm_ext_iff_of_nodup (pw_lt_nodup hr) hl).mpr hm) (hr.imp fun h => leG_iff.mpr (.inl h))
/-- a loop that asks and appends -/
theorem pick_loop {α : Type} {F : List α → α → Option (List α)} {g : α → Bool} : ∀ {l s : List α}, (∀ s x, x ∈ l → s.length < 16777216 → F s x = some (if g x = true then s ++ [x] else s)) → s.length + l.length ≤ 16777216 → l.foldlM F s = some (s ++ l.filter g)
  | [], s, _, _ => by rw [List.filter_nil, List.append_nil]; rfl
  | x :: l, s, h, hz => by
    rw [List.length_cons] at hz
    rw [foldlM_cons', h s x List.mem_cons_self (by omega), bind_s, pick_loop (fun s y hy => h s y (List.mem_cons_of_mem _ hy)) (by split <;> (try rw [List.length_append, List.length_singleton]) <;> omega)]
    cases e : g x with
    | true => rw [if_pos rfl, List.filter_cons_of_pos e, List.append_assoc]; rfl
    | false => rw [if_neg Bool.false_ne_true, List.filter_cons_of_neg (by rw [e]; exact Bool.false_ne_true)]
/-! unlike numbers -/
theorem met_len {l r : List Int} (hr : r.Nodup) (h : ∀ k, k ∈ l ↔ k ∈ r) : (met l).length = r.length := by
  obtain ⟨h1, h2⟩ := met_spec l
  exact ((List.perm_ext_iff_of_nodup h1 hr).mpr fun k => by rw [h2, h]).length_eq
theorem lenSet_eq {l r : List Int} (hl : l.length ≤ 4000) (hr : r.Nodup) (h : ∀ k, k ∈ l ↔ k ∈ r) : lenSet l = some (r.length : Int) := by
  unfold lenSet
  rw [if_pos hl, met_len hr h]
theorem append_loop' {α β : Type} {F : List β → α → Option (List β)} {h : α → β} : ∀ {l : List α} {s : List β}, s.length + l.length ≤ 16777216 → (∀ s x, x ∈ l → s.length < 16777216 → F s x = some (s ++ [h x])) → l.foldlM F s = some (s ++ l.map h)
  | [], s, _, _ => by rw [List.map_nil, List.append_nil]; rfl
  | x :: l, s, hz, hF => by
    rw [List.length_cons] at hz
    rw [foldlM_cons', hF s x List.mem_cons_self (by omega), bind_s, append_loop' (by rw [List.length_append, List.length_singleton]; omega) fun s y hy => hF s y (List.mem_cons_of_mem _ hy), List.map_cons, List.append_assoc]
    rfl
theorem inG_iff {α : Type} [DecidableEq α] {x : α} {l : List α} : inG x l = true ↔ x ∈ l := by
  unfold inG
  exact decide_eq_true_iff
end L2.DL

/-! words with two periods: the mirrors that laws share, and what they return -/
namespace L2.DL.N
open PySem PySem.Spec PyProof.Rows
def f_joined_groups (a_groups : (List Int)) (a_first : Int) (a_second : Int) : Option (List Int) :=
 ((atI a_groups a_first).bind fun v7 => (atI a_groups a_second).bind fun v8 => some (decide (v7 = v8))).bind fun b32 => (if b32 = true then
 some a_groups
else
 ((atI a_groups a_first).bind fun v15 => (atI a_groups a_second).bind fun v16 => some (if v16 < v15 then v16 else v15)).bind fun name_17 =>
 ((atI a_groups a_first).bind fun v24 => (atI a_groups a_second).bind fun v25 => some (if v25 > v24 then v25 else v24)).bind fun gone_26 =>
 (mapO (fun x27 => (if (decide (x27 = gone_26)) = true then some name_17 else some x27)) a_groups).bind lim)
def f_groups_by (a_length : Int) (a_first : Int) (a_second : Int) : Option (List Int) :=
 (listRg 0 a_length).bind fun groups_2 =>
 ((rangeP 0 a_length).bind fun l57 => l57.foldlM (fun (s36 : (List Int)) (at_37 : Int) =>
 ((((fun z : (Int × Int) => (TupL.mk [z.1, z.2] : (TupL Int))) (a_first, a_second)).l).foldlM (fun (s40 : (List Int)) (period_41 : Int) =>
 (if (decide ((at_37 + period_41) < a_length)) = true then
 (f_joined_groups s40 at_37 (at_37 + period_41)).bind fun groups_51 =>
 some groups_51
else
 some s40)) s36).bind fun (s55 : (List Int)) =>
 some s55) groups_2).bind fun (s58 : (List Int)) =>
 some s58
def f_numbered (a_groups : (List Int)) : Option (List Int) :=
 (some ([] : (List Int))).bind fun word_1 =>
 (some ([] : (List Int))).bind fun names_2 =>
 (a_groups.foldlM (fun (s3 : ((List Int) × (List Int))) (group_4 : Int) =>
 ((if (decide (group_4 ∉ s3.2)) = true then
 (lim (s3.2 ++ [group_4])).bind fun names_7 =>
 some names_7
else
 some s3.2)).bind fun (s10 : (List Int)) =>
 ((indexI s10 group_4).bind fun v15 => lim (s3.1 ++ [v15])).bind fun word_11 =>
 some (word_11, s10)) (word_1, names_2)).bind fun (s19 : ((List Int) × (List Int))) =>
 some s19.1
def f_freest_word (a_length : Int) (a_first : Int) (a_second : Int) : Option (List Int) :=
 (f_groups_by a_length a_first a_second).bind fun v4 => f_numbered v4
def f_has_period (a_word : (List Int)) (a_period : Int) : Option Bool :=
 Fl.ret ((rangeP 0 ((a_word.length : Int) - a_period)).bind fun l19 => (forL (T := Unit) (R := Bool) (fun (s5 : Unit) (at_6 : Int) =>
 ((atI a_word at_6).bind fun v15 => (atI a_word (at_6 + a_period)).bind fun v16 => some (decide (v15 ≠ v16))).bind fun b17 => (if b17 = true then
 some (.rt false)
else
 some (.nx ()))) l19 ())) fun (s20 : Unit) =>
 some true
def f_periods_of (a_word : (List Int)) : Option (List Int) :=
 (rangeP (1 : Int) (a_word.length : Int)).bind fun v8 => (compM (fun x4 => f_has_period a_word x4) (fun x4 => some x4) v8).bind lim

def ofF (n : Nat) (g : Nat → Nat) : List Int := (List.range n).map fun i => (g i : Int)
theorem ofF_len (n : Nat) (g : Nat → Nat) : (ofF n g).length = n := by simp [ofF]
theorem ofF_get {n : Nat} {g : Nat → Nat} {i : Nat} (h : i < n) : (ofF n g)[i]'(by rw [ofF_len]; exact h) = (g i : Int) := by simp [ofF]
theorem ofF_at {n : Nat} {g : Nat → Nat} {i : Nat} (h : i < n) : atI (ofF n g) (i : Int) = some (g i : Int) := by
  rw [atI_nat (by rw [ofF_len]; exact h), ofF_get h]
theorem ofF_congr {n : Nat} {g h : Nat → Nat} (e : ∀ i, i < n → g i = h i) : ofF n g = ofF n h := by
  unfold ofF
  exact List.map_congr_left fun i hi => by rw [e i (List.mem_range.mp hi)]
theorem ofF_inj {n : Nat} {g h : Nat → Nat} (e : ofF n g = ofF n h) {i : Nat} (hi : i < n) : g i = h i := by
  have h1 := ofF_at (g := g) hi
  rw [e, ofF_at hi] at h1
  have := Option.some.inj h1
  omega
/-- the names of classes: each the least of its class -/
structure Grp (n : Nat) (g : Nat → Nat) : Prop where
  le : ∀ i, i < n → g i ≤ i
  idem : ∀ i, i < n → g (g i) = g i
  /-- what is the same at each join is the same in each class -/
def Joins (n : Nat) (g : Nat → Nat) (J : Nat → Nat → Prop) : Prop :=
  (∀ a b, a < n → b < n → J a b → g a = g b) ∧ ∀ w : Nat → Int, (∀ a b, a < n → b < n → J a b → w a = w b) → ∀ i, i < n → w (g i) = w i
theorem join_eq {n a b : Nat} {g : Nat → Nat} {J : Nat → Nat → Prop} (ha : a < n) (hb : b < n) (hn : n ≤ 16777216) (G : Grp n g) (hJ : Joins n g J) :
    ∃ g', f_joined_groups (ofF n g) a b = some (ofF n g') ∧ Grp n g' ∧ Joins n g' (fun x y => J x y ∨ (x = a ∧ y = b)) := by
  unfold f_joined_groups
  rw [ofF_at ha, ofF_at hb]
  simp only [bind_s]
  by_cases e : g a = g b
  · rw [if_pos (decide_eq_true (by rw [e]))]
    refine ⟨g, rfl, G, fun x y hx hy h => ?_, fun w hw i hi => hJ.2 w (fun x y hx hy h => hw x y hx hy (.inl h)) i hi⟩
    rcases h with h | ⟨rfl, rfl⟩
    · exact hJ.1 x y hx hy h
    · exact e
  · rw [if_neg fun q => e (by have := of_decide_eq_true q; omega)]
    have e1 : (if ((g b : Nat) : Int) < ((g a : Nat) : Int) then ((g b : Nat) : Int) else ((g a : Nat) : Int)) = ((min (g a) (g b) : Nat) : Int) := by split <;> omega
    have e2 : (if ((g b : Nat) : Int) > ((g a : Nat) : Int) then ((g b : Nat) : Int) else ((g a : Nat) : Int)) = ((max (g a) (g b) : Nat) : Int) := by split <;> omega
    rw [e1, e2]
    have hnm : g (min (g a) (g b)) = min (g a) (g b) ∧ min (g a) (g b) < max (g a) (g b) := by
      rcases Nat.le_total (g a) (g b) with h | h
      · rw [Nat.min_eq_left h, Nat.max_eq_right h]
        exact ⟨G.idem a ha, by omega⟩
      · rw [Nat.min_eq_right h, Nat.max_eq_left h]
        exact ⟨G.idem b hb, by omega⟩
    have hor : (g a = min (g a) (g b) ∧ g b = max (g a) (g b)) ∨ (g b = min (g a) (g b) ∧ g a = max (g a) (g b)) := by omega
    generalize hnme : min (g a) (g b) = nm at *
    generalize hgo : max (g a) (g b) = go at *
    let g' : Nat → Nat := fun i => if g i = go then nm else g i
    have em : mapO (fun x27 => (if (decide (x27 = (go : Int))) = true then some (nm : Int) else some x27)) (ofF n g) = some (ofF n g') := by
      rw [mapO_some (g := fun x => if x = (go : Int) then (nm : Int) else x)]
      · unfold ofF
        rw [List.map_map]
        refine congrArg some (List.map_congr_left fun i _ => ?_)
        show (if ((g i : Nat) : Int) = (go : Int) then (nm : Int) else ((g i : Nat) : Int)) = (((if g i = go then nm else g i) : Nat) : Int)
        by_cases q : g i = go
        · rw [if_pos q, if_pos (by omega)]
        · rw [if_neg q, if_neg (by omega)]
      · intro x _
        by_cases q : x = (go : Int)
        · rw [if_pos q, if_pos (decide_eq_true q)]
        · rw [if_neg q, if_neg fun z => q (of_decide_eq_true z)]
    refine ⟨g', by rw [em, bind_s, lim_of (by rw [ofF_len]; exact hn)], ⟨fun i hi => ?_, fun i hi => ?_⟩, fun x y hx hy h => ?_, fun w hw i hi => ?_⟩
    · show (if g i = go then nm else g i) ≤ i
      have := G.le i hi
      split <;> omega
    · show (if g (if g i = go then nm else g i) = go then nm else g (if g i = go then nm else g i)) = if g i = go then nm else g i
      by_cases q : g i = go
      · rw [if_pos q, hnm.1, if_neg (by omega)]
      · rw [if_neg q, G.idem i hi, if_neg q]
    · show (if g x = go then nm else g x) = (if g y = go then nm else g y)
      rcases h with h | ⟨rfl, rfl⟩
      · rw [hJ.1 x y hx hy h]
      · rcases hor with ⟨h1, h2⟩ | ⟨h1, h2⟩
        · rw [if_pos h2, if_neg (by omega), h1]
        · rw [if_pos h2, if_neg (by omega), h1]
    · have hw' := hJ.2 w fun x y hx hy h => hw x y hx hy (.inl h)
      have hab : w (g a) = w (g b) := by rw [hw' a ha, hw' b hb]; exact hw a b ha hb (.inr ⟨rfl, rfl⟩)
      have hng : w nm = w go := by
        rcases hor with ⟨h1, h2⟩ | ⟨h1, h2⟩
        · rw [← h1, ← h2]; exact hab
        · rw [← h1, ← h2]; exact hab.symm
      show w (if g i = go then nm else g i) = w i
      split
      · rename_i q
        rw [hng, ← q]
        exact hw' i hi
      · exact hw' i hi
/-- steps of the one or the other period -/
def Stp (p q : Nat) (a b : Nat) : Prop := b = a + p ∨ b = a + q
theorem Joins.congr {n : Nat} {g : Nat → Nat} {J J' : Nat → Nat → Prop} (h : Joins n g J) (e : ∀ a b, a < n → b < n → (J a b ↔ J' a b)) : Joins n g J' :=
  ⟨fun a b ha hb j => h.1 a b ha hb ((e a b ha hb).mpr j), fun w hw => h.2 w fun a b ha hb j => hw a b ha hb ((e a b ha hb).mp j)⟩
theorem groups_step {n p k : Nat} {g : Nat → Nat} {J : Nat → Nat → Prop} (hn : n ≤ 16777216) (hk : k < n) (G : Grp n g) (hJ : Joins n g J) :
    ∃ g', (if (decide (((k : Int) + (p : Int)) < (n : Int))) = true then
 (f_joined_groups (ofF n g) k ((k : Int) + (p : Int))).bind fun groups_51 =>
 some groups_51
else
 some (ofF n g)) = some (ofF n g') ∧ Grp n g' ∧ Joins n g' (fun x y => J x y ∨ (x = k ∧ y = k + p)) := by
  by_cases h : k + p < n
  · rw [if_pos (decide_eq_true (by omega)), show ((k : Int) + (p : Int)) = ((k + p : Nat) : Int) by omega]
    obtain ⟨g', e, G', J'⟩ := join_eq hk h hn G hJ
    exact ⟨g', by rw [e, bind_s], G', J'⟩
  · rw [if_neg fun q => h (by have := of_decide_eq_true q; omega)]
    refine ⟨g, rfl, G, hJ.congr fun a b ha hb => ⟨.inl, fun j => j.elim id fun ⟨h1, h2⟩ => ?_⟩⟩
    omega
theorem groups_eq {n p q : Nat} (hn : n ≤ 16777216) : ∃ g, f_groups_by n p q = some (ofF n g) ∧ Grp n g ∧ Joins n g (Stp p q) := by
  have key : Rets (f_groups_by n p q) (fun l => ∃ g, l = ofF n g ∧ Grp n g ∧ Joins n g (Stp p q)) := by
    unfold f_groups_by
    rw [listRg_def, if_pos (by omega), bind_s]
    have e0 : rangeL 0 (n : Int) = ofF n fun i => i := rangeL_nat n
    rw [e0]
    refine .bind (Rets.range (fun k l => ∃ g, l = ofF n g ∧ Grp n g ∧ Joins n g (fun a b => a < k ∧ Stp p q a b)) (by omega) (by omega) ⟨fun i => i, rfl, ⟨fun _ _ => Nat.le_refl _, fun _ _ => rfl⟩, fun a b _ _ h => absurd h.1 (by omega), fun _ _ _ _ => rfl⟩ ?_) ?_
    · rintro k _ hk ⟨g, rfl, G, hJ⟩
      have hk : k < n := by omega
      obtain ⟨g1, e1, G1, J1⟩ := groups_step (p := p) hn hk G hJ
      obtain ⟨g2, e2, G2, J2⟩ := groups_step (p := q) hn hk G1 J1
      rw [foldlM_cons', e1, bind_s, foldlM_cons', e2, bind_s]
      refine .bind (Q := fun l => l = ofF n g2) (.pure rfl) ?_
      rintro _ rfl
      refine .pure ⟨g2, rfl, G2, J2.congr fun a b _ _ => ?_⟩
      unfold Stp
      constructor
      · rintro ((⟨h1, h2⟩ | ⟨rfl, rfl⟩) | ⟨rfl, rfl⟩)
        · exact ⟨by omega, h2⟩
        · exact ⟨by omega, .inl rfl⟩
        · exact ⟨by omega, .inr rfl⟩
      · rintro ⟨h1, h2⟩
        rcases Nat.lt_succ_iff_lt_or_eq.mp h1 with h | h
        · exact .inl (.inl ⟨h, h2⟩)
        · rcases h2 with h2 | h2
          · exact .inl (.inr ⟨h, by omega⟩)
          · exact .inr ⟨h, by omega⟩
    · rintro _ ⟨g, rfl, G, hJ⟩
      refine .pure ⟨g, rfl, G, hJ.congr fun a b ha _ => ⟨fun h => h.2, fun h => ⟨by omega, h⟩⟩⟩
  obtain ⟨_, e, g, rfl, h⟩ := key
  exact ⟨g, e, h⟩
/-- numbers in the order of appearance -/
def cnt (g : Nat → Nat) (m : Nat) : Nat := (List.range m).countP fun v => g v == v
def nms (g : Nat → Nat) (k : Nat) : List Int := ((List.range k).filter fun v => g v == v).map fun v : Nat => (v : Int)
theorem ixOf_left {k : Int} : ∀ {l r : List Int} {j : Nat}, ixOf k l = some j → ixOf k (l ++ r) = some j
  | [], r, j, h => by cases h
  | x :: l, r, j, h => by
    rw [List.cons_append]
    unfold ixOf at h ⊢
    split
    · rename_i q
      rw [if_pos q] at h
      exact h
    · rename_i q
      rw [if_neg q] at h
      obtain ⟨i, e1, e2⟩ := some_map h
      rw [ixOf_left e1]
      exact congrArg some e2
theorem ixOf_end {k : Int} : ∀ {l : List Int}, k ∉ l → ixOf k (l ++ [k]) = some l.length
  | [], _ => by
    unfold ixOf
    rw [List.nil_append]
    show (if k = k then some 0 else _) = _
    rw [if_pos rfl]
    rfl
  | x :: l, h => by
    rw [List.cons_append]
    unfold ixOf
    rw [if_neg fun e => h (by rw [e]; exact List.mem_cons_self), ixOf_end fun q => h (List.mem_cons_of_mem _ q)]
    rfl
theorem nms_succ (g : Nat → Nat) (k : Nat) : nms g (k + 1) = nms g k ++ (if g k = k then [(k : Int)] else []) := by
  unfold nms
  rw [List.range_succ, List.filter_append, List.map_append]
  congr 1
  by_cases h : g k = k
  · rw [if_pos h, List.filter_cons_of_pos (by simpa using h)]
    rfl
  · rw [if_neg h, List.filter_cons_of_neg (by simpa using h)]
    rfl
theorem mem_nms {g : Nat → Nat} {k v : Nat} : (v : Int) ∈ nms g k ↔ v < k ∧ g v = v := by
  unfold nms
  rw [List.mem_map]
  constructor
  · rintro ⟨u, hu, e⟩
    have e : u = v := by omega
    subst e
    obtain ⟨h1, h2⟩ := List.mem_filter.mp hu
    exact ⟨List.mem_range.mp h1, by simpa using h2⟩
  · rintro ⟨h1, h2⟩
    exact ⟨v, List.mem_filter.mpr ⟨List.mem_range.mpr h1, by simpa using h2⟩, rfl⟩
theorem nms_len (g : Nat → Nat) (k : Nat) : (nms g k).length = cnt g k := by
  unfold nms cnt
  rw [List.length_map, List.countP_eq_length_filter]
theorem ix_nms {g : Nat → Nat} {m : Nat} (hm : g m = m) : ∀ k, m < k → ixOf (m : Int) (nms g k) = some (cnt g m)
  | 0, h => by omega
  | k + 1, h => by
    rw [nms_succ]
    rcases Nat.lt_succ_iff_lt_or_eq.mp h with h | h
    · exact ixOf_left (ix_nms hm k h)
    · subst h
      rw [if_pos hm, ixOf_end (fun q => by have := (mem_nms.mp q).1; omega), nms_len]
theorem numbered_eq {n : Nat} {g : Nat → Nat} (hn : n ≤ 16777216) (G : Grp n g) : f_numbered (ofF n g) = some (ofF n fun i => cnt g (g i)) := by
  have key : Rets (f_numbered (ofF n g)) (fun l => l = ofF n fun i => cnt g (g i)) := by
    unfold f_numbered
    rw [bind_s, bind_s]
    have fl : ∀ (k : Nat), k ≤ n → Rets ((ofF k g).foldlM (fun (s3 : ((List Int) × (List Int))) (group_4 : Int) =>
 ((if (decide (group_4 ∉ s3.2)) = true then
 (lim (s3.2 ++ [group_4])).bind fun names_7 =>
 some names_7
else
 some s3.2)).bind fun (s10 : (List Int)) =>
 ((indexI s10 group_4).bind fun v15 => lim (s3.1 ++ [v15])).bind fun word_11 =>
 some (word_11, s10)) (([] : List Int), ([] : List Int))) (fun t => t.1 = (ofF k fun i => cnt g (g i)) ∧ t.2 = nms g k) := by
      intro k
      induction k with
      | zero => intro _; exact ⟨([], []), rfl, rfl, rfl⟩
      | succ k ih =>
        intro hk
        obtain ⟨⟨a, b⟩, e, h1, h2⟩ := ih (by omega)
        simp only at h1 h2
        subst h1 h2
        have es : ofF (k + 1) g = ofF k g ++ [(g k : Int)] := by unfold ofF; rw [List.range_succ, List.map_append]; rfl
        have es2 : (ofF (k + 1) fun i => cnt g (g i)) = (ofF k fun i => cnt g (g i)) ++ [((cnt g (g k) : Nat) : Int)] := by unfold ofF; rw [List.range_succ, List.map_append]; rfl
        rw [es, foldlM_app, e, bind_s, foldlM_one]
        simp only
        have hl := nms_len g k
        have hc : cnt g k ≤ k := by
          unfold cnt
          have := List.countP_le_length (p := fun v => g v == v) (l := List.range k)
          rwa [List.length_range] at this
        have en : (if (decide (((g k : Nat) : Int) ∉ nms g k)) = true then (lim (nms g k ++ [((g k : Nat) : Int)])).bind fun names_7 => some names_7 else some (nms g k)) = some (nms g (k + 1)) := by
          by_cases h : g k = k
          · have hn : ((g k : Nat) : Int) ∉ nms g k := fun q => by have := (mem_nms.mp q).1; omega
            rw [if_pos (decide_eq_true hn), lim_of (by rw [List.length_append, List.length_singleton]; omega), bind_s, nms_succ, if_pos h, h]
          · have hn : ((g k : Nat) : Int) ∈ nms g k := mem_nms.mpr ⟨by have := G.le k (by omega); omega, G.idem k (by omega)⟩
            rw [if_neg (by rw [decide_eq_false (fun q => q hn)]; decide), nms_succ, if_neg h, List.append_nil]
        rw [en, bind_s]
        unfold indexI
        rw [ix_nms (G.idem k (by omega)) (k + 1) (by have := G.le k (by omega); omega), map_s, bind_s, lim_of (by rw [List.length_append, List.length_singleton, ofF_len]; omega), bind_s]
        exact .pure ⟨es2.symm, rfl⟩
    refine .bind (fl n (Nat.le_refl _)) fun t ht => .pure ht.1
  obtain ⟨_, e, rfl⟩ := key
  exact e
theorem freest_eq {n p q : Nat} (hn : n ≤ 16777216) : ∃ g, f_freest_word n p q = some (ofF n fun i => cnt g (g i)) ∧ Grp n g ∧ Joins n g (Stp p q) := by
  obtain ⟨g, e, G, J⟩ := groups_eq (p := p) (q := q) hn
  refine ⟨g, ?_, G, J⟩
  unfold f_freest_word
  rw [e, bind_s, numbered_eq hn G]
/-! periods -/
def hasP (l : List Int) (p : Nat) : Bool := (List.range (l.length - p)).all fun i => l.getD i 0 == l.getD (i + p) 0
theorem hasP_iff {l : List Int} {p : Nat} : hasP l p = true ↔ ∀ i, i + p < l.length → l.getD i 0 = l.getD (i + p) 0 := by
  unfold hasP
  rw [List.all_eq_true]
  constructor
  · intro h i hi
    exact eq_of_beq (h i (List.mem_range.mpr (by omega)))
  · intro h i hi
    have := List.mem_range.mp hi
    exact beq_iff_eq.mpr (h i (by omega))
theorem atI_getD {l : List Int} {i : Nat} (h : i < l.length) : atI l (i : Int) = some (l.getD i 0) := by
  rw [atI_nat h, List.getD_eq_getElem?_getD, List.getElem?_eq_getElem h, Option.getD_some]
theorem range_sub {a p : Nat} (ha : a ≤ 16777216) (hp : p < 2 ^ 61) : rangeP 0 ((a : Int) - (p : Int)) = some (nats (a - p)) := by
  rcases Nat.le_total p a with h | h
  · rw [show ((a : Int) - (p : Int)) = ((a - p : Nat) : Int) by omega, rangeP_nats (by omega)]
  · rw [rangeP_def, if_pos (by omega), show a - p = 0 by omega]
    unfold rangeL
    rw [show ((a : Int) - (p : Int) - 0).toNat = 0 by omega]
    rfl
theorem f_has_period_eq {l : List Int} {p : Nat} (hl : l.length ≤ 16777216) (hp : p < 2 ^ 61) : f_has_period l p = some (hasP l p) := by
  unfold f_has_period
  rw [range_sub hl hp, bind_s, ask_loop' (g := fun x : Int => !(l.getD x.toNat 0 == l.getD (x.toNat + p) 0))]
  · have e : (nats (l.length - p)).any (fun x : Int => !(l.getD x.toNat 0 == l.getD (x.toNat + p) 0)) = !hasP l p := by
      unfold hasP nats
      rw [List.any_map, List.all_eq_not_any_not, Bool.not_not]
      rfl
    rw [e]
    cases hasP l p with
    | true => rw [not_t, if_ft, ret_nx]
    | false => rw [not_f, if_tt, ret_rt]
  · intro x hx
    have hx := mem_nats hx
    obtain ⟨i, rfl⟩ := Int.eq_ofNat_of_zero_le hx.1
    rw [show ((i : Int) + (p : Int)) = ((i + p : Nat) : Int) by omega, atI_getD (by omega), atI_getD (by omega), bind_s, bind_s, bind_s, Int.toNat_natCast]
    by_cases h : l.getD i 0 = l.getD (i + p) 0
    · rw [h, if_neg (by simp), if_neg (by simp)]
    · rw [if_pos (decide_eq_true h), if_pos (by rw [beq_eq_false_iff_ne.mpr h]; rfl)]
theorem f_periods_eq {l : List Int} (hl : l.length ≤ 16777216) : f_periods_of l = some ((rangeL 1 (l.length : Int)).filter fun x => hasP l x.toNat) := by
  unfold f_periods_of
  have hz : (rangeL 1 (l.length : Int)).length ≤ 16777216 := by unfold rangeL; rw [List.length_map, List.length_range]; omega
  rw [rangeP_def, if_pos (by omega), bind_s, compM_some (q := fun x => hasP l x.toNat) (g := fun x => x), bind_s, List.map_id', lim_of (Nat.le_trans (List.length_filter_le _ _) hz)]
  · intro x hx
    unfold rangeL at hx
    obtain ⟨k, hk, rfl⟩ := List.mem_map.mp hx
    have := List.mem_range.mp hk
    rw [show (1 : Int) + (k : Int) = ((1 + k : Nat) : Int) by omega, f_has_period_eq hl (by omega), Int.toNat_natCast]
  · intro x _
    rfl
/-! ### how many classes -/
theorem Stp.swap {p q a b : Nat} : Stp p q a b ↔ Stp q p a b := or_comm
theorem grp_uniq {n : Nat} {g h : Nat → Nat} {J : Nat → Nat → Prop} (G : Grp n g) (H : Grp n h) (hg : Joins n g J) (hh : Joins n h J) : ∀ i, i < n → g i = h i := by
  have key : ∀ (g h : Nat → Nat), Grp n g → Grp n h → Joins n g J → Joins n h J → ∀ i, i < n → g i ≤ h i := fun g h G H hg hh i hi => by
    have h1 := hh.2 (fun i => (g i : Int)) (fun a b ha hb j => by
      show ((g a : Nat) : Int) = ((g b : Nat) : Int)
      rw [hg.1 a b ha hb j]) i hi
    have h2 : ((g (h i) : Nat) : Int) = ((g i : Nat) : Int) := h1
    have h3 := G.le (h i) (Nat.lt_of_le_of_lt (H.le i hi) hi)
    omega
  intro i hi
  exact Nat.le_antisymm (key g h G H hg hh i hi) (key h g H G hh hg i hi)
theorem cnt_succ (g : Nat → Nat) (k : Nat) : cnt g (k + 1) = cnt g k + if g k = k then 1 else 0 := by
  unfold cnt
  rw [List.range_succ, List.countP_append, List.countP_singleton]
  by_cases h : g k = k
  · rw [if_pos h, if_pos (by simpa using h)]
  · rw [if_neg h, if_neg (by simpa using h)]
theorem cnt_mono (g : Nat → Nat) {a b : Nat} (h : a ≤ b) : cnt g a ≤ cnt g b := by
  induction b with
  | zero => rw [Nat.le_zero.mp h]; exact Nat.le_refl _
  | succ b ih =>
    rcases Nat.lt_or_ge b a with q | q
    · have : a = b + 1 := by omega
      rw [this]
      exact Nat.le_refl _
    · rw [cnt_succ]
      have := ih q
      omega
theorem cnt_lt {g : Nat → Nat} {a b : Nat} (h : g a = a) (hab : a < b) : cnt g a < cnt g b := by
  have h1 := cnt_succ g a
  rw [if_pos h] at h1
  have := cnt_mono g (show a + 1 ≤ b from hab)
  omega
theorem cnt_inj {g : Nat → Nat} {a b : Nat} (ha : g a = a) (hb : g b = b) (h : cnt g a = cnt g b) : a = b := by
  rcases Nat.lt_trichotomy a b with q | q | q
  · have := cnt_lt ha q; omega
  · exact q
  · have := cnt_lt hb q; omega
theorem cnt_hit {g : Nat → Nat} : ∀ {n v : Nat}, v < cnt g n → ∃ m, m < n ∧ g m = m ∧ cnt g m = v
  | 0, v, h => by unfold cnt at h; simp at h
  | n + 1, v, h => by
    rw [cnt_succ] at h
    rcases Nat.lt_or_ge v (cnt g n) with q | q
    · obtain ⟨m, m1, m2, m3⟩ := cnt_hit q
      exact ⟨m, by omega, m2, m3⟩
    · by_cases e : g n = n
      · rw [if_pos e] at h
        exact ⟨n, by omega, e, by omega⟩
      · rw [if_neg e] at h
        omega
theorem cnt_of {g : Nat → Nat} {d : Nat} : ∀ {n : Nat}, (∀ v, v < n → (g v = v ↔ v < d)) → cnt g n = min n d
  | 0, _ => by unfold cnt; simp
  | n + 1, h => by
    rw [cnt_succ, cnt_of fun v hv => h v (by omega)]
    have := h n (by omega)
    by_cases q : n < d
    · rw [if_pos (this.mpr q)]; omega
    · rw [if_neg fun z => q (this.mp z)]; omega
/-- a word that long with both periods has their divisor's period -/
theorem fine_wilf (m : Nat) : ∀ (p q n : Nat) (w : Nat → Int), p + q ≤ m → 1 ≤ p → 1 ≤ q → p + q ≤ n + Nat.gcd p q → (∀ i, i + p < n → w i = w (i + p)) → (∀ i, i + q < n → w i = w (i + q)) → ∀ i j, i < n → j < n → i % Nat.gcd p q = j % Nat.gcd p q → w i = w j := by
  induction m with
  | zero => intro p q n w h hp; omega
  | succ m ih =>
    have main : ∀ (p q n : Nat) (w : Nat → Int), p < q → p + q ≤ m + 1 → 1 ≤ p → 1 ≤ q → p + q ≤ n + Nat.gcd p q → (∀ i, i + p < n → w i = w (i + p)) → (∀ i, i + q < n → w i = w (i + q)) → ∀ i j, i < n → j < n → i % Nat.gcd p q = j % Nat.gcd p q → w i = w j := by
      intro p q n w hpq hm hp hq hn h1 h2
      have hg : Nat.gcd p (q - p) = Nat.gcd p q := Nat.gcd_sub_self_right (by omega)
      have hd1 := Nat.gcd_dvd_left p q
      have hd2 : Nat.gcd p q ∣ q - p := by rw [← hg]; exact Nat.gcd_dvd_right _ _
      have hle : Nat.gcd p q ≤ q - p := Nat.le_of_dvd (by omega) hd2
      have hdp : Nat.gcd p q ≤ p := Nat.le_of_dvd (by omega) hd1
      have hnp : p ≤ n - p := by omega
      have sub := ih p (q - p) (n - p) w (by omega) hp (by omega) (by rw [hg]; omega) (fun i hi => h1 i (by omega)) fun i hi => by
        rw [h2 i (by omega), h1 (i + (q - p)) (by omega)]
        congr 1
        omega
      rw [hg] at sub
      have red : ∀ i, i < n → w i = w (i % p) := fun i hi => by
        have : ∀ k r, r + k * p < n → w r = w (r + k * p) := fun k => by
          induction k with
          | zero => intro r _; rw [Nat.zero_mul, Nat.add_zero]
          | succ k ihk =>
            intro r hr
            rw [Nat.succ_mul] at hr ⊢
            rw [ihk r (by omega), h1 (r + k * p) (by omega)]
            congr 1
            omega
        have h3 := Nat.mod_add_div i p
        rw [Nat.mul_comm] at h3
        have := this (i / p) (i % p) (by omega)
        rw [this, h3]
      intro i j hi hj e
      have mi := Nat.mod_lt i (show 0 < p by omega)
      have mj := Nat.mod_lt j (show 0 < p by omega)
      rw [red i hi, red j hj]
      exact sub (i % p) (j % p) (by omega) (by omega) (by rw [Nat.mod_mod_of_dvd _ hd1, Nat.mod_mod_of_dvd _ hd1, e])
    intro p q n w hm hp hq hn h1 h2
    rcases Nat.lt_trichotomy p q with c | c | c
    · exact main p q n w c hm hp hq hn h1 h2
    · subst c
      rw [Nat.gcd_self] at hn ⊢
      intro i j hi hj e
      have red : ∀ i, i < n → w i = w (i % p) := fun i hi => by
        have : ∀ k r, r + k * p < n → w r = w (r + k * p) := fun k => by
          induction k with
          | zero => intro r _; rw [Nat.zero_mul, Nat.add_zero]
          | succ k ihk =>
            intro r hr
            rw [Nat.succ_mul] at hr ⊢
            rw [ihk r (by omega), h1 (r + k * p) (by omega)]
            congr 1
            omega
        have h3 := Nat.mod_add_div i p
        rw [Nat.mul_comm] at h3
        have := this (i / p) (i % p) (by omega)
        rw [this, h3]
      rw [red i hi, red j hj, e]
    · have hc := Nat.gcd_comm p q
      rw [hc] at hn ⊢
      exact main q p n w c (by omega) hq hp (by omega) h2 h1
theorem joins_per {n p q : Nat} {g : Nat → Nat} (h : Joins n g (Stp p q)) {i : Nat} : (i + p < n → g i = g (i + p)) ∧ (i + q < n → g i = g (i + q)) :=
  ⟨fun hi => h.1 i (i + p) (by omega) hi (.inl rfl), fun hi => h.1 i (i + q) (by omega) hi (.inr rfl)⟩
/-- the residues stay -/
theorem joins_mod {n p q d : Nat} {g : Nat → Nat} (h : Joins n g (Stp p q)) (hp : d ∣ p ∨ n ≤ p) (hq : d ∣ q ∨ n ≤ q) {i : Nat} (hi : i < n) : g i % d = i % d := by
  have := h.2 (fun i => ((i % d : Nat) : Int)) (fun a b ha hb s => by
    show ((a % d : Nat) : Int) = ((b % d : Nat) : Int)
    congr 1
    have key : ∀ k, d ∣ k → a % d = (a + k) % d := fun k hk => by
      obtain ⟨t, rfl⟩ := hk
      rw [Nat.add_mul_mod_self_left]
    rcases s with s | s
    · rcases hp with z | z
      · rw [s]; exact key p z
      · omega
    · rcases hq with z | z
      · rw [s]; exact key q z
      · omega) i hi
  have h2 : ((g i % d : Nat) : Int) = ((i % d : Nat) : Int) := this
  omega
theorem cnt_long {n p q : Nat} {g : Nat → Nat} (G : Grp n g) (h : Joins n g (Stp p q)) (hp : 1 ≤ p) (hq : 1 ≤ q) (h1 : p ≤ n) (h2 : q ≤ n) (hn : p + q ≤ n + Nat.gcd p q) : cnt g n = Nat.gcd p q := by
  have d0 : 0 < Nat.gcd p q := Nat.gcd_pos_of_pos_left _ hp
  have dl : Nat.gcd p q ≤ n := Nat.le_trans (Nat.gcd_le_left _ hp) h1
  rw [cnt_of (d := Nat.gcd p q) (n := n)]
  · omega
  · intro v hv
    constructor
    · intro e
      rcases Nat.lt_or_ge v (Nat.gcd p q) with c | c
      · exact c
      · exfalso
        have hm := Nat.mod_lt v d0
        have := fine_wilf (p + q) p q n (fun i => (g i : Int)) (Nat.le_refl _) hp hq hn (fun i hi => by
          show ((g i : Nat) : Int) = ((g (i + p) : Nat) : Int)
          rw [(joins_per h).1 hi]) (fun i hi => by
          show ((g i : Nat) : Int) = ((g (i + q) : Nat) : Int)
          rw [(joins_per h).2 hi]) v (v % Nat.gcd p q) hv (by omega) (by rw [Nat.mod_mod])
        have h3 : ((g v : Nat) : Int) = ((g (v % Nat.gcd p q) : Nat) : Int) := this
        have := G.le (v % Nat.gcd p q) (by omega)
        omega
    · intro c
      have h3 := joins_mod h (d := Nat.gcd p q) (.inl (Nat.gcd_dvd_left _ _)) (.inl (Nat.gcd_dvd_right _ _)) hv
      have h4 := G.le v hv
      rw [Nat.mod_eq_of_lt c, Nat.mod_eq_of_lt (by omega)] at h3
      exact h3
theorem cnt_start {p q : Nat} {g : Nat → Nat} (G : Grp q g) (h : Joins q g (Stp p q)) (hp : 1 ≤ p) (hpq : p ≤ q) : cnt g q = p := by
  rw [cnt_of (d := p) (n := q)]
  · omega
  · intro v hv
    constructor
    · intro e
      rcases Nat.lt_or_ge v p with c | c
      · exact c
      · exfalso
        have h3 := (joins_per h (i := v - p)).1 (by omega)
        rw [show v - p + p = v by omega] at h3
        have := G.le (v - p) (by omega)
        omega
    · intro c
      have h3 := joins_mod h (d := p) (.inl (Nat.dvd_refl p)) (.inr (Nat.le_refl q)) hv
      have h4 := G.le v hv
      rw [Nat.mod_eq_of_lt c, Nat.mod_eq_of_lt (by omega)] at h3
      exact h3
theorem countP_but (P : Nat → Bool) (a : Nat) : ∀ l : List Nat, l.Nodup → l.countP P ≤ l.countP (fun v => P v && decide (v ≠ a)) + 1
  | [], _ => by simp
  | x :: l, h => by
    obtain ⟨h1, h2⟩ := List.nodup_cons.mp h
    by_cases e : x = a
    · subst e
      have : l.countP (fun v => P v && decide (v ≠ x)) = l.countP P := List.countP_congr fun v hv => by
        have : v ≠ x := fun z => h1 (by rw [← z]; exact hv)
        simp [this]
      rw [List.countP_cons, List.countP_cons, this]
      split <;> omega
    · have ih := countP_but P a l h2
      rw [List.countP_cons, List.countP_cons]
      by_cases z : P x = true
      · rw [if_pos z, if_pos (by rw [z]; simp [e])]
        omega
      · rw [if_neg z, if_neg (by simp [z])]
        omega
/-- one place more joins two classes at most -/
theorem cnt_step {n p q : Nat} {g h : Nat → Nat} (hp : 1 ≤ p) (hpq : p ≤ q) (hq : q ≤ n) (G : Grp n g) (hg : Joins n g (Stp p q)) (H : Grp (n + 1) h) (hh : Joins (n + 1) h (Stp p q)) : cnt g n ≤ cnt h (n + 1) + 1 := by
  have hx := G.le (n - p) (by omega)
  have hy := G.le (n - q) (by omega)
  have ix := G.idem (n - p) (by omega)
  have iy := G.idem (n - q) (by omega)
  generalize ex : g (n - p) = x at *
  generalize ey : g (n - q) = y at *
  let f : Nat → Nat := fun i => if i = n then min x y else if g i = max x y then min x y else g i
  have fn : f n = min x y := if_pos rfl
  have fi : ∀ i, i < n → f i = if g i = max x y then min x y else g i := fun i hi => if_neg (by omega)
  have gmin : g (min x y) = min x y := by
    rcases Nat.le_total x y with z | z
    · rw [Nat.min_eq_left z]; exact ix
    · rw [Nat.min_eq_right z]; exact iy
  have F : Grp (n + 1) f := by
    refine ⟨fun i hi => ?_, fun i hi => ?_⟩
    · rcases Nat.lt_or_ge i n with c | c
      · rw [fi i c]
        have := G.le i c
        split <;> omega
      · have : i = n := by omega
        subst this
        rw [fn]; omega
    · have fm : f (min x y) = min x y := by
        rw [fi _ (by omega), gmin]
        split <;> rfl
      rcases Nat.lt_or_ge i n with c | c
      · rw [fi i c]
        split
        · exact fm
        · rename_i z
          have hl := G.le i c
          rw [fi _ (by omega), G.idem i c, if_neg z]
      · have : i = n := by omega
        subst this
        rw [fn, fm]
  have hcl : ∀ i, i < n → g i = x ∨ g i = y → f i = min x y := fun i hi z => by
    rw [fi i hi]
    rcases z with z | z
    · rw [z]
      split
      · rfl
      · omega
    · rw [z]
      split
      · rfl
      · omega
  have fj : Joins (n + 1) f (Stp p q) := by
    refine ⟨fun a b ha hb s => ?_, fun w hw i hi => ?_⟩
    · rcases Nat.lt_or_ge b n with c | c
      · have hab : a < n := by rcases s with s | s <;> omega
        rw [fi a hab, fi b c, hg.1 a b hab c s]
      · have e : b = n := by omega
        subst e
        rw [fn]
        rcases s with s | s
        · have : a = b - p := by omega
          subst this
          exact hcl _ (by omega) (.inl ex)
        · have : a = b - q := by omega
          subst this
          exact hcl _ (by omega) (.inr ey)
    · have w1 := hg.2 w fun a b ha hb s => hw a b (by omega) (by omega) s
      have e1 : w x = w n := by
        rw [← ex, w1 (n - p) (by omega)]
        exact hw (n - p) n (by omega) (by omega) (.inl (by omega))
      have e2 : w y = w n := by
        rw [← ey, w1 (n - q) (by omega)]
        exact hw (n - q) n (by omega) (by omega) (.inr (by omega))
      have e3 : w (min x y) = w n := by
        rcases Nat.le_total x y with z | z
        · rw [Nat.min_eq_left z]; exact e1
        · rw [Nat.min_eq_right z]; exact e2
      have e4 : w (max x y) = w n := by
        rcases Nat.le_total x y with z | z
        · rw [Nat.max_eq_right z]; exact e2
        · rw [Nat.max_eq_left z]; exact e1
      rcases Nat.lt_or_ge i n with c | c
      · rw [fi i c]
        split
        · rename_i z
          rw [e3, ← e4, ← z, w1 i c]
        · exact w1 i c
      · have : i = n := by omega
        subst this
        rw [fn, e3]
  have hf := grp_uniq F H fj hh
  have hc : cnt h (n + 1) = cnt f (n + 1) := by
    unfold cnt
    refine List.countP_congr fun v hv => ?_
    rw [hf v (List.mem_range.mp hv)]
  rw [hc, cnt_succ]
  have h1 := countP_but (fun v => g v == v) (max x y) (List.range n) List.nodup_range
  have h2 : (List.range n).countP (fun v => (g v == v) && decide (v ≠ max x y)) ≤ cnt f n := by
    unfold cnt
    refine List.countP_mono_left fun v hv h => ?_
    rw [Bool.and_eq_true, decide_eq_true_eq, beq_iff_eq] at h
    rw [beq_iff_eq, fi v (List.mem_range.mp hv), h.1, if_neg h.2]
  unfold cnt at *
  omega
theorem cnt_mid {p q : Nat} (hp : 1 ≤ p) (hpq : p ≤ q) {n : Nat} {g : Nat → Nat} (G : Grp n g) (hg : Joins n g (Stp p q)) (h1 : q ≤ n) (h2 : n + Nat.gcd p q ≤ p + q) (hbig : p + q ≤ 16777216) : cnt g n + n = p + q := by
  have ex : ∀ k, k ≤ 16777216 → ∃ g, Grp k g ∧ Joins k g (Stp p q) := fun k hk => by
    obtain ⟨g, _, a, b⟩ := groups_eq (n := k) (p := p) (q := q) hk
    exact ⟨g, a, b⟩
  have d0 : 0 < Nat.gcd p q := Nat.gcd_pos_of_pos_left _ hp
  -- down from q
  have down : ∀ j g, Grp (q + j) g → Joins (q + j) g (Stp p q) → q + j ≤ 16777216 → p ≤ cnt g (q + j) + j := fun j => by
    induction j with
    | zero =>
      intro g G hg _
      show p ≤ cnt g q + 0
      rw [cnt_start (q := q) G hg hp hpq]
      omega
    | succ j ih =>
      intro g G hg hb
      obtain ⟨g', G', hg'⟩ := ex (q + j) (by omega)
      have h3 := ih g' G' hg' (by omega)
      have h4 := cnt_step hp hpq (by omega) G' hg' G hg
      have e : q + j + 1 = q + (j + 1) := by omega
      rw [e] at h4
      omega
  -- up to the end
  have up : ∀ j k g, k + j + Nat.gcd p q = p + q → q ≤ k → Grp k g → Joins k g (Stp p q) → cnt g k ≤ Nat.gcd p q + j := fun j => by
    induction j with
    | zero =>
      intro k g e hk G hg
      rw [cnt_long G hg hp (by omega) (by omega) hk (by omega)]
      omega
    | succ j ih =>
      intro k g e hk G hg
      obtain ⟨g', G', hg'⟩ := ex (k + 1) (by omega)
      have h3 := ih (k + 1) g' (by omega) (by omega) G' hg'
      have h4 := cnt_step hp hpq hk G hg G' hg'
      omega
  obtain ⟨j, rfl⟩ : ∃ j, n = q + j := ⟨n - q, by omega⟩
  have a := down j g G hg (by omega)
  have b := up (p + q - (q + j) - Nat.gcd p q) (q + j) g (by omega) (by omega) G hg
  omega
end L2.DL.N

/-! heads and wheels: the mirrors that laws share, and what they return -/
namespace L2.DL.N
open PySem PySem.Spec PyProof.Rows
def f_turned (a_word : (List Int)) (a_places : Int) : Option (List Int) :=
 lim ((cut a_word (some a_places) none) ++ (cut a_word none (some a_places)))
def f_is_head (a_word : (List Int)) : Option Bool :=
 Fl.ret ((rangeP (1 : Int) (a_word.length : Int)).bind fun l13 => (forL (T := Unit) (R := Bool) (fun (s4 : Unit) (places_5 : Int) =>
 ((f_turned a_word places_5).bind fun v10 => some (leG v10 a_word)).bind fun b11 => (if b11 = true then
 some (.rt false)
else
 some (.nx ()))) l13 ())) fun (s14 : Unit) =>
 some true
def f_is_least_turned (a_word : (List Int)) : Option Bool :=
 Fl.ret ((rangeP (1 : Int) (a_word.length : Int)).bind fun l13 => (forL (T := Unit) (R := Bool) (fun (s4 : Unit) (places_5 : Int) =>
 ((f_turned a_word places_5).bind fun v10 => some (ltG v10 a_word)).bind fun b11 => (if b11 = true then
 some (.rt false)
else
 some (.nx ()))) l13 ())) fun (s14 : Unit) =>
 some true
def f_word_of (a_letters : Int) (a_length : Int) (a_number : Int) : Option (List Int) :=
 (repP ([(0 : Int)] : (List Int)) a_length).bind fun word_5 =>
 ((rangeP 0 a_length).bind fun l23 => l23.foldlM (fun (s7 : (Int × (List Int))) (at_8 : Int) =>
 ((modP s7.1 a_letters).bind fun v17 => setP s7.2 ((a_length - (1 : Int)) - at_8) v17).bind fun word_18 =>
 (divP s7.1 a_letters).bind fun number_21 =>
 some (number_21, word_18)) (a_number, word_5)).bind fun (s24 : (Int × (List Int))) =>
 some s24.2
def f_all_wheels (a_letters : Int) (a_length : Int) : Option (List (List Int)) :=
 (((f_power a_letters a_length).bind fun v4 => rangeP 0 v4).bind fun v10 => (mapO (fun x5 => f_word_of a_letters a_length x5) v10).bind lim).bind fun words_11 =>
 (compM (fun x12 => f_is_least_turned x12) (fun x12 => some x12) words_11).bind lim
def f_joined_words (a_words : (List (List Int))) : Option (List Int) :=
 (some ([] : (List Int))).bind fun found_1 =>
 (a_words.foldlM (fun (s2 : (List Int)) (word_3 : (List Int)) =>
 (lim (s2 ++ word_3)).bind fun found_6 =>
 some found_6) found_1).bind fun (s9 : (List Int)) =>
 some s9

theorem f_turned_is : f_turned = f_law_turned := rfl
def hd (w : List Int) : Bool := (List.range (w.length - 1)).all fun k => ltG w (rot (k + 1) w)
def ls (w : List Int) : Bool := (List.range (w.length - 1)).all fun k => leG w (rot (k + 1) w)
theorem hd_iff {w : List Int} : hd w = true ↔ ∀ k, 1 ≤ k → k < w.length → ltG w (rot k w) = true := by
  unfold hd
  rw [List.all_eq_true]
  constructor
  · intro h k h0 h1
    have := h (k - 1) (List.mem_range.mpr (by omega))
    rwa [show k - 1 + 1 = k by omega] at this
  · intro h k hk
    have := List.mem_range.mp hk
    exact h (k + 1) (by omega) (by omega)
theorem ls_iff {w : List Int} : ls w = true ↔ lstW w = w := by
  rw [lstW_iff]
  unfold ls
  rw [List.all_eq_true]
  constructor
  · intro h k h1
    rcases Nat.eq_zero_or_pos k with rfl | h0
    · rw [rot_zero]; exact leG_refl w
    · have := h (k - 1) (List.mem_range.mpr (by omega))
      rwa [show k - 1 + 1 = k by omega] at this
  · intro h k hk
    have := List.mem_range.mp hk
    exact h (k + 1) (by omega)
theorem hd_ls {w : List Int} (h : hd w = true) : ls w = true := by
  unfold hd at h
  unfold ls
  rw [List.all_eq_true] at h ⊢
  exact fun k hk => leG_iff.mpr (.inl (h k hk))
theorem range1 {n : Nat} (h : n ≤ 16777216) : rangeP 1 (n : Int) = some ((List.range (n - 1)).map fun k : Nat => ((k + 1 : Nat) : Int)) := by
  rw [rangeP_def, if_pos (by omega)]
  unfold rangeL
  rw [show ((n : Int) - 1).toNat = n - 1 by omega]
  exact congrArg some (List.map_congr_left fun k _ => by omega)
theorem not_le {a b : List Int} : (!leG a b) = ltG b a := by rw [leG_def, Bool.not_not]
theorem f_is_head_eq {w : List Int} (h : w.length ≤ 16777216) : f_is_head w = some (hd w) := by
  unfold f_is_head
  rw [f_turned_is, range1 h, bind_s, ask_loop' (g := fun x : Int => leG (rot x.toNat w) w)]
  · have e : ((List.range (w.length - 1)).map fun k : Nat => ((k + 1 : Nat) : Int)).any (fun x : Int => leG (rot x.toNat w) w) = !hd w := by
      unfold hd
      rw [List.any_map, List.all_eq_not_any_not, Bool.not_not]
      refine congrArg (fun f => List.any (List.range (w.length - 1)) f) (funext fun k => ?_)
      show leG (rot ((k + 1 : Nat) : Int).toNat w) w = !ltG w (rot (k + 1) w)
      rw [Int.toNat_natCast, leG_def]
    rw [e]
    cases hd w with
    | true => rw [not_t, if_ft, ret_nx]
    | false => rw [not_f, if_tt, ret_rt]
  · intro x hx
    obtain ⟨k, _, rfl⟩ := List.mem_map.mp hx
    rw [f_turned_eq h, bind_s, bind_s, Int.toNat_natCast]
theorem f_is_least_eq {w : List Int} (h : w.length ≤ 16777216) : f_is_least_turned w = some (ls w) := by
  unfold f_is_least_turned
  rw [f_turned_is, range1 h, bind_s, ask_loop' (g := fun x : Int => ltG (rot x.toNat w) w)]
  · have e : ((List.range (w.length - 1)).map fun k : Nat => ((k + 1 : Nat) : Int)).any (fun x : Int => ltG (rot x.toNat w) w) = !ls w := by
      unfold ls
      rw [List.any_map, List.all_eq_not_any_not, Bool.not_not]
      refine congrArg (fun f => List.any (List.range (w.length - 1)) f) (funext fun k => ?_)
      show ltG (rot ((k + 1 : Nat) : Int).toNat w) w = !leG w (rot (k + 1) w)
      rw [Int.toNat_natCast, not_le]
    rw [e]
    cases ls w with
    | true => rw [not_t, if_ft, ret_nx]
    | false => rw [not_f, if_tt, ret_rt]
  · intro x hx
    obtain ⟨k, _, rfl⟩ := List.mem_map.mp hx
    rw [f_turned_eq h, bind_s, bind_s, Int.toNat_natCast]
theorem f_law_is_head_eq {w : List Int} (h : w.length ≤ 16777216) : f_law_is_head w = some (hd w) := by
  unfold f_law_is_head
  rw [range1 h, bind_s, compM_some (q := fun x : Int => leG (rot x.toNat w) w) (g := fun x => x), bind_s, List.map_id', lim_of (Nat.le_trans (List.length_filter_le _ _) (by rw [List.length_map, List.length_range]; omega)), bind_s, eqD_ints]
  · congr 1
    unfold hd
    rw [Bool.eq_iff_iff, decide_eq_true_eq, List.filter_eq_nil_iff, List.all_eq_true]
    constructor
    · intro q k hk
      have := q _ (List.mem_map_of_mem (f := fun k : Nat => ((k + 1 : Nat) : Int)) hk)
      rw [Int.toNat_natCast, leG_def] at this
      simpa using this
    · intro q x hx
      obtain ⟨k, hk, rfl⟩ := List.mem_map.mp hx
      have := q k hk
      rw [Int.toNat_natCast, leG_def, this]
      decide
  · intro x hx
    obtain ⟨k, _, rfl⟩ := List.mem_map.mp hx
    rw [f_turned_eq h, bind_s, Int.toNat_natCast]
  · intro x _
    rfl
/-! the words by numbers -/
def dig (x : Nat) : Nat → Nat → List Int
  | 0, _ => []
  | n + 1, m => dig x n (m / x) ++ [((m % x : Nat) : Int)]
theorem dig_succ (x n m : Nat) : dig x (n + 1) m = dig x n (m / x) ++ [((m % x : Nat) : Int)] := rfl
theorem dig_len (x : Nat) : ∀ n m, (dig x n m).length = n
  | 0, _ => rfl
  | n + 1, m => by unfold dig; rw [List.length_append, dig_len x n, List.length_singleton]
theorem range_mul {β : Type} (x : Nat) (f : Nat → β) : ∀ N, (List.range (N * x)).map f = (List.range N).flatMap fun q => (List.range x).map fun r => f (q * x + r)
  | 0 => by rw [Nat.zero_mul]; rfl
  | N + 1 => by
    rw [Nat.succ_mul, List.range_add, List.map_append, range_mul x f N, List.range_succ, List.flatMap_append, List.map_map]
    congr 1
    rw [List.flatMap_cons, List.flatMap_nil, List.append_nil]
    rfl
theorem aw_dig {x : Nat} (h : 1 ≤ x) : ∀ n, aw x n = (List.range (x ^ n)).map (dig x n)
  | 0 => rfl
  | n + 1 => by
    rw [Nat.pow_succ, range_mul]
    unfold aw
    rw [aw_dig h n, List.flatMap_map]
    refine congrArg (fun f => List.flatMap f (List.range (x ^ n))) (funext fun q => ?_)
    unfold nats
    rw [List.map_map]
    refine List.map_congr_left fun r hr => ?_
    have hr := List.mem_range.mp hr
    show dig x n q ++ [((r : Nat) : Int)] = dig x n ((q * x + r) / x) ++ [(((q * x + r) % x : Nat) : Int)]
    rw [Nat.mul_comm q x, Nat.mul_add_div (by omega), Nat.div_eq_of_lt hr, Nat.add_zero, Nat.mul_add_mod, Nat.mod_eq_of_lt hr]
theorem set_rep {v : Int} {T : List Int} : ∀ k, (List.replicate (k + 1) (0 : Int) ++ T).set k v = List.replicate k 0 ++ v :: T
  | 0 => rfl
  | k + 1 => by
    rw [List.replicate_succ, List.cons_append, List.set_cons_succ, set_rep k, List.replicate_succ, List.cons_append]
theorem f_word_of_eq {x n m : Nat} (hx : 1 ≤ x) (hx2 : x ≤ 2 ^ 60) (hn : n ≤ 1000000) : f_word_of x n m = some (dig x n m) := by
  refine Rets.get ?_
  unfold f_word_of
  have e0 : repP ([(0 : Int)] : (List Int)) (n : Int) = some (List.replicate n 0) := by
    rw [repP_def, if_pos ⟨by omega, by omega, by rw [List.length_singleton]; omega⟩, Int.toNat_natCast]
    congr 1
    simp
  rw [e0, bind_s]
  refine .bind (Rets.range (fun t (s : Int × List Int) => ∃ (m' : Nat) (T : List Int), s.1 = (m' : Int) ∧ s.2 = List.replicate (n - t) 0 ++ T ∧ dig x n m = dig x (n - t) m' ++ T) (by omega) (by omega) ⟨m, [], rfl, by rw [Nat.sub_zero, List.append_nil], by rw [Nat.sub_zero, List.append_nil]⟩ ?_) ?_
  · rintro t ⟨_, _⟩ ht ⟨m', T, rfl, rfl, h⟩
    have ht : t < n := by omega
    obtain ⟨k, hk⟩ : ∃ k, n - t = k + 1 := ⟨n - t - 1, by omega⟩
    rw [hk] at h ⊢
    have e1 : setP (List.replicate (k + 1) (0 : Int) ++ T) (((n : Int) - (1 : Int)) - (t : Int)) (((m' : Int) % (x : Int))) = some (List.replicate k 0 ++ ((m' : Int) % (x : Int)) :: T) := by
      rw [show ((n : Int) - (1 : Int)) - (t : Int) = ((k : Nat) : Int) by omega]
      unfold setP ixN
      rw [if_pos (by omega), if_pos (by rw [List.length_append, List.length_replicate]; omega), map_s, Int.toNat_natCast, set_rep]
    simp only
    rw [modP_of (by omega), bind_s, e1, bind_s, divP_of (by omega) (by omega), bind_s]
    refine .pure ⟨m' / x, ((m' % x : Nat) : Int) :: T, by show (m' : Int) / (x : Int) = _; rw [Int.natCast_ediv], by
      show List.replicate k 0 ++ ((m' : Int) % (x : Int)) :: T = _
      rw [show n - (t + 1) = k by omega, Int.natCast_emod], ?_⟩
    rw [h, show n - (t + 1) = k by omega, dig_succ, List.append_assoc]
    rfl
  · rintro ⟨_, _⟩ ⟨m', T, rfl, rfl, h⟩
    refine .pure ?_
    rw [Int.toNat_natCast, Nat.sub_self] at h ⊢
    exact h.symm
theorem power_eq {x k : Nat} (hx : x ≤ 10000) (hk : k ≤ 100) : f_power x k = some ((x ^ k : Nat) : Int) := by
  have big : ∀ j, j ≤ 100 → ((x ^ j : Nat) : Int).natAbs < 2 ^ 2000 := fun j hj => by
    rw [Int.natAbs_natCast]
    have h1 : x ^ j ≤ 10000 ^ j := Nat.pow_le_pow_left hx j
    have h2 : 10000 ^ j ≤ 10000 ^ 100 := Nat.pow_le_pow_right (by decide) hj
    have h3 : 10000 ^ 100 ≤ (2 ^ 14) ^ 100 := Nat.pow_le_pow_left (by decide) 100
    have h4 : (2 ^ 14) ^ 100 = 2 ^ 1400 := (Nat.pow_mul 2 14 100).symm
    have h5 : 2 ^ 1400 < 2 ^ 2000 := Nat.pow_lt_pow_right (by decide) (by decide)
    exact Nat.lt_of_le_of_lt (Nat.le_trans h1 (Nat.le_trans h2 h3)) (by rw [h4]; exact h5)
  refine Rets.get ?_
  unfold f_power
  refine .some (.bind (Rets.range (fun j (s : Int) => s = ((x ^ j : Nat) : Int)) (by omega) (by omega) rfl ?_) fun s hs => .pure (by rw [hs, Int.toNat_natCast]))
  rintro j _ hj rfl
  rw [mulP_big (big j (by omega)) (small_big (by omega)), bind_s]
  exact .pure (by rw [Nat.pow_succ, Int.natCast_mul])
theorem filt_words {p : List Int → Option Bool} {q : List Int → Bool} {l : List (List Int)} (hl : l.length ≤ 16777216) (h : ∀ w ∈ l, p w = some (q w)) : (compM (fun x => p x) (fun x => some x) l).bind lim = some (l.filter q) := by
  rw [compM_some (q := q) (g := fun x => x) h fun _ _ => rfl, bind_s, List.map_id', lim_of (Nat.le_trans (List.length_filter_le _ _) hl)]
theorem f_all_wheels_eq {x n : Nat} (hx : 1 ≤ x) (hx2 : x ≤ 10000) (hn : n ≤ 100) (h : x ^ n ≤ 16777216) : f_all_wheels x n = some ((aw x n).filter ls) := by
  unfold f_all_wheels
  have e : (mapO (fun x5 => f_word_of (x : Int) (n : Int) x5) (nats (x ^ n))) = some (aw x n) := by
    rw [mapO_some (g := fun m => dig x n m.toNat)]
    · rw [aw_dig hx]
      unfold nats
      rw [List.map_map]
      rfl
    · intro m hm
      have hm := mem_nats hm
      obtain ⟨k, rfl⟩ := Int.eq_ofNat_of_zero_le hm.1
      rw [f_word_of_eq hx (by omega) (by omega), Int.toNat_natCast]
  rw [power_eq hx2 hn, bind_s, rangeP_nats (by omega), bind_s, e, bind_s, lim_of (by rw [aw_len]; exact h), bind_s]
  refine filt_words (by rw [aw_len]; exact h) fun w hw => f_is_least_eq ?_
  rw [(aw_mem.mp hw).1]
  omega
theorem f_joined_eq {l : List (List Int)} (h : l.flatten.length ≤ 16777216) : f_joined_words l = some l.flatten := by
  unfold f_joined_words
  have e : l.flatMap (fun w => w) = l.flatten := by rw [List.flatMap_def, List.map_id']
  rw [bind_s, flat_loop (g := fun w => w), bind_s, List.nil_append, e]
  · rw [e, List.length_nil]; omega
  · intro s w _ hl
    rw [lim_of (by rw [List.length_append]; exact hl), bind_s]
/-! ### by plain numbers, for the kernel -/
def cz (w : List Nat) : List Int := w.map fun k : Nat => (k : Int)
def ltN : List Nat → List Nat → Bool
  | [], [] => false
  | [], _ :: _ => true
  | _ :: _, [] => false
  | x :: xs, y :: ys => match Nat.beq x y with | true => ltN xs ys | false => Nat.blt x y
theorem blt_iff {x y : Nat} : Nat.blt x y = decide (x < y) := by
  unfold Nat.blt
  rw [Bool.eq_iff_iff, Nat.ble_eq, decide_eq_true_eq]
  exact Iff.rfl
theorem ltN_cons (x y : Nat) (xs ys : List Nat) : ltN (x :: xs) (y :: ys) = match Nat.beq x y with | true => ltN xs ys | false => Nat.blt x y := rfl
theorem ltN_cz : ∀ a b : List Nat, ltG (cz a) (cz b) = ltN a b
  | [], [] => rfl
  | [], _ :: _ => rfl
  | _ :: _, [] => rfl
  | x :: xs, y :: ys => by
    show ltG ((x : Int) :: cz xs) ((y : Int) :: cz ys) = _
    rw [ltG_cons, ltN_cz xs ys, ltN_cons]
    by_cases e : x = y
    · subst e
      rw [if_pos rfl, show Nat.beq x x = true from Nat.beq_refl x]
    · rw [if_neg (by omega), show Nat.beq x y = false from by
        cases h : Nat.beq x y with
        | false => rfl
        | true => exact absurd (Nat.eq_of_beq_eq_true h) e]
      show decide ((x : Int) < (y : Int)) = Nat.blt x y
      rw [blt_iff, decide_eq_decide]
      omega
def rotN (k : Nat) (l : List Nat) : List Nat := l.drop k ++ l.take k
theorem rotN_cz (k : Nat) (w : List Nat) : rot k (cz w) = cz (rotN k w) := by unfold rot rotN cz; rw [List.map_append, List.map_drop, List.map_take]
def hdN (w : List Nat) : Bool := (List.range (w.length - 1)).all fun k => ltN w (rotN (k + 1) w)
theorem cz_len (w : List Nat) : (cz w).length = w.length := by unfold cz; rw [List.length_map]
theorem hdN_cz (w : List Nat) : hd (cz w) = hdN w := by
  unfold hd hdN
  rw [cz_len]
  refine congrArg (fun f => List.all (List.range (w.length - 1)) f) (funext fun k => ?_)
  rw [rotN_cz, ltN_cz]
def lsN (w : List Nat) : Bool := (List.range (w.length - 1)).all fun k => !ltN (rotN (k + 1) w) w
theorem lsN_cz (w : List Nat) : ls (cz w) = lsN w := by
  unfold ls lsN
  rw [cz_len]
  refine congrArg (fun f => List.all (List.range (w.length - 1)) f) (funext fun k => ?_)
  rw [rotN_cz, leG_def, ltN_cz]
def awN (x : Nat) : Nat → List (List Nat)
  | 0 => [[]]
  | n + 1 => (awN x n).flatMap fun w => (List.range x).map fun j => w ++ [j]
theorem awN_cz (x : Nat) : ∀ n, aw x n = (awN x n).map cz
  | 0 => rfl
  | n + 1 => by
    unfold aw awN
    rw [awN_cz x n, List.flatMap_map, List.map_flatMap]
    refine congrArg (fun f => List.flatMap f (awN x n)) (funext fun w => ?_)
    unfold nats
    rw [List.map_map, List.map_map]
    refine List.map_congr_left fun j _ => ?_
    show cz w ++ [(j : Int)] = cz (w ++ [j])
    unfold cz
    rw [List.map_append]
    rfl
theorem filter_cz {p : List Int → Bool} {q : List Nat → Bool} (h : ∀ w, p (cz w) = q w) (l : List (List Nat)) : (l.map cz).filter p = (l.filter q).map cz := by
  rw [List.filter_map]
  congr 1
  exact List.filter_congr fun w _ => h w
def mergeN : Nat → List (List Nat) → List (List Nat) → List (List Nat)
  | 0, _, _ => []
  | f + 1, [], r => r
  | f + 1, l, [] => l
  | f + 1, a :: l, b :: r => match ltN b a with | true => b :: mergeN f (a :: l) r | false => a :: mergeN f l (b :: r)
def Asc (l : List (List Nat)) : Prop := l.Pairwise fun a b => leG (cz a) (cz b) = true
theorem mergeN_spec : ∀ (f : Nat) (l r : List (List Nat)), l.length + r.length < f → Asc l → Asc r → (mergeN f l r).Perm (l ++ r) ∧ Asc (mergeN f l r)
  | 0, l, r, h, _, _ => by omega
  | f + 1, [], r, _, _, hr => by unfold mergeN; exact ⟨.refl _, hr⟩
  | f + 1, a :: l, [], _, hl, _ => by unfold mergeN; exact ⟨by rw [List.append_nil], hl⟩
  | f + 1, a :: l, b :: r, h, hl, hr => by
    rw [List.length_cons, List.length_cons] at h
    obtain ⟨l1, l2⟩ := List.pairwise_cons.mp hl
    obtain ⟨r1, r2⟩ := List.pairwise_cons.mp hr
    unfold mergeN
    cases e : ltN b a with
    | true =>
      have hba : leG (cz b) (cz a) = true := leG_iff.mpr (.inl (by rw [ltN_cz]; exact e))
      obtain ⟨p, q⟩ := mergeN_spec f (a :: l) r (by rw [List.length_cons]; omega) hl r2
      refine ⟨(p.cons b).trans List.perm_middle.symm, List.pairwise_cons.mpr ⟨fun c hc => ?_, q⟩⟩
      rcases List.mem_append.mp (p.subset hc) with h' | h'
      · rcases List.mem_cons.mp h' with rfl | h'
        · exact hba
        · exact leG_trans hba (l1 c h')
      · exact r1 c h'
    | false =>
      have hab : leG (cz a) (cz b) = true := by rw [leG_def, ltN_cz, e]; rfl
      obtain ⟨p, q⟩ := mergeN_spec f l (b :: r) (by rw [List.length_cons]; omega) l2 hr
      refine ⟨p.cons a, List.pairwise_cons.mpr ⟨fun c hc => ?_, q⟩⟩
      rcases List.mem_append.mp (p.subset hc) with h' | h'
      · exact l1 c h'
      · rcases List.mem_cons.mp h' with rfl | h'
        · exact hab
        · exact leG_trans hab (r1 c h')
def mergeAll (L : List (List (List Nat))) (s : List (List Nat)) : List (List Nat) := L.foldl (fun s r => mergeN (s.length + r.length + 1) s r) s
theorem mergeAll_spec : ∀ (L : List (List (List Nat))) (s : List (List Nat)), Asc s → (∀ r ∈ L, Asc r) → (mergeAll L s).Perm (s ++ L.flatten) ∧ Asc (mergeAll L s)
  | [], s, hs, _ => ⟨by rw [List.flatten_nil, List.append_nil]; exact .refl _, hs⟩
  | r :: L, s, hs, hL => by
    obtain ⟨p, q⟩ := mergeN_spec (s.length + r.length + 1) s r (by omega) hs (hL r List.mem_cons_self)
    obtain ⟨p2, q2⟩ := mergeAll_spec L (mergeN (s.length + r.length + 1) s r) q fun y hy => hL y (List.mem_cons_of_mem _ hy)
    refine ⟨?_, q2⟩
    rw [List.flatten_cons, ← List.append_assoc]
    exact p2.trans (p.append_right _)
def dvN (n : Nat) : List Nat := (dv n).map Int.toNat
def headsN (x n : Nat) : List (List Nat) := mergeAll ((dvN n).map fun d => (awN x d).filter hdN) []
def heads (x n : Nat) : List (List Int) := (dvN n).flatMap fun d => (aw x d).filter hd
theorem awN_asc (x n : Nat) (q : List Nat → Bool) : Asc ((awN x n).filter q) := by
  have h := aw_pw x n
  rw [awN_cz, List.pairwise_map] at h
  exact (h.filter q).imp fun h => leG_iff.mpr (.inl h)
theorem heads_sort (x n : Nat) : sortG (heads x n) = (headsN x n).map cz := by
  obtain ⟨p, q⟩ := mergeAll_spec ((dvN n).map fun d => (awN x d).filter hdN) [] List.Pairwise.nil fun r hr => by
    obtain ⟨d, _, rfl⟩ := List.mem_map.mp hr
    exact awN_asc x d hdN
  refine sortG_uniq ?_ ?_
  · have e : heads x n = (((dvN n).map fun d => (awN x d).filter hdN).flatten).map cz := by
      unfold heads
      rw [List.map_flatten, List.map_map, List.flatMap_def]
      congr 1
      refine List.map_congr_left fun d _ => ?_
      rw [awN_cz, filter_cz hdN_cz]
      rfl
    rw [e]
    exact p.map cz
  · rw [List.pairwise_map]
    exact q
theorem awN_mem {x n : Nat} {w : List Nat} (h : w ∈ awN x n) : w.length = n ∧ ∀ y ∈ w, y < x := by
  have h2 : cz w ∈ aw x n := by rw [awN_cz]; exact List.mem_map_of_mem h
  obtain ⟨h3, h4⟩ := aw_mem.mp h2
  refine ⟨by rwa [cz_len] at h3, fun y hy => ?_⟩
  have := h4 _ (List.mem_map_of_mem (f := fun k : Nat => (k : Int)) hy)
  omega
theorem headsN_lt {x n : Nat} {w : List Nat} (h : w ∈ headsN x n) : ∀ y ∈ w, y < x := by
  obtain ⟨p, _⟩ := mergeAll_spec ((dvN n).map fun d => (awN x d).filter hdN) [] List.Pairwise.nil fun r hr => by
    obtain ⟨d, _, rfl⟩ := List.mem_map.mp hr
    exact awN_asc x d hdN
  have h2 := p.subset h
  rw [List.nil_append] at h2
  obtain ⟨r, hr, hw⟩ := List.mem_flatten.mp h2
  obtain ⟨d, _, rfl⟩ := List.mem_map.mp hr
  exact (awN_mem (List.mem_filter.mp hw).1).2
theorem perm_of_subset {α : Type} [DecidableEq α] : ∀ {l r : List α}, l.Nodup → (∀ x ∈ l, x ∈ r) → r.length ≤ l.length → l.Perm r
  | [], r, _, _, hl => by
    rw [List.length_eq_zero_iff.mp (Nat.le_zero.mp hl)]
  | x :: l, r, hn, hs, hl => by
    obtain ⟨n1, n2⟩ := List.nodup_cons.mp hn
    have hx := hs x List.mem_cons_self
    have p := List.perm_cons_erase hx
    refine ((perm_of_subset n2 (fun y hy => ?_) ?_).cons x).trans p.symm
    · exact (List.mem_erase_of_ne fun e => n1 (by rw [← e]; exact hy)).mpr (hs y (List.mem_cons_of_mem _ hy))
    · have := p.length_eq
      rw [List.length_cons] at this hl
      omega
/-! turns of turns -/
theorem rot_get {l : List Int} {k i : Nat} (hk : k ≤ l.length) (hi : i < l.length) : (rot k l)[i]'(by rw [rot_len]; exact hi) = l[(i + k) % l.length]'(Nat.mod_lt _ (by omega)) := by
  have h1 : (rot k l)[i]? = l[(i + k) % l.length]? := by
    unfold rot
    rcases Nat.lt_or_ge i (l.length - k) with h | h
    · rw [List.getElem?_append_left (by rw [List.length_drop]; exact h), List.getElem?_drop, Nat.mod_eq_of_lt (by omega), Nat.add_comm]
    · rw [List.getElem?_append_right (by rw [List.length_drop]; exact h), List.length_drop, List.getElem?_take, if_pos (by omega), Nat.mod_eq_sub_mod (by omega), Nat.mod_eq_of_lt (by omega)]
      congr 1
      omega
  rw [List.getElem?_eq_getElem (by rw [rot_len]; exact hi), List.getElem?_eq_getElem (Nat.mod_lt _ (by omega))] at h1
  exact Option.some.inj h1
theorem rot_rot {l : List Int} {j k : Nat} (hj : j ≤ l.length) (hk : k ≤ l.length) : rot k (rot j l) = rot ((j + k) % l.length) l := by
  refine List.ext_getElem (by rw [rot_len, rot_len, rot_len]) fun i h1 h2 => ?_
  rw [rot_len, rot_len] at h1
  have hm : (j + k) % l.length ≤ l.length := Nat.le_of_lt (Nat.mod_lt _ (by omega))
  rw [rot_get (by rw [rot_len]; exact hk) (by rw [rot_len]; exact h1), rot_get hj (by rw [rot_len]; exact Nat.mod_lt _ (by omega)), rot_get hm h1]
  congr 1
  rw [rot_len, Nat.mod_add_mod, Nat.add_mod_mod]
  congr 1
  omega
theorem rot_all {l : List Int} : rot l.length l = l := by unfold rot; rw [List.drop_length, List.take_length, List.nil_append]
theorem lst_is_rot (w : List Int) : ∃ k, k ≤ w.length ∧ lstW w = rot k w := by
  obtain ⟨_, h, _⟩ := minG_rots w
  obtain ⟨k, hk, e⟩ := List.mem_map.mp h
  have hk := List.mem_range.mp hk
  exact ⟨k, by omega, e.symm⟩
theorem lst_len (w : List Int) : (lstW w).length = w.length := by
  obtain ⟨k, _, e⟩ := lst_is_rot w
  rw [e, rot_len]
theorem lst_mem {w : List Int} {y : Int} (h : y ∈ lstW w) : y ∈ w := by
  obtain ⟨k, _, e⟩ := lst_is_rot w
  rw [e] at h
  exact rot_mem h
theorem lst_le {w : List Int} {k : Nat} (h : k ≤ w.length) : leG (lstW w) (rot k w) = true := by
  obtain ⟨_, _, h2⟩ := minG_rots w
  rcases Nat.lt_or_ge k w.length with h1 | h1
  · exact h2 _ (mem_rots h1)
  · have : k = w.length := by omega
    rw [this, rot_all]
    exact h2 _ (self_rots w)
theorem lst_rot {w : List Int} {k : Nat} (h : k ≤ w.length) : lstW (rot k w) = lstW w := by
  rcases Nat.eq_zero_or_pos w.length with h0 | h0
  · have e : w = [] := List.length_eq_zero_iff.mp h0
    subst e
    have : k = 0 := by simpa using h
    rw [this, rot_zero]
  · refine leG_anti ?_ ?_
    · obtain ⟨j, hj, e⟩ := lst_is_rot w
      -- rot j w is a turn of rot k w
      have h1 : rot j w = rot ((w.length - k + j) % w.length) (rot k w) := by
        have hm := Nat.mod_lt (w.length - k + j) h0
        rw [rot_rot h (by omega)]
        rcases Nat.lt_or_ge j w.length with q | q
        · congr 1
          rw [Nat.add_mod_mod, show k + (w.length - k + j) = j + w.length by omega, Nat.add_mod_right, Nat.mod_eq_of_lt q]
        · have : j = w.length := by omega
          subst this
          rw [rot_all, Nat.add_mod_mod, show k + (w.length - k + w.length) = w.length + w.length by omega, Nat.add_mod_right, Nat.mod_self, rot_zero]
      rw [e, h1]
      exact lst_le (by rw [rot_len]; exact Nat.le_of_lt (Nat.mod_lt _ h0))
    · obtain ⟨j, hj, e⟩ := lst_is_rot (rot k w)
      rw [rot_len] at hj
      rw [e, rot_rot h hj]
      exact lst_le (Nat.le_of_lt (Nat.mod_lt _ h0))
theorem ls_lst (w : List Int) : ls (lstW w) = true := by
  obtain ⟨k, hk, e⟩ := lst_is_rot w
  rw [ls_iff]
  conv => lhs; rw [e]
  exact lst_rot hk
end L2.DL.N

/-! words that are less than their ends: heads, and how a word is made of them -/
namespace L2.DL.N
open PySem PySem.Spec PyProof.Rows
/-- they differ at a place of both, the first one less -/
def Sl (a b : List Int) : Prop := ∃ i, i < a.length ∧ i < b.length ∧ (∀ j, j < i → a.getD j 0 = b.getD j 0) ∧ a.getD i 0 < b.getD i 0
/-- the first one is a beginning of the other -/
def Pre (a b : List Int) : Prop := a.length ≤ b.length ∧ ∀ j, j < a.length → a.getD j 0 = b.getD j 0
theorem getD_z {x : Int} {l : List Int} : (x :: l).getD 0 0 = x := rfl
theorem getD_s {x : Int} {l : List Int} {j : Nat} : (x :: l).getD (j + 1) 0 = l.getD j 0 := rfl
theorem ltG_first : ∀ {a b : List Int}, ltG a b = true ↔ Sl a b ∨ (a.length < b.length ∧ Pre a b)
  | [], [] => by
    constructor
    · intro h; cases h
    · rintro (⟨i, h, _⟩ | ⟨h, _⟩)
      · cases h
      · cases h
  | [], y :: ys => by
    constructor
    · intro _
      exact .inr ⟨by simp, by simp, fun j h => by cases h⟩
    · intro _; rfl
  | x :: xs, [] => by
    constructor
    · intro h; cases h
    · rintro (⟨i, _, h, _⟩ | ⟨h, _⟩)
      · cases h
      · cases h
  | x :: xs, y :: ys => by
    rw [ltG_cons]
    by_cases e : x = y
    · subst e
      rw [if_pos rfl, ltG_first (a := xs) (b := ys)]
      constructor
      · rintro (⟨i, h1, h2, h3, h4⟩ | ⟨h1, h2, h3⟩)
        · refine .inl ⟨i + 1, by simpa using h1, by simpa using h2, fun j hj => ?_, by rw [getD_s, getD_s]; exact h4⟩
          cases j with
          | zero => rfl
          | succ j => rw [getD_s, getD_s]; exact h3 j (by omega)
        · refine .inr ⟨by simpa using h1, by simpa using h2, fun j hj => ?_⟩
          cases j with
          | zero => rfl
          | succ j => rw [getD_s, getD_s]; exact h3 j (by simpa using hj)
      · rintro (⟨i, h1, h2, h3, h4⟩ | ⟨h1, h2, h3⟩)
        · cases i with
          | zero => rw [getD_z, getD_z] at h4; omega
          | succ i =>
            rw [getD_s, getD_s] at h4
            refine .inl ⟨i, by simpa using h1, by simpa using h2, fun j hj => ?_, h4⟩
            have := h3 (j + 1) (by omega)
            rwa [getD_s, getD_s] at this
        · refine .inr ⟨by simpa using h1, by simpa using h2, fun j hj => ?_⟩
          have := h3 (j + 1) (by simpa using hj)
          rwa [getD_s, getD_s] at this
    · rw [if_neg e, decide_eq_true_eq]
      constructor
      · intro h
        exact .inl ⟨0, by simp, by simp, fun j hj => absurd hj (Nat.not_lt_zero j), by rw [getD_z, getD_z]; exact h⟩
      · rintro (⟨i, h1, h2, h3, h4⟩ | ⟨h1, h2, h3⟩)
        · cases i with
          | zero => rw [getD_z, getD_z] at h4; exact h4
          | succ i =>
            have := h3 0 (by omega)
            rw [getD_z, getD_z] at this
            exact absurd this e
        · have := h3 0 (by simp)
          rw [getD_z, getD_z] at this
          exact absurd this e
theorem getD_left {a u : List Int} {j : Nat} (h : j < a.length) : (a ++ u).getD j 0 = a.getD j 0 := by
  rw [List.getD_eq_getElem?_getD, List.getElem?_append_left h, ← List.getD_eq_getElem?_getD]
theorem Sl.more {a b : List Int} (h : Sl a b) (u v : List Int) : Sl (a ++ u) (b ++ v) := by
  obtain ⟨i, h1, h2, h3, h4⟩ := h
  refine ⟨i, by rw [List.length_append]; omega, by rw [List.length_append]; omega, fun j hj => ?_, ?_⟩
  · rw [getD_left (by omega), getD_left (by omega)]
    exact h3 j hj
  · rw [getD_left h1, getD_left h2]
    exact h4
theorem Sl.lt {a b : List Int} (h : Sl a b) : ltG a b = true := ltG_first.mpr (.inl h)
theorem getD_drop {w : List Int} {k j : Nat} : (w.drop k).getD j 0 = w.getD (k + j) 0 := by
  rw [List.getD_eq_getElem?_getD, List.getElem?_drop, ← List.getD_eq_getElem?_getD]
theorem getD_take {w : List Int} {k j : Nat} (h : j < k) : (w.take k).getD j 0 = w.getD j 0 := by
  rw [List.getD_eq_getElem?_getD, List.getElem?_take, if_pos h, ← List.getD_eq_getElem?_getD]
theorem ext_getD {v w : List Int} (hl : v.length = w.length) (h : ∀ i, i < w.length → v.getD i 0 = w.getD i 0) : v = w := by
  refine List.ext_getElem hl fun i h1 h2 => ?_
  have := h i h2
  rwa [List.getD_eq_getElem?_getD, List.getElem?_eq_getElem h1, Option.getD_some, List.getD_eq_getElem?_getD, List.getElem?_eq_getElem h2, Option.getD_some] at this
theorem Pre.eq {a b : List Int} (h : Pre a b) : b = a ++ b.drop a.length := by
  obtain ⟨h1, h2⟩ := h
  have : b.take a.length = a := ext_getD (by rw [List.length_take]; omega) fun i hi => by rw [getD_take hi, h2 i hi]
  conv => lhs; rw [← List.take_append_drop a.length b, this]
theorem Pre.le {a b : List Int} (h : Pre a b) : leG a b = true := by
  rcases Nat.lt_or_ge a.length b.length with q | q
  · exact leG_iff.mpr (.inl (ltG_first.mpr (.inr ⟨q, h⟩)))
  · exact leG_iff.mpr (.inr (ext_getD (Nat.le_antisymm h.1 q) fun i hi => h.2 i (by omega)))
theorem pre_app (a u : List Int) : Pre a (a ++ u) := ⟨by rw [List.length_append]; omega, fun j hj => (getD_left hj).symm⟩
/-- less than each of its ends -/
def Ly (w : List Int) : Prop := w ≠ [] ∧ ∀ k, 1 ≤ k → k < w.length → ltG w (w.drop k) = true
theorem hd_Ly {w : List Int} (h0 : w ≠ []) : hd w = true ↔ Ly w := by
  rw [hd_iff]
  constructor
  · intro h
    refine ⟨h0, fun k k0 k1 => ?_⟩
    have hr := h k k0 k1
    rcases ltG_tri w (w.drop k) with q | q | q
    · exact q
    · have := congrArg List.length q
      rw [List.length_drop] at this
      omega
    · exfalso
      rcases ltG_first.mp q with s | ⟨_, p⟩
      · have h1 := (s.more (w.take k) []).lt
        rw [List.append_nil] at h1
        have h2 := ltG_asy h1
        unfold rot at hr
        rw [hr] at h2
        cases h2
      · have e := p.eq
        rw [List.length_drop] at e
        -- w = drop k ++ z = take k ++ drop k
        have e1 : ltG (w.drop (w.length - k)) (w.take k) = true := by
          have h3 := hr
          unfold rot at h3
          rw [show ltG w (w.drop k ++ w.take k) = ltG (w.drop k ++ w.drop (w.length - k)) (w.drop k ++ w.take k) by rw [← e], ltG_app] at h3
          exact h3
        have h4 := h (w.length - k) (by omega) (by omega)
        have e2 : w.take (w.length - k) = w.drop k := by
          have h5 : (w.drop k ++ w.drop (w.length - k)).take (w.drop k).length = w.drop k := List.take_left
          rwa [← e, List.length_drop] at h5
        unfold rot at h4
        rw [e2] at h4
        have e3 := ltG_more (w.drop k) (w.drop k) (by rw [List.length_drop, List.length_take]; omega) e1
        rw [List.take_append_drop] at e3
        rw [ltG_asy e3] at h4
        cases h4
  · rintro ⟨_, h⟩ k k0 k1
    rcases ltG_first.mp (h k k0 k1) with s | ⟨p, _⟩
    · have := (s.more [] (w.take k)).lt
      rwa [List.append_nil] at this
    · rw [List.length_drop] at p
      omega
/-! ### one way only -/
theorem suffix_ex : ∀ {G : List (List Int)} {y : List Int}, y ≠ [] → Pre y G.flatten → ∃ x z g, y = z ++ x ∧ x ≠ [] ∧ g ∈ G ∧ Pre x g
  | [], y, h, p => by
    exact absurd (List.length_eq_zero_iff.mp (Nat.le_zero.mp p.1)) h
  | g :: G, y, h, p => by
    rw [List.flatten_cons] at p
    rcases Nat.lt_or_ge g.length y.length with q | q
    · -- y = g ++ y'
      have e1 : y.take g.length = g := ext_getD (by rw [List.length_take]; omega) fun i hi => by
        rw [getD_take hi, p.2 i (by omega), getD_left hi]
      have p2 : Pre (y.drop g.length) G.flatten := by
        refine ⟨?_, fun j hj => ?_⟩
        · have := p.1
          rw [List.length_append] at this
          rw [List.length_drop]
          omega
        · rw [List.length_drop] at hj
          rw [getD_drop, p.2 _ (by omega), List.getD_eq_getElem?_getD, List.getElem?_append_right (by omega), ← List.getD_eq_getElem?_getD, Nat.add_sub_cancel_left]
      have hne : y.drop g.length ≠ [] := fun e => by
        have := congrArg List.length e
        rw [List.length_drop, List.length_nil] at this
        omega
      obtain ⟨x, z, g2, e2, x0, m, px⟩ := suffix_ex hne p2
      refine ⟨x, g ++ z, g2, ?_, x0, List.mem_cons_of_mem _ m, px⟩
      rw [List.append_assoc, ← e2]
      conv => lhs; rw [← List.take_append_drop g.length y, e1]
    · exact ⟨y, [], g, rfl, h, List.mem_cons_self, q, fun j hj => by rw [p.2 j hj, getD_left (by omega)]⟩
/-- heads, none less than the next -/
def Fac (G : List (List Int)) : Prop := (∀ g ∈ G, Ly g) ∧ G.Pairwise fun a b => leG b a = true
theorem Fac.tail {g : List Int} {G : List (List Int)} (h : Fac (g :: G)) : Fac G := ⟨fun x hx => h.1 x (List.mem_cons_of_mem _ hx), (List.pairwise_cons.mp h.2).2⟩
theorem no_longer {h g : List Int} {G : List (List Int)} (hh : Ly h) (hG : Fac (g :: G)) (p : Pre h (g :: G).flatten) (hl : g.length < h.length) : False := by
  obtain ⟨g0, g1⟩ := hG.1 g List.mem_cons_self
  have gl : 0 < g.length := List.length_pos_iff.mpr g0
  rw [List.flatten_cons] at p
  have e1 : h.take g.length = g := ext_getD (by rw [List.length_take]; omega) fun i hi => by
    rw [getD_take hi, p.2 i (by omega), getD_left hi]
  have p2 : Pre (h.drop g.length) G.flatten := by
    refine ⟨?_, fun j hj => ?_⟩
    · have := p.1
      rw [List.length_append] at this
      rw [List.length_drop]
      omega
    · rw [List.length_drop] at hj
      rw [getD_drop, p.2 _ (by omega), List.getD_eq_getElem?_getD, List.getElem?_append_right (by omega), ← List.getD_eq_getElem?_getD, Nat.add_sub_cancel_left]
  have hne : h.drop g.length ≠ [] := fun e => by
    have := congrArg List.length e
    rw [List.length_drop, List.length_nil] at this
    omega
  obtain ⟨x, z, g2, e2, x0, m, px⟩ := suffix_ex hne p2
  have eh : h = g ++ z ++ x := by
    rw [List.append_assoc, ← e2]
    conv => lhs; rw [← List.take_append_drop g.length h, e1]
  have xl : 0 < x.length := List.length_pos_iff.mpr x0
  have h1 : ltG h x = true := by
    have := hh.2 (g.length + z.length) (by omega) (by rw [eh, List.length_append, List.length_append]; omega)
    rwa [show h.drop (g.length + z.length) = x by
      conv => lhs; rw [eh]
      rw [List.drop_left' (by rw [List.length_append])]] at this
  have h2 := px.le
  have h3 : leG g2 g = true := (List.pairwise_cons.mp hG.2).1 g2 m
  have h4 : ltG g h = true := ltG_first.mpr (.inr ⟨hl, by rw [eh, List.append_assoc]; exact pre_app g _⟩)
  have h5 := lt_of_lt_le h1 (leG_trans h2 h3)
  rw [ltG_asy h4] at h5
  cases h5
theorem fac_uniq : ∀ {G H : List (List Int)}, Fac G → Fac H → G.flatten = H.flatten → G = H
  | [], [], _, _, _ => rfl
  | [], h :: H, _, hH, e => by
    exfalso
    have h0 := (hH.1 h List.mem_cons_self).1
    rw [List.flatten_nil, List.flatten_cons] at e
    exact h0 (List.append_eq_nil_iff.mp e.symm).1
  | g :: G, [], hG, _, e => by
    exfalso
    have h0 := (hG.1 g List.mem_cons_self).1
    rw [List.flatten_nil, List.flatten_cons] at e
    exact h0 (List.append_eq_nil_iff.mp e).1
  | g :: G, h :: H, hG, hH, e => by
    have lg := hG.1 g List.mem_cons_self
    have lh := hH.1 h List.mem_cons_self
    rcases Nat.lt_trichotomy g.length h.length with q | q | q
    · exact absurd (no_longer lh hG (by rw [e, List.flatten_cons]; exact pre_app h _) q) id
    · rw [List.flatten_cons, List.flatten_cons] at e
      obtain ⟨e1, e2⟩ := List.append_inj e q
      rw [e1, fac_uniq hG.tail hH.tail e2]
    · exact absurd (no_longer lg hH (by rw [← e, List.flatten_cons]; exact pre_app g _) q) id
/-! ### the way that finds them -/
section
variable (f : Nat → Int)
/-- the stretch from s to e is less than its ends -/
def LyS (s e : Nat) : Prop := s < e ∧ ∀ k, s < k → k < e → ∃ i, k + i < e ∧ (∀ j, j < i → f (s + j) = f (k + j)) ∧ f (s + i) < f (k + i)
theorem LyS.one (s : Nat) : LyS f s (s + 1) := ⟨by omega, fun k h1 h2 => by omega⟩
variable {f}
theorem per_back {s e p : Nat} (hp : 1 ≤ p) (per : ∀ i, s ≤ i → i + p < e → f i = f (i + p)) : ∀ m i, s ≤ i → i + m * p < e → f i = f (i + m * p)
  | 0, i, _, _ => by rw [Nat.zero_mul, Nat.add_zero]
  | m + 1, i, h, he => by
    rw [Nat.succ_mul] at he ⊢
    rw [per_back hp per m i h (by omega), per (i + m * p) (by omega) (by omega), Nat.add_assoc]
/-- one more, greater than what stands a period ahead: the whole stretch is one -/
theorem LyS.grow {s e p : Nat} (hp : 1 ≤ p) (hpe : s + p ≤ e) (L : LyS f s (s + p)) (per : ∀ i, s ≤ i → i + p < e → f i = f (i + p)) (hc : f (e - p) < f e) : LyS f s (e + 1) := by
  have pb := per_back hp per
  refine ⟨by omega, fun k k0 k1 => ?_⟩
  -- k = s + m * p + r
  have hm := Nat.div_add_mod (k - s) p
  have hr := Nat.mod_lt (k - s) (show 0 < p by omega)
  generalize hmq : (k - s) / p = m at *
  generalize hrq : (k - s) % p = r at *
  have ek : k = s + r + m * p := by rw [Nat.mul_comm] at hm; omega
  -- the value a period ahead of e, brought back
  have at_e : ∀ q, s ≤ q → (∃ t, q + t * p = e - p) → f q = f (e - p) := fun q hq ⟨t, ht⟩ => by
    rw [← ht]
    exact pb t q hq (by omega)
  rcases Nat.eq_zero_or_pos r with r0 | r0
  · refine ⟨e - k, by omega, fun j hj => ?_, ?_⟩
    · rw [show k + j = s + j + m * p by omega]
      exact pb m (s + j) (by omega) (by omega)
    · rw [show k + (e - k) = e by omega]
      have m1 : 1 ≤ m := by
        rcases Nat.eq_zero_or_pos m with z | z
        · rw [z, Nat.zero_mul] at ek; omega
        · exact z
      have : f (s + (e - k)) = f (e - p) := at_e _ (by omega) ⟨m - 1, by
        have : (m - 1) * p + p = m * p := by rw [← Nat.succ_mul, show (m - 1).succ = m by omega]
        omega⟩
      omega
  · obtain ⟨i, i1, i2, i3⟩ := L.2 (s + r) (by omega) (by omega)
    rcases Nat.lt_or_ge (k + i) e with q | q
    · refine ⟨i, by omega, fun j hj => ?_, ?_⟩
      · rw [i2 j hj, show k + j = s + r + j + m * p by omega]
        exact pb m (s + r + j) (by omega) (by omega)
      · rw [show k + i = s + r + i + m * p by omega, ← pb m (s + r + i) (by omega) (by omega)]
        exact i3
    · refine ⟨e - k, by omega, fun j hj => ?_, ?_⟩
      · rw [i2 j (by omega), show k + j = s + r + j + m * p by omega]
        exact pb m (s + r + j) (by omega) (by omega)
      · rw [show k + (e - k) = e by omega]
        have m1 : 1 ≤ m := by
          rcases Nat.eq_zero_or_pos m with z | z
          · rw [z, Nat.zero_mul] at ek; omega
          · exact z
        have h1 : f (s + r + (e - k)) = f (e - p) := at_e _ (by omega) ⟨m - 1, by
          have : (m - 1) * p + p = m * p := by rw [← Nat.succ_mul, show (m - 1).succ = m by omega]
          omega⟩
        have h2 : f (s + (e - k)) ≤ f (s + r + (e - k)) := by
          rcases Nat.lt_or_ge (e - k) i with z | z
          · rw [i2 _ z]; exact Int.le_refl _
          · have : e - k = i := by omega
            rw [this]
            exact Int.le_of_lt i3
        omega
end
/-! the mirrors -/
def f_run_from (a_word : (List Int)) (a_start : Int) : Option (Int × Int) :=
 (some (a_start + (1 : Int))).bind fun end_3 =>
 (some a_start).bind fun behind_4 =>
 (whileN (fun (s5 : (Int × Int)) => if (decide (s5.1 < (a_word.length : Int))) = true then (atI a_word s5.2).bind fun v15 => (atI a_word s5.1).bind fun v16 => some (decide (v15 ≤ v16)) else some false) (fun (s5 : (Int × Int)) =>
 (((atI a_word s5.2).bind fun v24 => (atI a_word s5.1).bind fun v25 => some (decide (v24 < v25))).bind fun b30 => (if b30 = true then
 (some a_start).bind fun behind_26 =>
 some behind_26
else
 (some (s5.2 + (1 : Int))).bind fun behind_29 =>
 some behind_29)).bind fun (s31 : Int) =>
 (some (s5.1 + (1 : Int))).bind fun end_34 =>
 some (end_34, s31)) 1000000 (end_3, behind_4)).bind fun (s37 : (Int × Int)) =>
 some (s37.1, (s37.1 - s37.2))
def f_heads_of (a_word : (List Int)) : Option (List (List Int)) :=
 (some ([] : (List (List Int)))).bind fun found_1 =>
 (some (0 : Int)).bind fun start_2 =>
 (whileN (fun (s3 : ((List (List Int)) × Int)) => some (decide (s3.2 < (a_word.length : Int)))) (fun (s3 : ((List (List Int)) × Int)) =>
 (f_run_from a_word s3.2).bind fun p9 =>
 (whileN (fun (s10 : ((List (List Int)) × Int)) => some (decide ((s10.2 + p9.2) ≤ p9.1))) (fun (s10 : ((List (List Int)) × Int)) =>
 (lim (s10.1 ++ [(cut a_word (some s10.2) (some (s10.2 + p9.2)))])).bind fun found_15 =>
 (some (s10.2 + p9.2)).bind fun start_24 =>
 some (found_15, start_24)) 1000000 (s3.1, s3.2)).bind fun (s26 : ((List (List Int)) × Int)) =>
 some (s26.1, s26.2)) 1000000 (found_1, start_2)).bind fun (s28 : ((List (List Int)) × Int)) =>
 some s28.1

theorem whileN_ok {S : Type} {c : S → Option Bool} {b : S → Option S} (I : S → Prop) (μ : S → Nat) (cond : ∀ s, I s → ∃ v, c s = some v ∧ (v = true → ∃ s', b s = some s' ∧ I s' ∧ μ s' < μ s)) : ∀ (n : Nat) (s : S), I s → μ s < n → ∃ s', whileN c b n s = some s' ∧ I s' ∧ c s' = some false
  | 0, s, _, h => by omega
  | n + 1, s, hI, h => by
    obtain ⟨v, ev, hv⟩ := cond s hI
    simp only [whileN, ev, bind_s]
    cases v with
    | true =>
      obtain ⟨s', e', I', m'⟩ := hv rfl
      obtain ⟨s2, e2, I2, c2⟩ := whileN_ok I μ cond n s' I' (by omega)
      refine ⟨s2, ?_, I2, c2⟩
      rw [if_tt, e', bind_s]
      exact e2
    | false => exact ⟨s, if_ft, hI, ev⟩
theorem atI_gd {l : List Int} {i : Nat} (h : i < l.length) : atI l (i : Int) = some (l.getD i 0) := by
  rw [atI_nat h, List.getD_eq_getElem?_getD, List.getElem?_eq_getElem h, Option.getD_some]
def fw (w : List Int) (i : Nat) : Int := w.getD i 0
theorem run_eq {w : List Int} {s : Nat} (hs : s < w.length) (hl : w.length ≤ 900000) : ∃ e p : Nat, f_run_from w s = some ((e : Int), (p : Int)) ∧ 1 ≤ p ∧ s + p ≤ e ∧ e ≤ w.length ∧ LyS (fw w) s (s + p) ∧ (∀ i, s ≤ i → i + p < e → fw w i = fw w (i + p)) ∧ (e < w.length → fw w e < fw w (e - p)) := by
  unfold f_run_from
  rw [bind_s, bind_s]
  obtain ⟨t, et, ⟨e, p, rfl, p1, p2, p3, p4, p5⟩, ct⟩ := whileN_ok (c := fun (s5 : (Int × Int)) => if (decide (s5.1 < (w.length : Int))) = true then (atI w s5.2).bind fun v15 => (atI w s5.1).bind fun v16 => some (decide (v15 ≤ v16)) else some false) (b := fun (s5 : (Int × Int)) =>
 (((atI w s5.2).bind fun v24 => (atI w s5.1).bind fun v25 => some (decide (v24 < v25))).bind fun b30 => (if b30 = true then
 (some (s : Int)).bind fun behind_26 =>
 some behind_26
else
 (some (s5.2 + (1 : Int))).bind fun behind_29 =>
 some behind_29)).bind fun (s31 : Int) =>
 (some (s5.1 + (1 : Int))).bind fun end_34 =>
 some (end_34, s31)) (fun t => ∃ e p : Nat, t = ((e : Int), ((e - p : Nat) : Int)) ∧ 1 ≤ p ∧ s + p ≤ e ∧ e ≤ w.length ∧ LyS (fw w) s (s + p) ∧ ∀ i, s ≤ i → i + p < e → fw w i = fw w (i + p)) (fun t => w.length - t.1.toNat) (by
    rintro t ⟨e, p, rfl, p1, p2, p3, p4, p5⟩
    simp only
    by_cases he : e < w.length
    · rw [if_pos (decide_eq_true (by omega)), atI_gd (by omega), atI_gd he, bind_s, bind_s]
      refine ⟨_, rfl, fun hv => ?_⟩
      have hv := of_decide_eq_true hv
      rw [bind_s, bind_s, bind_s]
      by_cases hlt : w.getD (e - p) 0 < w.getD e 0
      · rw [if_pos (decide_eq_true hlt), bind_s, bind_s, bind_s]
        refine ⟨_, rfl, ⟨e + 1, e + 1 - s, by rw [show e + 1 - (e + 1 - s) = s by omega]; rfl, by omega, by omega, by omega, ?_, fun i h1 h2 => by omega⟩, by
          show w.length - ((e : Int) + 1).toNat < w.length - (e : Int).toNat
          omega⟩
        rw [show s + (e + 1 - s) = e + 1 by omega]
        exact p4.grow p1 p2 p5 hlt
      · rw [if_neg (fun z => hlt (of_decide_eq_true z)), bind_s, bind_s, bind_s]
        refine ⟨_, rfl, ⟨e + 1, p, by rw [show ((e + 1 - p : Nat) : Int) = ((e - p : Nat) : Int) + 1 by omega]; rfl, p1, by omega, by omega, p4, fun i h1 h2 => ?_⟩, by
          show w.length - ((e : Int) + 1).toNat < w.length - (e : Int).toNat
          omega⟩
        rcases Nat.lt_or_ge (i + p) e with q | q
        · exact p5 i h1 q
        · have : i = e - p := by omega
          subst this
          rw [show e - p + p = e by omega]
          unfold fw
          omega
    · rw [if_neg (fun z => he (by have := of_decide_eq_true z; omega))]
      exact ⟨false, rfl, fun z => by cases z⟩) 1000000 ((s : Int) + 1, (s : Int)) ⟨s + 1, 1, by rw [Nat.add_sub_cancel]; rfl, by omega, by omega, by omega, LyS.one _ s, fun i h1 h2 => by omega⟩ (by show w.length - ((s : Int) + 1).toNat < 1000000; omega)
  refine ⟨e, p, ?_, p1, p2, p3, p4, p5, fun he => ?_⟩
  · rw [et, bind_s]
    simp only
    congr 2
    omega
  · simp only at ct
    rw [if_pos (decide_eq_true (by omega)), atI_gd (by omega), atI_gd he, bind_s, bind_s] at ct
    have := of_decide_eq_false (Option.some.inj ct)
    unfold fw
    omega
def sg (w : List Int) (s p : Nat) : List Int := (w.drop s).take p
theorem sg_get {w : List Int} {s p j : Nat} (h : j < p) : (sg w s p).getD j 0 = fw w (s + j) := by
  unfold sg fw
  rw [getD_take h, getD_drop]
theorem sg_len {w : List Int} {s p : Nat} (h : s + p ≤ w.length) : (sg w s p).length = p := by
  unfold sg
  rw [List.length_take, List.length_drop]
  omega
theorem LyS.Ly {w : List Int} {s p : Nat} (h : LyS (fw w) s (s + p)) (hl : s + p ≤ w.length) : Ly (sg w s p) := by
  have hlen := sg_len hl
  refine ⟨fun e => ?_, fun k k0 k1 => ?_⟩
  · rw [e] at hlen
    have := h.1
    simp at hlen
    omega
  · rw [hlen] at k1
    obtain ⟨i, i1, i2, i3⟩ := h.2 (s + k) (by omega) (by omega)
    refine (show Sl _ _ from ⟨i, by rw [hlen]; omega, by rw [List.length_drop, hlen]; omega, fun j hj => ?_, ?_⟩).lt
    · rw [getD_drop, sg_get (by omega), sg_get (by omega), i2 j hj, Nat.add_assoc]
    · rw [getD_drop, sg_get (by omega), sg_get (by omega), ← Nat.add_assoc]
      exact i3
theorem heads_eq {w : List Int} (hl : w.length ≤ 900000) : ∃ G, f_heads_of w = some G ∧ Fac G ∧ G.flatten = w := by
  unfold f_heads_of
  rw [bind_s, bind_s]
  obtain ⟨t, et, ⟨G, st, rfl, h1, h2, h3, h4⟩, ct⟩ := whileN_ok (c := (fun (s3 : ((List (List Int)) × Int)) => some (decide (s3.2 < (w.length : Int))))) (b := (fun (s3 : ((List (List Int)) × Int)) =>
 (f_run_from w s3.2).bind fun p9 =>
 (whileN (fun (s10 : ((List (List Int)) × Int)) => some (decide ((s10.2 + p9.2) ≤ p9.1))) (fun (s10 : ((List (List Int)) × Int)) =>
 (lim (s10.1 ++ [(cut w (some s10.2) (some (s10.2 + p9.2)))])).bind fun found_15 =>
 (some (s10.2 + p9.2)).bind fun start_24 =>
 some (found_15, start_24)) 1000000 (s3.1, s3.2)).bind fun (s26 : ((List (List Int)) × Int)) =>
 some (s26.1, s26.2))) (fun t => ∃ (G : List (List Int)) (st : Nat), t = (G, (st : Int)) ∧ st ≤ w.length ∧ Fac G ∧ G.flatten = w.take st ∧ (G.length ≤ st ∧ ∀ g ∈ G, ∀ t, st + t ≤ w.length → leG (sg w st t) g = true)) (fun t => w.length - t.2.toNat) (by
    rintro t ⟨G, st, rfl, h1, h2, h3, h5, h4⟩
    refine ⟨_, rfl, fun hv => ?_⟩
    have hv : st < w.length := by have := of_decide_eq_true hv; omega
    obtain ⟨e, p, er, p1, p2, p3, p4, p5, p6⟩ := run_eq hv hl
    have pb := per_back p1 p5
    simp only
    rw [er, bind_s]
    -- the turns
    obtain ⟨t2, et2, ⟨q, rfl, q1⟩, ct2⟩ := whileN_ok (c := (fun (s10 : ((List (List Int)) × Int)) => some (decide ((s10.2 + (p : Int)) ≤ (e : Int))))) (b := (fun (s10 : ((List (List Int)) × Int)) =>
 (lim (s10.1 ++ [(cut w (some s10.2) (some (s10.2 + (p : Int))))])).bind fun found_15 =>
 (some (s10.2 + (p : Int))).bind fun start_24 =>
 some (found_15, start_24))) (fun t => ∃ q : Nat, t = (G ++ List.replicate q (sg w st p), ((st + q * p : Nat) : Int)) ∧ st + q * p ≤ e) (fun t => e - t.2.toNat) (by
      rintro t ⟨q, rfl, q1⟩
      refine ⟨_, rfl, fun hv => ?_⟩
      have hv : st + q * p + p ≤ e := by have := of_decide_eq_true hv; omega
      have ec : cut w (some ((st + q * p : Nat) : Int)) (some (((st + q * p : Nat) : Int) + (p : Int))) = sg w st p := by
        rw [show ((st + q * p : Nat) : Int) + (p : Int) = ((st + q * p + p : Nat) : Int) by omega, cut_both, Nat.add_sub_cancel_left]
        show sg w (st + q * p) p = sg w st p
        refine ext_getD (by rw [sg_len (by omega), sg_len (by omega)]) fun i hi => ?_
        rw [sg_len (by omega)] at hi
        rw [sg_get hi, sg_get hi, pb q (st + i) (by omega) (by omega)]
        congr 1
        omega
      have hq : q ≤ q * p := Nat.le_mul_of_pos_right q p1
      simp only
      rw [ec, lim_of (by rw [List.length_append, List.length_append, List.length_replicate, List.length_singleton]; omega), bind_s, bind_s]
      refine ⟨_, rfl, ⟨q + 1, ?_, by rw [Nat.succ_mul]; omega⟩, ?_⟩
      · rw [List.append_assoc, List.replicate_succ', Nat.succ_mul]
        congr 1
        omega
      · show e - (((st + q * p : Nat) : Int) + (p : Int)).toNat < e - ((st + q * p : Nat) : Int).toNat
        omega) 1000000 (G, (st : Int)) ⟨0, by rw [List.replicate_zero, List.append_nil, Nat.zero_mul]; rfl, by omega⟩ (by show e - (st : Int).toNat < 1000000; omega)
    have hstop : e < st + q * p + p := by
      have := of_decide_eq_false (Option.some.inj ct2)
      simp only at this
      omega
    have hq1 : 1 ≤ q := by
      rcases Nat.eq_zero_or_pos q with z | z
      · rw [z, Nat.zero_mul] at hstop; omega
      · exact z
    have hqp : p ≤ q * p := Nat.le_mul_of_pos_left p hq1
    rw [et2, bind_s]
    have lu := p4.Ly (by omega)
    have hup : st + p ≤ w.length := by omega
    refine ⟨_, rfl, ⟨G ++ List.replicate q (sg w st p), st + q * p, rfl, by omega, ⟨fun g hg => ?_, ?_⟩, ?_, ?_, fun g hg t ht => ?_⟩, ?_⟩
    · rcases List.mem_append.mp hg with h | h
      · exact h2.1 g h
      · rw [(List.mem_replicate.mp h).2]; exact lu
    · rw [List.pairwise_append]
      refine ⟨h2.2, List.pairwise_replicate.mpr (.inr (leG_refl _)), fun a ha b hb => ?_⟩
      rw [(List.mem_replicate.mp hb).2]
      exact h4 a ha p hup
    · rw [List.flatten_append, h3]
      have : ∀ m, st + m * p ≤ e → (List.replicate m (sg w st p)).flatten = sg w st (m * p) := fun m => by
        induction m with
        | zero => intro _; rw [Nat.zero_mul]; rfl
        | succ m ih =>
          intro hm
          rw [Nat.succ_mul] at hm ⊢
          rw [List.replicate_succ', List.flatten_append, ih (by omega), List.flatten_cons, List.flatten_nil, List.append_nil]
          refine ext_getD (by rw [List.length_append, sg_len (by omega), sg_len (by omega), sg_len (by omega)]) fun i hi => ?_
          rw [sg_len (by omega)] at hi
          rcases Nat.lt_or_ge i (m * p) with z | z
          · rw [getD_left (by rw [sg_len (by omega)]; exact z), sg_get z, sg_get hi]
          · rw [List.getD_eq_getElem?_getD, List.getElem?_append_right (by rw [sg_len (by omega)]; exact z), sg_len (by omega), ← List.getD_eq_getElem?_getD, sg_get (by omega), sg_get hi, pb m (st + (i - m * p)) (by omega) (by omega)]
            congr 1
            omega
      rw [this q q1]
      unfold sg
      rw [← List.take_add]
    · rw [List.length_append, List.length_replicate]
      have : q ≤ q * p := Nat.le_mul_of_pos_right q p1
      omega
    · -- every beginning of the rest
      have key : leG (sg w (st + q * p) t) (sg w st p) = true := by
        rcases Nat.lt_or_ge (e - (st + q * p)) t with z | z
        · have he : e < w.length := by omega
          refine leG_iff.mpr (.inl (show Sl _ _ from ⟨e - (st + q * p), by rw [sg_len ht]; exact z, by rw [sg_len hup]; omega, fun j hj => ?_, ?_⟩).lt)
          · rw [sg_get (by omega), sg_get (by omega), pb q (st + j) (by omega) (by omega)]
            congr 1
            omega
          · rw [sg_get z, sg_get (by omega), show st + q * p + (e - (st + q * p)) = e by omega]
            have h6 := p6 he
            have : (q - 1) * p + p = q * p := by rw [← Nat.succ_mul, show (q - 1).succ = q by omega]
            rw [pb (q - 1) (st + (e - (st + q * p))) (by omega) (by omega), show st + (e - (st + q * p)) + (q - 1) * p = e - p by omega]
            exact h6
        · refine Pre.le ⟨by rw [sg_len ht, sg_len hup]; omega, fun j hj => ?_⟩
          rw [sg_len ht] at hj
          rw [sg_get hj, sg_get (by omega), pb q (st + j) (by omega) (by omega)]
          congr 1
          omega
      rcases List.mem_append.mp hg with h | h
      · exact leG_trans key (h4 g h p hup)
      · rw [(List.mem_replicate.mp h).2]; exact key
    · show w.length - ((st + q * p : Nat) : Int).toNat < w.length - (st : Int).toNat
      omega) 1000000 ([], (0 : Int)) ⟨[], 0, rfl, by omega, ⟨by simp, List.Pairwise.nil⟩, by rw [List.take_zero]; rfl, by simp, by simp⟩ (by show w.length - (0 : Int).toNat < 1000000; omega)
  have hst : st = w.length := by
    have := of_decide_eq_false (Option.some.inj ct)
    simp only at this
    omega
  refine ⟨G, by rw [et, bind_s], h2, ?_⟩
  rw [h3, hst, List.take_length]
/-! ### roots -/
def rpt (m : Nat) (u : List Int) : List Int := (List.replicate m u).flatten
theorem rpt_succ (m : Nat) (u : List Int) : rpt (m + 1) u = u ++ rpt m u := by unfold rpt; rw [List.replicate_succ, List.flatten_cons]
theorem rpt_len (u : List Int) : ∀ m, (rpt m u).length = m * u.length
  | 0 => by unfold rpt; simp
  | m + 1 => by rw [rpt_succ, List.length_append, rpt_len u m, Nat.succ_mul, Nat.add_comm]
theorem rpt_get (u : List Int) : ∀ (m i : Nat), i < m * u.length → (rpt m u).getD i 0 = u.getD (i % u.length) 0
  | 0, i, h => by rw [Nat.zero_mul] at h; omega
  | m + 1, i, h => by
    rw [Nat.succ_mul] at h
    rw [rpt_succ]
    rcases Nat.lt_or_ge i u.length with q | q
    · rw [getD_left q, Nat.mod_eq_of_lt q]
    · rw [List.getD_eq_getElem?_getD, List.getElem?_append_right q, ← List.getD_eq_getElem?_getD, rpt_get u m (i - u.length) (by omega), ← Nat.mod_eq_sub_mod q]
def cy (v : List Int) (i : Nat) : Int := v.getD (i % v.length) 0
def Pf (v : List Int) (s : Nat) : Prop := ∀ i, cy v (i + s) = cy v i
theorem Pf.len (v : List Int) : Pf v v.length := fun i => by unfold cy; rw [Nat.add_mod_right]
theorem Pf.mul {v : List Int} {s : Nat} (h : Pf v s) : ∀ m, Pf v (m * s)
  | 0 => fun i => by rw [Nat.zero_mul, Nat.add_zero]
  | m + 1 => fun i => by rw [Nat.succ_mul, ← Nat.add_assoc, h, h.mul m]
theorem Pf.gcd {v : List Int} (a b : Nat) : Pf v a → Pf v b → Pf v (Nat.gcd a b) := by
  induction a, b using Nat.gcd.induction with
  | H0 n => intro _ h; rwa [Nat.gcd_zero_left]
  | H1 m n hm ih =>
    intro h1 h2
    rw [Nat.gcd_rec]
    refine ih (fun i => ?_) h1
    have h3 := h1.mul (n / m)
    rw [← h3 (i + n % m), Nat.add_assoc, Nat.mul_comm, Nat.mod_add_div]
    exact h2 i
theorem rpt_iff {v : List Int} {s : Nat} (hs : 1 ≤ s) (hd : s ∣ v.length) (h0 : 0 < v.length) : rpt (v.length / s) (v.take s) = v ↔ Pf v s := by
  have hle : s ≤ v.length := Nat.le_of_dvd h0 hd
  have htl : (v.take s).length = s := by rw [List.length_take]; omega
  have hm : v.length / s * s = v.length := Nat.div_mul_cancel hd
  constructor
  · intro e i
    have g : ∀ i, i < v.length → v.getD i 0 = v.getD (i % s) 0 := fun i hi => by
      have := rpt_get (v.take s) (v.length / s) i (by rw [htl, hm]; exact hi)
      rw [e, htl, getD_take (Nat.mod_lt _ (by omega))] at this
      exact this
    unfold cy
    rw [g _ (Nat.mod_lt _ h0), g _ (Nat.mod_lt i h0), Nat.mod_mod_of_dvd _ hd, Nat.mod_mod_of_dvd _ hd, Nat.add_mod_right]
  · intro h
    refine ext_getD (by rw [rpt_len, htl, hm]) fun i hi => ?_
    rw [rpt_get _ _ _ (by rw [htl, hm]; exact hi), htl, getD_take (Nat.mod_lt _ (by omega))]
    have := h.mul (i / s) (i % s)
    rw [Nat.mul_comm, Nat.mod_add_div] at this
    unfold cy at this
    rw [Nat.mod_eq_of_lt hi, Nat.mod_eq_of_lt (Nat.lt_of_le_of_lt (Nat.mod_le _ _) hi)] at this
    exact this.symm
def rootP (v : List Int) (k : Nat) : Bool := decide (v.length % (k + 1) = 0) && decide (rpt (v.length / (k + 1)) (v.take (k + 1)) = v)
def szI (v : List Int) : Nat := ((List.range v.length).find? (rootP v)).getD 0 + 1
theorem rootP_iff {v : List Int} {s : Nat} (hs : 1 ≤ s) (h0 : 0 < v.length) : rootP v (s - 1) = true ↔ s ∣ v.length ∧ Pf v s := by
  unfold rootP
  rw [show s - 1 + 1 = s by omega, Bool.and_eq_true, decide_eq_true_eq, decide_eq_true_eq]
  constructor
  · rintro ⟨h1, h2⟩
    have := Nat.dvd_of_mod_eq_zero h1
    exact ⟨this, (rpt_iff hs this h0).mp h2⟩
  · rintro ⟨h1, h2⟩
    exact ⟨Nat.mod_eq_zero_of_dvd h1, (rpt_iff hs h1 h0).mpr h2⟩
theorem szI_spec {v : List Int} (h0 : 0 < v.length) : 1 ≤ szI v ∧ szI v ≤ v.length ∧ szI v ∣ v.length ∧ Pf v (szI v) ∧ (∀ j, 1 ≤ j → j < szI v → j ∣ v.length → ¬ Pf v j) ∧ (List.range v.length).find? (rootP v) = some (szI v - 1) := by
  have hex : ∃ k0, (List.range v.length).find? (rootP v) = some k0 := by
    cases h : (List.range v.length).find? (rootP v) with
    | some k0 => exact ⟨k0, rfl⟩
    | none =>
      exfalso
      refine List.find?_eq_none.mp h (v.length - 1) (List.mem_range.mpr (by omega)) ?_
      exact (rootP_iff h0 h0).mpr ⟨Nat.dvd_refl _, Pf.len v⟩
  obtain ⟨k0, hk⟩ := hex
  have e : szI v = k0 + 1 := by unfold szI; rw [hk]; rfl
  obtain ⟨h1, h2, h3⟩ := List.find?_range_eq_some.mp hk
  have h2 := List.mem_range.mp h2
  have h4 := (rootP_iff (v := v) (s := k0 + 1) (by omega) h0).mp h1
  rw [e]
  refine ⟨by omega, by omega, h4.1, h4.2, fun j j0 j1 jd jp => ?_, hk⟩
  have h5 := h3 (j - 1) (by omega)
  rw [(rootP_iff j0 h0).mpr ⟨jd, jp⟩] at h5
  cases h5
theorem szI_dvd {v : List Int} (h0 : 0 < v.length) {s : Nat} (hs : 1 ≤ s) (hd : s ∣ v.length) (hp : Pf v s) : szI v ∣ s := by
  obtain ⟨z1, z2, z3, z4, z5, _⟩ := szI_spec h0
  have hg := Pf.gcd _ _ z4 hp
  have g0 : 0 < Nat.gcd (szI v) s := Nat.gcd_pos_of_pos_right _ hs
  have gd : Nat.gcd (szI v) s ∣ v.length := Nat.dvd_trans (Nat.gcd_dvd_left _ _) z3
  have gl : Nat.gcd (szI v) s ≤ szI v := Nat.gcd_le_left _ z1
  rcases Nat.lt_or_ge (Nat.gcd (szI v) s) (szI v) with q | q
  · exact absurd hg (z5 _ g0 q gd)
  · have : Nat.gcd (szI v) s = szI v := by omega
    rw [← this]
    exact Nat.gcd_dvd_right _ _
theorem cy_rot {v : List Int} {k i : Nat} (hk : k ≤ v.length) (hi : i < v.length) : (rot k v).getD i 0 = cy v (i + k) := by
  have h := rot_get hk hi
  unfold cy
  rw [List.getD_eq_getElem?_getD, List.getElem?_eq_getElem (by rw [rot_len]; exact hi), Option.getD_some, h, List.getD_eq_getElem?_getD, List.getElem?_eq_getElem (Nat.mod_lt _ (by omega)), Option.getD_some]
/-- the root of a least word is a head -/
theorem root_head {l : List Int} (h0 : l ≠ []) (hl : lstW l = l) : hd (l.take (szI l)) = true ∧ l = rpt (l.length / szI l) (l.take (szI l)) := by
  have hn : 0 < l.length := List.length_pos_iff.mpr h0
  obtain ⟨z1, z2, z3, z4, z5, _⟩ := szI_spec hn
  have er : rpt (l.length / szI l) (l.take (szI l)) = l := (rpt_iff z1 z3 hn).mpr z4
  refine ⟨?_, er.symm⟩
  have htl : (l.take (szI l)).length = szI l := by rw [List.length_take]; omega
  have hm : l.length / szI l * szI l = l.length := Nat.div_mul_cancel z3
  have hm1 : 0 < l.length / szI l := Nat.div_pos z2 z1
  generalize hr : l.take (szI l) = r at *
  generalize hs : szI l = s at *
  have gl : ∀ i, cy l i = r.getD (i % s) 0 := fun i => by
    unfold cy
    have := rpt_get r (l.length / s) (i % l.length) (by rw [htl, hm]; exact Nat.mod_lt _ hn)
    rw [er, htl, Nat.mod_mod_of_dvd _ z3] at this
    exact this
  rw [hd_iff]
  intro k k0 k1
  rw [htl] at k1
  have erot : rot k l = rpt (l.length / s) (rot k r) := by
    refine ext_getD (by rw [rot_len, rpt_len, rot_len, htl, hm]) fun i hi => ?_
    rw [rpt_len, rot_len, htl, hm] at hi
    rw [cy_rot (by omega) hi, gl, rpt_get _ _ _ (by rw [rot_len, htl, hm]; exact hi), rot_len, htl, cy_rot (by omega) (by rw [htl]; exact Nat.mod_lt _ (by omega))]
    unfold cy
    rw [htl, Nat.mod_add_mod]
  have hle : leG l (rot k l) = true := by
    have := lst_le (w := l) (k := k) (by omega)
    rwa [hl] at this
  rcases ltG_tri r (rot k r) with q | q | q
  · exact q
  · exfalso
    have pk : Pf l k := fun i => by
      rw [gl, gl]
      have h1 : (rot k r).getD (i % s) 0 = r.getD ((i % s + k) % s) 0 := by
        rw [cy_rot (by omega) (by rw [htl]; exact Nat.mod_lt _ (by omega))]
        unfold cy
        rw [htl]
      rw [← q, Nat.mod_add_mod] at h1
      exact h1.symm
    have := szI_dvd hn (s := Nat.gcd k s) (Nat.gcd_pos_of_pos_left _ k0) (Nat.dvd_trans (Nat.gcd_dvd_right _ _) z3) (Pf.gcd _ _ pk z4)
    rw [hs] at this
    have h2 := Nat.le_of_dvd (Nat.gcd_pos_of_pos_left _ k0) this
    have h3 := Nat.gcd_le_left s k0
    omega
  · exfalso
    obtain ⟨m, hm'⟩ : ∃ m, l.length / s = m + 1 := ⟨l.length / s - 1, by omega⟩
    have el : l = r ++ rpt m r := by rw [← rpt_succ, ← hm', er]
    rw [erot, hm', rpt_succ, el] at hle
    have h1 := ltG_more (rpt m (rot k r)) (rpt m r) (by rw [rot_len]) q
    rw [leG_def, h1] at hle
    cases hle
theorem first_of {q : Nat → Bool} {n k0 : Nat} (h : (List.range n).find? q = some k0) (f : Nat → Int) : atI (((List.range n).filter q).map f) 0 = some (f k0) := by
  have hh : ((List.range n).filter q).head? = some k0 := by rw [List.head?_filter]; exact h
  cases hf : (List.range n).filter q with
  | nil => rw [hf] at hh; cases hh
  | cons a l =>
    rw [hf] at hh
    have : a = k0 := Option.some.inj hh
    rw [this]
    exact atI_nat (k := 0) (by simp)
theorem Rets.range1 {β : Type} {f : β → Int → Option β} {n : Nat} (I : Nat → β → Prop) {s : β} (hn : 1 ≤ n) (hn2 : n ≤ 16777216) (h0 : I 1 s) (st : ∀ k s, 1 ≤ k → k < n → I k s → Rets (f s (k : Int)) (I (k + 1))) : Rets ((rangeP 1 (n : Int)).bind fun l => l.foldlM f s) (I n) := by
  rw [N.range1 hn2, bind_s]
  have e : ((List.range (n - 1)).map fun k : Nat => ((k + 1 : Nat) : Int)).foldlM f s = ((List.range (n - 1)).map fun k : Nat => (k : Int)).foldlM (fun s k => f s (k + 1)) s := by
    rw [List.foldlM_map, List.foldlM_map]
    rfl
  rw [e]
  have h := fold_range (f := fun s k => f s (k + 1)) (fun k s => I (k + 1) s) (s := s) h0 (n - 1) fun k s hk hI => st (k + 1) s (by omega) (by omega) hI
  rwa [show n - 1 + 1 = n by omega] at h
/-- the first that is hit -/
theorem hit_loop {α T R : Type} {F : Unit → α → Option (Fl Unit Unit R)} {g : α → Bool} {r : α → R} : ∀ {l : List α}, (∀ x ∈ l, F () x = if g x = true then some (.rt (r x)) else some (.nx ())) →
    forL (T := T) (R := R) F l () = match l.find? g with | some x => some (.rt (r x)) | none => some (.nx ())
  | [], _ => rfl
  | x :: l, h => by
    simp only [forL, h x List.mem_cons_self]
    cases e : g x with
    | true =>
      rw [if_tt, bind_s, List.find?_cons_of_pos e]
    | false =>
      rw [if_ft, bind_s, List.find?_cons_of_neg (by rw [e]; exact Bool.false_ne_true)]
      exact hit_loop fun y hy => h y (List.mem_cons_of_mem _ hy)
end L2.DL.N

namespace L2.DL.K77
open PySem PySem.Spec PyProof.Rows
/-! ### the text -/
def topS (i : Nat) : Stmt := PySem.Challenge.pw_daysround_k77_whole_the_only_list_of_hea.main.body.getD i (.Pass ⟨0, 0, 0, 0⟩)
abbrev st_law_cuts : Stmt := topS 20
abbrev st_law_draws : Stmt := topS 12
abbrev st_law_turned : Stmt := topS 17
abbrev st_law_is_head : Stmt := topS 19
abbrev st_law_is_number : Stmt := topS 14
abbrev st_law_is_numbers : Stmt := topS 15
abbrev st_law_shows : Stmt := topS 21
abbrev st_turned : Stmt := topS 4
abbrev st_is_head : Stmt := topS 5
abbrev st_is_number : Stmt := topS 1
abbrev st_is_numbers : Stmt := topS 2
abbrev st_is_word : Stmt := topS 8
abbrev st_joined_words : Stmt := topS 9
abbrev st_shows_heads : Stmt := topS 10
abbrev st_law_judged : Stmt := topS 22
abbrev st_law_cell : Stmt := topS 13
abbrev st_law_word : Stmt := topS 18
abbrev st_law_longer : Stmt := topS 24
abbrev st_law_with : Stmt := topS 16
abbrev st_law_papers : Stmt := topS 23
abbrev st_run_from : Stmt := topS 6
abbrev st_heads_of : Stmt := topS 7
abbrev st_law : Stmt := topS 25
/-! ### the mirrors -/
def f_law_cuts (a_word : (List Int)) : Option (List (List (List Int))) :=
 (eqD (rp a_word) (rp ([] : (List Int)))).bind fun b57 => (if b57 = true then
 some ([([] : (List (List Int)))] : (List (List (List Int))))
else
 ((((atI a_word (0 : Int)).bind fun v7 => some (v7 :: ([] : (List Int)))).bind fun v9 => some (v9 :: ([] : (List (List Int))))).bind fun v11 => some (v11 :: ([] : (List (List (List Int)))))).bind fun found_13 =>
 ((cut a_word (some (1 : Int)) none).foldlM (fun (s17 : (List (List (List Int)))) (number_18 : Int) =>
 (some ([] : (List (List (List Int))))).bind fun longer_19 =>
 (s17.foldlM (fun (s20 : (List (List (List Int)))) (cut_21 : (List (List Int))) =>
 (((((atI cut_21 (-(1 : Int))).bind fun v32 => lim (v32 ++ ([number_18] : (List Int)))).bind fun v33 => some (v33 :: ([] : (List (List Int))))).bind fun v37 => lim ((cut cut_21 none (some (-(1 : Int)))) ++ v37)).bind fun v39 => lim (s20 ++ [v39])).bind fun longer_22 =>
 ((lim (cut_21 ++ ([([number_18] : (List Int))] : (List (List Int))))).bind fun v48 => lim (longer_22 ++ [v48])).bind fun longer_40 =>
 some longer_40) longer_19).bind fun (s51 : (List (List (List Int)))) =>
 (some s51).bind fun found_53 =>
 some found_53) found_13).bind fun (s56 : (List (List (List Int)))) =>
 some s56)
def f_law_draws (a_script : Scr) (a_many : Int) : Option (List Int) :=
 (some ([] : (List Int))).bind fun found_1 =>
 ((cut a_script.l none (some (63 : Int))).foldlM (fun (s5 : (List Int)) (cell_6 : Int) =>
 (some (if cell_6 < 0 then -cell_6 else cell_6)).bind fun number_8 =>
 (if (decide ((1000000000000000000 : Int) ≤ number_8)) = true then
 ((rangeP 0 (60 : Int)).bind fun l23 => l23.foldlM (fun (s12 : ((List Int) × Int)) (k_13 : Int) =>
 (if (decide ((0 : Int) < s12.2)) = true then
 (lim (s12.1 ++ [(s12.2 % 1000003)])).bind fun found_16 =>
 (some (s12.2 / 1000003)).bind fun number_20 =>
 some (found_16, number_20)
else
 some (s12.1, s12.2))) (s5, number_8)).bind fun (s24 : ((List Int) × Int)) =>
 some s24.1
else
 (some ((((number_8 * 48271) + (7 * (s5.length : Int))) + (11 : Int)) % 2147483647)).bind fun mixed_33 =>
 ((rangeP 0 (4 : Int)).bind fun l53 => l53.foldlM (fun (s35 : ((List Int) × Int)) (k_36 : Int) =>
 (some (((((s35.2 * 69621) + (s35.2 / 65536)) + (13 * k_36)) + (5 : Int)) % 2147483629)).bind fun mixed_47 =>
 (lim (s35.1 ++ [((mixed_47 / 8) % 1000003)])).bind fun found_48 =>
 some (found_48, mixed_47)) (s5, mixed_33)).bind fun (s54 : ((List Int) × Int)) =>
 some s54.1)) found_1).bind fun (s58 : (List Int)) =>
 ((rangeP 0 a_many).bind fun l91 => l91.foldlM (fun (s60 : (List Int)) (k_61 : Int) =>
 (if (decide ((s60.length : Int) < a_many)) = true then
 (some (0 : Int)).bind fun base_65 =>
 ((if (decide ((0 : Int) < (s60.length : Int))) = true then
 ((modP k_61 (s60.length : Int)).bind fun v74 => atI s60 v74).bind fun base_75 =>
 some base_75
else
 some base_65)).bind fun (s77 : Int) =>
 (lim (s60 ++ [((((s77 * 16807) + (31 * (s60.length : Int))) + (17 : Int)) % 1000003)])).bind fun found_78 =>
 some found_78
else
 some s60)) s58).bind fun (s92 : (List Int)) =>
 some (cut s92 none (some a_many))
def f_law_turned (a_word : (List Int)) (a_k : Int) : Option (List Int) :=
 lim ((cut a_word (some a_k) none) ++ (cut a_word none (some a_k)))
def f_law_is_head (a_word : (List Int)) : Option Bool :=
 ((rangeP (1 : Int) (a_word.length : Int)).bind fun v11 => (compM (fun x4 => (f_law_turned a_word x4).bind fun v10 => some (leG v10 a_word)) (fun x4 => some x4) v11).bind lim).bind fun v14 => eqD (rp v14) (rp ([] : (List Int)))
def f_law_is_number (a_value : Dt) : Option Bool :=
 (if noFrz (rp a_value) = true then some (isTy "int" (rp a_value)) else none).bind fun b3 => if b3 = true then (if noFrz (rp a_value) = true then some (isTy "bool" (rp a_value)) else none).map fun b => !b else some false
def f_law_is_numbers (a_value : Dt) : Option Bool :=
 ((if noFrz (rp a_value) = true then some (isTy "list" (rp a_value)) else none).map fun b => !b).bind fun b8 => (if b8 = true then
 some false
else
 Fl.ret (((un : Dt → Option (List Dt)) a_value).bind fun l6 => (forL (T := Unit) (R := Bool) (fun (s2 : Unit) (item_3 : Dt) =>
 ((f_law_is_number item_3).map fun b => !b).bind fun b4 => (if b4 = true then
 some (.rt false)
else
 some (.nx ()))) l6 ())) fun (s7 : Unit) =>
 some true)
def f_law_shows (a_word : (List Int)) (a_paper : Dt) : Option Bool :=
 ((if noFrz (rp a_paper) = true then some (isTy "list" (rp a_paper)) else none).map fun b => !b).bind fun b70 => (if b70 = true then
 some false
else
 (some ([] : (List Int))).bind fun total_2 =>
 Fl.ret (((((un : Dt → Option (List Dt)) a_paper).bind fun v4 => some (v4.length : Int)).bind fun v6 => rangeP 0 v6).bind fun l66 => (forL (T := Unit) (R := Bool) (fun (s7 : (List Int)) (k_8 : Int) =>
 ((((((un : Dt → Option (List Dt)) a_paper).bind fun v11 => atI v11 k_8).bind fun v12 => f_law_is_numbers v12).map fun b => !b).bind fun b37 => if b37 = true then some true else ((((((un : Dt → Option (List Dt)) a_paper).bind fun v15 => atI v15 k_8).bind fun v16 => (un : Dt → Option (List Dt)) v16).bind fun v18 => some (v18.length : Int)).bind fun v21 => some (decide (v21 = (0 : Int)))).bind fun b36 => if b36 = true then some true else ((((((un : Dt → Option (List Dt)) a_paper).bind fun v24 => atI v24 k_8).bind fun v25 => (un : Dt → Option (List Int)) v25).bind fun v26 => minL v26).bind fun v29 => some (decide (v29 < (0 : Int)))).bind fun b35 => if b35 = true then some true else (((((un : Dt → Option (List Dt)) a_paper).bind fun v32 => atI v32 k_8).bind fun v33 => (un : Dt → Option (List Int)) v33).bind fun v34 => f_law_is_head v34).map fun b => !b).bind fun b64 => (if b64 = true then
 some (.rt false)
else
 (if (decide ((0 : Int) < k_8)) = true then ((((un : Dt → Option (List Dt)) a_paper).bind fun v44 => atI v44 (k_8 - (1 : Int))).bind fun v48 => (un : Dt → Option (List Int)) v48).bind fun v52 => ((((un : Dt → Option (List Dt)) a_paper).bind fun v47 => atI v47 k_8).bind fun v49 => (un : Dt → Option (List Int)) v49).bind fun v53 => some (ltG v52 v53) else some false).bind fun b63 => (if b63 = true then
 some (.rt false)
else
 (((((un : Dt → Option (List Dt)) a_paper).bind fun v57 => atI v57 k_8).bind fun v58 => (un : Dt → Option (List Int)) v58).bind fun v61 => lim (s7 ++ v61)).bind fun total_62 =>
 some (.nx total_62)))) l66 total_2)) fun (s67 : (List Int)) =>
 eqD (rp s67) (rp a_word))
def f_turned (a_word : (List Int)) (a_places : Int) : Option (List Int) :=
 lim ((cut a_word (some a_places) none) ++ (cut a_word none (some a_places)))
def f_is_head (a_word : (List Int)) : Option Bool :=
 Fl.ret ((rangeP (1 : Int) (a_word.length : Int)).bind fun l13 => (forL (T := Unit) (R := Bool) (fun (s4 : Unit) (places_5 : Int) =>
 ((f_turned a_word places_5).bind fun v10 => some (leG v10 a_word)).bind fun b11 => (if b11 = true then
 some (.rt false)
else
 some (.nx ()))) l13 ())) fun (s14 : Unit) =>
 some true
def f_is_number (a_value : Dt) : Option Bool :=
 (if noFrz (rp a_value) = true then some (isTy "int" (rp a_value)) else none).bind fun b3 => if b3 = true then (if noFrz (rp a_value) = true then some (isTy "bool" (rp a_value)) else none).map fun b => !b else some false
def f_is_numbers (a_value : Dt) : Option Bool :=
 ((if noFrz (rp a_value) = true then some (isTy "list" (rp a_value)) else none).map fun b => !b).bind fun b8 => (if b8 = true then
 some false
else
 Fl.ret (((un : Dt → Option (List Dt)) a_value).bind fun l6 => (forL (T := Unit) (R := Bool) (fun (s2 : Unit) (item_3 : Dt) =>
 ((f_is_number item_3).map fun b => !b).bind fun b4 => (if b4 = true then
 some (.rt false)
else
 some (.nx ()))) l6 ())) fun (s7 : Unit) =>
 some true)
def f_is_word (a_value : Dt) : Option Bool :=
 (f_is_numbers a_value).bind fun b11 => if b11 = true then ((((un : Dt → Option (List Dt)) a_value).bind fun v2 => some (v2.length : Int)).bind fun v5 => some (decide ((0 : Int) < v5))).bind fun b10 => if b10 = true then (((un : Dt → Option (List Int)) a_value).bind fun v6 => minL v6).bind fun v9 => some (decide ((0 : Int) ≤ v9)) else some false else some false
def f_joined_words (a_words : Dt) : Option (List Int) :=
 (some ([] : (List Int))).bind fun found_1 =>
 (((un : Dt → Option (List Dt)) a_words).bind fun l9 => l9.foldlM (fun (s2 : (List Int)) (word_3 : Dt) =>
 (((un : Dt → Option (List Int)) word_3).bind fun v6 => lim (s2 ++ v6)).bind fun found_7 =>
 some found_7) found_1).bind fun (s10 : (List Int)) =>
 some s10
def f_shows_heads (a_word : (List Int)) (a_paper : Dt) : Option Bool :=
 ((if noFrz (rp a_paper) = true then some (isTy "list" (rp a_paper)) else none).map fun b => !b).bind fun b45 => (if b45 = true then
 some false
else
 Fl.ret (((un : Dt → Option (List Dt)) a_paper).bind fun l6 => (forL (T := Unit) (R := Bool) (fun (s2 : Unit) (item_3 : Dt) =>
 ((f_is_word item_3).map fun b => !b).bind fun b4 => (if b4 = true then
 some (.rt false)
else
 some (.nx ()))) l6 ())) fun (s7 : Unit) =>
 ((f_joined_words a_paper).bind fun v10 => (eqD (rp v10) (rp a_word)).map fun b => !b).bind fun b44 => (if b44 = true then
 some false
else
 Fl.ret (((((un : Dt → Option (List Dt)) a_paper).bind fun v12 => some (v12.length : Int)).bind fun v14 => rangeP 0 v14).bind fun l42 => (forL (T := Unit) (R := Bool) (fun (s15 : Unit) (at_16 : Int) =>
 ((((((un : Dt → Option (List Dt)) a_paper).bind fun v19 => atI v19 at_16).bind fun v20 => (un : Dt → Option (List Int)) v20).bind fun v21 => f_is_head v21).map fun b => !b).bind fun b40 => (if b40 = true then
 some (.rt false)
else
 (if (decide ((0 : Int) < at_16)) = true then ((((un : Dt → Option (List Dt)) a_paper).bind fun v28 => atI v28 (at_16 - (1 : Int))).bind fun v32 => (un : Dt → Option (List Int)) v32).bind fun v36 => ((((un : Dt → Option (List Dt)) a_paper).bind fun v31 => atI v31 at_16).bind fun v33 => (un : Dt → Option (List Int)) v33).bind fun v37 => some (ltG v36 v37) else some false).bind fun b39 => (if b39 = true then
 some (.rt false)
else
 some (.nx ())))) l42 ())) fun (s43 : Unit) =>
 some true))
def f_law_judged (a_word : (List Int)) (a_papers : (List Dt)) : Option Bool :=
 Fl.ret ((forL (T := Unit) (R := Bool) (fun (s1 : Unit) (paper_2 : Dt) =>
 (reprD (rp ([(rp a_word), paper_2] : (List Dt)))).bind fun before_8 =>
 (f_shows_heads a_word paper_2).bind fun told_11 =>
 (if (!true) = true then some true else ((f_law_shows a_word paper_2).bind fun v17 => some (decide (told_11 ≠ v17))).bind fun b26 => if b26 = true then some true else (reprD (rp ([(rp a_word), paper_2] : (List Dt)))).bind fun v25 => some (decide (v25 ≠ before_8))).bind fun b28 => (if b28 = true then
 some (.rt false)
else
 some (.nx ()))) a_papers ())) fun (s31 : Unit) =>
 some true
def f_law_cell (a_draws : (List Int)) (a_k : Int) : Option Int :=
 (if (decide (a_k < (a_draws.length : Int))) = true then
 atI a_draws a_k
else
 (((((modP a_k (a_draws.length : Int)).bind fun v11 => atI a_draws v11).bind fun v13 => some (v13 * 31)).bind fun v25 => (((modP (7 * a_k) (a_draws.length : Int)).bind fun v20 => atI a_draws v20).bind fun v22 => some (v22 * 17)).bind fun v26 => some (v25 + v26)).bind fun v30 => some (v30 + (101 * a_k))).bind fun v32 => some (v32 % 1000003))
def f_law_word (a_draws : (List Int)) (a_at : Int) (a_length : Int) (a_letters : Int) : Option (List Int) :=
 (rangeP 0 a_length).bind fun v13 => (mapO (fun x2 => ((f_law_cell a_draws (a_at + x2)).bind fun v8 => some (v8 / 3)).bind fun v11 => modP v11 a_letters) v13).bind lim
def f_law_longer (a_draws : (List Int)) : Option (List (List Int)) :=
 (some ([] : (List (List Int)))).bind fun words_1 =>
 (((((atI a_draws (3 : Int)).bind fun v5 => some (v5 % 30)).bind fun v8 => some ((4 : Int) + v8)).bind fun v10 => rangeP 0 v10).bind fun l44 => l44.foldlM (fun (s11 : (List (List Int))) (k_12 : Int) =>
 ((((f_law_cell a_draws ((19 : Int) + (3 * k_12))).bind fun v22 => some (v22 % 6)).bind fun v25 => some ((1 : Int) + v25)).bind fun v37 => (((atI a_draws (4 : Int)).bind fun v29 => some (v29 % 2)).bind fun v32 => some ((2 : Int) + v32)).bind fun v38 => f_law_word a_draws ((20 : Int) + (3 * k_12)) v37 v38).bind fun word_39 =>
 (f_law_is_head word_39).bind fun b42 => (if b42 = true then
 (lim (s11 ++ [word_39])).bind fun words_40 =>
 some words_40
else
 some s11)) words_1).bind fun (s45 : (List (List Int))) =>
 some ((sortG s45).reverse)
def f_law_with (a_line : (List Dt)) (a_at : Int) (a_item : Dt) : Option (List Dt) :=
 (lim ((cut a_line none (some a_at)) ++ ([a_item] : (List Dt)))).bind fun v15 => lim (v15 ++ (cut a_line (some (a_at + (1 : Int))) none))
def f_law_papers (a_word : (List Int)) (a_heads : (List (List Int))) (a_draws : (List Int)) : Option (List Dt) :=
 ((((((((lim (a_heads ++ (cut a_heads (some (-(1 : Int))) none))).map rp).bind fun v35 => (((lim (a_heads ++ ([([] : (List Int))] : (List (List Int))))).map rp).bind fun v33 => (((lim (([([] : (List Int))] : (List (List Int))) ++ a_heads)).map rp).bind fun v31 => ((((lim (a_word.map fun x23 => ([x23] : (List Int)))).map rp).bind fun v27 => some (v27 :: ([] : (List Dt)))).bind fun l30 => some ((rp ([a_word] : (List (List Int)))) :: l30)).bind fun l32 => some (v31 :: l32)).bind fun l34 => some (v33 :: l34)).bind fun l36 => some (v35 :: l36)).bind fun l38 => some ((rp (cut a_heads none (some (-(1 : Int))))) :: l38)).bind fun l40 => some ((rp (cut a_heads (some (1 : Int)) none)) :: l40)).bind fun l42 => some ((rp a_heads.reverse) :: l42)).bind fun l44 => some ((rp (TupL.mk a_heads)) :: l44)).bind fun l46 => some ((rp a_heads) :: l46)).bind fun papers_47 =>
 (lim (papers_47 ++ ([Dt.non, (rp true), (rp (0 : Int)), (rp (Str.ofString "")), (rp (Str.ofString "heads")), (rp (TupL.mk ([] : (List Int)))), (rp ([] : (List Int))), (rp ([([] : (List Int))] : (List (List Int)))), (rp ([()] : (List Unit))), (rp ([([()] : (List Unit))] : (List (List Unit)))), (rp a_word), (rp ([a_word, ([] : (List Int))] : (List (List Int)))), (rp ([(TupL.mk a_word)] : (List (TupL Int)))), (rp ([a_heads] : (List (List (List Int)))))] : (List Dt)))).bind fun papers_94 =>
 ((if (decide ((0 : Int) < (a_heads.length : Int))) = true then
 ((atI a_draws (1 : Int)).bind fun v314 => modP v314 (a_heads.length : Int)).bind fun at_315 =>
 (atI a_heads at_315).bind fun item_318 =>
 ((((((lim ((cut item_318 (some (1 : Int)) none) ++ (cut item_318 none (some (1 : Int))))).map rp).bind fun v367 => (((lim (item_318 ++ item_318)).map rp).bind fun v365 => (((((lim (([(rp false)] : (List Dt)) ++ ((cut item_318 (some (1 : Int)) none).map fun y => (rp y : Dt)))).map rp).bind fun v359 => (((lim (([(-(1 : Int))] : (List Int)) ++ (cut item_318 (some (1 : Int)) none))).map rp).bind fun v357 => ((((atI item_318 (0 : Int)).map rp).bind fun v353 => some (v353 :: ([(rp (Str.ofString ""))] : (List Dt)))).bind fun l356 => some (Dt.non :: l356)).bind fun l358 => some (v357 :: l358)).bind fun l360 => some (v359 :: l360)).bind fun l362 => some ((rp ([true] : (List Bool))) :: l362)).bind fun l364 => some ((rp (cut item_318 none (some (-(1 : Int))))) :: l364)).bind fun l366 => some (v365 :: l366)).bind fun l368 => some (v367 :: l368)).bind fun l370 => some ((rp item_318.reverse) :: l370)).bind fun l372 => some ((rp (TupL.mk item_318)) :: l372)).bind fun l382 => l382.foldlM (fun (s373 : (List Dt)) (other_374 : Dt) =>
 (((f_law_with (a_heads.map fun y => (rp y : Dt)) at_315 other_374).map rp).bind fun v380 => lim (s373 ++ [v380])).bind fun papers_375 =>
 some papers_375) papers_94).bind fun (s383 : (List Dt)) =>
 (((((atI item_318 (0 : Int)).bind fun v388 => some (v388 + (1 : Int))).map rp).bind fun v420 => ((((atI item_318 (0 : Int)).bind fun v392 => strI v392).map rp).bind fun v418 => ((((((atI item_318 (0 : Int)).bind fun v395 => some (v395 :: ([] : (List Int)))).map rp).bind fun v412 => (((((atI item_318 (0 : Int)).bind fun v399 => some (v399 :: ([] : (List Int)))).map TupL.mk).map rp).bind fun v410 => (((((atI item_318 (0 : Int)).bind fun v404 => some (-v404)).bind fun v407 => some (v407 - (1 : Int))).map rp).bind fun v408 => some (v408 :: ([] : (List Dt)))).bind fun l411 => some (v410 :: l411)).bind fun l413 => some (v412 :: l413)).bind fun l415 => some (Dt.non :: l415)).bind fun l417 => some ((rp true) :: l417)).bind fun l419 => some (v418 :: l419)).bind fun l421 => some (v420 :: l421)).bind fun l435 => l435.foldlM (fun (s422 : (List Dt)) (other_423 : Dt) =>
 (((((f_law_with (item_318.map fun y => (rp y : Dt)) (0 : Int) other_423).map rp).bind fun v431 => f_law_with (a_heads.map fun y => (rp y : Dt)) at_315 v431).map rp).bind fun v433 => lim (s422 ++ [v433])).bind fun papers_424 =>
 some papers_424) s383).bind fun (s436 : (List Dt)) =>
 ((((lim ((cut a_heads none (some at_315)) ++ ([(cut item_318 none (some (1 : Int))), (cut item_318 (some (1 : Int)) none)] : (List (List Int))))).bind fun v460 => lim (v460 ++ (cut a_heads (some (at_315 + (1 : Int))) none))).map rp).bind fun v462 => lim (s436 ++ [v462])).bind fun papers_437 =>
 (if (decide ((0 : Int) < at_315)) = true then
 (((((((atI a_heads (at_315 - (1 : Int))).bind fun v477 => lim (v477 ++ item_318)).bind fun v478 => some (v478 :: ([] : (List (List Int))))).bind fun v482 => lim ((cut a_heads none (some (at_315 - (1 : Int)))) ++ v482)).bind fun v490 => lim (v490 ++ (cut a_heads (some (at_315 + (1 : Int))) none))).map rp).bind fun v492 => lim (papers_437 ++ [v492])).bind fun papers_465 =>
 (((((((atI a_heads (at_315 - (1 : Int))).bind fun v503 => some (v503 :: ([] : (List (List Int))))).bind fun l506 => some (item_318 :: l506)).bind fun v509 => lim ((cut a_heads none (some (at_315 - (1 : Int)))) ++ v509)).bind fun v517 => lim (v517 ++ (cut a_heads (some (at_315 + (1 : Int))) none))).map rp).bind fun v519 => lim (papers_465 ++ [v519])).bind fun papers_493 =>
 some papers_493
else
 some papers_437)
else
 some papers_94)).bind fun (s522 : (List Dt)) =>
 some s522
def f_run_from (a_word : (List Int)) (a_start : Int) : Option (Int × Int) :=
 (some (a_start + (1 : Int))).bind fun end_3 =>
 (some a_start).bind fun behind_4 =>
 (whileN (fun (s5 : (Int × Int)) => if (decide (s5.1 < (a_word.length : Int))) = true then (atI a_word s5.2).bind fun v15 => (atI a_word s5.1).bind fun v16 => some (decide (v15 ≤ v16)) else some false) (fun (s5 : (Int × Int)) =>
 (((atI a_word s5.2).bind fun v24 => (atI a_word s5.1).bind fun v25 => some (decide (v24 < v25))).bind fun b30 => (if b30 = true then
 (some a_start).bind fun behind_26 =>
 some behind_26
else
 (some (s5.2 + (1 : Int))).bind fun behind_29 =>
 some behind_29)).bind fun (s31 : Int) =>
 (some (s5.1 + (1 : Int))).bind fun end_34 =>
 some (end_34, s31)) 1000000 (end_3, behind_4)).bind fun (s37 : (Int × Int)) =>
 some (s37.1, (s37.1 - s37.2))
def f_heads_of (a_word : (List Int)) : Option (List (List Int)) :=
 (some ([] : (List (List Int)))).bind fun found_1 =>
 (some (0 : Int)).bind fun start_2 =>
 (whileN (fun (s3 : ((List (List Int)) × Int)) => some (decide (s3.2 < (a_word.length : Int)))) (fun (s3 : ((List (List Int)) × Int)) =>
 (f_run_from a_word s3.2).bind fun p9 =>
 (whileN (fun (s10 : ((List (List Int)) × Int)) => some (decide ((s10.2 + p9.2) ≤ p9.1))) (fun (s10 : ((List (List Int)) × Int)) =>
 (lim (s10.1 ++ [(cut a_word (some s10.2) (some (s10.2 + p9.2)))])).bind fun found_15 =>
 (some (s10.2 + p9.2)).bind fun start_24 =>
 some (found_15, start_24)) 1000000 (s3.1, s3.2)).bind fun (s26 : ((List (List Int)) × Int)) =>
 some (s26.1, s26.2)) 1000000 (found_1, start_2)).bind fun (s28 : ((List (List Int)) × Int)) =>
 some s28.1
def f_law (a_script : Scr) : Option Bool :=
 (f_law_draws a_script (60 : Int)).bind fun draws_3 =>
 ((atI draws_3 (0 : Int)).bind fun v7 => some (v7 % 8)).bind fun length_8 =>
 ((((atI draws_3 (2 : Int)).bind fun v12 => some (v12 % 8)).bind fun v15 => some (decide (v15 = (5 : Int)))).bind fun b26 => (if b26 = true then
 ((((atI draws_3 (0 : Int)).bind fun v19 => some (v19 / 8)).bind fun v21 => some (v21 % 2)).bind fun v24 => some ((8 : Int) + v24)).bind fun length_25 =>
 some length_25
else
 some length_8)).bind fun (s27 : Int) =>
 ((((atI draws_3 (5 : Int)).bind fun v31 => some (v31 % 4)).bind fun v34 => some ((1 : Int) + v34)).bind fun v39 => f_law_word draws_3 (8 : Int) s27 v39).bind fun word_40 =>
 (f_law_cuts word_40).bind fun cuts_41 =>
 ((compM (fun x42 => f_law_shows word_40 (rp x42)) (fun x42 => some x42) cuts_41).bind lim).bind fun right_46 =>
 (if (decide ((right_46.length : Int) ≠ (1 : Int))) = true then some true else (f_heads_of word_40).bind fun v54 => (atI right_46 (0 : Int)).bind fun v55 => (eqD (rp v54) (rp v55)).map fun b => !b).bind fun b122 => (if b122 = true then
 some false
else
 (if (decide ((cuts_41.length : Int) ≤ (128 : Int))) = true then (f_law_judged word_40 (cuts_41.map fun y => (rp y : Dt))).map fun b => !b else some false).bind fun b121 => (if b121 = true then
 some false
else
 ((((atI right_46 (0 : Int)).bind fun v68 => f_law_papers word_40 v68 draws_3).bind fun v71 => f_law_judged word_40 v71).map fun b => !b).bind fun b120 => (if b120 = true then
 some false
else
 (f_law_longer draws_3).bind fun heads_72 =>
 (some ([] : (List Int))).bind fun total_73 =>
 (heads_72.foldlM (fun (s74 : (List Int)) (item_75 : (List Int)) =>
 (lim (s74 ++ item_75)).bind fun total_78 =>
 some total_78) total_73).bind fun (s81 : (List Int)) =>
 (((f_heads_of s81).bind fun v84 => (eqD (rp v84) (rp heads_72)).map fun b => !b).bind fun b91 => if b91 = true then some true else ((f_law_papers s81 heads_72 draws_3).bind fun v90 => f_law_judged s81 v90).map fun b => !b).bind fun b119 => (if b119 = true then
 some false
else
 (f_law_judged ([] : (List Int)) ([(rp ([] : (List Int))), (rp ([([] : (List Int))] : (List (List Int)))), Dt.non, (rp ([([(0 : Int)] : (List Int))] : (List (List Int)))), (rp (TupL.mk ([] : (List Int)))), (rp (Str.ofString ""))] : (List Dt))).bind fun b118 => if b118 = true then (f_heads_of word_40).bind fun v116 => (atI right_46 (0 : Int)).bind fun v117 => eqD (rp v116) (rp v117) else some false))))
end L2.DL.K77
namespace L2.DL.K77
open PySem PySem.Spec PyProof.Rows
theorem e_draws : f_law_draws = drawsP := rfl
theorem e_heads : f_heads_of = N.f_heads_of := rfl
theorem e_head : f_is_head = N.f_is_head := rfl
theorem e_lhead : f_law_is_head = N.f_law_is_head := rfl
/-! ### data without a frozen list -/
mutual
def Cl : Dt → Bool
  | .frz _ => false
  | .lst l => ClL l
  | .tup l => ClL l
  | _ => true
def ClL : List Dt → Bool
  | [] => true
  | d :: l => Cl d && ClL l
end
theorem ClL_iff : ∀ {l : List Dt}, ClL l = true ↔ ∀ d ∈ l, Cl d = true
  | [] => ⟨fun _ _ h => (nomatch h), fun _ => rfl⟩
  | d :: l => by
    unfold ClL
    rw [Bool.and_eq_true, ClL_iff, List.forall_mem_cons]
theorem Cl.no {d : Dt} (h : Cl d = true) : noFrz (rp d) = true := by
  cases d with
  | frz l => exact (Bool.false_ne_true h).elim
  | _ => rfl
def isInt : Dt → Bool
  | .int _ => true
  | _ => false
def isLst : Dt → Bool
  | .lst _ => true
  | _ => false
theorem ty_list {d : Dt} (h : Cl d = true) : (if noFrz (rp d) = true then some (isTy "list" (rp d)) else none) = some (isLst d) := by
  rw [if_pos (Cl.no h)]
  cases d with
  | frz l => exact (Bool.false_ne_true h).elim
  | _ => rfl
theorem is_number_eq {d : Dt} (h : Cl d = true) : f_is_number d = some (isInt d) := by
  unfold f_is_number
  have hn := Cl.no h
  rw [if_pos hn, if_pos hn]
  cases d with
  | frz l => exact (Bool.false_ne_true h).elim
  | _ => rfl
theorem e_number : f_law_is_number = f_is_number := rfl
theorem e_numbers : f_law_is_numbers = f_is_numbers := rfl
theorem un_lst (l : List Dt) : (un : Dt → Option (List Dt)) (.lst l) = some l := by
  have key : ∀ l : List Dt, unL (un : Dt → Option Dt) l = some l := by
    intro l
    induction l with
    | nil => rfl
    | cons d l ih =>
      unfold unL
      rw [ih]
      rfl
  exact key l
theorem numbers_loop : ∀ {l : List Dt}, ClL l = true → forL (T := Unit) (R := Bool) (fun (s2 : Unit) (item_3 : Dt) =>
 ((f_is_number item_3).map fun b => !b).bind fun b4 => (if b4 = true then
 some (.rt false)
else
 some (.nx ()))) l () = some (if l.all isInt = true then .nx () else .rt false)
  | [], _ => rfl
  | d :: l, h => by
    have h' : Cl d = true ∧ ClL l = true := by
      unfold ClL at h
      rwa [Bool.and_eq_true] at h
    simp only [forL]
    rw [is_number_eq h'.1, map_s, bind_s, List.all_cons]
    cases hd : isInt d with
    | true =>
      rw [not_t, if_ft, bind_s]
      show forL _ l () = _
      rw [numbers_loop h'.2, Bool.true_and]
    | false => rfl
theorem is_numbers_eq {d : Dt} (h : Cl d = true) : f_is_numbers d = some (match d with | .lst l => l.all isInt | _ => false) := by
  unfold f_is_numbers
  rw [ty_list h, map_s, bind_s]
  cases d with
  | lst l =>
    show (if (!true) = true then _ else _) = _
    rw [not_t, if_ft, un_lst, bind_s, numbers_loop h]
    show _ = some (l.all isInt)
    cases l.all isInt <;> rfl
  | _ => rfl
def nng : Dt → Bool
  | .int i => decide (0 ≤ i)
  | _ => false
/-- the word that data is -/
def wd : Dt → Option (List Int)
  | .lst l => if l.all isInt = true ∧ l ≠ [] ∧ l.all nng = true then unL (un : Dt → Option Int) l else none
  | _ => none
theorem wd_lst (l : List Dt) : wd (.lst l) = if l.all isInt = true ∧ l ≠ [] ∧ l.all nng = true then unL (un : Dt → Option Int) l else none := rfl
theorem un_ints : ∀ {l : List Dt}, l.all isInt = true → ∃ xs : List Int, unL (un : Dt → Option Int) l = some xs ∧ l = xs.map Dt.int
  | [], _ => ⟨[], rfl, rfl⟩
  | d :: l, h => by
    rw [List.all_cons, Bool.and_eq_true] at h
    obtain ⟨xs, e1, e2⟩ := un_ints h.2
    cases d with
    | int i =>
      refine ⟨i :: xs, ?_, by rw [e2]; rfl⟩
      unfold unL
      rw [e1]
      rfl
    | _ => exact (Bool.false_ne_true h.1).elim
theorem un_is {l : List Dt} {xs : List Int} (h : unL (un : Dt → Option Int) l = some xs) : (un : Dt → Option (List Int)) (.lst l) = some xs := h
theorem all_ints {l : List Dt} (h : l.all isInt = true) : ∃ xs : List Int, unL (un : Dt → Option Int) l = some xs ∧ l = xs.map Dt.int := un_ints h
/-- a list of numbers, not empty, none below zero -/
theorem is_word_eq {d : Dt} (h : Cl d = true) : f_is_word d = some (wd d).isSome := by
  unfold f_is_word
  rw [is_numbers_eq h, bind_s]
  cases d with
  | lst l =>
    show (if l.all isInt = true then _ else _) = _
    cases ha : l.all isInt with
    | false =>
      rw [if_ft]
      show some false = some (wd (.lst l)).isSome
      rw [wd_lst, if_neg (fun z => by rw [ha] at z; exact Bool.false_ne_true z.1)]
      rfl
    | true =>
      rw [if_pos rfl, un_lst, bind_s, bind_s, bind_s]
      obtain ⟨xs, e1, e2⟩ := un_ints ha
      by_cases h0 : l = []
      · subst h0
        rfl
      · have hl : 0 < l.length := List.length_pos_iff.mpr h0
        rw [decide_eq_true (by omega), if_pos rfl, un_is e1, bind_s]
        have hx : xs ≠ [] := fun z => by rw [z] at e2; exact h0 e2
        obtain ⟨m, em, m1, m2⟩ := minL_some hx
        rw [em, bind_s]
        have hall : l.all nng = decide (0 ≤ m) := by
          rw [e2, List.all_map]
          by_cases hm : 0 ≤ m
          · rw [decide_eq_true hm, List.all_eq_true]
            intro x hx
            have := m2 x hx
            exact decide_eq_true (by omega)
          · rw [decide_eq_false hm, List.all_eq_false]
            exact ⟨m, m1, by
              show ¬ decide (0 ≤ m) = true
              rw [decide_eq_false hm]
              exact Bool.false_ne_true⟩
        congr 1
        rw [wd_lst]
        by_cases hm : 0 ≤ m
        · rw [if_pos ⟨ha, h0, by rw [hall]; exact decide_eq_true hm⟩, e1, decide_eq_true hm]
          rfl
        · rw [if_neg (fun z => by rw [hall] at z; exact hm (of_decide_eq_true z.2.2)), decide_eq_false hm]
          rfl
  | _ => rfl
theorem wd_un {d : Dt} {g : List Int} (h : wd d = some g) : (un : Dt → Option (List Int)) d = some g ∧ g ≠ [] ∧ (∀ x ∈ g, 0 ≤ x) ∧ d = rp g := by
  cases d with
  | lst l =>
    rw [wd_lst] at h
    by_cases hc : l.all isInt = true ∧ l ≠ [] ∧ l.all nng = true
    · rw [if_pos hc] at h
      obtain ⟨xs, e1, e2⟩ := un_ints hc.1
      rw [e1] at h
      cases h
      refine ⟨e1, fun z => hc.2.1 (by rw [e2, z]; rfl), fun x hx => ?_, by rw [e2]; rfl⟩
      have := List.all_eq_true.mp hc.2.2 (.int x) (by rw [e2]; exact List.mem_map_of_mem hx)
      exact of_decide_eq_true this
    · rw [if_neg hc] at h
      cases h
  | _ => cases h
theorem wd_of {g : List Int} (h0 : g ≠ []) (h : ∀ x ∈ g, 0 ≤ x) : wd (rp g) = some g := by
  show wd (.lst (g.map Dt.int)) = some g
  have h1 : (g.map Dt.int).all isInt = true := by
    rw [List.all_map, List.all_eq_true]
    intro x _
    rfl
  obtain ⟨xs, e1, e2⟩ := un_ints h1
  have e3 : g = xs := by
    have hinj : Function.Injective Dt.int := fun a b e => by cases e; rfl
    exact (List.map_inj_right hinj).mp e2
  rw [wd_lst, if_pos ⟨h1, fun z => h0 (List.map_eq_nil_iff.mp z), by
    rw [List.all_map, List.all_eq_true]
    intro x hx
    exact decide_eq_true (h x hx)⟩, e1, e3]
/-- the paper's words, one behind another: heads, none after a lesser one -/
def lsh : Option (List Int) → List Dt → Option (List (List Int))
  | _, [] => some []
  | p, d :: l => match wd d with
    | none => none
    | some g => if N.hd g = true ∧ (∀ q, p = some q → ltG q g = false) then (lsh (some g) l).map (g :: ·) else none
def shw (w : List Int) : Dt → Bool
  | .lst l => match lsh none l with
    | none => false
    | some G => decide (G.flatten = w)
  | _ => false
def dsz : Dt → Nat
  | .lst l => l.length
  | _ => 0
theorem wd_len {d : Dt} {g : List Int} (h : wd d = some g) : g.length = dsz d := by
  rw [(wd_un h).2.2.2]
  show g.length = (g.map rp).length
  rw [List.length_map]
theorem bad_eq {d : Dt} (h : Cl d = true) (hs : dsz d ≤ 100000) : (((f_law_is_numbers d).map fun b => !b).bind fun b37 => if b37 = true then some true else ((((un : Dt → Option (List Dt)) d).bind fun v18 => some (v18.length : Int)).bind fun v21 => some (decide (v21 = (0 : Int)))).bind fun b36 => if b36 = true then some true else ((((un : Dt → Option (List Int)) d).bind fun v26 => minL v26).bind fun v29 => some (decide (v29 < (0 : Int)))).bind fun b35 => if b35 = true then some true else (((un : Dt → Option (List Int)) d).bind fun v34 => f_law_is_head v34).map fun b => !b) = some (match wd d with | none => true | some g => !N.hd g) := by
  rw [e_numbers, is_numbers_eq h, map_s, bind_s]
  cases d with
  | lst l =>
    show (if (!(l.all isInt)) = true then _ else _) = _
    cases ha : l.all isInt with
    | false =>
      rw [if_pos (show (!false) = true from rfl), wd_lst, if_neg (fun z => by rw [ha] at z; exact Bool.false_ne_true z.1)]
    | true =>
      rw [not_t, if_ft, un_lst, bind_s, bind_s, bind_s]
      obtain ⟨xs, e1, e2⟩ := un_ints ha
      by_cases h0 : l = []
      · subst h0
        rfl
      · have hl : 0 < l.length := List.length_pos_iff.mpr h0
        rw [decide_eq_false (by omega), if_ft, un_is e1, bind_s, bind_s]
        have hx : xs ≠ [] := fun z => by rw [z] at e2; exact h0 e2
        obtain ⟨m, em, m1, m2⟩ := minL_some hx
        rw [em, bind_s, bind_s]
        by_cases hm : 0 ≤ m
        · have hall : l.all nng = true := by
            rw [e2, List.all_map, List.all_eq_true]
            intro x hx
            have := m2 x hx
            exact decide_eq_true (by omega)
          have hxl : xs.length ≤ 100000 := by
            have : l.length ≤ 100000 := hs
            rw [e2, List.length_map] at this
            exact this
          rw [decide_eq_false (by omega), if_ft, e_lhead, N.f_law_is_head_eq (by omega), map_s, wd_lst, if_pos ⟨ha, h0, hall⟩, e1]
        · have hall : l.all nng = false := by
            rw [e2, List.all_map, List.all_eq_false]
            exact ⟨m, m1, by
              show ¬ decide (0 ≤ m) = true
              rw [decide_eq_false hm]
              exact Bool.false_ne_true⟩
          rw [decide_eq_true (by omega), if_pos rfl, wd_lst, if_neg (fun z => by rw [hall] at z; exact Bool.false_ne_true z.2.2)]
  | _ => rfl
abbrev LF := Fl (List Int) (List Int) Bool
def lawF (l : List Dt) : List Int → Int → Option LF := fun (s7 : (List Int)) (k_8 : Int) =>
 ((((((un : Dt → Option (List Dt)) (Dt.lst l)).bind fun v11 => atI v11 k_8).bind fun v12 => f_law_is_numbers v12).map fun b => !b).bind fun b37 => if b37 = true then some true else ((((((un : Dt → Option (List Dt)) (Dt.lst l)).bind fun v15 => atI v15 k_8).bind fun v16 => (un : Dt → Option (List Dt)) v16).bind fun v18 => some (v18.length : Int)).bind fun v21 => some (decide (v21 = (0 : Int)))).bind fun b36 => if b36 = true then some true else ((((((un : Dt → Option (List Dt)) (Dt.lst l)).bind fun v24 => atI v24 k_8).bind fun v25 => (un : Dt → Option (List Int)) v25).bind fun v26 => minL v26).bind fun v29 => some (decide (v29 < (0 : Int)))).bind fun b35 => if b35 = true then some true else (((((un : Dt → Option (List Dt)) (Dt.lst l)).bind fun v32 => atI v32 k_8).bind fun v33 => (un : Dt → Option (List Int)) v33).bind fun v34 => f_law_is_head v34).map fun b => !b).bind fun b64 => (if b64 = true then
 some (.rt false)
else
 (if (decide ((0 : Int) < k_8)) = true then ((((un : Dt → Option (List Dt)) (Dt.lst l)).bind fun v44 => atI v44 (k_8 - (1 : Int))).bind fun v48 => (un : Dt → Option (List Int)) v48).bind fun v52 => ((((un : Dt → Option (List Dt)) (Dt.lst l)).bind fun v47 => atI v47 k_8).bind fun v49 => (un : Dt → Option (List Int)) v49).bind fun v53 => some (ltG v52 v53) else some false).bind fun b63 => (if b63 = true then
 some (.rt false)
else
 (((((un : Dt → Option (List Dt)) (Dt.lst l)).bind fun v57 => atI v57 k_8).bind fun v58 => (un : Dt → Option (List Int)) v58).bind fun v61 => lim (s7 ++ v61)).bind fun total_62 =>
 some (.nx total_62)))
theorem lawF_at {l : List Dt} (hC : ClL l = true) (hd : ∀ d ∈ l, dsz d ≤ 100000) (hl : l.length ≤ 100000) {k : Nat} (hk : k < l.length) {p : Option (List Int)} (hp : (k = 0 ∧ p = none) ∨ ∃ g, 0 < k ∧ p = some g ∧ (l[k - 1]?).bind wd = some g) {total : List Int} (hz : total.length + dsz l[k] ≤ 16777216) :
    lawF l total (k : Int) = some (match wd l[k] with | none => (Fl.rt false : LF) | some g => if N.hd g = true ∧ (∀ q, p = some q → ltG q g = false) then Fl.nx (total ++ g) else Fl.rt false) := by
  have hm := List.getElem_mem hk
  have hb := bad_eq (ClL_iff.mp hC _ hm) (hd _ hm)
  unfold lawF
  rw [un_lst]
  simp only [bind_s]
  rw [atI_nat hk]
  simp only [bind_s]
  rw [hb, bind_s]
  cases hw : wd l[k] with
  | none => rfl
  | some g =>
    obtain ⟨u1, u2, u3, u4⟩ := wd_un hw
    show (if (!N.hd g) = true then _ else _) = some (if N.hd g = true ∧ (∀ q, p = some q → ltG q g = false) then Fl.nx (total ++ g) else Fl.rt false)
    cases hh : N.hd g with
    | false =>
      rw [if_pos (show (!false) = true from rfl), if_neg (fun z => Bool.false_ne_true z.1)]
    | true =>
      have hgl := wd_len hw
      rw [not_t, if_ft, u1]
      simp only [bind_s]
      rw [lim_of (by rw [List.length_append]; omega), bind_s]
      rcases hp with ⟨rfl, rfl⟩ | ⟨q, h0, rfl, hq⟩
      · rw [decide_eq_false (by omega), if_ft, bind_s, if_ft, if_pos ⟨trivial, fun q z => (nomatch z)⟩]
      · have h1 : k - 1 < l.length := by omega
        rw [List.getElem?_eq_getElem h1] at hq
        have hq : wd l[k - 1] = some q := hq
        rw [decide_eq_true (by omega), if_pos rfl, show (k : Int) - 1 = ((k - 1 : Nat) : Int) by omega, atI_nat h1, bind_s, (wd_un hq).1, bind_s, bind_s]
        cases hlt : ltG q g with
        | true => rw [if_pos rfl, if_neg (fun z => by have := z.2 q rfl; rw [hlt] at this; exact Bool.false_ne_true this.symm)]
        | false => rw [if_ft, if_pos ⟨trivial, fun r z => by cases z; exact hlt⟩]
theorem law_loop {l : List Dt} (hC : ClL l = true) (hd : ∀ d ∈ l, dsz d ≤ 100000) (hl : l.length ≤ 100000) : ∀ (m k : Nat) (p : Option (List Int)) (total : List Int), k + m = l.length → ((k = 0 ∧ p = none) ∨ ∃ g, 0 < k ∧ p = some g ∧ (l[k - 1]?).bind wd = some g) → total.length + ((l.drop k).map dsz).sum ≤ 16777216 →
    forL (T := Unit) (R := Bool) (lawF l) ((List.range' k m).map fun k : Nat => (k : Int)) total = some (match lsh p (l.drop k) with | none => (Fl.rt false : Fl (List Int) Unit Bool) | some G => Fl.nx (total ++ G.flatten))
  | 0, k, p, total, hk, _, _ => by
    rw [List.drop_eq_nil_of_le (by omega)]
    show some (Fl.nx total) = some (Fl.nx (total ++ ([] : List (List Int)).flatten))
    rw [List.flatten_nil, List.append_nil]
  | m + 1, k, p, total, hk, hp, hz => by
    have hkl : k < l.length := by omega
    have hdr : l.drop k = l[k] :: l.drop (k + 1) := List.drop_eq_getElem_cons hkl
    rw [hdr, List.map_cons, List.sum_cons] at hz
    rw [List.range'_succ, List.map_cons, hdr]
    simp only [forL]
    rw [lawF_at hC hd hl hkl hp (by omega), bind_s]
    show _ = some (match (match wd l[k] with
      | none => none
      | some g => if N.hd g = true ∧ (∀ q, p = some q → ltG q g = false) then (lsh (some g) (l.drop (k + 1))).map (g :: ·) else none) with | none => (Fl.rt false : Fl (List Int) Unit Bool) | some G => Fl.nx (total ++ G.flatten))
    cases hw : wd l[k] with
    | none => rfl
    | some g =>
      simp only
      by_cases hc : N.hd g = true ∧ (∀ q, p = some q → ltG q g = false)
      · rw [if_pos hc, if_pos hc]
        have hgl := wd_len hw
        have ih := law_loop hC hd hl m (k + 1) (some g) (total ++ g) (by omega) (.inr ⟨g, by omega, rfl, by rw [Nat.add_sub_cancel, List.getElem?_eq_getElem hkl]; exact hw⟩) (by rw [List.length_append]; omega)
        simp only
        rw [ih]
        cases lsh (some g) (l.drop (k + 1)) with
        | none => rfl
        | some G =>
          show some (Fl.nx (total ++ g ++ G.flatten)) = some (Fl.nx (total ++ (g :: G).flatten))
          rw [List.flatten_cons, List.append_assoc]
      · rw [if_neg hc, if_neg hc]
/-- what the law's own reading tells -/
structure Sm (l : List Dt) : Prop where
  cl : ClL l = true
  each : ∀ d ∈ l, dsz d ≤ 100000
  len : l.length ≤ 100000
  sum : (l.map dsz).sum ≤ 10000000
def SmD : Dt → Prop
  | .lst l => Sm l
  | d => Cl d = true
theorem SmD.cl {d : Dt} (h : SmD d) : Cl d = true := by
  cases d with
  | lst l => exact Sm.cl h
  | _ => exact h
theorem law_shows_eq {w : List Int} {d : Dt} (h : SmD d) : f_law_shows w d = some (shw w d) := by
  unfold f_law_shows
  rw [ty_list h.cl, map_s, bind_s]
  cases d with
  | lst l =>
    have hS : Sm l := h
    show (if (!true) = true then some false else (some ([] : (List Int))).bind fun total_2 =>
 Fl.ret (T := Unit) (((((un : Dt → Option (List Dt)) (Dt.lst l)).bind fun v4 => some (v4.length : Int)).bind fun v6 => rangeP 0 v6).bind fun l66 => (forL (T := Unit) (R := Bool) (lawF l) l66 total_2)) fun (s67 : (List Int)) =>
 eqD (rp s67) (rp w)) = _
    rw [not_t, if_ft, bind_s, un_lst, bind_s, bind_s, rangeP_nat (by have := hS.len; omega), bind_s, range'_map0]
    have e := law_loop hS.cl hS.each hS.len l.length 0 none [] (by omega) (.inl ⟨rfl, rfl⟩) (by have := hS.sum; simp only [List.drop_zero, List.length_nil]; omega)
    rw [List.drop_zero] at e
    rw [e]
    show _ = some (match lsh none l with | none => false | some G => decide (G.flatten = w))
    cases lsh none l with
    | none => rw [ret_rt]
    | some G =>
      show Fl.ret (some (Fl.nx ([] ++ G.flatten))) _ = _
      rw [ret_nx, List.nil_append, eqD_ints]
  | _ => rfl
/-! ### the program's reading -/
theorem lsh_none : ∀ {l : List Dt} {p : Option (List Int)}, (∃ d ∈ l, wd d = none) → lsh p l = none
  | [], _, ⟨_, h, _⟩ => nomatch h
  | d :: l, p, ⟨x, hx, e⟩ => by
    show (match wd d with
      | none => none
      | some g => if N.hd g = true ∧ (∀ q, p = some q → ltG q g = false) then (lsh (some g) l).map (g :: ·) else none) = none
    rcases List.mem_cons.mp hx with rfl | hx
    · rw [e]
    · cases wd d with
      | none => rfl
      | some g =>
        show (if N.hd g = true ∧ (∀ q, p = some q → ltG q g = false) then (lsh (some g) l).map (g :: ·) else none) = none
        rw [lsh_none ⟨x, hx, e⟩]
        split <;> rfl
theorem lsh_wd : ∀ {l : List Dt} {p : Option (List Int)} {G : List (List Int)}, lsh p l = some G → l.map wd = G.map some
  | [], p, G, h => by cases h; rfl
  | d :: l, p, G, h => by
    have h : (match wd d with
      | none => none
      | some g => if N.hd g = true ∧ (∀ q, p = some q → ltG q g = false) then (lsh (some g) l).map (g :: ·) else none) = some G := h
    cases hw : wd d with
    | none => rw [hw] at h; cases h
    | some g =>
      rw [hw] at h
      have h : (if N.hd g = true ∧ (∀ q, p = some q → ltG q g = false) then (lsh (some g) l).map (g :: ·) else none) = some G := h
      by_cases hc : N.hd g = true ∧ (∀ q, p = some q → ltG q g = false)
      · rw [if_pos hc] at h
        obtain ⟨G', e1, rfl⟩ := some_map h
        rw [List.map_cons, List.map_cons, hw, lsh_wd e1]
      · rw [if_neg hc] at h
        cases h
theorem joined_loop : ∀ {l : List Dt} {G : List (List Int)} {s : List Int}, l.map wd = G.map some → s.length + (l.map dsz).sum ≤ 16777216 →
    l.foldlM (fun (s2 : (List Int)) (word_3 : Dt) =>
 (((un : Dt → Option (List Int)) word_3).bind fun v6 => lim (s2 ++ v6)).bind fun found_7 =>
 some found_7) s = some (s ++ G.flatten)
  | [], G, s, h, _ => by
    have : G = [] := by cases G with | nil => rfl | cons _ _ => cases h
    rw [this, List.flatten_nil, List.append_nil]
    rfl
  | d :: l, G, s, h, hz => by
    cases G with
    | nil => cases h
    | cons g G =>
      rw [List.map_cons, List.map_cons] at h
      obtain ⟨h1, h2⟩ := List.cons.inj h
      have hl := wd_len h1
      rw [List.map_cons, List.sum_cons] at hz
      rw [foldlM_cons', (wd_un h1).1, bind_s, lim_of (by rw [List.length_append]; omega), bind_s, bind_s, joined_loop h2 (by rw [List.length_append]; omega), List.flatten_cons, List.append_assoc]
abbrev UF := Fl Unit Unit Bool
def shF (l : List Dt) : Unit → Int → Option UF := fun (s15 : Unit) (at_16 : Int) =>
 ((((((un : Dt → Option (List Dt)) (Dt.lst l)).bind fun v19 => atI v19 at_16).bind fun v20 => (un : Dt → Option (List Int)) v20).bind fun v21 => f_is_head v21).map fun b => !b).bind fun b40 => (if b40 = true then
 some (.rt false)
else
 (if (decide ((0 : Int) < at_16)) = true then ((((un : Dt → Option (List Dt)) (Dt.lst l)).bind fun v28 => atI v28 (at_16 - (1 : Int))).bind fun v32 => (un : Dt → Option (List Int)) v32).bind fun v36 => ((((un : Dt → Option (List Dt)) (Dt.lst l)).bind fun v31 => atI v31 at_16).bind fun v33 => (un : Dt → Option (List Int)) v33).bind fun v37 => some (ltG v36 v37) else some false).bind fun b39 => (if b39 = true then
 some (.rt false)
else
 some (.nx ())))
theorem shF_at {l : List Dt} (hd : ∀ d ∈ l, dsz d ≤ 100000) {k : Nat} (hk : k < l.length) {p : Option (List Int)} (hp : (k = 0 ∧ p = none) ∨ ∃ g, 0 < k ∧ p = some g ∧ (l[k - 1]?).bind wd = some g) {g : List Int} (hw : wd l[k] = some g) :
    shF l () (k : Int) = some (if N.hd g = true ∧ (∀ q, p = some q → ltG q g = false) then (Fl.nx () : UF) else Fl.rt false) := by
  have hm := List.getElem_mem hk
  have hs := hd _ hm
  obtain ⟨u1, u2, u3, u4⟩ := wd_un hw
  have hgl := wd_len hw
  unfold shF
  rw [un_lst]
  simp only [bind_s]
  rw [atI_nat hk]
  simp only [bind_s]
  rw [u1]
  simp only [bind_s]
  rw [e_head, N.f_is_head_eq (by omega), map_s, bind_s]
  cases hh : N.hd g with
  | false => rw [if_pos (show (!false) = true from rfl), if_neg (fun z => Bool.false_ne_true z.1)]
  | true =>
    rw [not_t, if_ft]
    rcases hp with ⟨rfl, rfl⟩ | ⟨q, h0, rfl, hq⟩
    · rw [decide_eq_false (by omega), if_ft, bind_s, if_ft, if_pos ⟨rfl, fun q z => (nomatch z)⟩]
    · have h1 : k - 1 < l.length := by omega
      rw [List.getElem?_eq_getElem h1] at hq
      have hq : wd l[k - 1] = some q := hq
      rw [decide_eq_true (by omega), if_pos rfl, show (k : Int) - 1 = ((k - 1 : Nat) : Int) by omega, atI_nat h1, bind_s, (wd_un hq).1, bind_s, bind_s]
      cases hlt : ltG q g with
      | true => rw [if_pos rfl, if_neg (fun z => by have := z.2 q rfl; rw [hlt] at this; exact Bool.false_ne_true this.symm)]
      | false => rw [if_ft, if_pos ⟨rfl, fun r z => by cases z; exact hlt⟩]
theorem sh_loop {l : List Dt} (hd : ∀ d ∈ l, dsz d ≤ 100000) (hl : l.length ≤ 100000) (hW : ∀ d ∈ l, wd d ≠ none) : ∀ (m k : Nat) (p : Option (List Int)), k + m = l.length → ((k = 0 ∧ p = none) ∨ ∃ g, 0 < k ∧ p = some g ∧ (l[k - 1]?).bind wd = some g) →
    forL (T := Unit) (R := Bool) (shF l) ((List.range' k m).map fun k : Nat => (k : Int)) () = some (match lsh p (l.drop k) with | none => (Fl.rt false : UF) | some _ => Fl.nx ())
  | 0, k, p, hk, _ => by
    rw [List.drop_eq_nil_of_le (by omega)]
    rfl
  | m + 1, k, p, hk, hp => by
    have hkl : k < l.length := by omega
    have hdr : l.drop k = l[k] :: l.drop (k + 1) := List.drop_eq_getElem_cons hkl
    rw [List.range'_succ, List.map_cons, hdr]
    simp only [forL]
    cases hw : wd l[k] with
    | none => exact absurd hw (hW _ (List.getElem_mem hkl))
    | some g =>
      rw [shF_at hd hkl hp hw, bind_s]
      show _ = some (match (match wd l[k] with
        | none => none
        | some g => if N.hd g = true ∧ (∀ q, p = some q → ltG q g = false) then (lsh (some g) (l.drop (k + 1))).map (g :: ·) else none) with | none => (Fl.rt false : UF) | some G => Fl.nx ())
      rw [hw]
      simp only
      by_cases hc : N.hd g = true ∧ (∀ q, p = some q → ltG q g = false)
      · rw [if_pos hc, if_pos hc]
        have ih := sh_loop hd hl hW m (k + 1) (some g) (by omega) (.inr ⟨g, by omega, rfl, by rw [Nat.add_sub_cancel, List.getElem?_eq_getElem hkl]; exact hw⟩)
        simp only
        rw [ih]
        cases lsh (some g) (l.drop (k + 1)) <;> rfl
      · rw [if_neg hc, if_neg hc]
theorem shows_eq {w : List Int} {d : Dt} (h : SmD d) : f_shows_heads w d = some (shw w d) := by
  unfold f_shows_heads
  rw [ty_list h.cl, map_s, bind_s]
  cases d with
  | lst l =>
    have hS : Sm l := h
    have hcl := ClL_iff.mp hS.cl
    show (if (!true) = true then some false else Fl.ret (T := Unit) (((un : Dt → Option (List Dt)) (Dt.lst l)).bind fun l6 => (forL (T := Unit) (R := Bool) (fun (s2 : Unit) (item_3 : Dt) =>
 ((f_is_word item_3).map fun b => !b).bind fun b4 => (if b4 = true then
 some (.rt false)
else
 some (.nx ()))) l6 ())) fun (s7 : Unit) =>
 ((f_joined_words (Dt.lst l)).bind fun v10 => (eqD (rp v10) (rp w)).map fun b => !b).bind fun b44 => (if b44 = true then
 some false
else
 Fl.ret (T := Unit) (((((un : Dt → Option (List Dt)) (Dt.lst l)).bind fun v12 => some (v12.length : Int)).bind fun v14 => rangeP 0 v14).bind fun l42 => (forL (T := Unit) (R := Bool) (shF l) l42 ())) fun (s43 : Unit) =>
 some true)) = _
    rw [not_t, if_ft, un_lst, bind_s, bind_s, bind_s, rangeP_nat (by have := hS.len; omega), bind_s, range'_map0]
    rw [ask_loop' (g := fun d => !(wd d).isSome) (fun x hx => by rw [is_word_eq (hcl x hx), map_s, bind_s])]
    show _ = some (match lsh none l with | none => false | some G => decide (G.flatten = w))
    cases ha : l.any fun d => !(wd d).isSome with
    | true =>
      obtain ⟨x, hx, e⟩ := List.any_eq_true.mp ha
      have hn : wd x = none := by
        cases hw : wd x with
        | none => rfl
        | some g => rw [hw] at e; cases e
      rw [lsh_none ⟨x, hx, hn⟩, if_pos rfl, ret_rt]
    | false =>
      have hW : ∀ d ∈ l, wd d ≠ none := fun x hx e => by
        have := List.any_eq_false.mp ha x hx
        rw [e] at this
        exact this rfl
      rw [if_ft, ret_nx]
      have hG : ∃ G : List (List Int), l.map wd = G.map some := ⟨l.map fun d => (wd d).getD [], by
        rw [List.map_map]
        refine List.map_congr_left fun x hx => ?_
        cases hw : wd x with
        | none => exact absurd hw (hW x hx)
        | some g => simp [hw]⟩
      obtain ⟨G, eG⟩ := hG
      have ej : f_joined_words (Dt.lst l) = some G.flatten := by
        unfold f_joined_words
        rw [bind_s, un_lst, bind_s, joined_loop eG (by have := hS.sum; simp only [List.length_nil]; omega), bind_s, List.nil_append]
      have es := sh_loop hS.each hS.len hW l.length 0 none (by omega) (.inl ⟨rfl, rfl⟩)
      rw [List.drop_zero] at es
      rw [ej, bind_s, eqD_ints, map_s, bind_s, es]
      cases hsh : lsh none l with
      | none =>
        show (if (!decide (G.flatten = w)) = true then _ else Fl.ret (T := Unit) (some (Fl.rt false : UF)) _) = some false
        rw [ret_rt]
        split <;> rfl
      | some G' =>
        have e2 := lsh_wd hsh
        rw [eG] at e2
        have e3 : G = G' := by
          have hinj : Function.Injective (some : List Int → Option (List Int)) := fun a b e => Option.some.inj e
          exact (List.map_inj_right hinj).mp e2
        subst e3
        show (if (!decide (G.flatten = w)) = true then _ else Fl.ret (T := Unit) (some (Fl.nx () : UF)) _) = some (decide (G.flatten = w))
        rw [ret_nx]
        cases decide (G.flatten = w) <;> rfl
  | _ => rfl
end L2.DL.K77

namespace L2.DL.K77
open PySem PySem.Spec PyProof.Rows
/-! ### papers that are small enough to be shown -/
structure Lf (n : Nat) (d : Dt) : Prop where
  cl : Cl d = true
  sh : (toPy d).showable = true
  lv : (toPy d).leavesShort 13 = true
  nd : (toPy d).hasDict = false
  dp : (toPy d).depth ≤ n
theorem Lf.mono {n m : Nat} {d : Dt} (h : Lf n d) (hm : n ≤ m) : Lf m d := ⟨h.cl, h.sh, h.lv, h.nd, Nat.le_trans h.dp hm⟩
theorem toPyL_all (p : PyData → Bool) (pa : List PyData → Bool) (h0 : pa [] = true) (h1 : ∀ x xs, pa (x :: xs) = (p x && pa xs)) : ∀ {l : List Dt}, (∀ x ∈ l, p (toPy x) = true) → pa (toPyL l) = true
  | [], _ => h0
  | x :: l, h => by
    simp only [toPyL]
    rw [h1, h x List.mem_cons_self, toPyL_all p pa h0 h1 fun y hy => h y (List.mem_cons_of_mem _ hy)]
    rfl
theorem noDict_all : ∀ {l : List Dt}, (∀ x ∈ l, (toPy x).hasDict = false) → PyData.hasDictAll (toPyL l) = false
  | [], _ => rfl
  | x :: l, h => by
    simp only [toPyL, PyData.hasDictAll]
    rw [h x List.mem_cons_self, noDict_all fun y hy => h y (List.mem_cons_of_mem _ hy)]
    rfl
theorem depth_all {m : Nat} : ∀ {l : List Dt}, (∀ x ∈ l, (toPy x).depth ≤ m) → PyData.depthAll (toPyL l) ≤ m
  | [], _ => Nat.zero_le _
  | x :: l, h => by
    simp only [toPyL, PyData.depthAll]
    have := h x List.mem_cons_self
    have := depth_all (m := m) fun y hy => h y (List.mem_cons_of_mem x hy)
    omega
theorem Lf.lst {n : Nat} {l : List Dt} (h : ∀ x ∈ l, Lf n x) : Lf (n + 1) (.lst l) where
  cl := ClL_iff.mpr fun x hx => (h x hx).cl
  sh := by simp only [toPy, PyData.showable]; exact toPyL_all PyData.showable PyData.showableAll rfl (fun _ _ => rfl) fun x hx => (h x hx).sh
  lv := by simp only [toPy, PyData.leavesShort]; exact toPyL_all (PyData.leavesShort 13) (PyData.leavesShortAll 13) rfl (fun _ _ => rfl) fun x hx => (h x hx).lv
  nd := by simp only [toPy, PyData.hasDict]; exact noDict_all fun x hx => (h x hx).nd
  dp := by simp only [toPy, PyData.depth]; exact Nat.succ_le_succ (depth_all fun x hx => (h x hx).dp)
theorem Lf.tup {n : Nat} {l : List Dt} (h : ∀ x ∈ l, Lf n x) : Lf (n + 1) (.tup l) where
  cl := ClL_iff.mpr fun x hx => (h x hx).cl
  sh := by simp only [toPy, PyData.showable]; exact toPyL_all PyData.showable PyData.showableAll rfl (fun _ _ => rfl) fun x hx => (h x hx).sh
  lv := by simp only [toPy, PyData.leavesShort]; exact toPyL_all (PyData.leavesShort 13) (PyData.leavesShortAll 13) rfl (fun _ _ => rfl) fun x hx => (h x hx).lv
  nd := by simp only [toPy, PyData.hasDict]; exact noDict_all fun x hx => (h x hx).nd
  dp := by simp only [toPy, PyData.depth]; exact Nat.succ_le_succ (depth_all fun x hx => (h x hx).dp)
theorem Lf.int {n : Nat} {x : Int} (hx : x.natAbs < 10 ^ 12) : Lf n (.int x) where
  cl := rfl
  sh := by
    simp only [toPy, PyData.showable, decide_eq_true_eq]
    rcases Nat.eq_zero_or_pos x.natAbs with z | z
    · rw [z]
      decide
    · have := (Nat.log2_lt (k := 40) (show x.natAbs ≠ 0 by omega)).mpr (by omega)
      omega
  lv := by
    simp only [toPy, PyData.leavesShort, decide_eq_true_eq]
    exact PyData.shown_int_le hx
  nd := rfl
  dp := Nat.zero_le _
theorem Lf.non {n : Nat} : Lf n .non := ⟨rfl, rfl, rfl, rfl, Nat.zero_le _⟩
theorem Lf.bl {n : Nat} {b : Bool} : Lf n (.bl b) := ⟨rfl, rfl, rfl, rfl, Nat.zero_le _⟩
/-- how much it is -/
def wt (d : Dt) : Nat := (toPy d).weight
def wl (l : List Dt) : Nat := PyData.weightAll (toPyL l)
theorem wl_cons (d : Dt) (l : List Dt) : wl (d :: l) = wt d + 1 + wl l := rfl
theorem wl_app : ∀ a b : List Dt, wl (a ++ b) = wl a + wl b
  | [], b => (Nat.zero_add _).symm
  | x :: a, b => by
    rw [List.cons_append, wl_cons, wl_cons, wl_app a b]
    omega
theorem wt_lst (l : List Dt) : wt (.lst l) = wl l := by
  unfold wt wl
  simp only [toPy, PyData.weight]
theorem wt_tup (l : List Dt) : wt (.tup l) = wl l := by
  unfold wt wl
  simp only [toPy, PyData.weight]
theorem wl_len : ∀ l : List Dt, l.length ≤ wl l
  | [] => Nat.zero_le _
  | x :: l => by
    rw [wl_cons, List.length_cons]
    have := wl_len l
    omega
theorem dsz_wt (d : Dt) : dsz d ≤ wt d := by
  cases d with
  | lst l =>
    rw [wt_lst]
    exact wl_len l
  | _ => exact Nat.zero_le _
theorem wl_sum : ∀ l : List Dt, (l.map dsz).sum ≤ wl l
  | [] => Nat.zero_le _
  | x :: l => by
    rw [List.map_cons, List.sum_cons, wl_cons]
    have := wl_sum l
    have := dsz_wt x
    omega
theorem wl_mem : ∀ {l : List Dt} {x : Dt}, x ∈ l → wt x ≤ wl l
  | y :: l, x, h => by
    rw [wl_cons]
    rcases List.mem_cons.mp h with rfl | h
    · omega
    · have := wl_mem h
      omega
theorem sm_of {d : Dt} (h : Cl d = true) (hw : wt d ≤ 100000) : SmD d := by
  cases d with
  | lst l =>
    rw [wt_lst] at hw
    have h1 := wl_len l
    have h2 := wl_sum l
    exact ⟨h, fun x hx => by have := wl_mem hx; have := dsz_wt x; omega, by omega, by omega⟩
  | _ => exact h
/-- a paper that is read and shown -/
def Ok (d : Dt) : Prop := Lf 8 d ∧ wt d ≤ 100000
theorem Ok.repr {w : List Int} {d : Dt} (hw : Ok (rp w)) (hd : Ok d) : ∃ s, reprD (rp ([rp w, d] : List Dt)) = some s := by
  have e : rp ([rp w, d] : List Dt) = Dt.lst [rp w, d] := rfl
  have hl : Lf 9 (.lst [rp w, d]) := Lf.lst fun x hx => by
    simp only [List.mem_cons, List.not_mem_nil, or_false] at hx
    rcases hx with rfl | rfl
    · exact hw.1
    · exact hd.1
  have hz : wt (.lst [rp w, d]) ≤ 2 ^ 20 := by
    rw [wt_lst, wl_cons, wl_cons]
    have : wl [] = 0 := rfl
    have := hw.2
    have := hd.2
    omega
  unfold reprD
  rw [e, if_pos ⟨hl.sh, hl.nd, by have := hl.dp; omega, PyData.shown_fits (by decide) (by decide) hl.lv hz⟩]
  exact ⟨_, rfl⟩
theorem judged_eq {w : List Int} {ps : List Dt} (hw : Ok (rp w)) (h : ∀ d ∈ ps, Ok d) : f_law_judged w ps = some true := by
  unfold f_law_judged
  rw [forL_nx, ret_nx]
  intro d hd
  obtain ⟨s, es⟩ := Ok.repr hw (h d hd)
  have hs := sm_of (h d hd).1.cl (h d hd).2
  rw [es, bind_s, shows_eq hs, bind_s, not_t, if_ft, law_shows_eq hs, bind_s, bind_s, decide_eq_false (fun z => z rfl), if_ft, bind_s, decide_eq_false (fun z => z rfl), bind_s, if_ft]
/-! ### papers out of lists of ints -/
def NI (m : Nat) (g : List Int) : Prop := g.length ≤ m ∧ ∀ x ∈ g, x.natAbs < 10 ^ 12
def NG (k m : Nat) (G : List (List Int)) : Prop := G.length ≤ k ∧ ∀ g ∈ G, NI m g
theorem wl_ints : ∀ {g : List Int}, (∀ x ∈ g, x.natAbs < 10 ^ 12) → wl (g.map rp) ≤ 41 * g.length
  | [], _ => Nat.zero_le _
  | x :: g, h => by
    rw [List.map_cons, wl_cons, List.length_cons]
    have h1 : wt (rp x) ≤ 40 := by
      unfold wt
      simp only [rp, Rp.rp, toPy, PyData.weight]
      split
      · omega
      · rename_i hx
        have hx0 : x.natAbs ≠ 0 := fun z => hx (by rw [beq_iff_eq]; omega)
        have := (Nat.log2_lt hx0).mpr (show x.natAbs < 2 ^ 40 by have := h x List.mem_cons_self; omega)
        omega
    have := wl_ints fun y hy => h y (List.mem_cons_of_mem x hy)
    omega
theorem NI.lf {m : Nat} {g : List Int} (h : NI m g) : Lf 1 (rp g) := Lf.lst fun d hd => by
  obtain ⟨x, hx, rfl⟩ := List.mem_map.mp hd
  exact Lf.int (h.2 x hx)
theorem NI.wt {m : Nat} {g : List Int} (h : NI m g) : K77.wt (rp g) ≤ 41 * m := by
  show K77.wt (.lst (g.map rp)) ≤ _
  rw [wt_lst]
  have := wl_ints h.2
  have := h.1
  omega
theorem NI.ok {m : Nat} {g : List Int} (h : NI m g) (hm : m ≤ 2000) : Ok (rp g) := ⟨h.lf.mono (by omega), by have := h.wt; omega⟩
theorem NG.wl {m : Nat} : ∀ {G : List (List Int)}, (∀ g ∈ G, NI m g) → K77.wl (G.map rp) ≤ G.length * (41 * m + 1)
  | [], _ => Nat.zero_le _
  | g :: G, h => by
    rw [List.map_cons, wl_cons, List.length_cons, Nat.succ_mul]
    have := (h g List.mem_cons_self).wt
    have := NG.wl fun x hx => h x (List.mem_cons_of_mem g hx)
    omega
theorem NG.lf {k m : Nat} {G : List (List Int)} (h : NG k m G) : ∀ d ∈ G.map (rp : List Int → Dt), Lf 1 d := fun d hd => by
  obtain ⟨g, hg, rfl⟩ := List.mem_map.mp hd
  exact (h.2 g hg).lf
theorem NG.ok {k m : Nat} {G : List (List Int)} (h : NG k m G) (hz : k * (41 * m + 1) ≤ 100000) : Ok (rp G) := by
  refine ⟨(Lf.lst h.lf).mono (by omega), ?_⟩
  show K77.wt (.lst (G.map rp)) ≤ _
  rw [wt_lst]
  have h1 := NG.wl h.2
  have h2 := Nat.mul_le_mul_right (41 * m + 1) h.1
  omega
theorem NG.okT {k m : Nat} {G : List (List Int)} (h : NG k m G) (hz : k * (41 * m + 1) ≤ 100000) : Ok (rp (TupL.mk G)) := by
  refine ⟨(Lf.tup h.lf).mono (by omega), ?_⟩
  show K77.wt (.tup (G.map rp)) ≤ _
  rw [wt_tup]
  have h1 := NG.wl h.2
  have h2 := Nat.mul_le_mul_right (41 * m + 1) h.1
  omega
theorem NI.okT {m : Nat} {g : List Int} (h : NI m g) (hm : m ≤ 2000) : Ok (rp (TupL.mk g)) := by
  refine ⟨(Lf.tup fun d hd => ?_ : Lf 1 (.tup (g.map rp))).mono (by omega), ?_⟩
  · obtain ⟨x, hx, rfl⟩ := List.mem_map.mp hd
    exact Lf.int (h.2 x hx)
  · show K77.wt (.tup (g.map rp)) ≤ _
    rw [wt_tup]
    have := wl_ints h.2
    have := h.1
    omega
theorem cut_sub {α : Type} {l : List α} {a b : Option Int} {x : α} (h : x ∈ cut l a b) : x ∈ l := by
  unfold cut at h
  exact List.mem_of_mem_drop (List.mem_of_mem_take h)
theorem NI.cut {m : Nat} {g : List Int} (h : NI m g) {a b : Option Int} : NI m (DL.cut g a b) := ⟨Nat.le_trans cut_len h.1, fun x hx => h.2 x (cut_sub hx)⟩
theorem NI.app {m k : Nat} {a b : List Int} (ha : NI m a) (hb : NI k b) : NI (m + k) (a ++ b) := ⟨by rw [List.length_append]; have := ha.1; have := hb.1; omega, fun x hx => (List.mem_append.mp hx).elim (ha.2 x) (hb.2 x)⟩
theorem NI.rev {m : Nat} {g : List Int} (h : NI m g) : NI m g.reverse := ⟨by rw [List.length_reverse]; exact h.1, fun x hx => h.2 x (List.mem_reverse.mp hx)⟩
theorem NI.one {x : Int} (h : x.natAbs < 10 ^ 12) : NI 1 [x] := ⟨Nat.le_refl _, fun y hy => by rw [List.mem_singleton.mp hy]; exact h⟩
theorem NI.nil {m : Nat} : NI m [] := ⟨Nat.zero_le _, fun _ h => nomatch h⟩
theorem NI.mono {m k : Nat} {g : List Int} (h : NI m g) (hk : m ≤ k) : NI k g := ⟨Nat.le_trans h.1 hk, h.2⟩
theorem NG.cut {k m : Nat} {G : List (List Int)} (h : NG k m G) {a b : Option Int} : NG k m (DL.cut G a b) := ⟨Nat.le_trans cut_len h.1, fun x hx => h.2 x (cut_sub hx)⟩
theorem NG.app {j k m : Nat} {a b : List (List Int)} (ha : NG j m a) (hb : NG k m b) : NG (j + k) m (a ++ b) := ⟨by rw [List.length_append]; have := ha.1; have := hb.1; omega, fun x hx => (List.mem_append.mp hx).elim (ha.2 x) (hb.2 x)⟩
theorem NG.rev {k m : Nat} {G : List (List Int)} (h : NG k m G) : NG k m G.reverse := ⟨by rw [List.length_reverse]; exact h.1, fun x hx => h.2 x (List.mem_reverse.mp hx)⟩
theorem NG.one {m : Nat} {g : List Int} (h : NI m g) : NG 1 m [g] := ⟨Nat.le_refl _, fun y hy => by rw [List.mem_singleton.mp hy]; exact h⟩
theorem NG.mono {j k m n : Nat} {G : List (List Int)} (h : NG j m G) (hk : j ≤ k) (hm : m ≤ n) : NG k n G := ⟨Nat.le_trans h.1 hk, fun g hg => (h.2 g hg).mono hm⟩
/-- a list of data with all its items small -/
def Od (n b : Nat) (l : List Dt) : Prop := (∀ d ∈ l, Lf n d) ∧ wl l ≤ b
theorem wl_cut (l : List Dt) (a b : Option Int) : wl (cut l a b) ≤ wl l := by
  unfold cut
  generalize HT.sIx l.length 0 a = i
  generalize HT.sIx l.length l.length b - i = j
  have h1 := wl_app (l.take i) (l.drop i)
  rw [List.take_append_drop] at h1
  have h2 := wl_app ((l.drop i).take j) ((l.drop i).drop j)
  rw [List.take_append_drop] at h2
  omega
theorem Od.cut {n b : Nat} {l : List Dt} (h : Od n b l) {x y : Option Int} : Od n b (DL.cut l x y) := ⟨fun d hd => h.1 d (cut_sub hd), Nat.le_trans (wl_cut _ _ _) h.2⟩
theorem Od.app {n a b : Nat} {l r : List Dt} (h : Od n a l) (h2 : Od n b r) : Od n (a + b) (l ++ r) := ⟨fun d hd => (List.mem_append.mp hd).elim (h.1 d) (h2.1 d), by rw [wl_app]; have := h.2; have := h2.2; omega⟩
theorem Od.one {n b : Nat} {d : Dt} (h : Lf n d) (hb : wt d ≤ b) : Od n (b + 1) [d] := ⟨fun x hx => by rw [List.mem_singleton.mp hx]; exact h, by rw [wl_cons]; have : wl [] = 0 := rfl; omega⟩
theorem Od.ok {n b : Nat} {l : List Dt} (h : Od n b l) (hn : n ≤ 7) (hb : b ≤ 100000) : Ok (rp l) := by
  have e : rp l = Dt.lst l := by
    show Dt.lst (l.map fun d => d) = Dt.lst l
    rw [List.map_id']
  rw [e]
  exact ⟨(Lf.lst h.1).mono (by omega), by rw [wt_lst]; have := h.2; omega⟩
theorem with_eq {l : List Dt} {n b c : Nat} {x : Dt} {k : Int} (hl : Od n b l) (hx : Lf n x) (hw : wt x ≤ c) (hb : b ≤ 1000000) : ∃ r, f_law_with l k x = some r ∧ Od n (b + (c + 1) + b) r := by
  unfold f_law_with
  have h1 : (cut l none (some k)).length ≤ l.length := cut_len
  have h2 : (cut l (some (k + (1 : Int))) none).length ≤ l.length := cut_len
  have h3 := wl_len l
  have h4 := hl.2
  rw [lim_of (by rw [List.length_append, List.length_singleton]; omega), bind_s, lim_of (by rw [List.length_append, List.length_append, List.length_singleton]; omega)]
  exact ⟨_, rfl, (hl.cut.app (Od.one hx hw)).app hl.cut⟩
end L2.DL.K77

namespace L2.DL.K77
open PySem PySem.Spec PyProof.Rows
abbrev All (l : List Dt) : Prop := ∀ d ∈ l, Ok d
theorem all_cons {d : Dt} {l : List Dt} (h : Ok d) (hl : All l) : All (d :: l) := fun x hx => (List.mem_cons.mp hx).elim (fun e => e ▸ h) (hl x)
theorem all_nil : All [] := fun _ h => nomatch h
theorem all_app {a b : List Dt} (ha : All a) (hb : All b) : All (a ++ b) := fun x hx => (List.mem_append.mp hx).elim (ha x) (hb x)
/-- papers that were made -/
def Pp (n : Nat) (l : List Dt) : Prop := All l ∧ l.length ≤ n
theorem c1 {L : Option (List Dt)} {x : Dt} {n : Nat} (h : Rets L (Pp n)) (hx : Ok x) : Rets (L.bind fun l => some (x :: l)) (Pp (n + 1)) := h.bind fun l hl => .pure ⟨all_cons hx hl.1, Nat.succ_le_succ hl.2⟩
theorem c2 {o : Option Dt} {L : Option (List Dt)} {n : Nat} (ho : Rets o Ok) (h : Rets L (Pp n)) : Rets (o.bind fun v => L.bind fun l => some (v :: l)) (Pp (n + 1)) := ho.bind fun v hv => h.bind fun l hl => .pure ⟨all_cons hv hl.1, Nat.succ_le_succ hl.2⟩
theorem c3 {o : Option Dt} {l : List Dt} {n : Nat} (ho : Rets o Ok) (hl : Pp n l) : Rets (o.bind fun v => some (v :: l)) (Pp (n + 1)) := ho.bind fun v hv => .pure ⟨all_cons hv hl.1, Nat.succ_le_succ hl.2⟩
theorem nilP : Pp 0 [] := ⟨all_nil, Nat.le_refl _⟩
theorem limR {α : Type} [Rp α] {l : List α} (hl : l.length ≤ 16777216) (h : Ok (rp l)) : Rets ((lim l).map rp) Ok := by
  rw [lim_of hl, map_s]
  exact .pure h
theorem part1 {w : List Int} {G : List (List Int)} (hw : NI 400 w) (hG : NG 40 10 G) : Rets (((((((((lim (G ++ (cut G (some (-(1 : Int))) none))).map rp).bind fun v35 => (((lim (G ++ ([([] : (List Int))] : (List (List Int))))).map rp).bind fun v33 => (((lim (([([] : (List Int))] : (List (List Int))) ++ G)).map rp).bind fun v31 => ((((lim (w.map fun x23 => ([x23] : (List Int)))).map rp).bind fun v27 => some (v27 :: ([] : (List Dt)))).bind fun l30 => some ((rp ([w] : (List (List Int)))) :: l30)).bind fun l32 => some (v31 :: l32)).bind fun l34 => some (v33 :: l34)).bind fun l36 => some (v35 :: l36)).bind fun l38 => some ((rp (cut G none (some (-(1 : Int))))) :: l38)).bind fun l40 => some ((rp (cut G (some (1 : Int)) none)) :: l40)).bind fun l42 => some ((rp G.reverse) :: l42)).bind fun l44 => some ((rp (TupL.mk G)) :: l44)).bind fun l46 => some ((rp G) :: l46))) (Pp 10) := by
  have l1 : (cut G (some (-(1 : Int))) none).length ≤ G.length := cut_len
  have l2 := hG.1
  have l3 := hw.1
  refine c1 (c1 (c1 (c1 (c1 (c2 (limR (by rw [List.length_append]; omega) ((hG.app hG.cut).ok (by decide))) (c2 (limR (by rw [List.length_append, List.length_singleton]; omega) ((hG.app (NG.one NI.nil)).ok (by decide))) (c2 (limR (by rw [List.length_append, List.length_singleton]; omega) (((NG.one NI.nil).app hG).ok (by decide))) (c1 (c3 (limR (by rw [List.length_map]; omega) ?_) nilP) ((NG.one hw).ok (by decide)))))) (hG.cut.ok (by decide))) (hG.cut.ok (by decide))) (hG.rev.ok (by decide))) (hG.okT (by decide))) (hG.ok (by decide))
  refine NG.ok (k := 400) (m := 1) ⟨by rw [List.length_map]; exact l3, fun g hg => ?_⟩ (by decide)
  obtain ⟨x, hx, rfl⟩ := List.mem_map.mp hg
  exact NI.one (hw.2 x hx)
/-! items of a paper -/
def Os (d : Dt) : Prop := Lf 3 d ∧ wt d ≤ 1000
def Ps (n : Nat) (l : List Dt) : Prop := (∀ d ∈ l, Os d) ∧ l.length ≤ n
theorem s_cons {d : Dt} {l : List Dt} {n : Nat} (h : Os d) (hl : Ps n l) : Ps (n + 1) (d :: l) := ⟨fun x hx => (List.mem_cons.mp hx).elim (fun e => e ▸ h) (hl.1 x), Nat.succ_le_succ hl.2⟩
theorem s_nil : Ps 0 [] := ⟨fun _ h => (nomatch h), Nat.le_refl _⟩
theorem s1 {L : Option (List Dt)} {x : Dt} {n : Nat} (h : Rets L (Ps n)) (hx : Os x) : Rets (L.bind fun l => some (x :: l)) (Ps (n + 1)) := h.bind fun l hl => .pure (s_cons hx hl)
theorem s2 {o : Option Dt} {L : Option (List Dt)} {n : Nat} (ho : Rets o Os) (h : Rets L (Ps n)) : Rets (o.bind fun v => L.bind fun l => some (v :: l)) (Ps (n + 1)) := ho.bind fun v hv => h.bind fun l hl => .pure (s_cons hv hl)
theorem s3 {o : Option Dt} {l : List Dt} {n : Nat} (ho : Rets o Os) (hl : Ps n l) : Rets (o.bind fun v => some (v :: l)) (Ps (n + 1)) := ho.bind fun v hv => .pure (s_cons hv hl)
theorem NI.os {m : Nat} {g : List Int} (h : NI m g) (hm : m ≤ 24) : Os (rp g) := ⟨h.lf.mono (by omega), by have := h.wt; omega⟩
theorem NI.osT {m : Nat} {g : List Int} (h : NI m g) (hm : m ≤ 24) : Os (rp (TupL.mk g)) := by
  refine ⟨(Lf.tup fun d hd => ?_ : Lf 1 (.tup (g.map rp))).mono (by omega), ?_⟩
  · obtain ⟨x, hx, rfl⟩ := List.mem_map.mp hd
    exact Lf.int (h.2 x hx)
  · show K77.wt (.tup (g.map rp)) ≤ _
    rw [wt_tup]
    have := wl_ints h.2
    have := h.1
    omega
theorem os_int {x : Int} (h : x.natAbs < 10 ^ 12) : Os (rp x) := ⟨Lf.int h, by
  have := (NI.one h).wt
  have e : wt (rp ([x] : List Int)) = wt (rp x) + 1 := by
    show wt (.lst [rp x]) = _
    rw [wt_lst, wl_cons]
    rfl
  omega⟩
theorem os_str {s : Str} (h : (PyData.str s).leavesShort 13 = true) (h2 : (PyData.str s).weight ≤ 1000) : Os (.str s) := ⟨⟨rfl, rfl, h, rfl, Nat.zero_le _⟩, h2⟩
theorem limS {α : Type} [Rp α] {l : List α} (hl : l.length ≤ 16777216) (h : Os (rp l)) : Rets ((lim l).map rp) Os := by
  rw [lim_of hl, map_s]
  exact .pure h
theorem part2 {g : List Int} (h : NI 10 g) (h0 : 0 < g.length) : Rets ((((((lim ((cut g (some (1 : Int)) none) ++ (cut g none (some (1 : Int))))).map rp).bind fun v367 => (((lim (g ++ g)).map rp).bind fun v365 => (((((lim (([(rp false)] : (List Dt)) ++ ((cut g (some (1 : Int)) none).map fun y => (rp y : Dt)))).map rp).bind fun v359 => (((lim (([(-(1 : Int))] : (List Int)) ++ (cut g (some (1 : Int)) none))).map rp).bind fun v357 => ((((atI g (0 : Int)).map rp).bind fun v353 => some (v353 :: ([(rp (Str.ofString ""))] : (List Dt)))).bind fun l356 => some (Dt.non :: l356)).bind fun l358 => some (v357 :: l358)).bind fun l360 => some (v359 :: l360)).bind fun l362 => some ((rp ([true] : (List Bool))) :: l362)).bind fun l364 => some ((rp (cut g none (some (-(1 : Int))))) :: l364)).bind fun l366 => some (v365 :: l366)).bind fun l368 => some (v367 :: l368)).bind fun l370 => some ((rp g.reverse) :: l370)).bind fun l372 => some ((rp (TupL.mk g)) :: l372))) (Ps 11) := by
  have hl := h.1
  have l1 : (cut g (some (1 : Int)) none).length ≤ g.length := cut_len
  have l2 : (cut g none (some (1 : Int))).length ≤ g.length := cut_len
  have hat : Rets ((atI g (0 : Int)).map rp) Os := by
    have e : atI g (0 : Int) = some g[0] := atI_nat (k := 0) h0
    rw [e, map_s]
    exact .pure (os_int (h.2 _ (List.getElem_mem h0)))
  have hf : Os (rp (([(rp false)] : (List Dt)) ++ ((cut g (some (1 : Int)) none).map fun y => (rp y : Dt)))) := by
    have e : rp (([(rp false)] : (List Dt)) ++ ((cut g (some (1 : Int)) none).map fun y => (rp y : Dt))) = Dt.lst (([(rp false)] : (List Dt)) ++ ((cut g (some (1 : Int)) none).map fun y => (rp y : Dt))) := by
      show Dt.lst ((_ : List Dt).map fun d => d) = _
      rw [List.map_id']
    rw [e]
    have hc : NI 10 (cut g (some (1 : Int)) none) := h.cut
    refine ⟨(Lf.lst fun d hd => ?_ : Lf 1 _).mono (by omega), ?_⟩
    · rcases List.mem_append.mp hd with hd | hd
      · rw [List.mem_singleton.mp hd]
        exact Lf.bl
      · obtain ⟨x, hx, rfl⟩ := List.mem_map.mp hd
        exact Lf.int (hc.2 x hx)
    · rw [wt_lst, wl_app]
      have h1 := wl_ints hc.2
      have h2 := hc.1
      have h3 : wl [(rp false : Dt)] = 1 := rfl
      have h4 : wl ((cut g (some (1 : Int)) none).map fun y => (rp y : Dt)) = wl ((cut g (some (1 : Int)) none).map rp) := rfl
      omega
  refine s1 (s1 (s2 (limS (by rw [List.length_append]; omega) ((h.cut.app h.cut).os (by decide))) (s2 (limS (by rw [List.length_append]; omega) ((h.app h).os (by decide))) (s1 (s1 (s2 (limS (by rw [List.length_append, List.length_singleton, List.length_map]; omega) hf) (s2 (limS (by rw [List.length_append, List.length_singleton]; omega) (((NI.one (by decide)).app h.cut).os (by decide))) (s1 (s3 hat (s_cons (os_str (by decide +kernel) (by decide +kernel)) s_nil)) ⟨Lf.non, by decide⟩))) ⟨Lf.mono (n := 1) (Lf.lst fun d hd => by rw [List.mem_singleton.mp hd]; exact Lf.bl) (by omega), by decide⟩) (h.cut.os (by decide))))) (h.rev.os (by decide))) (h.osT (by decide))
theorem part3 {g : List Int} (h : NI 10 g) (h0 : 0 < g.length) (hx : ∀ x ∈ g, 0 ≤ x ∧ x < 4) : Rets (((((atI g (0 : Int)).bind fun v388 => some (v388 + (1 : Int))).map rp).bind fun v420 => ((((atI g (0 : Int)).bind fun v392 => strI v392).map rp).bind fun v418 => ((((((atI g (0 : Int)).bind fun v395 => some (v395 :: ([] : (List Int)))).map rp).bind fun v412 => (((((atI g (0 : Int)).bind fun v399 => some (v399 :: ([] : (List Int)))).map TupL.mk).map rp).bind fun v410 => (((((atI g (0 : Int)).bind fun v404 => some (-v404)).bind fun v407 => some (v407 - (1 : Int))).map rp).bind fun v408 => some (v408 :: ([] : (List Dt)))).bind fun l411 => some (v410 :: l411)).bind fun l413 => some (v412 :: l413)).bind fun l415 => some (Dt.non :: l415)).bind fun l417 => some ((rp true) :: l417)).bind fun l419 => some (v418 :: l419)).bind fun l421 => some (v420 :: l421))) (Ps 7) := by
  have e : atI g (0 : Int) = some g[0] := atI_nat (k := 0) h0
  have hb := hx _ (List.getElem_mem h0)
  rw [e]
  generalize g[0] = y at hb
  simp only [bind_s, map_s]
  have hs : Rets ((strI y).map rp) Os := by
    have : y = 0 ∨ y = 1 ∨ y = 2 ∨ y = 3 := by omega
    rcases this with rfl | rfl | rfl | rfl
    · exact ⟨_, rfl, os_str (by decide +kernel) (by decide +kernel)⟩
    · exact ⟨_, rfl, os_str (by decide +kernel) (by decide +kernel)⟩
    · exact ⟨_, rfl, os_str (by decide +kernel) (by decide +kernel)⟩
    · exact ⟨_, rfl, os_str (by decide +kernel) (by decide +kernel)⟩
  have ob : ∀ b : Bool, Os (rp b) := fun b => ⟨Lf.bl, by cases b <;> decide⟩
  obtain ⟨v, ev, hv⟩ := hs
  rw [ev]
  simp only [bind_s]
  refine .pure ?_
  exact s_cons (os_int (by omega)) (s_cons hv (s_cons (ob true) (s_cons ⟨Lf.non, by decide⟩ (s_cons ((NI.one (by omega)).os (by decide)) (s_cons ((NI.one (by omega)).osT (by decide)) (s_cons (os_int (by omega)) s_nil))))))
theorem ok_one {d : Dt} (h : Lf 7 d) (hw : wt d ≤ 99999) : Ok (.lst [d]) := ⟨Lf.lst fun x hx => by rw [List.mem_singleton.mp hx]; exact h, by
  rw [wt_lst, wl_cons]
  have : wl [] = 0 := rfl
  omega⟩
theorem ok_str {s : Str} (h : (PyData.str s).leavesShort 13 = true) (h2 : (PyData.str s).weight ≤ 1000) : Ok (.str s) := ⟨⟨rfl, rfl, h, rfl, Nat.zero_le _⟩, Nat.le_trans h2 (by decide)⟩
theorem part4 {w : List Int} {G : List (List Int)} (hw : NI 400 w) (hG : NG 40 10 G) : Pp 14 ([Dt.non, (rp true), (rp (0 : Int)), (rp (Str.ofString "")), (rp (Str.ofString "heads")), (rp (TupL.mk ([] : (List Int)))), (rp ([] : (List Int))), (rp ([([] : (List Int))] : (List (List Int)))), (rp ([()] : (List Unit))), (rp ([([()] : (List Unit))] : (List (List Unit)))), (rp w), (rp ([w, ([] : (List Int))] : (List (List Int)))), (rp ([(TupL.mk w)] : (List (TupL Int)))), (rp ([G] : (List (List (List Int)))))] : (List Dt)) := by
  refine ⟨fun d hd => ?_, Nat.le_refl _⟩
  simp only [List.mem_cons, List.not_mem_nil, or_false] at hd
  have sm : ∀ {d : Dt}, Lf 4 d → wt d ≤ 10 → Ok d := fun h1 h2 => ⟨h1.mono (by omega), by omega⟩
  rcases hd with rfl | rfl | rfl | rfl | rfl | rfl | rfl | rfl | rfl | rfl | rfl | rfl | rfl | rfl
  · exact sm Lf.non (by decide)
  · exact sm Lf.bl (by decide)
  · exact sm (Lf.int (by decide)) (by decide)
  · exact ok_str (by decide +kernel) (by decide +kernel)
  · exact ok_str (by decide +kernel) (by decide +kernel)
  · exact NI.okT (m := 0) NI.nil (by decide)
  · exact NI.ok (m := 0) NI.nil (by decide)
  · exact NG.ok (k := 1) (m := 0) (NG.one NI.nil) (by decide)
  · exact sm ((Lf.lst (n := 0) fun d hd => by rw [List.mem_singleton.mp hd]; exact Lf.non).mono (by omega)) (by decide)
  · exact sm ((Lf.lst (n := 1) fun d hd => by rw [List.mem_singleton.mp hd]; exact Lf.lst (n := 0) fun d hd => by rw [List.mem_singleton.mp hd]; exact Lf.non).mono (by omega)) (by decide)
  · exact hw.ok (by decide)
  · exact ((NG.one hw).app (NG.one (NI.nil (m := 400)))).ok (by decide)
  · have h1 : Lf 1 (rp (TupL.mk w)) := Lf.tup fun d hd => by
      obtain ⟨x, hx, rfl⟩ := List.mem_map.mp hd
      exact Lf.int (hw.2 x hx)
    have h2 : wt (rp (TupL.mk w)) ≤ 41 * 400 := by
      show wt (.tup (w.map rp)) ≤ _
      rw [wt_tup]
      have := wl_ints hw.2
      have := hw.1
      omega
    exact ok_one (h1.mono (by omega)) (by omega)
  · have h1 : Lf 2 (rp G) := Lf.lst hG.lf
    have h2 : wt (rp G) ≤ 40 * (41 * 10 + 1) := by
      show wt (.lst (G.map rp)) ≤ _
      rw [wt_lst]
      have h1 := NG.wl hG.2
      have h2 := Nat.mul_le_mul_right (41 * 10 + 1) hG.1
      omega
    exact ok_one (h1.mono (by omega)) (by omega)
end L2.DL.K77

namespace L2.DL.K77
open PySem PySem.Spec PyProof.Rows
theorem od_lst {k m : Nat} {G : List (List Int)} (h : NG k m G) (n : Nat) (hn : 1 ≤ n) : Od n (k * (41 * m + 1)) (G.map fun y => (rp y : Dt)) := ⟨fun d hd => (h.lf d hd).mono hn, by
  have h1 := NG.wl h.2
  have h2 := Nat.mul_le_mul_right (41 * m + 1) h.1
  exact Nat.le_trans h1 h2⟩
theorem od_ints {m : Nat} {g : List Int} (h : NI m g) (n : Nat) : Od n (41 * m) (g.map fun y => (rp y : Dt)) := ⟨fun d hd => by
  obtain ⟨x, hx, rfl⟩ := List.mem_map.mp hd
  exact Lf.int (h.2 x hx), by
  have h1 := wl_ints h.2
  have h2 := h.1
  show wl (g.map rp) ≤ _
  omega⟩
theorem loop1 {G : List (List Int)} {at' : Int} (hG : NG 40 10 G) {l s : List Dt} {n : Nat} (hl : ∀ d ∈ l, Os d) (hs : Pp n s) (hn : n + l.length ≤ 1000) :
    Rets (l.foldlM (fun (s373 : (List Dt)) (other_374 : Dt) =>
 (((f_law_with (G.map fun y => (rp y : Dt)) at' other_374).map rp).bind fun v380 => lim (s373 ++ [v380])).bind fun papers_375 =>
 some papers_375) s) (Pp (n + l.length)) := by
  refine (Rets.fold (fun k (s : List Dt) => Pp (n + k) s) (N := l.length) l 0 s (by omega) hs ?_).mono fun s hs => by rwa [Nat.zero_add] at hs
  intro k s x hx hk hs
  obtain ⟨o1, o2⟩ := hl x hx
  obtain ⟨r, er, hr⟩ := with_eq (k := at') (od_lst hG 3 (by omega)) o1 o2 (by decide)
  have hok : Ok (rp r) := hr.ok (by decide) (by decide)
  rw [er, map_s, bind_s, lim_of (by rw [List.length_append, List.length_singleton]; have := hs.2; omega), bind_s]
  exact .pure ⟨all_app hs.1 (all_cons hok all_nil), by rw [List.length_append, List.length_singleton]; have := hs.2; omega⟩
theorem loop2 {G : List (List Int)} {g : List Int} {at' : Int} (hG : NG 40 10 G) (hg : NI 10 g) {l s : List Dt} {n : Nat} (hl : ∀ d ∈ l, Os d) (hs : Pp n s) (hn : n + l.length ≤ 1000) :
    Rets (l.foldlM (fun (s422 : (List Dt)) (other_423 : Dt) =>
 (((((f_law_with (g.map fun y => (rp y : Dt)) (0 : Int) other_423).map rp).bind fun v431 => f_law_with (G.map fun y => (rp y : Dt)) at' v431).map rp).bind fun v433 => lim (s422 ++ [v433])).bind fun papers_424 =>
 some papers_424) s) (Pp (n + l.length)) := by
  refine (Rets.fold (fun k (s : List Dt) => Pp (n + k) s) (N := l.length) l 0 s (by omega) hs ?_).mono fun s hs => by rwa [Nat.zero_add] at hs
  intro k s x hx hk hs
  obtain ⟨o1, o2⟩ := hl x hx
  obtain ⟨r, er, hr⟩ := with_eq (k := (0 : Int)) (od_ints hg 3) o1 o2 (by decide)
  have e : rp r = Dt.lst r := by
    show Dt.lst (r.map fun d => d) = Dt.lst r
    rw [List.map_id']
  have h1 : Lf 4 (rp r) := by
    rw [e]
    exact Lf.lst hr.1
  have h2 : wt (rp r) ≤ 2000 := by
    rw [e, wt_lst]
    exact Nat.le_trans hr.2 (by decide)
  obtain ⟨r2, er2, hr2⟩ := with_eq (k := at') (od_lst hG 4 (by omega)) h1 h2 (by decide)
  have hok : Ok (rp r2) := hr2.ok (by decide) (by decide)
  rw [er, map_s, bind_s, er2, map_s, bind_s, lim_of (by rw [List.length_append, List.length_singleton]; have := hs.2; omega), bind_s]
  exact .pure ⟨all_app hs.1 (all_cons hok all_nil), by rw [List.length_append, List.length_singleton]; have := hs.2; omega⟩
theorem okG {k m : Nat} {G : List (List Int)} (h : NG k m G) (hz : k * (41 * m + 1) ≤ 100000) : Ok (rp G) := h.ok hz
theorem lim_ok {s : List Dt} {n : Nat} {d : Dt} (hs : Pp n s) (hn : n ≤ 1000) (hd : Ok d) : lim (s ++ [d]) = some (s ++ [d]) ∧ Pp (n + 1) (s ++ [d]) :=
  ⟨lim_of (by rw [List.length_append, List.length_singleton]; have := hs.2; omega), all_app hs.1 (all_cons hd all_nil), by rw [List.length_append, List.length_singleton]; have := hs.2; omega⟩
theorem Pp.up {n m : Nat} {s : List Dt} (h : Pp n s) (hm : n ≤ m) : Pp m s := ⟨h.1, Nat.le_trans h.2 hm⟩
theorem papers_eq {w : List Int} {G : List (List Int)} {ds : List Int} (hd : ds.length = 60 ∧ Drawn ds) (hw : NI 400 w) (hG : NG 40 10 G) (h4 : ∀ g ∈ G, 0 < g.length ∧ ∀ x ∈ g, 0 ≤ x ∧ x < 4) : Rets (f_law_papers w G ds) All := by
  unfold f_law_papers
  refine .bind (part1 hw hG) fun p47 h47 => ?_
  have h94 := part4 hw hG
  rw [lim_of (by
    rw [List.length_append]
    have := h47.2
    have := h94.2
    omega), bind_s]
  have hp : Pp 24 (p47 ++ _) := ⟨all_app h47.1 h94.1, by
    rw [List.length_append]
    have := h47.2
    have := h94.2
    omega⟩
  refine .bind (Q := All) (.ite (fun hc => ?_) fun _ => .pure hp.1) fun s hs => .pure hs
  have hc : 0 < G.length := by have := of_decide_eq_true hc; omega
  obtain ⟨x1, e1, p1⟩ := draw_at hd 1 (by decide) (by decide)
  have m0 := Int.emod_nonneg x1 (show (G.length : Int) ≠ 0 by omega)
  have m1 := Int.emod_lt_of_pos x1 (show (0 : Int) < (G.length : Int) by omega)
  rw [e1, bind_s, modP_of (by omega), bind_s]
  obtain ⟨k, ek⟩ := Int.eq_ofNat_of_zero_le m0
  rw [ek] at m1 ⊢
  have hk : k < G.length := by omega
  rw [atI_nat hk, bind_s]
  have hg := hG.2 _ (List.getElem_mem hk)
  obtain ⟨g0, g4⟩ := h4 _ (List.getElem_mem hk)
  refine .bind (Q := Pp 35) (.bind (part2 hg g0) fun l hl => (loop1 hG hl.1 hp (by have := hl.2; omega)).mono fun s h => h.up (by have := hl.2; omega)) fun s1 hs1 => ?_
  refine .bind (Q := Pp 42) (.bind (part3 hg g0 g4) fun l hl => (loop2 hG hg hl.1 hs1 (by have := hl.2; omega)).mono fun s h => h.up (by have := hl.2; omega)) fun s2 hs2 => ?_
  have hG20 : NG 40 20 G := hG.mono (Nat.le_refl _) (by omega)
  have cl : ∀ a b, (cut G a b).length ≤ 40 := fun a b => Nat.le_trans cut_len hG.1
  have gl := hg.1
  have hg20 : NI 20 (cut (G[k]) none (some (1 : Int))) := (NI.cut hg).mono (by omega)
  have hg21 : NI 20 (cut (G[k]) (some (1 : Int)) none) := (NI.cut hg).mono (by omega)
  have two : NG 2 20 [cut (G[k]) none (some (1 : Int)), cut (G[k]) (some (1 : Int)) none] := (NG.one hg20).app (NG.one hg21)
  have b1 := ((hG20.cut (a := none) (b := some (k : Int))).app two).app (hG20.cut (a := some ((k : Int) + (1 : Int))) (b := none))
  have c1 := cl none (some (k : Int))
  have c2 := cl (some ((k : Int) + (1 : Int))) none
  rw [lim_of (by rw [List.length_append]; simp only [List.length_cons, List.length_nil]; omega), bind_s, lim_of (by rw [List.length_append, List.length_append]; simp only [List.length_cons, List.length_nil]; omega), map_s, bind_s]
  obtain ⟨e43, h43⟩ := lim_ok hs2 (by omega) (b1.ok (by decide))
  rw [e43, bind_s]
  refine .ite (fun hk0 => ?_) fun _ => .pure h43.1
  have hk0 : 0 < k := by have := of_decide_eq_true hk0; omega
  have h1 : k - 1 < G.length := by omega
  have hq := hG.2 _ (List.getElem_mem h1)
  have ql := hq.1
  have c3 := cl none (some (((k - 1 : Nat)) : Int))
  rw [show (k : Int) - 1 = ((k - 1 : Nat) : Int) by omega, atI_nat h1]
  simp only [bind_s]
  rw [lim_of (by rw [List.length_append]; omega)]
  simp only [bind_s]
  rw [lim_of (by rw [List.length_append, List.length_singleton]; omega)]
  simp only [bind_s]
  rw [lim_of (by rw [List.length_append, List.length_append, List.length_singleton]; omega)]
  simp only [map_s, bind_s]
  have b2 := ((hG20.cut (a := none) (b := some (((k - 1 : Nat)) : Int))).app (NG.one ((hq.app hg).mono (by omega)))).app (hG20.cut (a := some ((k : Int) + (1 : Int))) (b := none))
  obtain ⟨e44, h44⟩ := lim_ok h43 (by omega) (b2.ok (by decide))
  rw [e44]
  simp only [bind_s]
  have b3 := ((hG20.cut (a := none) (b := some (((k - 1 : Nat)) : Int))).app ((NG.one (hg.mono (by omega : 10 ≤ 20))).app (NG.one (hq.mono (by omega : 10 ≤ 20))))).app (hG20.cut (a := some ((k : Int) + (1 : Int))) (b := none))
  rw [lim_of (by rw [List.length_append]; simp only [List.length_cons, List.length_nil]; omega)]
  simp only [bind_s]
  rw [lim_of (by rw [List.length_append, List.length_append]; simp only [List.length_cons, List.length_nil]; omega)]
  simp only [map_s, bind_s]
  obtain ⟨e45, h45⟩ := lim_ok h44 (by omega) (b3.ok (by decide))
  have e45' : lim (s2 ++ [rp (cut G none (some (k : Int)) ++ [cut (G[k]) none (some (1 : Int)), cut (G[k]) (some (1 : Int)) none] ++ cut G (some ((k : Int) + (1 : Int))) none)] ++ [rp (cut G none (some ((k - 1 : Nat) : Int)) ++ [G[k - 1] ++ G[k]] ++ cut G (some ((k : Int) + (1 : Int))) none)] ++ [rp (cut G none (some ((k - 1 : Nat) : Int)) ++ [G[k], G[k - 1]] ++ cut G (some ((k : Int) + (1 : Int))) none)]) = _ := e45
  rw [e45']
  exact .pure h45.1
end L2.DL.K77

namespace L2.DL.K77
open PySem PySem.Spec PyProof.Rows
/-! ### all ways to part a word -/
def lastP (c : List (List Int)) : List Int := c.getLast?.getD []
def grow1 (n : Int) (c : List (List Int)) : List (List Int) := c.dropLast ++ [lastP c ++ [n]]
def grow2 (n : Int) (c : List (List Int)) : List (List Int) := c ++ [[n]]
def stepC (F : List (List (List Int))) (n : Int) : List (List (List Int)) := F.flatMap fun c => [grow1 n c, grow2 n c]
def cutsP : List Int → List (List (List Int))
  | [] => [[]]
  | x :: w => w.foldl stepC [[[x]]]
/-- c parts w -/
def Prt (c : List (List Int)) (w : List Int) : Prop := (∀ g ∈ c, g ≠ []) ∧ c.flatten = w
theorem snoc {α : Type} {l : List α} (h : l ≠ []) : ∃ a x, l = a ++ [x] := ⟨l.dropLast, l.getLast h, (List.dropLast_concat_getLast h).symm⟩
theorem grow1_snoc (n : Int) (a : List (List Int)) (x : List Int) : grow1 n (a ++ [x]) = a ++ [x ++ [n]] := by
  unfold grow1 lastP
  rw [List.dropLast_concat, List.getLast?_concat]
  rfl
/-- F holds each parting of w once -/
structure Cuts (F : List (List (List Int))) (w : List Int) : Prop where
  mem : ∀ c, c ∈ F ↔ Prt c w
  nd : F.Nodup
theorem Prt.ne {c : List (List Int)} {w : List Int} (h : Prt c w) (hw : w ≠ []) : c ≠ [] := fun z => hw (by rw [← h.2, z]; rfl)
theorem cuts_step {F : List (List (List Int))} {w : List Int} (h : Cuts F w) (hw : w ≠ []) (n : Int) : Cuts (stepC F n) (w ++ [n]) where
  mem := fun c => by
    unfold stepC
    rw [List.mem_flatMap]
    constructor
    · rintro ⟨b, hb, hc⟩
      have hp := (h.mem b).mp hb
      obtain ⟨a, x, rfl⟩ := snoc (hp.ne hw)
      have hc : c = grow1 n (a ++ [x]) ∨ c = grow2 n (a ++ [x]) := by simpa using hc
      have h2 := hp.2
      rw [List.flatten_append, List.flatten_singleton] at h2
      rcases hc with rfl | rfl
      · rw [grow1_snoc]
        refine ⟨fun g hg => ?_, by rw [List.flatten_append, List.flatten_singleton, ← List.append_assoc, h2]⟩
        rcases List.mem_append.mp hg with hg | hg
        · exact hp.1 g (List.mem_append_left _ hg)
        · rw [List.mem_singleton.mp hg]
          simp
      · unfold grow2
        refine ⟨fun g hg => ?_, by rw [List.flatten_append, hp.2, List.flatten_singleton]⟩
        rcases List.mem_append.mp hg with hg | hg
        · exact hp.1 g hg
        · rw [List.mem_singleton.mp hg]
          simp
    · intro hp
      obtain ⟨a, x, rfl⟩ := snoc (hp.ne (by simp))
      obtain ⟨y, m, rfl⟩ := snoc (hp.1 x (by simp))
      have h2 := hp.2
      rw [List.flatten_append, List.flatten_singleton, ← List.append_assoc] at h2
      obtain ⟨h3, h4⟩ := List.append_inj' h2 rfl
      have h5 : m = n := by simpa using h4
      subst h5
      by_cases hy : y = []
      · subst hy
        rw [List.append_nil] at h3
        exact ⟨a, (h.mem a).mpr ⟨fun g hg => hp.1 g (List.mem_append_left _ hg), h3⟩, by simp [grow2]⟩
      · refine ⟨a ++ [y], (h.mem _).mpr ⟨fun g hg => ?_, by rw [List.flatten_append, List.flatten_singleton]; exact h3⟩, by rw [grow1_snoc]; simp⟩
        rcases List.mem_append.mp hg with hg | hg
        · exact hp.1 g (List.mem_append_left _ hg)
        · rw [List.mem_singleton.mp hg]
          exact hy
  nd := by
    unfold stepC List.Nodup
    rw [List.pairwise_flatMap]
    refine ⟨fun c hc => ?_, ?_⟩
    · obtain ⟨a, x, rfl⟩ := snoc (((h.mem c).mp hc).ne hw)
      rw [List.pairwise_cons]
      refine ⟨fun z hz e => ?_, List.pairwise_singleton _ _⟩
      rw [List.mem_singleton.mp hz, grow1_snoc] at e
      have := congrArg List.length e
      simp [grow2] at this
    · refine List.Pairwise.imp_of_mem ?_ h.nd
      intro c c' hc hc' hne
      have hp := (h.mem c).mp hc
      have hp' := (h.mem c').mp hc'
      obtain ⟨a, x, rfl⟩ := snoc (hp.ne hw)
      obtain ⟨b, y, rfl⟩ := snoc (hp'.ne hw)
      have hx : x ≠ [] := hp.1 x (by simp)
      have hy : y ≠ [] := hp'.1 y (by simp)
      intro u hu v hv e
      have hu : u = a ++ [x ++ [n]] ∨ u = a ++ [x] ++ [[n]] := by
        have : u = grow1 n (a ++ [x]) ∨ u = grow2 n (a ++ [x]) := by simpa using hu
        rwa [grow1_snoc] at this
      have hv : v = b ++ [y ++ [n]] ∨ v = b ++ [y] ++ [[n]] := by
        have : v = grow1 n (b ++ [y]) ∨ v = grow2 n (b ++ [y]) := by simpa using hv
        rwa [grow1_snoc] at this
      subst e
      rcases hu with rfl | rfl <;> rcases hv with hv | hv
      · obtain ⟨h1, h2⟩ := List.append_inj' hv rfl
        have h3 : x ++ [n] = y ++ [n] := by simpa using h2
        exact hne (by rw [h1, List.append_cancel_right h3])
      · obtain ⟨h1, h2⟩ := List.append_inj' hv rfl
        have h3 : x ++ [n] = [n] := by simpa using h2
        exact hx (by simpa using h3)
      · obtain ⟨h1, h2⟩ := List.append_inj' hv rfl
        have h3 : [n] = y ++ [n] := by simpa using h2
        exact hy (by simpa using h3)
      · obtain ⟨h1, h2⟩ := List.append_inj' hv rfl
        exact hne h1
theorem cuts_fold : ∀ {w u : List Int} {F : List (List (List Int))}, Cuts F u → u ≠ [] → Cuts (w.foldl stepC F) (u ++ w)
  | [], u, F, h, _ => by rwa [List.append_nil]
  | n :: w, u, F, h, hu => by
    have := cuts_fold (w := w) (cuts_step h hu n) (by simp)
    rwa [List.append_assoc] at this
theorem cuts_all {w : List Int} (hw : w ≠ []) : Cuts (cutsP w) w := by
  cases w with
  | nil => exact absurd rfl hw
  | cons x w =>
    refine cuts_fold (u := [x]) ⟨fun c => ?_, by simp⟩ (by simp)
    rw [List.mem_singleton]
    constructor
    · rintro rfl
      exact ⟨by simp, rfl⟩
    · rintro ⟨h1, h2⟩
      cases c with
      | nil => cases h2
      | cons g c =>
        have hg := h1 g List.mem_cons_self
        cases g with
        | nil => exact absurd rfl hg
        | cons y g =>
          rw [List.flatten_cons, List.cons_append] at h2
          obtain ⟨rfl, h3⟩ := List.cons.inj h2
          obtain ⟨h4, h5⟩ := List.append_eq_nil_iff.mp h3
          cases c with
          | nil => rw [h4]
          | cons z c =>
            have hz := h1 z (by simp)
            rw [List.flatten_cons] at h5
            exact absurd (List.append_eq_nil_iff.mp h5).1 hz
theorem stepC_len (F : List (List (List Int))) (n : Int) : (stepC F n).length = 2 * F.length := by
  unfold stepC
  induction F with
  | nil => rfl
  | cons c F ih =>
    rw [List.flatMap_cons, List.length_append, ih, List.length_cons]
    simp only [List.length_cons, List.length_nil]
    omega
theorem atI_last {α : Type} {a : List α} {x : α} : atI (a ++ [x]) (-(1 : Int)) = some x := by
  unfold atI ixN
  rw [if_neg (by omega), if_pos (by rw [List.length_append, List.length_singleton]; omega), bind_s]
  have : (-(1 : Int) + ((a ++ [x]).length : Int)).toNat = a.length := by rw [List.length_append, List.length_singleton]; omega
  first
    | rw [this]; simp
    | simp
theorem cut_m1 {α : Type} {l : List α} : cut l none (some (-(1 : Int))) = l.take (l.length - 1) := by
  unfold cut
  rw [HT.sIx_none]
  simp only [List.drop_zero, Nat.sub_zero]
  show List.take (if (-1 : Int) < 0 then (-1 + (l.length : Int)).toNat else min (-1 : Int).toNat l.length) l = _
  rw [if_pos (by decide)]
  congr 1
  omega
theorem cut_init {α : Type} {a : List α} {x : α} : cut (a ++ [x]) none (some (-(1 : Int))) = a := by
  rw [cut_m1, List.length_append, List.length_singleton, Nat.add_sub_cancel, List.take_left']
  rfl
theorem inner_eq {F : List (List (List Int))} {w : List Int} (h : Cuts F w) (hw : w ≠ []) (hl : w.length ≤ 1000) (hF : F.length ≤ 1000000) (n : Int) : F.foldlM (fun (s20 : (List (List (List Int)))) (cut_21 : (List (List Int))) =>
 (((((atI cut_21 (-(1 : Int))).bind fun v32 => lim (v32 ++ ([n] : (List Int)))).bind fun v33 => some (v33 :: ([] : (List (List Int))))).bind fun v37 => lim ((cut cut_21 none (some (-(1 : Int)))) ++ v37)).bind fun v39 => lim (s20 ++ [v39])).bind fun longer_22 =>
 ((lim (cut_21 ++ ([([n] : (List Int))] : (List (List Int))))).bind fun v48 => lim (longer_22 ++ [v48])).bind fun longer_40 =>
 some longer_40) [] = some (stepC F n) := by
  rw [flat_loop (g := fun c => [grow1 n c, grow2 n c])]
  · rw [List.nil_append]
    rfl
  · have := stepC_len F n
    unfold stepC at this
    rw [this]
    simp only [List.length_nil]
    omega
  · intro s c hc hs
    have hp := (h.mem c).mp hc
    have hlen : ∀ b : List (List Int), (∀ g ∈ b, g ≠ []) → b.length ≤ b.flatten.length := by
      intro b
      induction b with
      | nil => intro _; exact Nat.le_refl _
      | cons g b ih =>
        intro hb
        have h1 := ih fun x hx => hb x (List.mem_cons_of_mem _ hx)
        have h2 : 0 < g.length := List.length_pos_iff.mpr (hb g List.mem_cons_self)
        rw [List.length_cons, List.flatten_cons, List.length_append]
        omega
    have h1 := hlen c hp.1
    rw [hp.2] at h1
    obtain ⟨a, x, rfl⟩ := snoc (hp.ne hw)
    have h2 := hp.2
    rw [List.flatten_append, List.flatten_singleton] at h2
    have h3 := congrArg List.length h2
    rw [List.length_append] at h3
    rw [List.length_append, List.length_singleton] at h1
    simp only [List.length_cons, List.length_nil] at hs
    rw [atI_last, bind_s, lim_of (by rw [List.length_append, List.length_singleton]; omega), bind_s, bind_s, cut_init, lim_of (by rw [List.length_append, List.length_singleton]; omega), bind_s, lim_of (by rw [List.length_append, List.length_singleton]; omega), bind_s, lim_of (by rw [List.length_append, List.length_append, List.length_singleton, List.length_singleton]; omega), bind_s, lim_of (by rw [List.length_append, List.length_append, List.length_singleton, List.length_singleton]; omega), bind_s, grow1_snoc, List.append_assoc s]
    rfl
theorem cuts_loop : ∀ {w u : List Int} {F : List (List (List Int))}, Cuts F u → u ≠ [] → u.length + w.length ≤ 12 → F.length ≤ 2 ^ u.length → w.foldlM (fun (s17 : (List (List (List Int)))) (number_18 : Int) =>
 (some ([] : (List (List (List Int))))).bind fun longer_19 =>
 (s17.foldlM (fun (s20 : (List (List (List Int)))) (cut_21 : (List (List Int))) =>
 (((((atI cut_21 (-(1 : Int))).bind fun v32 => lim (v32 ++ ([number_18] : (List Int)))).bind fun v33 => some (v33 :: ([] : (List (List Int))))).bind fun v37 => lim ((cut cut_21 none (some (-(1 : Int)))) ++ v37)).bind fun v39 => lim (s20 ++ [v39])).bind fun longer_22 =>
 ((lim (cut_21 ++ ([([number_18] : (List Int))] : (List (List Int))))).bind fun v48 => lim (longer_22 ++ [v48])).bind fun longer_40 =>
 some longer_40) longer_19).bind fun (s51 : (List (List (List Int)))) =>
 (some s51).bind fun found_53 =>
 some found_53) F = some (w.foldl stepC F)
  | [], u, F, _, _, _, _ => rfl
  | n :: w, u, F, h, hu, hl, hF => by
    rw [List.length_cons] at hl
    have hp : 2 ^ u.length ≤ 2 ^ 12 := Nat.pow_le_pow_right (by decide) (by omega)
    rw [foldlM_cons', bind_s, inner_eq h hu (by omega) (by omega) n, bind_s, bind_s]
    exact cuts_loop (cuts_step h hu n) (by simp) (by rw [List.length_append, List.length_singleton]; omega) (by rw [stepC_len, List.length_append, List.length_singleton, Nat.pow_succ]; omega)
end L2.DL.K77

namespace L2.DL.K77
open PySem PySem.Spec PyProof.Rows
/-! ### of all partings one consists of heads -/
/-- heads, none after a lesser one -/
def chk : Option (List Int) → List (List Int) → Bool
  | _, [] => true
  | p, g :: G => N.hd g && (match p with | none => true | some q => !ltG q g) && chk (some g) G
theorem lsh_words : ∀ {G : List (List Int)} {p : Option (List Int)}, (∀ g ∈ G, g ≠ [] ∧ ∀ x ∈ g, 0 ≤ x) → lsh p (G.map (rp : List Int → Dt)) = if chk p G = true then some G else none
  | [], _, _ => rfl
  | g :: G, p, h => by
    have hg := h g List.mem_cons_self
    have ih := lsh_words (p := some g) fun x hx => h x (List.mem_cons_of_mem g hx)
    rw [List.map_cons]
    show (match wd (rp g) with
      | none => none
      | some g => if N.hd g = true ∧ (∀ q, p = some q → ltG q g = false) then (lsh (some g) (G.map rp)).map (g :: ·) else none) = _
    rw [wd_of hg.1 hg.2]
    show (if N.hd g = true ∧ (∀ q, p = some q → ltG q g = false) then (lsh (some g) (G.map rp)).map (g :: ·) else none) = if (N.hd g && (match p with | none => true | some q => !ltG q g) && chk (some g) G) = true then some (g :: G) else none
    rw [ih]
    have e : (∀ q, p = some q → ltG q g = false) ↔ (match p with | none => true | some q => !ltG q g) = true := by
      cases p with
      | none => exact ⟨fun _ => rfl, fun _ q z => (nomatch z)⟩
      | some q =>
        constructor
        · intro z
          show (!ltG q g) = true
          rw [z q rfl]
          rfl
        · intro z r hr
          cases hr
          have z : (!ltG q g) = true := z
          simpa using z
    by_cases h1 : N.hd g = true
    · by_cases h2 : (∀ q, p = some q → ltG q g = false)
      · rw [if_pos ⟨h1, h2⟩, h1, e.mp h2]
        cases chk (some g) G <;> rfl
      · rw [if_neg (fun z => h2 z.2)]
        rw [if_neg]
        intro z
        rw [Bool.and_eq_true, Bool.and_eq_true] at z
        exact h2 (e.mpr z.1.2)
    · rw [if_neg (fun z => h1 z.1), if_neg]
      intro z
      rw [Bool.and_eq_true, Bool.and_eq_true] at z
      exact h1 z.1.1
theorem chk_some : ∀ {G : List (List Int)} {q : List Int}, (∀ g ∈ G, g ≠ []) → (chk (some q) G = true ↔ (∀ g ∈ G, N.Ly g) ∧ (q :: G).Pairwise fun a b => leG b a = true)
  | [], q, _ => ⟨fun _ => ⟨fun _ h => (nomatch h), List.pairwise_singleton _ _⟩, fun _ => rfl⟩
  | g :: G, q, h => by
    have ih := chk_some (q := g) fun x hx => h x (List.mem_cons_of_mem g hx)
    show (N.hd g && (!ltG q g) && chk (some g) G) = true ↔ _
    rw [Bool.and_eq_true, Bool.and_eq_true, ih, N.hd_Ly (h g List.mem_cons_self)]
    have e : (!ltG q g) = true ↔ leG g q = true := by rw [leG_def]
    rw [e, List.forall_mem_cons, List.pairwise_cons (a := q)]
    constructor
    · rintro ⟨⟨h1, h2⟩, h3, h4⟩
      refine ⟨⟨h1, h3⟩, fun b hb => ?_, h4⟩
      rcases List.mem_cons.mp hb with rfl | hb
      · exact h2
      · exact leG_trans ((List.pairwise_cons.mp h4).1 b hb) h2
    · rintro ⟨⟨h1, h3⟩, h5, h4⟩
      exact ⟨⟨h1, h5 g List.mem_cons_self⟩, h3, h4⟩
theorem chk_none {G : List (List Int)} (h : ∀ g ∈ G, g ≠ []) : chk none G = true ↔ N.Fac G := by
  cases G with
  | nil => exact ⟨fun _ => ⟨fun _ h => (nomatch h), List.Pairwise.nil⟩, fun _ => rfl⟩
  | cons g G =>
    show (N.hd g && true && chk (some g) G) = true ↔ _
    rw [Bool.and_true, Bool.and_eq_true, chk_some (fun x hx => h x (List.mem_cons_of_mem g hx)), N.hd_Ly (h g List.mem_cons_self)]
    unfold N.Fac
    rw [List.forall_mem_cons]
    exact ⟨fun ⟨a, b, c⟩ => ⟨⟨a, b⟩, c⟩, fun ⟨⟨a, b⟩, c⟩ => ⟨a, b, c⟩⟩
theorem shw_cut {w : List Int} {G : List (List Int)} (hw : ∀ x ∈ w, 0 ≤ x) (h : Prt G w) : shw w (rp G) = true ↔ N.Fac G := by
  have hW : ∀ g ∈ G, g ≠ [] ∧ ∀ x ∈ g, 0 ≤ x := fun g hg => ⟨h.1 g hg, fun x hx => hw x (by rw [← h.2]; exact List.mem_flatten.mpr ⟨g, hg, hx⟩)⟩
  have e : shw w (rp G) = (match lsh none (G.map (rp : List Int → Dt)) with
    | none => false
    | some G => decide (G.flatten = w)) := rfl
  rw [e, lsh_words hW, ← chk_none h.1]
  by_cases hc : chk none G = true
  · rw [if_pos hc]
    simp only [h.2, hc, decide_true]
  · rw [if_neg hc]
    exact ⟨fun z => absurd z Bool.false_ne_true, fun z => absurd z hc⟩
theorem fac_prt {G : List (List Int)} (h : N.Fac G) : Prt G G.flatten := ⟨fun g hg => (h.1 g hg).1, rfl⟩
theorem right_eq {w : List Int} {G : List (List Int)} (hw : ∀ x ∈ w, 0 ≤ x) (hG : N.Fac G) (hf : G.flatten = w) : (cutsP w).filter (fun c => shw w (rp c)) = [G] := by
  by_cases h0 : w = []
  · subst h0
    have : G = [] := by
      cases G with
      | nil => rfl
      | cons g G =>
        rw [List.flatten_cons] at hf
        exact absurd (List.append_eq_nil_iff.mp hf).1 (hG.1 g List.mem_cons_self).1
    subst this
    rfl
  · have C := cuts_all h0
    refine List.perm_singleton.mp ((List.perm_ext_iff_of_nodup (C.nd.filter _) (by simp)).mpr fun c => ?_)
    rw [List.mem_filter, List.mem_singleton, C.mem]
    constructor
    · rintro ⟨h1, h2⟩
      exact N.fac_uniq ((shw_cut hw h1).mp h2) hG (by rw [h1.2, hf])
    · rintro rfl
      have hp : Prt c w := by rw [← hf]; exact fac_prt hG
      exact ⟨hp, (shw_cut hw hp).mpr hG⟩
theorem foldl_len : ∀ {w : List Int} {F : List (List (List Int))}, (w.foldl stepC F).length = 2 ^ w.length * F.length
  | [], F => by simp
  | n :: w, F => by
    rw [List.foldl_cons, foldl_len, stepC_len, List.length_cons, Nat.pow_succ, Nat.mul_assoc]
theorem cutsP_len {w : List Int} : (cutsP w).length ≤ 2 ^ w.length := by
  cases w with
  | nil => decide
  | cons x w =>
    show (w.foldl stepC [[[x]]]).length ≤ _
    rw [foldl_len, List.length_cons, List.length_cons, List.length_nil]
    show 2 ^ w.length * 1 ≤ _
    rw [Nat.mul_one]
    exact Nat.pow_le_pow_right (by decide) (by omega)
theorem part_len : ∀ b : List (List Int), (∀ g ∈ b, g ≠ []) → b.length ≤ b.flatten.length := by
  intro b
  induction b with
  | nil => intro _; exact Nat.le_refl _
  | cons g b ih =>
    intro hb
    have h1 := ih fun x hx => hb x (List.mem_cons_of_mem _ hx)
    have h2 : 0 < g.length := List.length_pos_iff.mpr (hb g List.mem_cons_self)
    rw [List.length_cons, List.flatten_cons, List.length_append]
    omega
theorem mem_len {g : List Int} : ∀ {G : List (List Int)}, g ∈ G → g.length ≤ G.flatten.length
  | h :: G, hg => by
    rw [List.flatten_cons, List.length_append]
    rcases List.mem_cons.mp hg with rfl | hg
    · omega
    · have := mem_len hg
      omega
theorem prt_ng {w : List Int} {c : List (List Int)} (h : Prt c w) (hw : NI 10 w) : NG 10 10 c := by
  have h1 := part_len c h.1
  rw [h.2] at h1
  refine ⟨Nat.le_trans h1 hw.1, fun g hg => ⟨?_, fun x hx => hw.2 x (by rw [← h.2]; exact List.mem_flatten.mpr ⟨g, hg, hx⟩)⟩⟩
  have := mem_len hg
  rw [h.2] at this
  exact Nat.le_trans this hw.1
theorem cut_ok {w : List Int} {c : List (List Int)} (hc : c ∈ cutsP w) (hw : NI 10 w) : Prt c w := by
  by_cases h0 : w = []
  · subst h0
    have : c ∈ [([] : List (List Int))] := hc
    rw [List.mem_singleton.mp this]
    exact ⟨fun _ h => (nomatch h), rfl⟩
  · exact ((cuts_all h0).mem c).mp hc
end L2.DL.K77

namespace L2.DL.K77
open PySem PySem.Spec PyProof.Rows
/-! ### the law's cuts, its words, its longer lists -/
theorem cut_one {α : Type} {l : List α} : cut l (some (1 : Int)) none = l.drop 1 := cut_drop (k := 1)
theorem law_cuts_eq {w : List Int} (hl : w.length ≤ 10) : f_law_cuts w = some (cutsP w) := by
  unfold f_law_cuts
  rw [eqD_ints, bind_s]
  cases w with
  | nil => rw [decide_eq_true rfl, if_tt]; rfl
  | cons x w =>
    rw [decide_eq_false (by simp), if_ft]
    have e0 : atI (x :: w) (0 : Int) = some x := atI_nat (k := 0) (l := x :: w) (by simp)
    rw [e0, bind_s, bind_s, bind_s, bind_s, cut_one, List.drop_succ_cons, List.drop_zero]
    rw [List.length_cons] at hl
    have C : Cuts [[[x]]] [x] := by
      refine ⟨fun c => ?_, by simp⟩
      have := (cuts_all (w := [x]) (by simp)).mem c
      exact this
    rw [cuts_loop (u := [x]) C (by simp) (by rw [List.length_singleton]; omega) (by show 1 ≤ 2 ^ 1; decide), bind_s]
    rfl
theorem law_cell_eq {ds : List Int} (h : ds.length = 60 ∧ Drawn ds) {k : Int} (h0 : 0 ≤ k) : ∃ v, f_law_cell ds k = some v ∧ 0 ≤ v ∧ v < 1000003 := by
  unfold f_law_cell
  by_cases hk : k < (ds.length : Int)
  · rw [if_pos (decide_eq_true hk)]
    exact draw_at h k h0 (by rw [h.1] at hk; exact hk)
  · rw [if_neg (fun q => hk (of_decide_eq_true q)), h.1]
    obtain ⟨v, e, b⟩ := draw_at h (k % 60) (by omega) (by omega)
    obtain ⟨u, e', b'⟩ := draw_at h (7 * k % 60) (by omega) (by omega)
    rw [modP_of (by decide), modP_of (by decide), bind_s, bind_s]
    simp only [Int.cast_ofNat_Int]
    rw [e, e', bind_s, bind_s, bind_s, bind_s, bind_s, bind_s]
    exact ⟨_, rfl, by omega, by omega⟩
theorem law_word_eq {ds : List Int} (h : ds.length = 60 ∧ Drawn ds) {a : Int} (ha : 0 ≤ a) {n : Int} (h0 : 0 ≤ n) (hn : n ≤ 1000) {k : Int} (hk : 0 < k) : ∃ w, f_law_word ds a n k = some w ∧ w.length = n.toNat ∧ ∀ x ∈ w, 0 ≤ x ∧ x < k := by
  obtain ⟨N, rfl⟩ := Int.eq_ofNat_of_zero_le h0
  unfold f_law_word
  have hc : ∀ x : Int, ∃ v : Int, 0 ≤ x → f_law_cell ds (a + x) = some v := fun x => by
    by_cases hx : 0 ≤ x
    · obtain ⟨v, e, _⟩ := law_cell_eq h (k := a + x) (by omega)
      exact ⟨v, fun _ => e⟩
    · exact ⟨0, fun a => absurd a hx⟩
  obtain ⟨g, hg⟩ : ∃ g : Int → Int, ∀ x : Int, 0 ≤ x → f_law_cell ds (a + x) = some (g x) := ⟨fun x => (hc x).choose, fun x => (hc x).choose_spec⟩
  rw [rangeP_nats (by omega), bind_s, mapO_some (g := fun x => g x / 3 % k), bind_s, lim_of (by rw [List.length_map, nats_len]; omega)]
  · refine ⟨_, rfl, by rw [List.length_map, nats_len, Int.toNat_natCast], fun x hx => ?_⟩
    obtain ⟨y, hy, rfl⟩ := List.mem_map.mp hx
    exact ⟨Int.emod_nonneg _ (by omega), Int.emod_lt_of_pos _ hk⟩
  · intro x hx
    have := mem_nats hx
    rw [hg x this.1, bind_s, bind_s, modP_of hk]
/-- heads of short words -/
def Hs (n : Nat) (l : List (List Int)) : Prop := l.length ≤ n ∧ ∀ g ∈ l, N.Ly g ∧ g.length ≤ 6 ∧ ∀ x ∈ g, 0 ≤ x ∧ x < 4
theorem longer_eq {ds : List Int} (hd : ds.length = 60 ∧ Drawn ds) : Rets (f_law_longer ds) fun G => N.Fac G ∧ G.length ≤ 33 ∧ ∀ g ∈ G, g.length ≤ 6 ∧ ∀ x ∈ g, 0 ≤ x ∧ x < 4 := by
  unfold f_law_longer
  obtain ⟨x3, e3, p3⟩ := draw_at hd 3 (by decide) (by decide)
  obtain ⟨x4, e4, p4⟩ := draw_at hd 4 (by decide) (by decide)
  rw [e3, bind_s, bind_s, bind_s, bind_s]
  refine .bind (Q := Hs 33) ((Rets.range (fun k s => Hs k s) (n := 4 + x3 % 30) (by omega) (by omega) ⟨by simp, fun g h => absurd h (by simp)⟩ fun k s hk hs => ?_).mono fun s h => ⟨by have := h.1; omega, h.2⟩) fun s hs => ?_
  · obtain ⟨v, ev, hv⟩ := law_cell_eq hd (k := 19 + 3 * (k : Int)) (by omega)
    rw [ev, e4]
    simp only [bind_s]
    obtain ⟨w, ew, w1, w2⟩ := law_word_eq hd (a := 20 + 3 * (k : Int)) (by omega) (n := 1 + v % 6) (by omega) (by omega) (k := 2 + x4 % 2) (by omega)
    rw [ew, bind_s, e_lhead, N.f_law_is_head_eq (by omega), bind_s]
    have hw0 : w ≠ [] := fun z => by rw [z] at w1; simp at w1; omega
    cases hh : N.hd w with
    | false =>
      rw [if_ft]
      exact .pure ⟨by have := hs.1; omega, hs.2⟩
    | true =>
      have := hs.1
      rw [if_tt, lim_of (by rw [List.length_append, List.length_singleton]; omega), bind_s]
      refine .pure ⟨by rw [List.length_append, List.length_singleton]; omega, fun g hg => ?_⟩
      rcases List.mem_append.mp hg with hg | hg
      · exact hs.2 g hg
      · rw [List.mem_singleton.mp hg]
        exact ⟨(N.hd_Ly hw0).mp hh, by omega, fun x hx => ⟨(w2 x hx).1, by have := (w2 x hx).2; omega⟩⟩
  · have hp : (sortG s).reverse.Perm s := (List.reverse_perm _).trans (sortG_perm s)
    exact .pure ⟨⟨fun g hg => (hs.2 g (hp.subset hg)).1, by rw [List.pairwise_reverse]; exact sortG_pw s⟩, by rw [hp.length_eq]; exact hs.1, fun g hg => (hs.2 g (hp.subset hg)).2⟩
theorem join_loop : ∀ {G : List (List Int)} {s : List Int}, s.length + G.flatten.length ≤ 16777216 → G.foldlM (fun (s74 : (List Int)) (item_75 : (List Int)) =>
 (lim (s74 ++ item_75)).bind fun total_78 =>
 some total_78) s = some (s ++ G.flatten)
  | [], s, _ => by rw [List.flatten_nil, List.append_nil]; rfl
  | g :: G, s, h => by
    rw [List.flatten_cons, List.length_append] at h
    rw [foldlM_cons', lim_of (by rw [List.length_append]; omega), bind_s, bind_s, join_loop (by rw [List.length_append]; omega), List.flatten_cons, List.append_assoc]
theorem flat_le {m : Nat} : ∀ {G : List (List Int)}, (∀ g ∈ G, g.length ≤ m) → G.flatten.length ≤ G.length * m
  | [], _ => by simp
  | g :: G, h => by
    rw [List.flatten_cons, List.length_append, List.length_cons, Nat.succ_mul]
    have := h g List.mem_cons_self
    have := flat_le fun x hx => h x (List.mem_cons_of_mem g hx)
    omega
end L2.DL.K77

namespace L2.DL.K77
open PySem PySem.Spec PyProof.Rows
theorem ni_small {w : List Int} {m : Nat} (hl : w.length ≤ m) (h : ∀ x ∈ w, 0 ≤ x ∧ x < 4) : NI m w := ⟨hl, fun x hx => by have := h x hx; omega⟩
theorem small_ok : ∀ d ∈ ([(rp ([] : (List Int))), (rp ([([] : (List Int))] : (List (List Int)))), Dt.non, (rp ([([(0 : Int)] : (List Int))] : (List (List Int)))), (rp (TupL.mk ([] : (List Int)))), (rp (Str.ofString ""))] : (List Dt)), Ok d := by
  have h0 : NI 1 ([] : List Int) := NI.nil
  have hz : NI 1 [(0 : Int)] := NI.one (by decide)
  intro d hd
  simp only [List.mem_cons, List.not_mem_nil, or_false] at hd
  rcases hd with rfl | rfl | rfl | rfl | rfl | rfl
  · exact h0.ok (by decide)
  · exact (NG.one h0).ok (by decide)
  · exact ⟨Lf.non, by decide⟩
  · exact (NG.one hz).ok (by decide)
  · exact h0.okT (by decide)
  · exact ⟨⟨rfl, rfl, rfl, rfl, Nat.zero_le _⟩, by decide⟩
theorem plain_law (ns : List Int) (hl : ns.length ≤ 63) : f_law ⟨ns⟩ = some true := by
  refine Rets.get ?_
  unfold f_law
  rw [e_draws]
  refine .bind (drawsP_ok (many := 60) (by decide)) fun ds hd => ?_
  obtain ⟨x0, e0, p0⟩ := draw_at hd 0 (by decide) (by decide)
  obtain ⟨x2, e2, p2⟩ := draw_at hd 2 (by decide) (by decide)
  obtain ⟨x5, e5, p5⟩ := draw_at hd 5 (by decide) (by decide)
  rw [e0, e2, e5]
  simp only [bind_s]
  refine .bind (Q := fun n : Int => 0 ≤ n ∧ n ≤ 9) (.ite (fun _ => .pure (by omega)) fun _ => .pure (by omega)) fun n hn => ?_
  obtain ⟨w, ew, w1, w2⟩ := law_word_eq hd (a := 8) (by decide) (n := n) hn.1 (by omega) (k := 1 + x5 % 4) (by omega)
  rw [ew, bind_s]
  have hwl : w.length ≤ 9 := by omega
  have w0 : ∀ x ∈ w, 0 ≤ x := fun x hx => (w2 x hx).1
  have w4 : ∀ x ∈ w, 0 ≤ x ∧ x < 4 := fun x hx => ⟨(w2 x hx).1, by have := (w2 x hx).2; omega⟩
  have wN : NI 10 w := ni_small (by omega) w4
  rw [law_cuts_eq (by omega), bind_s]
  have hcl : (cutsP w).length ≤ 1024 := Nat.le_trans cutsP_len (Nat.le_trans (Nat.pow_le_pow_right (by decide) (show w.length ≤ 10 by omega)) (by decide))
  obtain ⟨G, eG, hG, hf⟩ := N.heads_eq (w := w) (by omega)
  have cOk : ∀ c ∈ cutsP w, Ok (rp c) := fun c hc => (prt_ng (cut_ok hc wN) wN).ok (by decide)
  have hcut : ((compM (fun x42 => f_law_shows w (rp x42)) (fun x42 => some x42) (cutsP w)).bind lim) = some [G] := by
    rw [compM_some (q := fun c => shw w (rp c)) (g := fun c => c) (fun c hc => law_shows_eq (sm_of (cOk c hc).1.cl (cOk c hc).2)) fun _ _ => rfl, bind_s, List.map_id', right_eq w0 hG hf, lim_of (by rw [List.length_singleton]; decide)]
  rw [hcut, bind_s]
  have a0 : atI [G] (0 : Int) = some G := rfl
  rw [e_heads, eG, a0]
  simp only [bind_s]
  rw [List.length_singleton, if_neg (by decide), eqD_intss, decide_eq_true rfl, map_s, bind_s, not_t, if_ft]
  have hj : f_law_judged w ((cutsP w).map fun y => (rp y : Dt)) = some true := judged_eq (wN.ok (by decide)) fun d hd => by
    obtain ⟨c, hc, rfl⟩ := List.mem_map.mp hd
    exact cOk c hc
  rw [hj, map_s, not_t]
  have hif : (if (decide (((cutsP w).length : Int) ≤ (128 : Int))) = true then some false else some false) = some false := by split <;> rfl
  rw [hif, bind_s, if_ft]
  have gP : Prt G w := by rw [← hf]; exact fac_prt hG
  have gN := (prt_ng gP wN).mono (show 10 ≤ 40 by decide) (Nat.le_refl 10)
  have g4 : ∀ g ∈ G, 0 < g.length ∧ ∀ x ∈ g, 0 ≤ x ∧ x < 4 := fun g hg => ⟨List.length_pos_iff.mpr (gP.1 g hg), fun x hx => w4 x (by rw [← hf]; exact List.mem_flatten.mpr ⟨g, hg, hx⟩)⟩
  obtain ⟨ps, eps, hps⟩ := papers_eq hd (wN.mono (by decide)) gN g4
  rw [eps, bind_s, judged_eq (wN.ok (by decide)) hps, map_s, bind_s, not_t, if_ft]
  obtain ⟨F, eF, hF, F1, F2⟩ := longer_eq hd
  have fl : F.flatten.length ≤ 33 * 6 := Nat.le_trans (flat_le fun g hg => (F2 g hg).1) (Nat.mul_le_mul_right 6 F1)
  rw [eF, bind_s, join_loop (by simp only [List.length_nil]; omega), bind_s, List.nil_append]
  obtain ⟨F', eF', hF', hff⟩ := N.heads_eq (w := F.flatten) (by omega)
  rw [N.fac_uniq hF' hF hff] at eF'
  rw [eF', bind_s, eqD_intss, decide_eq_true rfl, map_s, bind_s, not_t, if_ft]
  have fN : NI 400 F.flatten := ni_small (by omega) fun x hx => by
    obtain ⟨g, hg, hx⟩ := List.mem_flatten.mp hx
    exact (F2 g hg).2 x hx
  have fG : NG 40 10 F := ⟨by omega, fun g hg => ni_small (by have := (F2 g hg).1; omega) (F2 g hg).2⟩
  obtain ⟨qs, eqs, hqs⟩ := papers_eq hd fN fG fun g hg => ⟨List.length_pos_iff.mpr (hF.1 g hg).1, (F2 g hg).2⟩
  rw [eqs, bind_s, judged_eq (fN.ok (by decide)) hqs, map_s, bind_s, not_t, if_ft]
  rw [judged_eq (w := []) ((NI.nil (m := 1)).ok (by decide)) small_ok, bind_s, if_tt]
  exact .pure rfl
end L2.DL.K77

namespace L2.DL.K77
open PySem PySem.Spec PyProof.Rows
/-! ### the walks -/
structure Tx (K : PySem.W.Frag) (mg : Str → Option Value) where
  f_law_cuts : DefAt K mg "_law_cuts" st_law_cuts ["word"]
  f_law_draws : DefAt K mg "_law_draws" st_law_draws ["script", "many"]
  f_law_turned : DefAt K mg "_law_turned" st_law_turned ["word", "k"]
  f_law_is_head : DefAt K mg "_law_is_head" st_law_is_head ["word"]
  f_law_is_number : DefAt K mg "_law_is_number" st_law_is_number ["value"]
  f_law_is_numbers : DefAt K mg "_law_is_numbers" st_law_is_numbers ["value"]
  f_law_shows : DefAt K mg "_law_shows" st_law_shows ["word", "paper"]
  f_turned : DefAt K mg "turned" st_turned ["word", "places"]
  f_is_head : DefAt K mg "is_head" st_is_head ["word"]
  f_is_number : DefAt K mg "is_number" st_is_number ["value"]
  f_is_numbers : DefAt K mg "is_numbers" st_is_numbers ["value"]
  f_is_word : DefAt K mg "is_word" st_is_word ["value"]
  f_joined_words : DefAt K mg "joined_words" st_joined_words ["words"]
  f_shows_heads : DefAt K mg "shows_heads" st_shows_heads ["word", "paper"]
  f_law_judged : DefAt K mg "_law_judged" st_law_judged ["word", "papers"]
  f_law_cell : DefAt K mg "_law_cell" st_law_cell ["draws", "k"]
  f_law_word : DefAt K mg "_law_word" st_law_word ["draws", "at", "length", "letters"]
  f_law_longer : DefAt K mg "_law_longer" st_law_longer ["draws"]
  f_law_with : DefAt K mg "_law_with" st_law_with ["line", "at", "item"]
  f_law_papers : DefAt K mg "_law_papers" st_law_papers ["word", "heads", "draws"]
  f_run_from : DefAt K mg "run_from" st_run_from ["word", "start"]
  f_heads_of : DefAt K mg "heads_of" st_heads_of ["word"]
  f_law : DefAt K mg "law" st_law ["script"]
  n_abs : mg "abs" = none
  n_bool : mg "bool" = none
  n_int : mg "int" = none
  n_isinstance : mg "isinstance" = none
  n_len : mg "len" = none
  n_list : mg "list" = none
  n_min : mg "min" = none
  n_range : mg "range" = none
  n_repr : mg "repr" = none
  n_sorted : mg "sorted" = none
  n_str : mg "str" = none
  n_tuple : mg "tuple" = none
section
variable {P : Program} {w : World} {K : PySem.W.Frag} {mg : Str → Option Value} {base : Heap}
theorem ok_law_cuts (T : Tx K mg) : FnOk P w K mg base CX0 1 T.f_law_cuts.a T.f_law_cuts.d ["word"] (sp1 K f_law_cuts .new) := by
  have sc : FnScope ["word", "found", "number", "longer", "cut"] ["word"] (defScope st_law_cuts) := ⟨rfl, rfl, rfl, by decide +kernel, rfl, by decide +kernel, by decide +kernel⟩
  refine T.f_law_cuts.F.ok sc (fun vs H Q E h => spA_len h fun _ => rfl) (fun cdv A outer s H vs Q E hr h => ⟨_, (pss_cons (ps_if (pt_cmpR (op_eqD hr.units) (pv 0) (pe_lst pa_nil) (nomark _)) (pss_one (ps_ret (pe_lst (pa_cons (pe_lst pa_nil) pa_nil)))) pss_nil)
 (pss_cons (ps_set (i := 1) sc.nd rfl (by first | exact .inl rfl | exact .inr rfl) (pe_lst (pa_cons (pe_lst (pa_cons (pe_lst (pa_cons (pe_ix ix_list (pv 0) pe_int (fun _ _ => rfl)) pa_nil)) pa_nil)) pa_nil)))
 (pss_cons (ps_for PassesOwn.never rfl (pi_list (pe_slice sl_list (pv 0) (po_some pe_int) po_none)) (pg_name (i := 2) sc.nd rfl (by first | exact .inl rfl | exact .inr rfl))
 (pss_cons (ps_set (i := 3) sc.nd rfl (by first | exact .inl rfl | exact .inr rfl) (pe_lst pa_nil))
 (pss_cons (ps_for PassesOwn.never rfl (pi_list (pv 1)) (pg_name (i := 4) sc.nd rfl (by first | exact .inl rfl | exact .inr rfl))
 (pss_cons (ps_expr (pe_bm PySem.F.plainAttrs_list PySem.F.slot_list_append PySem.F.type_list_append mt_append (pv 3) (pa_cons (pe_op op_cat (pe_slice sl_list (pv 4) po_none (po_some (pe_un un_neg pe_int))) (pe_lst (pa_cons (pe_op op_cat (pe_ix ix_list (pv 4) (pe_un un_neg pe_int) (fun _ _ => rfl)) (pe_lst (pa_cons (pv 2) pa_nil))) pa_nil))) pa_nil)))
 (pss_one (ps_expr (pe_bm PySem.F.plainAttrs_list PySem.F.slot_list_append PySem.F.type_list_append mt_append (pv 3) (pa_cons (pe_op op_cat (pv 4) (pe_lst (pa_cons (pe_lst (pa_cons (pv 2) pa_nil)) pa_nil))) pa_nil))))))
 (pss_one (ps_set (i := 1) sc.nd rfl (by first | exact .inl rfl | exact .inr rfl) (pv 3))))))
 (pss_one (ps_ret (pv 1)))))), of_body (fun x => ?_) (fun _ => Nat.le_of_ble_eq_true rfl) h⟩)
  exact EvR.weakL (er_ifS (er_if (et_test (EvE.res (r' := eqD (rp x) (rp ([] : (List Int)))) (ev_eqL (EvB.sc (m1 := .new) (EvE.B (ev_var (i := 0) (m := .old) (x := x) rfl))) (EvL.B (ev_list (m := .new) exs_nil))) (bsP (bsP rfl))))
 (er_cut (er_ret (EvL.E (ev_list (m := .new) (EvXs.res (r' := some ([([] : (List (List Int)))] : (List (List (List Int))))) (exs_cons (EvL.E (ev_list (m := .new) exs_nil)) exs_nil) (bsP (bsP rfl)))))))
 (er_nx (er_seq (E := fun (found_13 : (List (List (List Int)))) => [.dat .old (rp x), .dat .new (rp found_13), .un, .un, .un]) (en_set (EvL.E (ev_list (m := .new) (EvXs.res (r' := (((atI x (0 : Int)).bind fun v7 => some (v7 :: ([] : (List Int)))).bind fun v9 => some (v9 :: ([] : (List (List Int))))).bind fun v11 => some (v11 :: ([] : (List (List (List Int)))))) (exs_cons (EvL.E (ev_list (m := .new) (EvXs.res (r' := ((atI x (0 : Int)).bind fun v7 => some (v7 :: ([] : (List Int)))).bind fun v9 => some (v9 :: ([] : (List (List Int))))) (exs_cons (EvL.E (ev_list (m := .new) (EvXs.res (r' := (atI x (0 : Int)).bind fun v7 => some (v7 :: ([] : (List Int)))) (exs_cons (EvE.res (r' := atI x (0 : Int)) (ev_ix (EvB.sc (m1 := .new) (EvE.B (ev_var (i := 0) (m := .old) (x := x) rfl))) ev_int) (bsP (bsP rfl))) exs_nil) (bcP fun _ => (bsP rfl))))) exs_nil) (bcP fun _ => (bsP rfl))))) exs_nil) (bcP fun _ => (bsP rfl)))))) (fun found_13 =>
 (er_seq (E := fun (s54 : (List (List (List Int)))) => [.dat .old (rp x), .dat .new (rp s54), .un, .un, .un]) (en_forP (E := fun (s54 : (List (List (List Int)))) => [.dat .old (rp x), .dat .new (rp s54), .un, .un, .un]) (s0 := found_13) (Eb := fun (s17 : (List (List (List Int)))) (number_18 : Int) => [.dat .old (rp x), .dat .new (rp s17), .dat .new (rp number_18), .un, .un]) (vs := [2]) (ei_list (EvL.E (EvL.res (r' := some (cut x (some (1 : Int)) none)) (ev_sl (EvB.sc (m1 := .new) (EvE.B (ev_var (i := 0) (m := .old) (x := x) rfl))) (eo_atP ev_int) eo_no) (bsP (bsP (bsP rfl)))))) (.cons .id (.cons .id (.cons .id (.cons .id (.cons .id .nil))))) (fun s17 number_18 => (eg_nameS (m1 := .new))) (fun s17 number_18 =>
 (en_seq (E := fun (longer_19 : (List (List (List Int)))) => [.dat .old (rp x), .dat .new (rp s17), .dat .new (rp number_18), .own .new (rps longer_19), .un]) (en_own (ev_list (m := .new) exs_nil)) (fun longer_19 =>
 (en_seq (E := fun (s49 : (List (List (List Int)))) => [.dat .old (rp x), .dat .new (rp s17), .dat .new (rp number_18), .own .new (rps s49), .un]) (en_forP (E := fun (s49 : (List (List (List Int)))) => [.dat .old (rp x), .dat .new (rp s17), .dat .new (rp number_18), .own .new (rps s49), .un]) (s0 := longer_19) (Eb := fun (s20 : (List (List (List Int)))) (cut_21 : (List (List Int))) => [.dat .old (rp x), .dat .new (rp s17), .dat .new (rp number_18), .own .new (rps s20), .dat .new (rp cut_21)]) (vs := [4]) (ei_list (ev_var (i := 1) (m := .new) (x := s17) rfl)) (.cons .id (.cons .id (.cons .id (.cons .id (.cons .id .nil))))) (fun s20 cut_21 => eg_name) (fun s20 cut_21 =>
 (en_seq (E := fun (longer_22 : (List (List (List Int)))) => [.dat .old (rp x), .dat .new (rp s17), .dat .new (rp number_18), .own .new (rps longer_22), .dat .new (rp cut_21)]) (en_append (i := 3) (m := .new) (xs := s20) (EvL.E (EvL.res (r' := (((atI cut_21 (-(1 : Int))).bind fun v32 => lim (v32 ++ ([number_18] : (List Int)))).bind fun v33 => some (v33 :: ([] : (List (List Int))))).bind fun v37 => lim ((cut cut_21 none (some (-(1 : Int)))) ++ v37)) (ev_cat (EvL.B (EvL.res (r' := some (cut cut_21 none (some (-(1 : Int))))) (ev_sl (EvE.B (ev_var (i := 4) (m := .new) (x := cut_21) rfl)) eo_no (eo_atP ev_neg)) (bsP (bsP (bsP rfl))))) (EvL.B (ev_list (m := .new) (EvXs.res (r' := ((atI cut_21 (-(1 : Int))).bind fun v32 => lim (v32 ++ ([number_18] : (List Int)))).bind fun v33 => some (v33 :: ([] : (List (List Int))))) (exs_cons (EvL.E (EvL.res (r' := (atI cut_21 (-(1 : Int))).bind fun v32 => lim (v32 ++ ([number_18] : (List Int)))) (ev_cat (EvE.B (EvE.res (r' := atI cut_21 (-(1 : Int))) (ev_ix (EvE.B (ev_var (i := 4) (m := .new) (x := cut_21) rfl)) ev_neg) (bsP (bsP rfl)))) (EvL.B (ev_list (m := .new) (EvXs.res (r' := some ([number_18] : (List Int))) (exs_cons (ev_var (i := 2) (m := .new) (x := number_18) rfl) exs_nil) (bsP (bsP rfl)))))) (bcP fun _ => (bsP rfl)))) exs_nil) (bcP fun _ => (bsP rfl)))))) (bsP (bcP fun _ => rfl)))) rfl) (fun longer_22 =>
 (en_last (en_seq (E := fun (longer_40 : (List (List (List Int)))) => [.dat .old (rp x), .dat .new (rp s17), .dat .new (rp number_18), .own .new (rps longer_40), .dat .new (rp cut_21)]) (en_append (i := 3) (m := .new) (xs := longer_22) (EvL.E (EvL.res (r' := lim (cut_21 ++ ([([number_18] : (List Int))] : (List (List Int))))) (ev_cat (EvE.B (ev_var (i := 4) (m := .new) (x := cut_21) rfl)) (EvL.B (ev_list (m := .new) (EvXs.res (r' := some ([([number_18] : (List Int))] : (List (List Int)))) (exs_cons (EvL.E (ev_list (m := .new) (EvXs.res (r' := some ([number_18] : (List Int))) (exs_cons (ev_var (i := 2) (m := .new) (x := number_18) rfl) exs_nil) (bsP (bsP rfl))))) exs_nil) (bsP (bsP rfl)))))) (bsP (bsP rfl)))) rfl) (fun longer_40 =>
 (en_end (s := longer_40) (.cons .id (.cons .id (.cons .id (.cons .id (.cons .un .nil))))))))))))) (fun s51 =>
 (EvN.frz (m := .new) (i := 3) (l := rps s51) (en_last (en_seq (E := fun (found_53 : (List (List (List Int)))) => [.dat .old (rp x), .dat .new (rp found_53), .dat .new (rp number_18), .dat .new (rp s51), .un]) (en_set (ev_var (i := 3) (m := .new) (x := s51) rfl)) (fun found_53 =>
 (en_end (s := found_53) (.cons .id (.cons .id (.cons .un (.cons .un (.cons .id .nil))))))))) rfl))))))) (fun s56 =>
 (er_ret (ev_var (i := 1) (m := .new) (x := s56) rfl))))))))) (.cons .id (.cons .id (.cons .id (.cons .id (.cons .id .nil)))))
theorem ok_law_draws (T : Tx K mg) : FnOk P w K mg base CX0 1 T.f_law_draws.a T.f_law_draws.d ["script", "many"] (sp2 K f_law_draws .new) := by
  have sc : FnScope ["script", "many", "found", "cell", "number", "k", "mixed", "base"] ["script", "many"] (defScope st_law_draws) := ⟨rfl, rfl, rfl, by decide +kernel, rfl, by decide +kernel, by decide +kernel⟩
  refine T.f_law_draws.F.ok sc (fun vs H Q E h => spA_len h fun _ => rfl) (fun cdv A outer s H vs Q E hr h => ⟨_, (pss_cons (ps_set (i := 2) sc.nd rfl (by first | exact .inl rfl | exact .inr rfl) (pe_lst pa_nil))
 (pss_cons (ps_for PassesOwn.never rfl (pi_list (pe_slice sl_list (pv 0) po_none (po_some pe_int))) (pg_name (i := 3) sc.nd rfl (by first | exact .inl rfl | exact .inr rfl))
 (pss_cons (ps_set (i := 4) sc.nd rfl (by first | exact .inl rfl | exact .inr rfl) (pe_callB call_abs (by rfl) T.n_abs (by decide +kernel) (pa_cons (pe_callTy call_int1 (by rfl) T.n_int (by decide +kernel) (pa_cons (pv 3) pa_nil)) pa_nil)))
 (pss_one (ps_if (pt_cmpR op_ge (pv 4) (pe_op op_pow pe_int pe_int) (nomark _)) (pss_one (ps_for PassesOwn.never rfl (pi_range1 (by rfl) T.n_range (pa_cons pe_int pa_nil)) (pg_name (i := 5) sc.nd rfl (by first | exact .inl rfl | exact .inr rfl))
 (pss_one (ps_if (pt_cmpR op_gt (pv 4) pe_int (nomark _)) (pss_cons (ps_expr (pe_bm PySem.F.plainAttrs_list PySem.F.slot_list_append PySem.F.type_list_append mt_append (pv 2) (pa_cons (pe_op op_mod (pv 4) pe_int) pa_nil)))
 (pss_one (ps_set (i := 4) sc.nd rfl (by first | exact .inl rfl | exact .inr rfl) (pe_op op_fdivW (pv 4) pe_int)))) pss_nil)))) (pss_cons (ps_set (i := 6) sc.nd rfl (by first | exact .inl rfl | exact .inr rfl) (pe_op op_mod (pe_op op_add (pe_op op_add (pe_op op_mul (pv 4) pe_int) (pe_op op_mul pe_int (pe_callB call_len_seq (by rfl) T.n_len (by decide +kernel) (pa_cons (pv 2) pa_nil)))) pe_int) pe_int))
 (pss_one (ps_for PassesOwn.never rfl (pi_range1 (by rfl) T.n_range (pa_cons pe_int pa_nil)) (pg_name (i := 5) sc.nd rfl (by first | exact .inl rfl | exact .inr rfl))
 (pss_cons (ps_set (i := 6) sc.nd rfl (by first | exact .inl rfl | exact .inr rfl) (pe_op op_mod (pe_op op_add (pe_op op_add (pe_op op_add (pe_op op_mul (pv 6) pe_int) (pe_op op_fdivW (pv 6) pe_int)) (pe_op op_mul pe_int (pv 5))) pe_int) pe_int))
 (pss_one (ps_expr (pe_bm PySem.F.plainAttrs_list PySem.F.slot_list_append PySem.F.type_list_append mt_append (pv 2) (pa_cons (pe_op op_mod (pe_op op_fdivW (pv 6) pe_int) pe_int) pa_nil))))))))))))
 (pss_cons (ps_for PassesOwn.never rfl (pi_range1 (by rfl) T.n_range (pa_cons (pv 1) pa_nil)) (pg_name (i := 5) sc.nd rfl (by first | exact .inl rfl | exact .inr rfl))
 (pss_one (ps_if (pt_cmpR op_lt (pe_callB call_len_seq (by rfl) T.n_len (by decide +kernel) (pa_cons (pv 2) pa_nil)) (pv 1) (nomark _)) (pss_cons (ps_set (i := 7) sc.nd rfl (by first | exact .inl rfl | exact .inr rfl) pe_int)
 (pss_cons (ps_if (pt_cmpR op_gt (pe_callB call_len_seq (by rfl) T.n_len (by decide +kernel) (pa_cons (pv 2) pa_nil)) pe_int (nomark _)) (pss_one (ps_set (i := 7) sc.nd rfl (by first | exact .inl rfl | exact .inr rfl) (pe_ix ix_list (pv 2) (pe_op op_mod (pv 5) (pe_callB call_len_seq (by rfl) T.n_len (by decide +kernel) (pa_cons (pv 2) pa_nil))) (fun _ _ => rfl)))) pss_nil)
 (pss_one (ps_expr (pe_bm PySem.F.plainAttrs_list PySem.F.slot_list_append PySem.F.type_list_append mt_append (pv 2) (pa_cons (pe_op op_mod (pe_op op_add (pe_op op_add (pe_op op_mul (pv 7) pe_int) (pe_op op_mul pe_int (pe_callB call_len_seq (by rfl) T.n_len (by decide +kernel) (pa_cons (pv 2) pa_nil)))) pe_int) pe_int) pa_nil)))))) pss_nil)))
 (pss_one (ps_ret (pe_slice sl_list (pv 2) po_none (po_some (pv 1)))))))), of_body (fun x => ?_) (fun _ => Nat.le_of_ble_eq_true rfl) h⟩)
  exact EvR.weakL (er_seq (E := fun (found_1 : (List Int)) => [.dat .old (rp x.1), .dat .new (rp x.2), .own .new (rps found_1), .un, .un, .un, .un, .un]) (en_own (ev_list (m := .new) exs_nil)) (fun found_1 =>
 (er_seq (E := fun (s56 : (List Int)) => [.dat .old (rp x.1), .dat .new (rp x.2), .own .new (rps s56), .un, .un, .un, .un, .un]) (en_forP (E := fun (s56 : (List Int)) => [.dat .old (rp x.1), .dat .new (rp x.2), .own .new (rps s56), .un, .un, .un, .un, .un]) (s0 := found_1) (Eb := fun (s5 : (List Int)) (cell_6 : Int) => [.dat .old (rp x.1), .dat .new (rp x.2), .own .new (rps s5), .dat .new (rp cell_6), .un, .un, .un, .un]) (vs := [3]) (ei_list (EvL.E (EvL.res (r' := some (cut x.1.l none (some (63 : Int)))) (ev_slS (ev_var (i := 0) (m := .old) (x := x.1) rfl) eo_no (eo_atP ev_int)) (bsP (bsP (bsP rfl)))))) (.cons .id (.cons .id (.cons .id (.cons .id (.cons .id (.cons .id (.cons .id (.cons .id .nil)))))))) (fun s5 cell_6 => (eg_nameS (m1 := .new))) (fun s5 cell_6 =>
 (en_seq (E := fun (number_8 : Int) => [.dat .old (rp x.1), .dat .new (rp x.2), .own .new (rps s5), .dat .new (rp cell_6), .dat .new (rp number_8), .un, .un, .un]) (en_set (EvE.res (r' := some (if cell_6 < 0 then -cell_6 else cell_6)) (ev_abs (ev_intI (ev_var (i := 3) (m := .new) (x := cell_6) rfl))) (bsP rfl))) (fun number_8 =>
 (en_ifP (et_test (EvE.res (r' := some (decide ((1000000000000000000 : Int) ≤ number_8))) (ev_cmpI (ev_var (i := 4) (m := .new) (x := number_8) rfl) (ev_powV (a := 10) (b := 18) (v := 1000000000000000000))) (bsP (bsP rfl))))
 (en_last (en_seq (E := fun (s22 : ((List Int) × Int)) => [.dat .old (rp x.1), .dat .new (rp x.2), .own .new (rps s22.1), .dat .new (rp cell_6), .dat .new (rp s22.2), .un, .un, .un]) (en_for (E := fun (s22 : ((List Int) × Int)) => [.dat .old (rp x.1), .dat .new (rp x.2), .own .new (rps s22.1), .dat .new (rp cell_6), .dat .new (rp s22.2), .un, .un, .un]) (s0 := (s5, number_8)) (Eb := fun (s12 : ((List Int) × Int)) (k_13 : Int) => [.dat .old (rp x.1), .dat .new (rp x.2), .own .new (rps s12.1), .dat .new (rp cell_6), .dat .new (rp s12.2), .dat .new (rp k_13), .un, .un]) (vs := [5]) (EvI.res (r' := rangeP 0 (60 : Int)) (ei_range1 ev_int) (bsP rfl)) (.cons .id (.cons .id (.cons .id (.cons .id (.cons .id (.cons .id (.cons .id (.cons .id .nil)))))))) (fun s12 k_13 => (eg_nameS (m1 := .new))) (fun s12 k_13 =>
 (en_ifP (et_test (EvE.res (r' := some (decide ((0 : Int) < s12.2))) (ev_cmpI (ev_var (i := 4) (m := .new) (x := s12.2) rfl) ev_int) (bsP (bsP rfl))))
 (en_seq (E := fun (found_16 : (List Int)) => [.dat .old (rp x.1), .dat .new (rp x.2), .own .new (rps found_16), .dat .new (rp cell_6), .dat .new (rp s12.2), .dat .new (rp k_13), .un, .un]) (en_append (i := 2) (m := .new) (xs := s12.1) (EvE.res (r' := some (s12.2 % 1000003)) (ev_modC (ev_var (i := 4) (m := .new) (x := s12.2) rfl)) (bsP rfl)) rfl) (fun found_16 =>
 (en_last (en_seq (E := fun (number_20 : Int) => [.dat .old (rp x.1), .dat .new (rp x.2), .own .new (rps found_16), .dat .new (rp cell_6), .dat .new (rp number_20), .dat .new (rp k_13), .un, .un]) (en_set (EvE.res (r' := some (s12.2 / 1000003)) (ev_divC (ev_var (i := 4) (m := .new) (x := s12.2) rfl)) (bsP rfl))) (fun number_20 =>
 (en_end (s := (found_16, number_20)) (.cons .id (.cons .id (.cons .id (.cons .id (.cons .id (.cons .un (.cons .id (.cons .id .nil))))))))))))))
 (en_end (s := (s12.1, s12.2)) (.cons .id (.cons .id (.cons .id (.cons .id (.cons .id (.cons .un (.cons .id (.cons .id .nil)))))))))))) (fun s24 =>
 (en_end (s := s24.1) (.cons .id (.cons .id (.cons .id (.cons .un (.cons .un (.cons .id (.cons .id (.cons .id .nil))))))))))))
 (en_seq (E := fun (mixed_33 : Int) => [.dat .old (rp x.1), .dat .new (rp x.2), .own .new (rps s5), .dat .new (rp cell_6), .dat .new (rp number_8), .un, .dat .new (rp mixed_33), .un]) (en_set (EvE.res (r' := some ((((number_8 * 48271) + (7 * (s5.length : Int))) + (11 : Int)) % 2147483647)) (ev_modC (EvE.res (r' := some (((number_8 * 48271) + (7 * (s5.length : Int))) + (11 : Int))) (ev_arith (EvE.res (r' := some ((number_8 * 48271) + (7 * (s5.length : Int)))) (ev_arith (EvE.res (r' := some (number_8 * 48271)) (ev_mulC (ev_var (i := 4) (m := .new) (x := number_8) rfl)) (bsP rfl)) (EvE.res (r' := some (7 * (s5.length : Int))) (ev_mulCl (EvE.res (r' := some (s5.length : Int)) (ev_len (ev_own (i := 2) (m := .new) (xs := s5) rfl)) (bsP rfl))) (bsP rfl))) (bsP (bsP rfl))) ev_int) (bsP (bsP rfl)))) (bsP rfl))) (fun mixed_33 =>
 (en_last (en_seq (E := fun (s52 : ((List Int) × Int)) => [.dat .old (rp x.1), .dat .new (rp x.2), .own .new (rps s52.1), .dat .new (rp cell_6), .dat .new (rp number_8), .un, .dat .new (rp s52.2), .un]) (en_for (E := fun (s52 : ((List Int) × Int)) => [.dat .old (rp x.1), .dat .new (rp x.2), .own .new (rps s52.1), .dat .new (rp cell_6), .dat .new (rp number_8), .un, .dat .new (rp s52.2), .un]) (s0 := (s5, mixed_33)) (Eb := fun (s35 : ((List Int) × Int)) (k_36 : Int) => [.dat .old (rp x.1), .dat .new (rp x.2), .own .new (rps s35.1), .dat .new (rp cell_6), .dat .new (rp number_8), .dat .new (rp k_36), .dat .new (rp s35.2), .un]) (vs := [5]) (EvI.res (r' := rangeP 0 (4 : Int)) (ei_range1 ev_int) (bsP rfl)) (.cons .id (.cons .id (.cons .id (.cons .id (.cons .id (.cons .id (.cons .id (.cons .id .nil)))))))) (fun s35 k_36 => (eg_nameS (m1 := .new))) (fun s35 k_36 =>
 (en_seq (E := fun (mixed_47 : Int) => [.dat .old (rp x.1), .dat .new (rp x.2), .own .new (rps s35.1), .dat .new (rp cell_6), .dat .new (rp number_8), .dat .new (rp k_36), .dat .new (rp mixed_47), .un]) (en_set (EvE.res (r' := some (((((s35.2 * 69621) + (s35.2 / 65536)) + (13 * k_36)) + (5 : Int)) % 2147483629)) (ev_modC (EvE.res (r' := some ((((s35.2 * 69621) + (s35.2 / 65536)) + (13 * k_36)) + (5 : Int))) (ev_arith (EvE.res (r' := some (((s35.2 * 69621) + (s35.2 / 65536)) + (13 * k_36))) (ev_arith (EvE.res (r' := some ((s35.2 * 69621) + (s35.2 / 65536))) (ev_arith (EvE.res (r' := some (s35.2 * 69621)) (ev_mulC (ev_var (i := 6) (m := .new) (x := s35.2) rfl)) (bsP rfl)) (EvE.res (r' := some (s35.2 / 65536)) (ev_divC (ev_var (i := 6) (m := .new) (x := s35.2) rfl)) (bsP rfl))) (bsP (bsP rfl))) (EvE.res (r' := some (13 * k_36)) (ev_mulCl (ev_var (i := 5) (m := .new) (x := k_36) rfl)) (bsP rfl))) (bsP (bsP rfl))) ev_int) (bsP (bsP rfl)))) (bsP rfl))) (fun mixed_47 =>
 (en_last (en_seq (E := fun (found_48 : (List Int)) => [.dat .old (rp x.1), .dat .new (rp x.2), .own .new (rps found_48), .dat .new (rp cell_6), .dat .new (rp number_8), .dat .new (rp k_36), .dat .new (rp mixed_47), .un]) (en_append (i := 2) (m := .new) (xs := s35.1) (EvE.res (r' := some ((mixed_47 / 8) % 1000003)) (ev_modC (EvE.res (r' := some (mixed_47 / 8)) (ev_divC (ev_var (i := 6) (m := .new) (x := mixed_47) rfl)) (bsP rfl))) (bsP rfl)) rfl) (fun found_48 =>
 (en_end (s := (found_48, mixed_47)) (.cons .id (.cons .id (.cons .id (.cons .id (.cons .id (.cons .un (.cons .id (.cons .id .nil)))))))))))))))) (fun s54 =>
 (en_end (s := s54.1) (.cons .id (.cons .id (.cons .id (.cons .un (.cons .un (.cons .id (.cons .un (.cons .id .nil))))))))))))))))))) (fun s58 =>
 (er_seq (E := fun (s90 : (List Int)) => [.dat .old (rp x.1), .dat .new (rp x.2), .own .new (rps s90), .un, .un, .un, .un, .un]) (en_for (E := fun (s90 : (List Int)) => [.dat .old (rp x.1), .dat .new (rp x.2), .own .new (rps s90), .un, .un, .un, .un, .un]) (s0 := s58) (Eb := fun (s60 : (List Int)) (k_61 : Int) => [.dat .old (rp x.1), .dat .new (rp x.2), .own .new (rps s60), .un, .un, .dat .new (rp k_61), .un, .un]) (vs := [5]) (EvI.res (r' := rangeP 0 x.2) (ei_range1 (ev_var (i := 1) (m := .new) (x := x.2) rfl)) (bsP rfl)) (.cons .id (.cons .id (.cons .id (.cons .id (.cons .id (.cons .id (.cons .id (.cons .id .nil)))))))) (fun s60 k_61 => (eg_nameS (m1 := .new))) (fun s60 k_61 =>
 (en_ifP (et_test (EvE.res (r' := some (decide ((s60.length : Int) < x.2))) (ev_cmpI (EvE.res (r' := some (s60.length : Int)) (ev_len (ev_own (i := 2) (m := .new) (xs := s60) rfl)) (bsP rfl)) (ev_var (i := 1) (m := .new) (x := x.2) rfl)) (bsP (bsP rfl))))
 (en_seq (E := fun (base_65 : Int) => [.dat .old (rp x.1), .dat .new (rp x.2), .own .new (rps s60), .un, .un, .dat .new (rp k_61), .un, .dat .new (rp base_65)]) (en_set ev_int) (fun base_65 =>
 (en_seq (E := fun (s88 : Int) => [.dat .old (rp x.1), .dat .new (rp x.2), .own .new (rps s60), .un, .un, .dat .new (rp k_61), .un, .dat .new (rp s88)]) (en_ifP (et_test (EvE.res (r' := some (decide ((0 : Int) < (s60.length : Int)))) (ev_cmpI (EvE.res (r' := some (s60.length : Int)) (ev_len (ev_own (i := 2) (m := .new) (xs := s60) rfl)) (bsP rfl)) ev_int) (bsP (bsP rfl))))
 (en_last (en_seq (E := fun (base_75 : Int) => [.dat .old (rp x.1), .dat .new (rp x.2), .own .new (rps s60), .un, .un, .dat .new (rp k_61), .un, .dat .new (rp base_75)]) (en_set (EvE.res (r' := (modP k_61 (s60.length : Int)).bind fun v74 => atI s60 v74) (ev_ix (ev_own (i := 2) (m := .new) (xs := s60) rfl) (EvE.res (r' := modP k_61 (s60.length : Int)) (ev_mod (ev_var (i := 5) (m := .new) (x := k_61) rfl) (EvE.res (r' := some (s60.length : Int)) (ev_len (ev_own (i := 2) (m := .new) (xs := s60) rfl)) (bsP rfl))) (bsP (bsP rfl)))) (bsP (bcP fun _ => rfl)))) (fun base_75 =>
 (en_end (s := base_75) (.cons .id (.cons .id (.cons .id (.cons .id (.cons .id (.cons .id (.cons .id (.cons .id .nil))))))))))))
 (en_end (s := base_65) (.cons .id (.cons .id (.cons .id (.cons .id (.cons .id (.cons .id (.cons .id (.cons .id .nil)))))))))) (fun s77 =>
 (en_last (en_seq (E := fun (found_78 : (List Int)) => [.dat .old (rp x.1), .dat .new (rp x.2), .own .new (rps found_78), .un, .un, .dat .new (rp k_61), .un, .dat .new (rp s77)]) (en_append (i := 2) (m := .new) (xs := s60) (EvE.res (r' := some ((((s77 * 16807) + (31 * (s60.length : Int))) + (17 : Int)) % 1000003)) (ev_modC (EvE.res (r' := some (((s77 * 16807) + (31 * (s60.length : Int))) + (17 : Int))) (ev_arith (EvE.res (r' := some ((s77 * 16807) + (31 * (s60.length : Int)))) (ev_arith (EvE.res (r' := some (s77 * 16807)) (ev_mulC (ev_var (i := 7) (m := .new) (x := s77) rfl)) (bsP rfl)) (EvE.res (r' := some (31 * (s60.length : Int))) (ev_mulCl (EvE.res (r' := some (s60.length : Int)) (ev_len (ev_own (i := 2) (m := .new) (xs := s60) rfl)) (bsP rfl))) (bsP rfl))) (bsP (bsP rfl))) ev_int) (bsP (bsP rfl)))) (bsP rfl)) rfl) (fun found_78 =>
 (en_end (s := found_78) (.cons .id (.cons .id (.cons .id (.cons .id (.cons .id (.cons .un (.cons .id (.cons .un .nil))))))))))))))))
 (en_end (s := s60) (.cons .id (.cons .id (.cons .id (.cons .id (.cons .id (.cons .un (.cons .id (.cons .id .nil)))))))))))) (fun s92 =>
 (er_ret (EvL.E (EvL.res (r' := some (cut s92 none (some x.2))) (ev_sl (ev_own (i := 2) (m := .new) (xs := s92) rfl) eo_no (eo_atP (ev_var (i := 1) (m := .new) (x := x.2) rfl))) (bsP (bsP (bsP rfl)))))))))))) (.cons .id (.cons .sc (.cons .id (.cons .id (.cons .id (.cons .id (.cons .id (.cons .id .nil))))))))
theorem ok_law_turned (T : Tx K mg) : FnOk P w K mg base CX0 1 T.f_law_turned.a T.f_law_turned.d ["word", "k"] (sp2 K f_law_turned .new) := by
  have sc : FnScope ["word", "k"] ["word", "k"] (defScope st_law_turned) := ⟨rfl, rfl, rfl, by decide +kernel, rfl, by decide +kernel, by decide +kernel⟩
  refine T.f_law_turned.F.ok sc (fun vs H Q E h => spA_len h fun _ => rfl) (fun cdv A outer s H vs Q E hr h => ⟨_, (pss_one (ps_ret (pe_op op_cat (pe_slice sl_list (pv 0) (po_some (pv 1)) po_none) (pe_slice sl_list (pv 0) po_none (po_some (pv 1)))))), of_body (fun x => ?_) (fun _ => Nat.le_of_ble_eq_true rfl) h⟩)
  exact EvR.weakL (er_ret (EvL.E (EvL.res (r' := lim ((cut x.1 (some x.2) none) ++ (cut x.1 none (some x.2)))) (ev_cat (EvL.B (EvL.res (r' := some (cut x.1 (some x.2) none)) (ev_sl (EvB.sc (m1 := .new) (EvE.B (ev_var (i := 0) (m := .old) (x := x.1) rfl))) (eo_atP (ev_var (i := 1) (m := .new) (x := x.2) rfl)) eo_no) (bsP (bsP (bsP rfl))))) (EvL.B (EvL.res (r' := some (cut x.1 none (some x.2))) (ev_sl (EvB.sc (m1 := .new) (EvE.B (ev_var (i := 0) (m := .old) (x := x.1) rfl))) eo_no (eo_atP (ev_var (i := 1) (m := .new) (x := x.2) rfl))) (bsP (bsP (bsP rfl)))))) (bsP (bsP rfl))))) (.cons .id (.cons .sc .nil))
theorem ok_law_is_head (T : Tx K mg) : FnOk P w K mg base CX0 2 T.f_law_is_head.a T.f_law_is_head.d ["word"] (sp1 K f_law_is_head .new) := by
  have sc : FnScope ["word", "k"] ["word"] (defScope st_law_is_head) := ⟨rfl, rfl, rfl, by decide +kernel, rfl, by decide +kernel, by decide +kernel⟩
  refine T.f_law_is_head.F.ok sc (fun vs H Q E h => spA_len h fun _ => rfl) (fun cdv A outer s H vs Q E hr h => ⟨_, (pss_one (ps_ret (pe_cmpR (op_eqD hr.units) (pe_lc (own := [("k", 1)]) rfl sc.nd (pi_range2 (by rfl) T.n_range (pa_cons pe_int (pa_cons (pe_callB call_len_seq (by rfl) T.n_len (by decide +kernel) (pa_cons (pv 0) pa_nil)) pa_nil))) (blkOk_by (N := ["word", "k"]) (sc := defScope st_law_is_head) (by decide +kernel)) (fun _ _ _ _ _ => (pg_name (i := 1) sc.nd rfl (by first | exact .inl rfl | exact .inr rfl))) (fun _ _ _ _ _ => (pts_one (pt_cmpR (op_leD K hr.units) (pe_call (ok_law_turned T) (hr.mono (by decide)) (by rfl) T.f_law_turned.g T.f_law_turned.F.kp T.f_law_turned.b .nil pass0 (pa_cons (pv 0) (pa_cons (pv 1) pa_nil))) (pv 0) (nomark _)))) (fun _ _ _ _ _ => (pv 1))) (pe_lst pa_nil) (nomark _)))), of_body (fun x => ?_) (fun _ => Nat.le_of_ble_eq_true rfl) h⟩)
  exact EvR.weakL (er_ret (EvE.res (r' := ((rangeP (1 : Int) (x.length : Int)).bind fun v11 => (compM (fun x4 => (f_law_turned x x4).bind fun v10 => some (leG v10 x)) (fun x4 => some x4) v11).bind lim).bind fun v14 => eqD (rp v14) (rp ([] : (List Int)))) (ev_eqL (EvL.B (EvL.res (r' := (rangeP (1 : Int) (x.length : Int)).bind fun v11 => (compM (fun x4 => (f_law_turned x x4).bind fun v10 => some (leG v10 x)) (fun x4 => some x4) v11).bind lim) (ev_lc (vs := [1]) (Eb := fun (x4 : Int) => [.dat .old (rp x), .dat .new (rp x4)]) (EvI.res (r' := rangeP (1 : Int) (x.length : Int)) (ei_range2 ev_int (EvE.res (r' := some (x.length : Int)) (ev_len (EvB.sc (m1 := .new) (EvE.B (ev_var (i := 0) (m := .old) (x := x) rfl)))) (bsP rfl))) (bsP (bsP rfl))) (fun x4 => (eg_nameS (m1 := .new))) (fun x4 => (et_test (EvE.res (r' := (f_law_turned x x4).bind fun v10 => some (leG v10 x)) (ev_leL (EvE.B (EvE.res (r' := f_law_turned x x4) (ev_call2 (ev_var (i := 0) (m := .old) (x := x) rfl) (ev_var (i := 1) (m := .new) (x := x4) rfl)) (bsP (bsP rfl)))) (EvB.sc (m1 := .new) (EvE.B (ev_var (i := 0) (m := .old) (x := x) rfl)))) (bcP fun _ => (bsP rfl))))) (fun x4 => (ev_var (i := 1) (m := .new) (x := x4) rfl))) (bcP fun _ => rfl))) (EvL.B (ev_list (m := .new) exs_nil))) (bcP fun _ => (bsP rfl)))) (.cons .id (.cons .id .nil))
theorem ok_law_is_number (T : Tx K mg) : FnOk P w K mg base CX0 1 T.f_law_is_number.a T.f_law_is_number.d ["value"] (sp1 K f_law_is_number .new) := by
  have sc : FnScope ["value"] ["value"] (defScope st_law_is_number) := ⟨rfl, rfl, rfl, by decide +kernel, rfl, by decide +kernel, by decide +kernel⟩
  refine T.f_law_is_number.F.ok sc (fun vs H Q E h => spA_len h fun _ => rfl) (fun cdv A outer s H vs Q E hr h => ⟨_, (pss_one (ps_ret (pe_and (pe_callB call_isi (by rfl) T.n_isinstance (by decide +kernel) (pa_cons (pv 0) (pa_cons (pe_bltn (v := .ty "int") (by rfl) T.n_int (by decide +kernel) rfl) pa_nil))) (pe_one (pe_not (pe_callB call_isi (by rfl) T.n_isinstance (by decide +kernel) (pa_cons (pv 0) (pa_cons (pe_bltn (v := .ty "bool") (by rfl) T.n_bool (by decide +kernel) rfl) pa_nil)))))))), of_body (fun x => ?_) (fun _ => Nat.le_of_ble_eq_true rfl) h⟩)
  exact EvR.weakL (er_ret (ev_andV (EvE.res (r' := if noFrz (rp x) = true then some (isTy "int" (rp x)) else none) (ev_isi (n := "int") (ev_var (i := 0) (m := .old) (x := x) rfl)) (bsP rfl)) (ev_notV (EvE.res (r' := if noFrz (rp x) = true then some (isTy "bool" (rp x)) else none) (ev_isi (n := "bool") (ev_var (i := 0) (m := .old) (x := x) rfl)) (bsP rfl))))) (.cons .id .nil)
theorem ok_law_is_numbers (T : Tx K mg) : FnOk P w K mg base CX0 2 T.f_law_is_numbers.a T.f_law_is_numbers.d ["value"] (sp1 K f_law_is_numbers .new) := by
  have sc : FnScope ["value", "item"] ["value"] (defScope st_law_is_numbers) := ⟨rfl, rfl, rfl, by decide +kernel, rfl, by decide +kernel, by decide +kernel⟩
  refine T.f_law_is_numbers.F.ok sc (fun vs H Q E h => spA_len h fun _ => rfl) (fun cdv A outer s H vs Q E hr h => ⟨_, (pss_cons (ps_if (pt_not (pt_val (pe_callB call_isi (by rfl) T.n_isinstance (by decide +kernel) (pa_cons (pv 0) (pa_cons (pe_bltn (v := .ty "list") (by rfl) T.n_list (by decide +kernel) rfl) pa_nil))))) (pss_one (ps_ret pe_bl)) pss_nil)
 (pss_cons (ps_for PassesOwn.never rfl (pi_list (pv 0)) (pg_name (i := 1) sc.nd rfl (by first | exact .inl rfl | exact .inr rfl))
 (pss_one (ps_if (pt_not (pt_val (pe_call (ok_law_is_number T) (hr.mono (by decide)) (by rfl) T.f_law_is_number.g T.f_law_is_number.F.kp T.f_law_is_number.b .nil pass0 (pa_cons (pv 1) pa_nil)))) (pss_one (ps_ret pe_bl)) pss_nil)))
 (pss_one (ps_ret pe_bl)))), of_body (fun x => ?_) (fun _ => Nat.le_of_ble_eq_true rfl) h⟩)
  exact EvR.weakL (er_ifS (er_if (et_not (et_val (EvE.res (r' := if noFrz (rp x) = true then some (isTy "list" (rp x)) else none) (ev_isi (n := "list") (ev_var (i := 0) (m := .old) (x := x) rfl)) (bsP rfl))))
 (er_cut (er_ret ev_bl))
 (er_nx (er_seqF (T := Unit) (L := fun _ => []) (E := fun (s5 : Unit) => [.dat .old (rp x), .un]) (ef_for (E := fun (s5 : Unit) => [.dat .old (rp x), .un]) (s0 := ()) (Eb := fun (s2 : Unit) (item_3 : Dt) => [.dat .old (rp x), .dat .old (rp item_3)]) (vs := [1]) (ei_list (EvE.res (r' := (un : Dt → Option (List Dt)) x) (ev_unD (ev_var (i := 0) (m := .old) (x := x) rfl)) (bsP rfl))) (.cons .id (.cons .id .nil)) (fun s2 item_3 => eg_name) (fun s2 item_3 =>
 (ef_if (et_not (et_val (EvE.res (r' := f_law_is_number item_3) (ev_call1 (ev_var (i := 1) (m := .old) (x := item_3) rfl)) (bsP rfl))))
 (EvR.FP (er_ret ev_bl))
 (ef_end (s := ()) (.cons .id (.cons .un .nil)))))) (fun s7 =>
 (er_ret ev_bl)))))) (.cons .id (.cons .id .nil))
theorem ok_law_shows (T : Tx K mg) : FnOk P w K mg base CX0 3 T.f_law_shows.a T.f_law_shows.d ["word", "paper"] (sp2 K f_law_shows .new) := by
  have sc : FnScope ["word", "paper", "total", "k"] ["word", "paper"] (defScope st_law_shows) := ⟨rfl, rfl, rfl, by decide +kernel, rfl, by decide +kernel, by decide +kernel⟩
  refine T.f_law_shows.F.ok sc (fun vs H Q E h => spA_len h fun _ => rfl) (fun cdv A outer s H vs Q E hr h => ⟨_, (pss_cons (ps_if (pt_not (pt_val (pe_callB call_isi (by rfl) T.n_isinstance (by decide +kernel) (pa_cons (pv 1) (pa_cons (pe_bltn (v := .ty "list") (by rfl) T.n_list (by decide +kernel) rfl) pa_nil))))) (pss_one (ps_ret pe_bl)) pss_nil)
 (pss_cons (ps_set (i := 2) sc.nd rfl (by first | exact .inl rfl | exact .inr rfl) (pe_lst pa_nil))
 (pss_cons (ps_for PassesOwn.never rfl (pi_range1 (by rfl) T.n_range (pa_cons (pe_callB call_len_seq (by rfl) T.n_len (by decide +kernel) (pa_cons (pv 1) pa_nil)) pa_nil)) (pg_name (i := 3) sc.nd rfl (by first | exact .inl rfl | exact .inr rfl))
 (pss_cons (ps_if (PW.pt (pw_or (pt_not (pt_val (pe_call (ok_law_is_numbers T) (hr.mono (by decide)) (by rfl) T.f_law_is_numbers.g T.f_law_is_numbers.F.kp T.f_law_is_numbers.b .nil pass0 (pa_cons (pe_ix ix_list (pv 1) (pv 3) (fun _ _ => rfl)) pa_nil)))) (pw_or (pt_cmpR op_eq (pe_callB call_len_seq (by rfl) T.n_len (by decide +kernel) (pa_cons (pe_ix ix_list (pv 1) (pv 3) (fun _ _ => rfl)) pa_nil)) pe_int (nomark _)) (pw_or (pt_cmpR op_lt (pe_callB (cr_min rfl) (by rfl) T.n_min (by decide +kernel) (pa_cons (pe_ix ix_list (pv 1) (pv 3) (fun _ _ => rfl)) pa_nil)) pe_int (nomark _)) (pw_or1 (pt_not (pt_val (pe_call (ok_law_is_head T) (hr.mono (by decide)) (by rfl) T.f_law_is_head.g T.f_law_is_head.F.kp T.f_law_is_head.b .nil pass0 (pa_cons (pe_ix ix_list (pv 1) (pv 3) (fun _ _ => rfl)) pa_nil))))))))) (pss_one (ps_ret pe_bl)) pss_nil)
 (pss_cons (ps_if (PW.pt (pw_and (pt_cmpR op_gt (pv 3) pe_int (nomark _)) (pw_and1 (pt_cmpR (op_ltD K hr.units) (pe_ix ix_list (pv 1) (pe_op op_sub (pv 3) pe_int) (fun _ _ => rfl)) (pe_ix ix_list (pv 1) (pv 3) (fun _ _ => rfl)) (nomark _))))) (pss_one (ps_ret pe_bl)) pss_nil)
 (pss_one (ps_set (i := 2) sc.nd rfl (by first | exact .inl rfl | exact .inr rfl) (pe_op op_cat (pv 2) (pe_ix ix_list (pv 1) (pv 3) (fun _ _ => rfl))))))))
 (pss_one (ps_ret (pe_cmpR (op_eqD hr.units) (pv 2) (pv 0) (nomark _))))))), of_body (fun x => ?_) (fun _ => Nat.le_of_ble_eq_true rfl) h⟩)
  exact EvR.weakL (er_ifS (er_if (et_not (et_val (EvE.res (r' := if noFrz (rp x.2) = true then some (isTy "list" (rp x.2)) else none) (ev_isi (n := "list") (ev_var (i := 1) (m := .old) (x := x.2) rfl)) (bsP rfl))))
 (er_cut (er_ret ev_bl))
 (er_nx (er_seq (E := fun (total_2 : (List Int)) => [.dat .old (rp x.1), .dat .old (rp x.2), .dat .new (rp total_2), .un]) (en_set (EvL.E (ev_list (m := .new) exs_nil))) (fun total_2 =>
 (er_seqF (T := Unit) (L := fun _ => []) (E := fun (s65 : (List Int)) => [.dat .old (rp x.1), .dat .old (rp x.2), .dat .new (rp s65), .un]) (ef_for (E := fun (s65 : (List Int)) => [.dat .old (rp x.1), .dat .old (rp x.2), .dat .new (rp s65), .un]) (s0 := total_2) (Eb := fun (s7 : (List Int)) (k_8 : Int) => [.dat .old (rp x.1), .dat .old (rp x.2), .dat .new (rp s7), .dat .new (rp k_8)]) (vs := [3]) (EvI.res (r' := (((un : Dt → Option (List Dt)) x.2).bind fun v4 => some (v4.length : Int)).bind fun v6 => rangeP 0 v6) (ei_range1 (EvE.res (r' := ((un : Dt → Option (List Dt)) x.2).bind fun v4 => some (v4.length : Int)) (ev_len (EvE.B (EvE.res (r' := (un : Dt → Option (List Dt)) x.2) (ev_unD (ev_var (i := 1) (m := .old) (x := x.2) rfl)) (bsP rfl)))) (bcP fun _ => rfl))) (bcP fun _ => rfl)) (.cons .id (.cons .id (.cons .id (.cons .id .nil)))) (fun s7 k_8 => (eg_nameS (m1 := .new))) (fun s7 k_8 =>
 (ef_ifS (ef_if (et_or (et_not (et_val (EvE.res (r' := (((un : Dt → Option (List Dt)) x.2).bind fun v11 => atI v11 k_8).bind fun v12 => f_law_is_numbers v12) (ev_call1 (EvE.res (r' := ((un : Dt → Option (List Dt)) x.2).bind fun v11 => atI v11 k_8) (ev_ix (EvE.B (EvE.res (r' := (un : Dt → Option (List Dt)) x.2) (ev_unD (ev_var (i := 1) (m := .old) (x := x.2) rfl)) (bsP rfl))) (ev_var (i := 3) (m := .new) (x := k_8) rfl)) (bcP fun _ => (bsP rfl)))) (bcP fun _ => rfl)))) (et_or (et_test (EvE.res (r' := (((((un : Dt → Option (List Dt)) x.2).bind fun v15 => atI v15 k_8).bind fun v16 => (un : Dt → Option (List Dt)) v16).bind fun v18 => some (v18.length : Int)).bind fun v21 => some (decide (v21 = (0 : Int)))) (ev_eqI (EvE.res (r' := ((((un : Dt → Option (List Dt)) x.2).bind fun v15 => atI v15 k_8).bind fun v16 => (un : Dt → Option (List Dt)) v16).bind fun v18 => some (v18.length : Int)) (ev_len (EvE.B (EvE.res (r' := (((un : Dt → Option (List Dt)) x.2).bind fun v15 => atI v15 k_8).bind fun v16 => (un : Dt → Option (List Dt)) v16) (ev_unD (EvE.res (r' := ((un : Dt → Option (List Dt)) x.2).bind fun v15 => atI v15 k_8) (ev_ix (EvE.B (EvE.res (r' := (un : Dt → Option (List Dt)) x.2) (ev_unD (ev_var (i := 1) (m := .old) (x := x.2) rfl)) (bsP rfl))) (ev_var (i := 3) (m := .new) (x := k_8) rfl)) (bcP fun _ => (bsP rfl)))) (bcP fun _ => rfl)))) (bcP fun _ => rfl)) ev_int) (bcP fun _ => (bsP rfl)))) (et_or (et_test (EvE.res (r' := (((((un : Dt → Option (List Dt)) x.2).bind fun v24 => atI v24 k_8).bind fun v25 => (un : Dt → Option (List Int)) v25).bind fun v26 => minL v26).bind fun v29 => some (decide (v29 < (0 : Int)))) (ev_cmpI (EvE.res (r' := ((((un : Dt → Option (List Dt)) x.2).bind fun v24 => atI v24 k_8).bind fun v25 => (un : Dt → Option (List Int)) v25).bind fun v26 => minL v26) (ev_min (EvB.sc (m1 := .new) (EvE.B (EvE.res (r' := (((un : Dt → Option (List Dt)) x.2).bind fun v24 => atI v24 k_8).bind fun v25 => (un : Dt → Option (List Int)) v25) (ev_unD (EvE.res (r' := ((un : Dt → Option (List Dt)) x.2).bind fun v24 => atI v24 k_8) (ev_ix (EvE.B (EvE.res (r' := (un : Dt → Option (List Dt)) x.2) (ev_unD (ev_var (i := 1) (m := .old) (x := x.2) rfl)) (bsP rfl))) (ev_var (i := 3) (m := .new) (x := k_8) rfl)) (bcP fun _ => (bsP rfl)))) (bcP fun _ => rfl))))) (bcP fun _ => rfl)) ev_int) (bcP fun _ => (bsP rfl)))) (et_not (et_val (EvE.res (r' := ((((un : Dt → Option (List Dt)) x.2).bind fun v32 => atI v32 k_8).bind fun v33 => (un : Dt → Option (List Int)) v33).bind fun v34 => f_law_is_head v34) (ev_call1 (EvE.res (r' := (((un : Dt → Option (List Dt)) x.2).bind fun v32 => atI v32 k_8).bind fun v33 => (un : Dt → Option (List Int)) v33) (ev_unD (EvE.res (r' := ((un : Dt → Option (List Dt)) x.2).bind fun v32 => atI v32 k_8) (ev_ix (EvE.B (EvE.res (r' := (un : Dt → Option (List Dt)) x.2) (ev_unD (ev_var (i := 1) (m := .old) (x := x.2) rfl)) (bsP rfl))) (ev_var (i := 3) (m := .new) (x := k_8) rfl)) (bcP fun _ => (bsP rfl)))) (bcP fun _ => rfl))) (bcP fun _ => rfl)))))))
 (ef_cutRP (er_ret ev_bl))
 (ef_nx (ef_ifS (ef_if (EvT.res (r' := if (decide ((0 : Int) < k_8)) = true then ((((un : Dt → Option (List Dt)) x.2).bind fun v44 => atI v44 (k_8 - (1 : Int))).bind fun v48 => (un : Dt → Option (List Int)) v48).bind fun v52 => ((((un : Dt → Option (List Dt)) x.2).bind fun v47 => atI v47 k_8).bind fun v49 => (un : Dt → Option (List Int)) v49).bind fun v53 => some (ltG v52 v53) else some false) (et_and (et_test (EvE.res (r' := some (decide ((0 : Int) < k_8))) (ev_cmpI (ev_var (i := 3) (m := .new) (x := k_8) rfl) ev_int) (bsP (bsP rfl)))) (et_test (EvE.res (r' := ((((un : Dt → Option (List Dt)) x.2).bind fun v44 => atI v44 (k_8 - (1 : Int))).bind fun v48 => (un : Dt → Option (List Int)) v48).bind fun v52 => ((((un : Dt → Option (List Dt)) x.2).bind fun v47 => atI v47 k_8).bind fun v49 => (un : Dt → Option (List Int)) v49).bind fun v53 => some (ltG v52 v53)) (ev_ltL (EvB.sc (m1 := .new) (EvE.B (EvE.res (r' := (((un : Dt → Option (List Dt)) x.2).bind fun v44 => atI v44 (k_8 - (1 : Int))).bind fun v48 => (un : Dt → Option (List Int)) v48) (ev_unD (EvE.res (r' := ((un : Dt → Option (List Dt)) x.2).bind fun v44 => atI v44 (k_8 - (1 : Int))) (ev_ix (EvE.B (EvE.res (r' := (un : Dt → Option (List Dt)) x.2) (ev_unD (ev_var (i := 1) (m := .old) (x := x.2) rfl)) (bsP rfl))) (EvE.res (r' := some (k_8 - (1 : Int))) (ev_arith (ev_var (i := 3) (m := .new) (x := k_8) rfl) ev_int) (bsP (bsP rfl)))) (bcP fun _ => (bsP rfl)))) (bcP fun _ => rfl)))) (EvB.sc (m1 := .new) (EvE.B (EvE.res (r' := (((un : Dt → Option (List Dt)) x.2).bind fun v47 => atI v47 k_8).bind fun v49 => (un : Dt → Option (List Int)) v49) (ev_unD (EvE.res (r' := ((un : Dt → Option (List Dt)) x.2).bind fun v47 => atI v47 k_8) (ev_ix (EvE.B (EvE.res (r' := (un : Dt → Option (List Dt)) x.2) (ev_unD (ev_var (i := 1) (m := .old) (x := x.2) rfl)) (bsP rfl))) (ev_var (i := 3) (m := .new) (x := k_8) rfl)) (bcP fun _ => (bsP rfl)))) (bcP fun _ => rfl))))) (bcP fun _ => (bcP fun _ => rfl))))) (bsP rfl))
 (ef_cutRP (er_ret ev_bl))
 (ef_nx (ef_last (ef_seq (E := fun (total_62 : (List Int)) => [.dat .old (rp x.1), .dat .old (rp x.2), .dat .new (rp total_62), .dat .new (rp k_8)]) (en_set (EvL.E (EvL.res (r' := ((((un : Dt → Option (List Dt)) x.2).bind fun v57 => atI v57 k_8).bind fun v58 => (un : Dt → Option (List Int)) v58).bind fun v61 => lim (s7 ++ v61)) (ev_cat (EvE.B (ev_var (i := 2) (m := .new) (x := s7) rfl)) (EvB.sc (m1 := .new) (EvE.B (EvE.res (r' := (((un : Dt → Option (List Dt)) x.2).bind fun v57 => atI v57 k_8).bind fun v58 => (un : Dt → Option (List Int)) v58) (ev_unD (EvE.res (r' := ((un : Dt → Option (List Dt)) x.2).bind fun v57 => atI v57 k_8) (ev_ix (EvE.B (EvE.res (r' := (un : Dt → Option (List Dt)) x.2) (ev_unD (ev_var (i := 1) (m := .old) (x := x.2) rfl)) (bsP rfl))) (ev_var (i := 3) (m := .new) (x := k_8) rfl)) (bcP fun _ => (bsP rfl)))) (bcP fun _ => rfl))))) (bsP (bcP fun _ => rfl))))) (fun total_62 =>
 (ef_end (s := total_62) (.cons .id (.cons .id (.cons .id (.cons .un .nil)))))))))))))))) (fun s67 =>
 (er_ret (EvE.res (r' := eqD (rp s67) (rp x.1)) (ev_eqL (EvE.B (ev_var (i := 2) (m := .new) (x := s67) rfl)) (EvB.sc (m1 := .new) (EvE.B (ev_var (i := 0) (m := .old) (x := x.1) rfl)))) (bsP (bsP rfl))))))))))) (.cons .id (.cons .id (.cons .id (.cons .id .nil))))
theorem ok_turned (T : Tx K mg) : FnOk P w K mg base CX0 1 T.f_turned.a T.f_turned.d ["word", "places"] (sp2 K f_turned .new) := by
  have sc : FnScope ["word", "places"] ["word", "places"] (defScope st_turned) := ⟨rfl, rfl, rfl, by decide +kernel, rfl, by decide +kernel, by decide +kernel⟩
  refine T.f_turned.F.ok sc (fun vs H Q E h => spA_len h fun _ => rfl) (fun cdv A outer s H vs Q E hr h => ⟨_, (pss_one (ps_ret (pe_op op_cat (pe_slice sl_list (pv 0) (po_some (pv 1)) po_none) (pe_slice sl_list (pv 0) po_none (po_some (pv 1)))))), of_body (fun x => ?_) (fun _ => Nat.le_of_ble_eq_true rfl) h⟩)
  exact EvR.weakL (er_ret (EvL.E (EvL.res (r' := lim ((cut x.1 (some x.2) none) ++ (cut x.1 none (some x.2)))) (ev_cat (EvL.B (EvL.res (r' := some (cut x.1 (some x.2) none)) (ev_sl (EvB.sc (m1 := .new) (EvE.B (ev_var (i := 0) (m := .old) (x := x.1) rfl))) (eo_atP (ev_var (i := 1) (m := .new) (x := x.2) rfl)) eo_no) (bsP (bsP (bsP rfl))))) (EvL.B (EvL.res (r' := some (cut x.1 none (some x.2))) (ev_sl (EvB.sc (m1 := .new) (EvE.B (ev_var (i := 0) (m := .old) (x := x.1) rfl))) eo_no (eo_atP (ev_var (i := 1) (m := .new) (x := x.2) rfl))) (bsP (bsP (bsP rfl)))))) (bsP (bsP rfl))))) (.cons .id (.cons .sc .nil))
theorem ok_is_head (T : Tx K mg) : FnOk P w K mg base CX0 2 T.f_is_head.a T.f_is_head.d ["word"] (sp1 K f_is_head .new) := by
  have sc : FnScope ["word", "places"] ["word"] (defScope st_is_head) := ⟨rfl, rfl, rfl, by decide +kernel, rfl, by decide +kernel, by decide +kernel⟩
  refine T.f_is_head.F.ok sc (fun vs H Q E h => spA_len h fun _ => rfl) (fun cdv A outer s H vs Q E hr h => ⟨_, (pss_cons (ps_for PassesOwn.never rfl (pi_range2 (by rfl) T.n_range (pa_cons pe_int (pa_cons (pe_callB call_len_seq (by rfl) T.n_len (by decide +kernel) (pa_cons (pv 0) pa_nil)) pa_nil))) (pg_name (i := 1) sc.nd rfl (by first | exact .inl rfl | exact .inr rfl))
 (pss_one (ps_if (pt_cmpR (op_leD K hr.units) (pe_call (ok_turned T) (hr.mono (by decide)) (by rfl) T.f_turned.g T.f_turned.F.kp T.f_turned.b .nil pass0 (pa_cons (pv 0) (pa_cons (pv 1) pa_nil))) (pv 0) (nomark _)) (pss_one (ps_ret pe_bl)) pss_nil)))
 (pss_one (ps_ret pe_bl))), of_body (fun x => ?_) (fun _ => Nat.le_of_ble_eq_true rfl) h⟩)
  exact EvR.weakL (er_seqF (T := Unit) (L := fun _ => []) (E := fun (s12 : Unit) => [.dat .old (rp x), .un]) (ef_for (E := fun (s12 : Unit) => [.dat .old (rp x), .un]) (s0 := ()) (Eb := fun (s4 : Unit) (places_5 : Int) => [.dat .old (rp x), .dat .new (rp places_5)]) (vs := [1]) (EvI.res (r' := rangeP (1 : Int) (x.length : Int)) (ei_range2 ev_int (EvE.res (r' := some (x.length : Int)) (ev_len (EvB.sc (m1 := .new) (EvE.B (ev_var (i := 0) (m := .old) (x := x) rfl)))) (bsP rfl))) (bsP (bsP rfl))) (.cons .id (.cons .id .nil)) (fun s4 places_5 => (eg_nameS (m1 := .new))) (fun s4 places_5 =>
 (ef_if (et_test (EvE.res (r' := (f_turned x places_5).bind fun v10 => some (leG v10 x)) (ev_leL (EvE.B (EvE.res (r' := f_turned x places_5) (ev_call2 (ev_var (i := 0) (m := .old) (x := x) rfl) (ev_var (i := 1) (m := .new) (x := places_5) rfl)) (bsP (bsP rfl)))) (EvB.sc (m1 := .new) (EvE.B (ev_var (i := 0) (m := .old) (x := x) rfl)))) (bcP fun _ => (bsP rfl))))
 (EvR.FP (er_ret ev_bl))
 (ef_end (s := ()) (.cons .id (.cons .un .nil)))))) (fun s14 =>
 (er_ret ev_bl))) (.cons .id (.cons .id .nil))
theorem ok_is_number (T : Tx K mg) : FnOk P w K mg base CX0 1 T.f_is_number.a T.f_is_number.d ["value"] (sp1 K f_is_number .new) := by
  have sc : FnScope ["value"] ["value"] (defScope st_is_number) := ⟨rfl, rfl, rfl, by decide +kernel, rfl, by decide +kernel, by decide +kernel⟩
  refine T.f_is_number.F.ok sc (fun vs H Q E h => spA_len h fun _ => rfl) (fun cdv A outer s H vs Q E hr h => ⟨_, (pss_one (ps_ret (pe_and (pe_callB call_isi (by rfl) T.n_isinstance (by decide +kernel) (pa_cons (pv 0) (pa_cons (pe_bltn (v := .ty "int") (by rfl) T.n_int (by decide +kernel) rfl) pa_nil))) (pe_one (pe_not (pe_callB call_isi (by rfl) T.n_isinstance (by decide +kernel) (pa_cons (pv 0) (pa_cons (pe_bltn (v := .ty "bool") (by rfl) T.n_bool (by decide +kernel) rfl) pa_nil)))))))), of_body (fun x => ?_) (fun _ => Nat.le_of_ble_eq_true rfl) h⟩)
  exact EvR.weakL (er_ret (ev_andV (EvE.res (r' := if noFrz (rp x) = true then some (isTy "int" (rp x)) else none) (ev_isi (n := "int") (ev_var (i := 0) (m := .old) (x := x) rfl)) (bsP rfl)) (ev_notV (EvE.res (r' := if noFrz (rp x) = true then some (isTy "bool" (rp x)) else none) (ev_isi (n := "bool") (ev_var (i := 0) (m := .old) (x := x) rfl)) (bsP rfl))))) (.cons .id .nil)
theorem ok_is_numbers (T : Tx K mg) : FnOk P w K mg base CX0 2 T.f_is_numbers.a T.f_is_numbers.d ["value"] (sp1 K f_is_numbers .new) := by
  have sc : FnScope ["value", "item"] ["value"] (defScope st_is_numbers) := ⟨rfl, rfl, rfl, by decide +kernel, rfl, by decide +kernel, by decide +kernel⟩
  refine T.f_is_numbers.F.ok sc (fun vs H Q E h => spA_len h fun _ => rfl) (fun cdv A outer s H vs Q E hr h => ⟨_, (pss_cons (ps_if (pt_not (pt_val (pe_callB call_isi (by rfl) T.n_isinstance (by decide +kernel) (pa_cons (pv 0) (pa_cons (pe_bltn (v := .ty "list") (by rfl) T.n_list (by decide +kernel) rfl) pa_nil))))) (pss_one (ps_ret pe_bl)) pss_nil)
 (pss_cons (ps_for PassesOwn.never rfl (pi_list (pv 0)) (pg_name (i := 1) sc.nd rfl (by first | exact .inl rfl | exact .inr rfl))
 (pss_one (ps_if (pt_not (pt_val (pe_call (ok_is_number T) (hr.mono (by decide)) (by rfl) T.f_is_number.g T.f_is_number.F.kp T.f_is_number.b .nil pass0 (pa_cons (pv 1) pa_nil)))) (pss_one (ps_ret pe_bl)) pss_nil)))
 (pss_one (ps_ret pe_bl)))), of_body (fun x => ?_) (fun _ => Nat.le_of_ble_eq_true rfl) h⟩)
  exact EvR.weakL (er_ifS (er_if (et_not (et_val (EvE.res (r' := if noFrz (rp x) = true then some (isTy "list" (rp x)) else none) (ev_isi (n := "list") (ev_var (i := 0) (m := .old) (x := x) rfl)) (bsP rfl))))
 (er_cut (er_ret ev_bl))
 (er_nx (er_seqF (T := Unit) (L := fun _ => []) (E := fun (s5 : Unit) => [.dat .old (rp x), .un]) (ef_for (E := fun (s5 : Unit) => [.dat .old (rp x), .un]) (s0 := ()) (Eb := fun (s2 : Unit) (item_3 : Dt) => [.dat .old (rp x), .dat .old (rp item_3)]) (vs := [1]) (ei_list (EvE.res (r' := (un : Dt → Option (List Dt)) x) (ev_unD (ev_var (i := 0) (m := .old) (x := x) rfl)) (bsP rfl))) (.cons .id (.cons .id .nil)) (fun s2 item_3 => eg_name) (fun s2 item_3 =>
 (ef_if (et_not (et_val (EvE.res (r' := f_is_number item_3) (ev_call1 (ev_var (i := 1) (m := .old) (x := item_3) rfl)) (bsP rfl))))
 (EvR.FP (er_ret ev_bl))
 (ef_end (s := ()) (.cons .id (.cons .un .nil)))))) (fun s7 =>
 (er_ret ev_bl)))))) (.cons .id (.cons .id .nil))
theorem ok_is_word (T : Tx K mg) : FnOk P w K mg base CX0 3 T.f_is_word.a T.f_is_word.d ["value"] (sp1 K f_is_word .new) := by
  have sc : FnScope ["value"] ["value"] (defScope st_is_word) := ⟨rfl, rfl, rfl, by decide +kernel, rfl, by decide +kernel, by decide +kernel⟩
  refine T.f_is_word.F.ok sc (fun vs H Q E h => spA_len h fun _ => rfl) (fun cdv A outer s H vs Q E hr h => ⟨_, (pss_one (ps_ret (pe_and (pe_call (ok_is_numbers T) (hr.mono (by decide)) (by rfl) T.f_is_numbers.g T.f_is_numbers.F.kp T.f_is_numbers.b .nil pass0 (pa_cons (pv 0) pa_nil)) (pe_and (pe_cmpR op_gt (pe_callB call_len_seq (by rfl) T.n_len (by decide +kernel) (pa_cons (pv 0) pa_nil)) pe_int (nomark _)) (pe_one (pe_cmpR op_ge (pe_callB (cr_min rfl) (by rfl) T.n_min (by decide +kernel) (pa_cons (pv 0) pa_nil)) pe_int (nomark _))))))), of_body (fun x => ?_) (fun _ => Nat.le_of_ble_eq_true rfl) h⟩)
  exact EvR.weakL (er_ret (ev_andV (EvE.res (r' := f_is_numbers x) (ev_call1 (ev_var (i := 0) (m := .old) (x := x) rfl)) (bsP rfl)) (ev_andV (EvE.res (r' := (((un : Dt → Option (List Dt)) x).bind fun v2 => some (v2.length : Int)).bind fun v5 => some (decide ((0 : Int) < v5))) (ev_cmpI (EvE.res (r' := ((un : Dt → Option (List Dt)) x).bind fun v2 => some (v2.length : Int)) (ev_len (EvE.B (EvE.res (r' := (un : Dt → Option (List Dt)) x) (ev_unD (ev_var (i := 0) (m := .old) (x := x) rfl)) (bsP rfl)))) (bcP fun _ => rfl)) ev_int) (bcP fun _ => (bsP rfl))) (EvE.res (r' := (((un : Dt → Option (List Int)) x).bind fun v6 => minL v6).bind fun v9 => some (decide ((0 : Int) ≤ v9))) (ev_cmpI (EvE.res (r' := ((un : Dt → Option (List Int)) x).bind fun v6 => minL v6) (ev_min (EvB.sc (m1 := .new) (EvE.B (EvE.res (r' := (un : Dt → Option (List Int)) x) (ev_unD (ev_var (i := 0) (m := .old) (x := x) rfl)) (bsP rfl))))) (bcP fun _ => rfl)) ev_int) (bcP fun _ => (bsP rfl)))))) (.cons .id .nil)
theorem ok_joined_words (T : Tx K mg) : FnOk P w K mg base CX0 1 T.f_joined_words.a T.f_joined_words.d ["words"] (sp1 K f_joined_words .new) := by
  have sc : FnScope ["words", "found", "word"] ["words"] (defScope st_joined_words) := ⟨rfl, rfl, rfl, by decide +kernel, rfl, by decide +kernel, by decide +kernel⟩
  refine T.f_joined_words.F.ok sc (fun vs H Q E h => spA_len h fun _ => rfl) (fun cdv A outer s H vs Q E hr h => ⟨_, (pss_cons (ps_set (i := 1) sc.nd rfl (by first | exact .inl rfl | exact .inr rfl) (pe_lst pa_nil))
 (pss_cons (ps_for PassesOwn.never rfl (pi_list (pv 0)) (pg_name (i := 2) sc.nd rfl (by first | exact .inl rfl | exact .inr rfl))
 (pss_one (ps_set (i := 1) sc.nd rfl (by first | exact .inl rfl | exact .inr rfl) (pe_op op_cat (pv 1) (pv 2)))))
 (pss_one (ps_ret (pv 1))))), of_body (fun x => ?_) (fun _ => Nat.le_of_ble_eq_true rfl) h⟩)
  exact EvR.weakL (er_seq (E := fun (found_1 : (List Int)) => [.dat .old (rp x), .dat .new (rp found_1), .un]) (en_set (EvL.E (ev_list (m := .new) exs_nil))) (fun found_1 =>
 (er_seq (E := fun (s8 : (List Int)) => [.dat .old (rp x), .dat .new (rp s8), .un]) (en_for (E := fun (s8 : (List Int)) => [.dat .old (rp x), .dat .new (rp s8), .un]) (s0 := found_1) (Eb := fun (s2 : (List Int)) (word_3 : Dt) => [.dat .old (rp x), .dat .new (rp s2), .dat .old (rp word_3)]) (vs := [2]) (ei_list (EvE.res (r' := (un : Dt → Option (List Dt)) x) (ev_unD (ev_var (i := 0) (m := .old) (x := x) rfl)) (bsP rfl))) (.cons .id (.cons .id (.cons .id .nil))) (fun s2 word_3 => eg_name) (fun s2 word_3 =>
 (en_last (en_seq (E := fun (found_7 : (List Int)) => [.dat .old (rp x), .dat .new (rp found_7), .dat .old (rp word_3)]) (en_set (EvL.E (EvL.res (r' := ((un : Dt → Option (List Int)) word_3).bind fun v6 => lim (s2 ++ v6)) (ev_cat (EvE.B (ev_var (i := 1) (m := .new) (x := s2) rfl)) (EvB.sc (m1 := .new) (EvE.B (EvE.res (r' := (un : Dt → Option (List Int)) word_3) (ev_unD (ev_var (i := 2) (m := .old) (x := word_3) rfl)) (bsP rfl))))) (bsP (bcP fun _ => rfl))))) (fun found_7 =>
 (en_end (s := found_7) (.cons .id (.cons .id (.cons .un .nil))))))))) (fun s10 =>
 (er_ret (ev_var (i := 1) (m := .new) (x := s10) rfl)))))) (.cons .id (.cons .id (.cons .id .nil)))
theorem ok_shows_heads (T : Tx K mg) : FnOk P w K mg base CX0 4 T.f_shows_heads.a T.f_shows_heads.d ["word", "paper"] (sp2 K f_shows_heads .new) := by
  have sc : FnScope ["word", "paper", "item", "at"] ["word", "paper"] (defScope st_shows_heads) := ⟨rfl, rfl, rfl, by decide +kernel, rfl, by decide +kernel, by decide +kernel⟩
  refine T.f_shows_heads.F.ok sc (fun vs H Q E h => spA_len h fun _ => rfl) (fun cdv A outer s H vs Q E hr h => ⟨_, (pss_cons (ps_if (pt_not (pt_val (pe_callB call_isi (by rfl) T.n_isinstance (by decide +kernel) (pa_cons (pv 1) (pa_cons (pe_bltn (v := .ty "list") (by rfl) T.n_list (by decide +kernel) rfl) pa_nil))))) (pss_one (ps_ret pe_bl)) pss_nil)
 (pss_cons (ps_for PassesOwn.never rfl (pi_list (pv 1)) (pg_name (i := 2) sc.nd rfl (by first | exact .inl rfl | exact .inr rfl))
 (pss_one (ps_if (pt_not (pt_val (pe_call (ok_is_word T) (hr.mono (by decide)) (by rfl) T.f_is_word.g T.f_is_word.F.kp T.f_is_word.b .nil pass0 (pa_cons (pv 2) pa_nil)))) (pss_one (ps_ret pe_bl)) pss_nil)))
 (pss_cons (ps_if (pt_cmpR (op_neD hr.units) (pe_call (ok_joined_words T) (hr.mono (by decide)) (by rfl) T.f_joined_words.g T.f_joined_words.F.kp T.f_joined_words.b .nil pass0 (pa_cons (pv 1) pa_nil)) (pv 0) (nomark _)) (pss_one (ps_ret pe_bl)) pss_nil)
 (pss_cons (ps_for PassesOwn.never rfl (pi_range1 (by rfl) T.n_range (pa_cons (pe_callB call_len_seq (by rfl) T.n_len (by decide +kernel) (pa_cons (pv 1) pa_nil)) pa_nil)) (pg_name (i := 3) sc.nd rfl (by first | exact .inl rfl | exact .inr rfl))
 (pss_cons (ps_if (pt_not (pt_val (pe_call (ok_is_head T) (hr.mono (by decide)) (by rfl) T.f_is_head.g T.f_is_head.F.kp T.f_is_head.b .nil pass0 (pa_cons (pe_ix ix_list (pv 1) (pv 3) (fun _ _ => rfl)) pa_nil)))) (pss_one (ps_ret pe_bl)) pss_nil)
 (pss_one (ps_if (PW.pt (pw_and (pt_cmpR op_gt (pv 3) pe_int (nomark _)) (pw_and1 (pt_cmpR (op_ltD K hr.units) (pe_ix ix_list (pv 1) (pe_op op_sub (pv 3) pe_int) (fun _ _ => rfl)) (pe_ix ix_list (pv 1) (pv 3) (fun _ _ => rfl)) (nomark _))))) (pss_one (ps_ret pe_bl)) pss_nil))))
 (pss_one (ps_ret pe_bl)))))), of_body (fun x => ?_) (fun _ => Nat.le_of_ble_eq_true rfl) h⟩)
  exact EvR.weakL (er_ifS (er_if (et_not (et_val (EvE.res (r' := if noFrz (rp x.2) = true then some (isTy "list" (rp x.2)) else none) (ev_isi (n := "list") (ev_var (i := 1) (m := .old) (x := x.2) rfl)) (bsP rfl))))
 (er_cut (er_ret ev_bl))
 (er_nx (er_seqF (T := Unit) (L := fun _ => []) (E := fun (s5 : Unit) => [.dat .old (rp x.1), .dat .old (rp x.2), .un, .un]) (ef_for (E := fun (s5 : Unit) => [.dat .old (rp x.1), .dat .old (rp x.2), .un, .un]) (s0 := ()) (Eb := fun (s2 : Unit) (item_3 : Dt) => [.dat .old (rp x.1), .dat .old (rp x.2), .dat .old (rp item_3), .un]) (vs := [2]) (ei_list (EvE.res (r' := (un : Dt → Option (List Dt)) x.2) (ev_unD (ev_var (i := 1) (m := .old) (x := x.2) rfl)) (bsP rfl))) (.cons .id (.cons .id (.cons .id (.cons .id .nil)))) (fun s2 item_3 => eg_name) (fun s2 item_3 =>
 (ef_if (et_not (et_val (EvE.res (r' := f_is_word item_3) (ev_call1 (ev_var (i := 2) (m := .old) (x := item_3) rfl)) (bsP rfl))))
 (EvR.FP (er_ret ev_bl))
 (ef_end (s := ()) (.cons .id (.cons .id (.cons .un (.cons .id .nil)))))))) (fun s7 =>
 (er_ifS (er_if (et_test (EvE.res (r' := (f_joined_words x.2).bind fun v10 => (eqD (rp v10) (rp x.1)).map fun b => !b) (ev_neL (EvE.B (EvE.res (r' := f_joined_words x.2) (ev_call1 (ev_var (i := 1) (m := .old) (x := x.2) rfl)) (bsP rfl))) (EvB.sc (m1 := .new) (EvE.B (ev_var (i := 0) (m := .old) (x := x.1) rfl)))) (bcP fun _ => (bsP rfl))))
 (er_cut (er_ret ev_bl))
 (er_nx (er_seqF (T := Unit) (L := fun _ => []) (E := fun (s41 : Unit) => [.dat .old (rp x.1), .dat .old (rp x.2), .un, .un]) (ef_for (E := fun (s41 : Unit) => [.dat .old (rp x.1), .dat .old (rp x.2), .un, .un]) (s0 := ()) (Eb := fun (s15 : Unit) (at_16 : Int) => [.dat .old (rp x.1), .dat .old (rp x.2), .un, .dat .new (rp at_16)]) (vs := [3]) (EvI.res (r' := (((un : Dt → Option (List Dt)) x.2).bind fun v12 => some (v12.length : Int)).bind fun v14 => rangeP 0 v14) (ei_range1 (EvE.res (r' := ((un : Dt → Option (List Dt)) x.2).bind fun v12 => some (v12.length : Int)) (ev_len (EvE.B (EvE.res (r' := (un : Dt → Option (List Dt)) x.2) (ev_unD (ev_var (i := 1) (m := .old) (x := x.2) rfl)) (bsP rfl)))) (bcP fun _ => rfl))) (bcP fun _ => rfl)) (.cons .id (.cons .id (.cons .id (.cons .id .nil)))) (fun s15 at_16 => (eg_nameS (m1 := .new))) (fun s15 at_16 =>
 (ef_ifS (ef_if (et_not (et_val (EvE.res (r' := ((((un : Dt → Option (List Dt)) x.2).bind fun v19 => atI v19 at_16).bind fun v20 => (un : Dt → Option (List Int)) v20).bind fun v21 => f_is_head v21) (ev_call1 (EvE.res (r' := (((un : Dt → Option (List Dt)) x.2).bind fun v19 => atI v19 at_16).bind fun v20 => (un : Dt → Option (List Int)) v20) (ev_unD (EvE.res (r' := ((un : Dt → Option (List Dt)) x.2).bind fun v19 => atI v19 at_16) (ev_ix (EvE.B (EvE.res (r' := (un : Dt → Option (List Dt)) x.2) (ev_unD (ev_var (i := 1) (m := .old) (x := x.2) rfl)) (bsP rfl))) (ev_var (i := 3) (m := .new) (x := at_16) rfl)) (bcP fun _ => (bsP rfl)))) (bcP fun _ => rfl))) (bcP fun _ => rfl))))
 (ef_cutRP (er_ret ev_bl))
 (ef_nx (ef_if (EvT.res (r' := if (decide ((0 : Int) < at_16)) = true then ((((un : Dt → Option (List Dt)) x.2).bind fun v28 => atI v28 (at_16 - (1 : Int))).bind fun v32 => (un : Dt → Option (List Int)) v32).bind fun v36 => ((((un : Dt → Option (List Dt)) x.2).bind fun v31 => atI v31 at_16).bind fun v33 => (un : Dt → Option (List Int)) v33).bind fun v37 => some (ltG v36 v37) else some false) (et_and (et_test (EvE.res (r' := some (decide ((0 : Int) < at_16))) (ev_cmpI (ev_var (i := 3) (m := .new) (x := at_16) rfl) ev_int) (bsP (bsP rfl)))) (et_test (EvE.res (r' := ((((un : Dt → Option (List Dt)) x.2).bind fun v28 => atI v28 (at_16 - (1 : Int))).bind fun v32 => (un : Dt → Option (List Int)) v32).bind fun v36 => ((((un : Dt → Option (List Dt)) x.2).bind fun v31 => atI v31 at_16).bind fun v33 => (un : Dt → Option (List Int)) v33).bind fun v37 => some (ltG v36 v37)) (ev_ltL (EvB.sc (m1 := .new) (EvE.B (EvE.res (r' := (((un : Dt → Option (List Dt)) x.2).bind fun v28 => atI v28 (at_16 - (1 : Int))).bind fun v32 => (un : Dt → Option (List Int)) v32) (ev_unD (EvE.res (r' := ((un : Dt → Option (List Dt)) x.2).bind fun v28 => atI v28 (at_16 - (1 : Int))) (ev_ix (EvE.B (EvE.res (r' := (un : Dt → Option (List Dt)) x.2) (ev_unD (ev_var (i := 1) (m := .old) (x := x.2) rfl)) (bsP rfl))) (EvE.res (r' := some (at_16 - (1 : Int))) (ev_arith (ev_var (i := 3) (m := .new) (x := at_16) rfl) ev_int) (bsP (bsP rfl)))) (bcP fun _ => (bsP rfl)))) (bcP fun _ => rfl)))) (EvB.sc (m1 := .new) (EvE.B (EvE.res (r' := (((un : Dt → Option (List Dt)) x.2).bind fun v31 => atI v31 at_16).bind fun v33 => (un : Dt → Option (List Int)) v33) (ev_unD (EvE.res (r' := ((un : Dt → Option (List Dt)) x.2).bind fun v31 => atI v31 at_16) (ev_ix (EvE.B (EvE.res (r' := (un : Dt → Option (List Dt)) x.2) (ev_unD (ev_var (i := 1) (m := .old) (x := x.2) rfl)) (bsP rfl))) (ev_var (i := 3) (m := .new) (x := at_16) rfl)) (bcP fun _ => (bsP rfl)))) (bcP fun _ => rfl))))) (bcP fun _ => (bcP fun _ => rfl))))) (bsP rfl))
 (EvR.FP (er_ret ev_bl))
 (ef_end (s := ()) (.cons .id (.cons .id (.cons .id (.cons .un .nil))))))))))) (fun s43 =>
 (er_ret ev_bl))))))))))) (.cons .id (.cons .id (.cons .id (.cons .id .nil))))
theorem ok_law_judged (T : Tx K mg) : FnOkG P w K mg base 5 T.f_law_judged.a T.f_law_judged.d ["word", "papers"] (sp2 K f_law_judged .new) := by
  have sc : FnScope ["word", "papers", "paper", "before", "told"] ["word", "papers"] (defScope st_law_judged) := ⟨rfl, rfl, rfl, by decide +kernel, rfl, by decide +kernel, by decide +kernel⟩
  refine L2.DL.okG T.f_law_judged.F sc (fun vs H Q E h => spA_len h fun _ => rfl) (fun cdv A outer s H vs Q E hG hr h => ⟨_, (pss_cons (ps_for PassesOwn.never rfl (pi_list (pv 1)) (pg_name (i := 2) sc.nd rfl (by first | exact .inl rfl | exact .inr rfl))
 (pss_cons (ps_set (i := 3) sc.nd rfl (by first | exact .inl rfl | exact .inr rfl) (pe_callB (call_reprG hG hr.units) (by rfl) T.n_repr (by decide +kernel) (pa_cons (pe_lst (pa_cons (pv 0) (pa_cons (pv 2) pa_nil))) pa_nil)))
 (pss_cons (ps_set (i := 4) sc.nd rfl (by first | exact .inl rfl | exact .inr rfl) (pe_call (ok_shows_heads T) (hr.mono (by decide)) (by rfl) T.f_shows_heads.g T.f_shows_heads.F.kp T.f_shows_heads.b .nil pass0 (pa_cons (pv 0) (pa_cons (pv 2) pa_nil))))
 (pss_one (ps_if (PW.pt (pw_or (pt_not (pt_val (pe_callB call_isi (by rfl) T.n_isinstance (by decide +kernel) (pa_cons (pv 4) (pa_cons (pe_bltn (v := .ty "bool") (by rfl) T.n_bool (by decide +kernel) rfl) pa_nil))))) (pw_or (pt_cmpR op_ne (pv 4) (pe_call (ok_law_shows T) (hr.mono (by decide)) (by rfl) T.f_law_shows.g T.f_law_shows.F.kp T.f_law_shows.b .nil pass0 (pa_cons (pv 0) (pa_cons (pv 2) pa_nil))) (nomark _)) (pw_or1 (pt_cmpR op_ne (pe_callB (call_reprG hG hr.units) (by rfl) T.n_repr (by decide +kernel) (pa_cons (pe_lst (pa_cons (pv 0) (pa_cons (pv 2) pa_nil))) pa_nil)) (pv 3) (nomark _)))))) (pss_one (ps_ret pe_bl)) pss_nil)))))
 (pss_one (ps_ret pe_bl))), of_body (fun x => ?_) (fun _ => Nat.le_of_ble_eq_true rfl) h⟩)
  exact EvR.weakL (er_seqF (T := Unit) (L := fun _ => []) (E := fun (s29 : Unit) => [.dat .old (rp x.1), .dat .old (rp x.2), .un, .un, .un]) (ef_forP (E := fun (s29 : Unit) => [.dat .old (rp x.1), .dat .old (rp x.2), .un, .un, .un]) (s0 := ()) (Eb := fun (s1 : Unit) (paper_2 : Dt) => [.dat .old (rp x.1), .dat .old (rp x.2), .dat .old (rp paper_2), .un, .un]) (vs := [2]) (ei_list (ev_var (i := 1) (m := .old) (x := x.2) rfl)) (.cons .id (.cons .id (.cons .id (.cons .id (.cons .id .nil))))) (fun s1 paper_2 => eg_name) (fun s1 paper_2 =>
 (ef_seq (E := fun (before_8 : Str) => [.dat .old (rp x.1), .dat .old (rp x.2), .dat .old (rp paper_2), .dat .new (rp before_8), .un]) (en_set (EvE.res (r' := reprD (rp ([(rp x.1), paper_2] : (List Dt)))) (ev_reprB (EvL.B (ev_list (m := .old) (EvXs.res (r' := some ([(rp x.1), paper_2] : (List Dt))) (exs_cons (EvE.res (r' := some (rp x.1)) (EvE.cast (fun z : (List Int) => rp z) (ev_var (i := 0) (m := .old) (x := x.1) rfl)) rfl) (EvXs.res (r' := some ([paper_2] : (List Dt))) (exs_cons (ev_var (i := 2) (m := .old) (x := paper_2) rfl) exs_nil) (bsP (bsP rfl)))) (bsP (bsP rfl)))))) (bsP rfl))) (fun before_8 =>
 (ef_seq (E := fun (told_11 : Bool) => [.dat .old (rp x.1), .dat .old (rp x.2), .dat .old (rp paper_2), .dat .new (rp before_8), .dat .new (rp told_11)]) (en_set (EvE.res (r' := f_shows_heads x.1 paper_2) (ev_call2 (ev_var (i := 0) (m := .old) (x := x.1) rfl) (ev_var (i := 2) (m := .old) (x := paper_2) rfl)) (bsP (bsP rfl)))) (fun told_11 =>
 (ef_if (EvT.res (r' := if (!true) = true then some true else ((f_law_shows x.1 paper_2).bind fun v17 => some (decide (told_11 ≠ v17))).bind fun b26 => if b26 = true then some true else (reprD (rp ([(rp x.1), paper_2] : (List Dt)))).bind fun v25 => some (decide (v25 ≠ before_8))) (et_or (EvT.res (r' := some (!true)) (et_not (et_val (EvE.res (r' := some true) (ev_isi (n := "bool") (ev_var (i := 4) (m := .new) (x := told_11) rfl)) (bsP rfl)))) rfl) (et_or (et_test (EvE.res (r' := (f_law_shows x.1 paper_2).bind fun v17 => some (decide (told_11 ≠ v17))) (ev_neB (ev_var (i := 4) (m := .new) (x := told_11) rfl) (EvE.res (r' := f_law_shows x.1 paper_2) (ev_call2 (ev_var (i := 0) (m := .old) (x := x.1) rfl) (ev_var (i := 2) (m := .old) (x := paper_2) rfl)) (bsP (bsP rfl)))) (bsP (bcP fun _ => rfl)))) (et_test (EvE.res (r' := (reprD (rp ([(rp x.1), paper_2] : (List Dt)))).bind fun v25 => some (decide (v25 ≠ before_8))) (ev_neS (EvE.res (r' := reprD (rp ([(rp x.1), paper_2] : (List Dt)))) (ev_reprB (EvL.B (ev_list (m := .old) (EvXs.res (r' := some ([(rp x.1), paper_2] : (List Dt))) (exs_cons (EvE.res (r' := some (rp x.1)) (EvE.cast (fun z : (List Int) => rp z) (ev_var (i := 0) (m := .old) (x := x.1) rfl)) rfl) (EvXs.res (r' := some ([paper_2] : (List Dt))) (exs_cons (ev_var (i := 2) (m := .old) (x := paper_2) rfl) exs_nil) (bsP (bsP rfl)))) (bsP (bsP rfl)))))) (bsP rfl)) (ev_var (i := 3) (m := .new) (x := before_8) rfl)) (bcP fun _ => (bsP rfl)))))) (bsP rfl))
 (EvR.FP (er_ret ev_bl))
 (ef_end (s := ()) (.cons .id (.cons .id (.cons .un (.cons .un (.cons .un .nil))))))))))))) (fun s31 =>
 (er_ret ev_bl))) (.cons .id (.cons .id (.cons .id (.cons .id (.cons .id .nil)))))
theorem ok_law_cell (T : Tx K mg) : FnOk P w K mg base CX0 1 T.f_law_cell.a T.f_law_cell.d ["draws", "k"] (sp2 K f_law_cell .new) := by
  have sc : FnScope ["draws", "k"] ["draws", "k"] (defScope st_law_cell) := ⟨rfl, rfl, rfl, by decide +kernel, rfl, by decide +kernel, by decide +kernel⟩
  refine T.f_law_cell.F.ok sc (fun vs H Q E h => spA_len h fun _ => rfl) (fun cdv A outer s H vs Q E hr h => ⟨_, (pss_cons (ps_if (pt_cmpR op_lt (pv 1) (pe_callB call_len_seq (by rfl) T.n_len (by decide +kernel) (pa_cons (pv 0) pa_nil)) (nomark _)) (pss_one (ps_ret (pe_ix ix_list (pv 0) (pv 1) (fun _ _ => rfl)))) pss_nil)
 (pss_one (ps_ret (pe_op op_mod (pe_op op_add (pe_op op_add (pe_op op_mul (pe_ix ix_list (pv 0) (pe_op op_mod (pv 1) (pe_callB call_len_seq (by rfl) T.n_len (by decide +kernel) (pa_cons (pv 0) pa_nil))) (fun _ _ => rfl)) pe_int) (pe_op op_mul (pe_ix ix_list (pv 0) (pe_op op_mod (pe_op op_mul pe_int (pv 1)) (pe_callB call_len_seq (by rfl) T.n_len (by decide +kernel) (pa_cons (pv 0) pa_nil))) (fun _ _ => rfl)) pe_int)) (pe_op op_mul pe_int (pv 1))) pe_int)))), of_body (fun x => ?_) (fun _ => Nat.le_of_ble_eq_true rfl) h⟩)
  exact EvR.weakL (er_ifS (er_ifP (et_test (EvE.res (r' := some (decide (x.2 < (x.1.length : Int)))) (ev_cmpI (ev_var (i := 1) (m := .new) (x := x.2) rfl) (EvE.res (r' := some (x.1.length : Int)) (ev_len (EvB.sc (m1 := .new) (EvE.B (ev_var (i := 0) (m := .old) (x := x.1) rfl)))) (bsP rfl))) (bsP (bsP rfl))))
 (er_cut (er_ret (EvE.res (r' := atI x.1 x.2) (ev_ix (EvB.sc (m1 := .new) (EvE.B (ev_var (i := 0) (m := .old) (x := x.1) rfl))) (ev_var (i := 1) (m := .new) (x := x.2) rfl)) (bsP (bsP rfl)))))
 (er_nx (er_ret (EvE.res (r' := (((((modP x.2 (x.1.length : Int)).bind fun v11 => atI x.1 v11).bind fun v13 => some (v13 * 31)).bind fun v25 => (((modP (7 * x.2) (x.1.length : Int)).bind fun v20 => atI x.1 v20).bind fun v22 => some (v22 * 17)).bind fun v26 => some (v25 + v26)).bind fun v30 => some (v30 + (101 * x.2))).bind fun v32 => some (v32 % 1000003)) (ev_modC (EvE.res (r' := ((((modP x.2 (x.1.length : Int)).bind fun v11 => atI x.1 v11).bind fun v13 => some (v13 * 31)).bind fun v25 => (((modP (7 * x.2) (x.1.length : Int)).bind fun v20 => atI x.1 v20).bind fun v22 => some (v22 * 17)).bind fun v26 => some (v25 + v26)).bind fun v30 => some (v30 + (101 * x.2))) (ev_arith (EvE.res (r' := (((modP x.2 (x.1.length : Int)).bind fun v11 => atI x.1 v11).bind fun v13 => some (v13 * 31)).bind fun v25 => (((modP (7 * x.2) (x.1.length : Int)).bind fun v20 => atI x.1 v20).bind fun v22 => some (v22 * 17)).bind fun v26 => some (v25 + v26)) (ev_arith (EvE.res (r' := ((modP x.2 (x.1.length : Int)).bind fun v11 => atI x.1 v11).bind fun v13 => some (v13 * 31)) (ev_mulC (EvE.res (r' := (modP x.2 (x.1.length : Int)).bind fun v11 => atI x.1 v11) (ev_ix (EvB.sc (m1 := .new) (EvE.B (ev_var (i := 0) (m := .old) (x := x.1) rfl))) (EvE.res (r' := modP x.2 (x.1.length : Int)) (ev_mod (ev_var (i := 1) (m := .new) (x := x.2) rfl) (EvE.res (r' := some (x.1.length : Int)) (ev_len (EvB.sc (m1 := .new) (EvE.B (ev_var (i := 0) (m := .old) (x := x.1) rfl)))) (bsP rfl))) (bsP (bsP rfl)))) (bsP (bcP fun _ => rfl)))) (bcP fun _ => rfl)) (EvE.res (r' := ((modP (7 * x.2) (x.1.length : Int)).bind fun v20 => atI x.1 v20).bind fun v22 => some (v22 * 17)) (ev_mulC (EvE.res (r' := (modP (7 * x.2) (x.1.length : Int)).bind fun v20 => atI x.1 v20) (ev_ix (EvB.sc (m1 := .new) (EvE.B (ev_var (i := 0) (m := .old) (x := x.1) rfl))) (EvE.res (r' := modP (7 * x.2) (x.1.length : Int)) (ev_mod (EvE.res (r' := some (7 * x.2)) (ev_mulCl (ev_var (i := 1) (m := .new) (x := x.2) rfl)) (bsP rfl)) (EvE.res (r' := some (x.1.length : Int)) (ev_len (EvB.sc (m1 := .new) (EvE.B (ev_var (i := 0) (m := .old) (x := x.1) rfl)))) (bsP rfl))) (bsP (bsP rfl)))) (bsP (bcP fun _ => rfl)))) (bcP fun _ => rfl))) (bcP fun _ => (bcP fun _ => rfl))) (EvE.res (r' := some (101 * x.2)) (ev_mulCl (ev_var (i := 1) (m := .new) (x := x.2) rfl)) (bsP rfl))) (bcP fun _ => (bsP rfl)))) (bcP fun _ => rfl)))))) (.cons .id (.cons .sc .nil))
theorem ok_law_word (T : Tx K mg) : FnOk P w K mg base CX0 2 T.f_law_word.a T.f_law_word.d ["draws", "at", "length", "letters"] (sp4 K f_law_word .new) := by
  have sc : FnScope ["draws", "at", "length", "letters", "k"] ["draws", "at", "length", "letters"] (defScope st_law_word) := ⟨rfl, rfl, rfl, by decide +kernel, rfl, by decide +kernel, by decide +kernel⟩
  refine T.f_law_word.F.ok sc (fun vs H Q E h => spA_len h fun _ => rfl) (fun cdv A outer s H vs Q E hr h => ⟨_, (pss_one (ps_ret (pe_lc (own := [("k", 4)]) rfl sc.nd (pi_range1 (by rfl) T.n_range (pa_cons (pv 2) pa_nil)) (blkOk_by (N := ["draws", "at", "length", "letters", "k"]) (sc := defScope st_law_word) (by decide +kernel)) (fun _ _ _ _ _ => (pg_name (i := 4) sc.nd rfl (by first | exact .inl rfl | exact .inr rfl))) (fun _ _ _ _ _ => pts_nil) (fun _ _ _ _ _ => (pe_op op_mod (pe_op op_fdivW (pe_call (ok_law_cell T) (hr.mono (by decide)) (by rfl) T.f_law_cell.g T.f_law_cell.F.kp T.f_law_cell.b .nil pass0 (pa_cons (pv 0) (pa_cons (pe_op op_add (pv 1) (pv 4)) pa_nil))) pe_int) (pv 3)))))), of_body (fun x => ?_) (fun _ => Nat.le_of_ble_eq_true rfl) h⟩)
  exact EvR.weakL (er_ret (EvL.E (EvL.res (r' := (rangeP 0 x.2.2.1).bind fun v13 => (mapO (fun x2 => ((f_law_cell x.1 (x.2.1 + x2)).bind fun v8 => some (v8 / 3)).bind fun v11 => modP v11 x.2.2.2) v13).bind lim) (ev_lcO (vs := [4]) (Eb := fun (x2 : Int) => [.dat .old (rp x.1), .dat .new (rp x.2.1), .dat .new (rp x.2.2.1), .dat .new (rp x.2.2.2), .dat .new (rp x2)]) (EvI.res (r' := rangeP 0 x.2.2.1) (ei_range1 (ev_var (i := 2) (m := .new) (x := x.2.2.1) rfl)) (bsP rfl)) (fun x2 => (eg_nameS (m1 := .new))) (fun x2 => (EvE.res (r' := ((f_law_cell x.1 (x.2.1 + x2)).bind fun v8 => some (v8 / 3)).bind fun v11 => modP v11 x.2.2.2) (ev_mod (EvE.res (r' := (f_law_cell x.1 (x.2.1 + x2)).bind fun v8 => some (v8 / 3)) (ev_divC (EvE.res (r' := f_law_cell x.1 (x.2.1 + x2)) (ev_call2 (ev_var (i := 0) (m := .old) (x := x.1) rfl) (EvE.res (r' := some (x.2.1 + x2)) (ev_arith (ev_var (i := 1) (m := .new) (x := x.2.1) rfl) (ev_var (i := 4) (m := .new) (x := x2) rfl)) (bsP (bsP rfl)))) (bsP (bsP rfl)))) (bcP fun _ => rfl)) (ev_var (i := 3) (m := .new) (x := x.2.2.2) rfl)) (bcP fun _ => (bsP rfl))))) (bcP fun _ => rfl)))) (.cons .id (.cons .sc (.cons .sc (.cons .sc (.cons .id .nil)))))
theorem ok_law_longer (T : Tx K mg) : FnOk P w K mg base CX0 3 T.f_law_longer.a T.f_law_longer.d ["draws"] (sp1 K f_law_longer .new) := by
  have sc : FnScope ["draws", "words", "k", "word"] ["draws"] (defScope st_law_longer) := ⟨rfl, rfl, rfl, by decide +kernel, rfl, by decide +kernel, by decide +kernel⟩
  refine T.f_law_longer.F.ok sc (fun vs H Q E h => spA_len h fun _ => rfl) (fun cdv A outer s H vs Q E hr h => ⟨_, (pss_cons (ps_set (i := 1) sc.nd rfl (by first | exact .inl rfl | exact .inr rfl) (pe_lst pa_nil))
 (pss_cons (ps_for PassesOwn.never rfl (pi_range1 (by rfl) T.n_range (pa_cons (pe_op op_add pe_int (pe_op op_mod (pe_ix ix_list (pv 0) pe_int (fun _ _ => rfl)) pe_int)) pa_nil)) (pg_name (i := 2) sc.nd rfl (by first | exact .inl rfl | exact .inr rfl))
 (pss_cons (ps_set (i := 3) sc.nd rfl (by first | exact .inl rfl | exact .inr rfl) (pe_call (ok_law_word T) (hr.mono (by decide)) (by rfl) T.f_law_word.g T.f_law_word.F.kp T.f_law_word.b .nil pass0 (pa_cons (pv 0) (pa_cons (pe_op op_add pe_int (pe_op op_mul pe_int (pv 2))) (pa_cons (pe_op op_add pe_int (pe_op op_mod (pe_call (ok_law_cell T) (hr.mono (by decide)) (by rfl) T.f_law_cell.g T.f_law_cell.F.kp T.f_law_cell.b .nil pass0 (pa_cons (pv 0) (pa_cons (pe_op op_add pe_int (pe_op op_mul pe_int (pv 2))) pa_nil))) pe_int)) (pa_cons (pe_op op_add pe_int (pe_op op_mod (pe_ix ix_list (pv 0) pe_int (fun _ _ => rfl)) pe_int)) pa_nil))))))
 (pss_one (ps_if (pt_val (pe_call (ok_law_is_head T) (hr.mono (by decide)) (by rfl) T.f_law_is_head.g T.f_law_is_head.F.kp T.f_law_is_head.b .nil pass0 (pa_cons (pv 3) pa_nil))) (pss_one (ps_expr (pe_bm PySem.F.plainAttrs_list PySem.F.slot_list_append PySem.F.type_list_append mt_append (pv 1) (pa_cons (pv 3) pa_nil)))) pss_nil))))
 (pss_one (ps_ret (pe_revL (pe_callB (cr_sortedB (β := V × (List Int)) (enc := encG) (val := fun b => b.1) K hr.units) (by rfl) T.n_sorted (by decide +kernel) (pa_cons (pv 1) pa_nil))))))), of_body (fun x => ?_) (fun _ => Nat.le_of_ble_eq_true rfl) h⟩)
  exact EvR.weakL (er_seq (E := fun (words_1 : (List (List Int))) => [.dat .old (rp x), .own .new (rps words_1), .un, .un]) (en_own (ev_list (m := .new) exs_nil)) (fun words_1 =>
 (er_seq (E := fun (s43 : (List (List Int))) => [.dat .old (rp x), .own .new (rps s43), .un, .un]) (en_for (E := fun (s43 : (List (List Int))) => [.dat .old (rp x), .own .new (rps s43), .un, .un]) (s0 := words_1) (Eb := fun (s11 : (List (List Int))) (k_12 : Int) => [.dat .old (rp x), .own .new (rps s11), .dat .new (rp k_12), .un]) (vs := [2]) (EvI.res (r' := (((atI x (3 : Int)).bind fun v5 => some (v5 % 30)).bind fun v8 => some ((4 : Int) + v8)).bind fun v10 => rangeP 0 v10) (ei_range1 (EvE.res (r' := ((atI x (3 : Int)).bind fun v5 => some (v5 % 30)).bind fun v8 => some ((4 : Int) + v8)) (ev_arith ev_int (EvE.res (r' := (atI x (3 : Int)).bind fun v5 => some (v5 % 30)) (ev_modC (EvE.res (r' := atI x (3 : Int)) (ev_ix (EvB.sc (m1 := .new) (EvE.B (ev_var (i := 0) (m := .old) (x := x) rfl))) ev_int) (bsP (bsP rfl)))) (bcP fun _ => rfl))) (bsP (bcP fun _ => rfl)))) (bcP fun _ => rfl)) (.cons .id (.cons .id (.cons .id (.cons .id .nil)))) (fun s11 k_12 => (eg_nameS (m1 := .new))) (fun s11 k_12 =>
 (en_seq (E := fun (word_39 : (List Int)) => [.dat .old (rp x), .own .new (rps s11), .dat .new (rp k_12), .dat .new (rp word_39)]) (en_set (EvE.res (r' := (((f_law_cell x ((19 : Int) + (3 * k_12))).bind fun v22 => some (v22 % 6)).bind fun v25 => some ((1 : Int) + v25)).bind fun v37 => (((atI x (4 : Int)).bind fun v29 => some (v29 % 2)).bind fun v32 => some ((2 : Int) + v32)).bind fun v38 => f_law_word x ((20 : Int) + (3 * k_12)) v37 v38) (ev_call4 (ev_var (i := 0) (m := .old) (x := x) rfl) (EvE.res (r' := some ((20 : Int) + (3 * k_12))) (ev_arith ev_int (EvE.res (r' := some (3 * k_12)) (ev_mulCl (ev_var (i := 2) (m := .new) (x := k_12) rfl)) (bsP rfl))) (bsP (bsP rfl))) (EvE.res (r' := ((f_law_cell x ((19 : Int) + (3 * k_12))).bind fun v22 => some (v22 % 6)).bind fun v25 => some ((1 : Int) + v25)) (ev_arith ev_int (EvE.res (r' := (f_law_cell x ((19 : Int) + (3 * k_12))).bind fun v22 => some (v22 % 6)) (ev_modC (EvE.res (r' := f_law_cell x ((19 : Int) + (3 * k_12))) (ev_call2 (ev_var (i := 0) (m := .old) (x := x) rfl) (EvE.res (r' := some ((19 : Int) + (3 * k_12))) (ev_arith ev_int (EvE.res (r' := some (3 * k_12)) (ev_mulCl (ev_var (i := 2) (m := .new) (x := k_12) rfl)) (bsP rfl))) (bsP (bsP rfl)))) (bsP (bsP rfl)))) (bcP fun _ => rfl))) (bsP (bcP fun _ => rfl))) (EvE.res (r' := ((atI x (4 : Int)).bind fun v29 => some (v29 % 2)).bind fun v32 => some ((2 : Int) + v32)) (ev_arith ev_int (EvE.res (r' := (atI x (4 : Int)).bind fun v29 => some (v29 % 2)) (ev_modC (EvE.res (r' := atI x (4 : Int)) (ev_ix (EvB.sc (m1 := .new) (EvE.B (ev_var (i := 0) (m := .old) (x := x) rfl))) ev_int) (bsP (bsP rfl)))) (bcP fun _ => rfl))) (bsP (bcP fun _ => rfl)))) (bsP (bsP (bcP fun _ => (bcP fun _ => rfl)))))) (fun word_39 =>
 (en_if (et_val (EvE.res (r' := f_law_is_head word_39) (ev_call1 (ev_var (i := 3) (m := .new) (x := word_39) rfl)) (bsP rfl)))
 (en_last (en_seq (E := fun (words_40 : (List (List Int))) => [.dat .old (rp x), .own .new (rps words_40), .dat .new (rp k_12), .dat .new (rp word_39)]) (en_append (i := 1) (m := .new) (xs := s11) (ev_var (i := 3) (m := .new) (x := word_39) rfl) rfl) (fun words_40 =>
 (en_end (s := words_40) (.cons .id (.cons .id (.cons .un (.cons .un .nil))))))))
 (en_end (s := s11) (.cons .id (.cons .id (.cons .un (.cons .un .nil)))))))))) (fun s45 =>
 (er_ret (EvL.E (EvL.res (r' := some ((sortG s45).reverse)) (ev_revSl (EvL.B (EvL.res (r' := some (sortG s45)) (ev_sortG (ev_own (i := 1) (m := .new) (xs := s45) rfl) sortableL) (bsP rfl)))) (bsP rfl)))))))) (.cons .id (.cons .id (.cons .id (.cons .id .nil))))
theorem ok_law_with (T : Tx K mg) : FnOk P w K mg base CX0 1 T.f_law_with.a T.f_law_with.d ["line", "at", "item"] (sp3 K f_law_with .old) := by
  have sc : FnScope ["line", "at", "item"] ["line", "at", "item"] (defScope st_law_with) := ⟨rfl, rfl, rfl, by decide +kernel, rfl, by decide +kernel, by decide +kernel⟩
  refine T.f_law_with.F.ok sc (fun vs H Q E h => spA_len h fun _ => rfl) (fun cdv A outer s H vs Q E hr h => ⟨_, (pss_one (ps_ret (pe_op op_cat (pe_op op_cat (pe_slice sl_list (pv 0) po_none (po_some (pv 1))) (pe_lst (pa_cons (pv 2) pa_nil))) (pe_slice sl_list (pv 0) (po_some (pe_op op_add (pv 1) pe_int)) po_none)))), of_body (fun x => ?_) (fun _ => Nat.le_of_ble_eq_true rfl) h⟩)
  exact EvR.weakL (er_ret (EvL.E (EvL.res (r' := (lim ((cut x.1 none (some x.2.1)) ++ ([x.2.2] : (List Dt)))).bind fun v15 => lim (v15 ++ (cut x.1 (some (x.2.1 + (1 : Int))) none))) (ev_cat (EvL.B (EvL.res (r' := lim ((cut x.1 none (some x.2.1)) ++ ([x.2.2] : (List Dt)))) (ev_cat (EvL.B (EvL.res (r' := some (cut x.1 none (some x.2.1))) (ev_sl (EvE.B (ev_var (i := 0) (m := .old) (x := x.1) rfl)) eo_no (eo_atP (ev_var (i := 1) (m := .new) (x := x.2.1) rfl))) (bsP (bsP (bsP rfl))))) (EvL.B (ev_list (m := .old) (EvXs.res (r' := some ([x.2.2] : (List Dt))) (exs_cons (ev_var (i := 2) (m := .old) (x := x.2.2) rfl) exs_nil) (bsP (bsP rfl)))))) (bsP (bsP rfl)))) (EvL.B (EvL.res (r' := some (cut x.1 (some (x.2.1 + (1 : Int))) none)) (ev_sl (EvE.B (ev_var (i := 0) (m := .old) (x := x.1) rfl)) (eo_atP (EvE.res (r' := some (x.2.1 + (1 : Int))) (ev_arith (ev_var (i := 1) (m := .new) (x := x.2.1) rfl) ev_int) (bsP (bsP rfl)))) eo_no) (bsP (bsP (bsP rfl)))))) (bcP fun _ => (bsP rfl))))) (.cons .id (.cons .sc (.cons .id .nil)))
theorem ok_law_papers (T : Tx K mg) : FnOk P w K mg base CX0 2 T.f_law_papers.a T.f_law_papers.d ["word", "heads", "draws"] (sp3 K f_law_papers .old) := by
  have sc : FnScope ["word", "heads", "draws", "papers", "at", "item", "other", "number"] ["word", "heads", "draws"] (defScope st_law_papers) := ⟨rfl, rfl, rfl, by decide +kernel, rfl, by decide +kernel, by decide +kernel⟩
  refine T.f_law_papers.F.ok sc (fun vs H Q E h => spA_len h fun _ => rfl) (fun cdv A outer s H vs Q E hr h => ⟨_, (pss_cons (ps_set (i := 3) sc.nd rfl (by first | exact .inl rfl | exact .inr rfl) (pe_lst (pa_cons (pv 1) (pa_cons (pe_callTy call_tuple_of (by rfl) T.n_tuple (by decide +kernel) (pa_cons (pv 1) pa_nil)) (pa_cons (pe_revL (pv 1)) (pa_cons (pe_slice sl_list (pv 1) (po_some pe_int) po_none) (pa_cons (pe_slice sl_list (pv 1) po_none (po_some (pe_un un_neg pe_int))) (pa_cons (pe_op op_cat (pv 1) (pe_slice sl_list (pv 1) (po_some (pe_un un_neg pe_int)) po_none)) (pa_cons (pe_op op_cat (pv 1) (pe_lst (pa_cons (pe_lst pa_nil) pa_nil))) (pa_cons (pe_op op_cat (pe_lst (pa_cons (pe_lst pa_nil) pa_nil)) (pv 1)) (pa_cons (pe_lst (pa_cons (pv 0) pa_nil)) (pa_cons (pe_lc (own := [("number", 7)]) rfl sc.nd (pi_list (pv 0)) (blkOk_by (N := ["word", "heads", "draws", "papers", "at", "item", "other", "number"]) (sc := defScope st_law_papers) (by decide +kernel)) (fun _ _ _ _ _ => (pg_name (i := 7) sc.nd rfl (by first | exact .inl rfl | exact .inr rfl))) (fun _ _ _ _ _ => pts_nil) (fun _ _ _ _ _ => (pe_lst (pa_cons (pv 7) pa_nil)))) pa_nil))))))))))))
 (pss_cons (ps_set (i := 3) sc.nd rfl (by first | exact .inl rfl | exact .inr rfl) (pe_op op_cat (pv 3) (pe_lst (pa_cons pe_non (pa_cons pe_bl (pa_cons pe_int (pa_cons pe_str (pa_cons pe_str (pa_cons (pe_tup pa_nil) (pa_cons (pe_lst pa_nil) (pa_cons (pe_lst (pa_cons (pe_lst pa_nil) pa_nil)) (pa_cons (pe_lst (pa_cons pe_non pa_nil)) (pa_cons (pe_lst (pa_cons (pe_lst (pa_cons pe_non pa_nil)) pa_nil)) (pa_cons (pv 0) (pa_cons (pe_lst (pa_cons (pv 0) (pa_cons (pe_lst pa_nil) pa_nil))) (pa_cons (pe_lst (pa_cons (pe_callTy call_tuple_of (by rfl) T.n_tuple (by decide +kernel) (pa_cons (pv 0) pa_nil)) pa_nil)) (pa_cons (pe_lst (pa_cons (pv 1) pa_nil)) pa_nil)))))))))))))))))
 (pss_cons (ps_if (pt_cmpR op_gt (pe_callB call_len_seq (by rfl) T.n_len (by decide +kernel) (pa_cons (pv 1) pa_nil)) pe_int (nomark _)) (pss_cons (ps_set (i := 4) sc.nd rfl (by first | exact .inl rfl | exact .inr rfl) (pe_op op_mod (pe_ix ix_list (pv 2) pe_int (fun _ _ => rfl)) (pe_callB call_len_seq (by rfl) T.n_len (by decide +kernel) (pa_cons (pv 1) pa_nil))))
 (pss_cons (ps_set (i := 5) sc.nd rfl (by first | exact .inl rfl | exact .inr rfl) (pe_ix ix_list (pv 1) (pv 4) (fun _ _ => rfl)))
 (pss_cons (ps_for PassesOwn.never rfl (pi_list (pe_lst (pa_cons (pe_callTy call_tuple_of (by rfl) T.n_tuple (by decide +kernel) (pa_cons (pv 5) pa_nil)) (pa_cons (pe_revL (pv 5)) (pa_cons (pe_op op_cat (pe_slice sl_list (pv 5) (po_some pe_int) po_none) (pe_slice sl_list (pv 5) po_none (po_some pe_int))) (pa_cons (pe_op op_cat (pv 5) (pv 5)) (pa_cons (pe_slice sl_list (pv 5) po_none (po_some (pe_un un_neg pe_int))) (pa_cons (pe_lst (pa_cons pe_bl pa_nil)) (pa_cons (pe_op op_cat (pe_lst (pa_cons pe_bl pa_nil)) (pe_slice sl_list (pv 5) (po_some pe_int) po_none)) (pa_cons (pe_op op_cat (pe_lst (pa_cons (pe_un un_neg pe_int) pa_nil)) (pe_slice sl_list (pv 5) (po_some pe_int) po_none)) (pa_cons pe_non (pa_cons (pe_ix ix_list (pv 5) pe_int (fun _ _ => rfl)) (pa_cons pe_str pa_nil))))))))))))) (pg_name (i := 6) sc.nd rfl (by first | exact .inl rfl | exact .inr rfl))
 (pss_one (ps_expr (pe_bm PySem.F.plainAttrs_list PySem.F.slot_list_append PySem.F.type_list_append mt_append (pv 3) (pa_cons (pe_call (ok_law_with T) (hr.mono (by decide)) (by rfl) T.f_law_with.g T.f_law_with.F.kp T.f_law_with.b .nil pass0 (pa_cons (pv 1) (pa_cons (pv 4) (pa_cons (pv 6) pa_nil)))) pa_nil)))))
 (pss_cons (ps_for PassesOwn.never rfl (pi_list (pe_lst (pa_cons (pe_op op_add (pe_ix ix_list (pv 5) pe_int (fun _ _ => rfl)) pe_int) (pa_cons (pe_callTy call_str_int (by rfl) T.n_str (by decide +kernel) (pa_cons (pe_ix ix_list (pv 5) pe_int (fun _ _ => rfl)) pa_nil)) (pa_cons pe_bl (pa_cons pe_non (pa_cons (pe_lst (pa_cons (pe_ix ix_list (pv 5) pe_int (fun _ _ => rfl)) pa_nil)) (pa_cons (pe_tup (pa_cons (pe_ix ix_list (pv 5) pe_int (fun _ _ => rfl)) pa_nil)) (pa_cons (pe_op op_sub (pe_un un_neg (pe_ix ix_list (pv 5) pe_int (fun _ _ => rfl))) pe_int) pa_nil))))))))) (pg_name (i := 6) sc.nd rfl (by first | exact .inl rfl | exact .inr rfl))
 (pss_one (ps_expr (pe_bm PySem.F.plainAttrs_list PySem.F.slot_list_append PySem.F.type_list_append mt_append (pv 3) (pa_cons (pe_call (ok_law_with T) (hr.mono (by decide)) (by rfl) T.f_law_with.g T.f_law_with.F.kp T.f_law_with.b .nil pass0 (pa_cons (pv 1) (pa_cons (pv 4) (pa_cons (pe_call (ok_law_with T) (hr.mono (by decide)) (by rfl) T.f_law_with.g T.f_law_with.F.kp T.f_law_with.b .nil pass0 (pa_cons (pv 5) (pa_cons pe_int (pa_cons (pv 6) pa_nil)))) pa_nil)))) pa_nil)))))
 (pss_cons (ps_expr (pe_bm PySem.F.plainAttrs_list PySem.F.slot_list_append PySem.F.type_list_append mt_append (pv 3) (pa_cons (pe_op op_cat (pe_op op_cat (pe_slice sl_list (pv 1) po_none (po_some (pv 4))) (pe_lst (pa_cons (pe_slice sl_list (pv 5) po_none (po_some pe_int)) (pa_cons (pe_slice sl_list (pv 5) (po_some pe_int) po_none) pa_nil)))) (pe_slice sl_list (pv 1) (po_some (pe_op op_add (pv 4) pe_int)) po_none)) pa_nil)))
 (pss_one (ps_if (pt_cmpR op_gt (pv 4) pe_int (nomark _)) (pss_cons (ps_expr (pe_bm PySem.F.plainAttrs_list PySem.F.slot_list_append PySem.F.type_list_append mt_append (pv 3) (pa_cons (pe_op op_cat (pe_op op_cat (pe_slice sl_list (pv 1) po_none (po_some (pe_op op_sub (pv 4) pe_int))) (pe_lst (pa_cons (pe_op op_cat (pe_ix ix_list (pv 1) (pe_op op_sub (pv 4) pe_int) (fun _ _ => rfl)) (pv 5)) pa_nil))) (pe_slice sl_list (pv 1) (po_some (pe_op op_add (pv 4) pe_int)) po_none)) pa_nil)))
 (pss_one (ps_expr (pe_bm PySem.F.plainAttrs_list PySem.F.slot_list_append PySem.F.type_list_append mt_append (pv 3) (pa_cons (pe_op op_cat (pe_op op_cat (pe_slice sl_list (pv 1) po_none (po_some (pe_op op_sub (pv 4) pe_int))) (pe_lst (pa_cons (pv 5) (pa_cons (pe_ix ix_list (pv 1) (pe_op op_sub (pv 4) pe_int) (fun _ _ => rfl)) pa_nil)))) (pe_slice sl_list (pv 1) (po_some (pe_op op_add (pv 4) pe_int)) po_none)) pa_nil))))) pss_nil))))))) pss_nil)
 (pss_one (ps_ret (pv 3)))))), of_body (fun x => ?_) (fun _ => Nat.le_of_ble_eq_true rfl) h⟩)
  exact EvR.weakL (er_seq (E := fun (papers_47 : (List Dt)) => [.dat .old (rp x.1), .dat .old (rp x.2.1), .dat .old (rp x.2.2), .own .old (rps papers_47), .un, .un, .un, .un]) (en_own (ev_list (m := .old) (EvXs.res (r' := (((((((lim (x.2.1 ++ (cut x.2.1 (some (-(1 : Int))) none))).map rp).bind fun v35 => (((lim (x.2.1 ++ ([([] : (List Int))] : (List (List Int))))).map rp).bind fun v33 => (((lim (([([] : (List Int))] : (List (List Int))) ++ x.2.1)).map rp).bind fun v31 => ((((lim (x.1.map fun x23 => ([x23] : (List Int)))).map rp).bind fun v27 => some (v27 :: ([] : (List Dt)))).bind fun l30 => some ((rp ([x.1] : (List (List Int)))) :: l30)).bind fun l32 => some (v31 :: l32)).bind fun l34 => some (v33 :: l34)).bind fun l36 => some (v35 :: l36)).bind fun l38 => some ((rp (cut x.2.1 none (some (-(1 : Int))))) :: l38)).bind fun l40 => some ((rp (cut x.2.1 (some (1 : Int)) none)) :: l40)).bind fun l42 => some ((rp x.2.1.reverse) :: l42)).bind fun l44 => some ((rp (TupL.mk x.2.1)) :: l44)).bind fun l46 => some ((rp x.2.1) :: l46)) (exs_cons (EvE.res (r' := some (rp x.2.1)) (EvE.cast (fun z : (List (List Int)) => rp z) (ev_var (i := 1) (m := .old) (x := x.2.1) rfl)) rfl) (EvXs.res (r' := ((((((lim (x.2.1 ++ (cut x.2.1 (some (-(1 : Int))) none))).map rp).bind fun v35 => (((lim (x.2.1 ++ ([([] : (List Int))] : (List (List Int))))).map rp).bind fun v33 => (((lim (([([] : (List Int))] : (List (List Int))) ++ x.2.1)).map rp).bind fun v31 => ((((lim (x.1.map fun x23 => ([x23] : (List Int)))).map rp).bind fun v27 => some (v27 :: ([] : (List Dt)))).bind fun l30 => some ((rp ([x.1] : (List (List Int)))) :: l30)).bind fun l32 => some (v31 :: l32)).bind fun l34 => some (v33 :: l34)).bind fun l36 => some (v35 :: l36)).bind fun l38 => some ((rp (cut x.2.1 none (some (-(1 : Int))))) :: l38)).bind fun l40 => some ((rp (cut x.2.1 (some (1 : Int)) none)) :: l40)).bind fun l42 => some ((rp x.2.1.reverse) :: l42)).bind fun l44 => some ((rp (TupL.mk x.2.1)) :: l44)) (exs_cons (EvE.res (r' := some (rp (TupL.mk x.2.1))) (EvE.cast (fun z : (TupL (List Int)) => rp z) (EvE.res (r' := some (TupL.mk x.2.1)) (ev_tupOf (EvE.B (ev_var (i := 1) (m := .old) (x := x.2.1) rfl))) rfl)) rfl) (EvXs.res (r' := (((((lim (x.2.1 ++ (cut x.2.1 (some (-(1 : Int))) none))).map rp).bind fun v35 => (((lim (x.2.1 ++ ([([] : (List Int))] : (List (List Int))))).map rp).bind fun v33 => (((lim (([([] : (List Int))] : (List (List Int))) ++ x.2.1)).map rp).bind fun v31 => ((((lim (x.1.map fun x23 => ([x23] : (List Int)))).map rp).bind fun v27 => some (v27 :: ([] : (List Dt)))).bind fun l30 => some ((rp ([x.1] : (List (List Int)))) :: l30)).bind fun l32 => some (v31 :: l32)).bind fun l34 => some (v33 :: l34)).bind fun l36 => some (v35 :: l36)).bind fun l38 => some ((rp (cut x.2.1 none (some (-(1 : Int))))) :: l38)).bind fun l40 => some ((rp (cut x.2.1 (some (1 : Int)) none)) :: l40)).bind fun l42 => some ((rp x.2.1.reverse) :: l42)) (exs_cons (EvE.res (r' := some (rp x.2.1.reverse)) (EvE.cast (fun z : (List (List Int)) => rp z) (EvL.E (EvL.res (r' := some x.2.1.reverse) (ev_revSl (EvE.B (ev_var (i := 1) (m := .old) (x := x.2.1) rfl))) (bsP rfl)))) rfl) (EvXs.res (r' := ((((lim (x.2.1 ++ (cut x.2.1 (some (-(1 : Int))) none))).map rp).bind fun v35 => (((lim (x.2.1 ++ ([([] : (List Int))] : (List (List Int))))).map rp).bind fun v33 => (((lim (([([] : (List Int))] : (List (List Int))) ++ x.2.1)).map rp).bind fun v31 => ((((lim (x.1.map fun x23 => ([x23] : (List Int)))).map rp).bind fun v27 => some (v27 :: ([] : (List Dt)))).bind fun l30 => some ((rp ([x.1] : (List (List Int)))) :: l30)).bind fun l32 => some (v31 :: l32)).bind fun l34 => some (v33 :: l34)).bind fun l36 => some (v35 :: l36)).bind fun l38 => some ((rp (cut x.2.1 none (some (-(1 : Int))))) :: l38)).bind fun l40 => some ((rp (cut x.2.1 (some (1 : Int)) none)) :: l40)) (exs_cons (EvE.res (r' := some (rp (cut x.2.1 (some (1 : Int)) none))) (EvE.cast (fun z : (List (List Int)) => rp z) (EvL.E (EvL.res (r' := some (cut x.2.1 (some (1 : Int)) none)) (ev_sl (EvE.B (ev_var (i := 1) (m := .old) (x := x.2.1) rfl)) (eo_atP ev_int) eo_no) (bsP (bsP (bsP rfl)))))) rfl) (EvXs.res (r' := (((lim (x.2.1 ++ (cut x.2.1 (some (-(1 : Int))) none))).map rp).bind fun v35 => (((lim (x.2.1 ++ ([([] : (List Int))] : (List (List Int))))).map rp).bind fun v33 => (((lim (([([] : (List Int))] : (List (List Int))) ++ x.2.1)).map rp).bind fun v31 => ((((lim (x.1.map fun x23 => ([x23] : (List Int)))).map rp).bind fun v27 => some (v27 :: ([] : (List Dt)))).bind fun l30 => some ((rp ([x.1] : (List (List Int)))) :: l30)).bind fun l32 => some (v31 :: l32)).bind fun l34 => some (v33 :: l34)).bind fun l36 => some (v35 :: l36)).bind fun l38 => some ((rp (cut x.2.1 none (some (-(1 : Int))))) :: l38)) (exs_cons (EvE.res (r' := some (rp (cut x.2.1 none (some (-(1 : Int)))))) (EvE.cast (fun z : (List (List Int)) => rp z) (EvL.E (EvL.res (r' := some (cut x.2.1 none (some (-(1 : Int))))) (ev_sl (EvE.B (ev_var (i := 1) (m := .old) (x := x.2.1) rfl)) eo_no (eo_atP ev_neg)) (bsP (bsP (bsP rfl)))))) rfl) (EvXs.res (r' := ((lim (x.2.1 ++ (cut x.2.1 (some (-(1 : Int))) none))).map rp).bind fun v35 => (((lim (x.2.1 ++ ([([] : (List Int))] : (List (List Int))))).map rp).bind fun v33 => (((lim (([([] : (List Int))] : (List (List Int))) ++ x.2.1)).map rp).bind fun v31 => ((((lim (x.1.map fun x23 => ([x23] : (List Int)))).map rp).bind fun v27 => some (v27 :: ([] : (List Dt)))).bind fun l30 => some ((rp ([x.1] : (List (List Int)))) :: l30)).bind fun l32 => some (v31 :: l32)).bind fun l34 => some (v33 :: l34)).bind fun l36 => some (v35 :: l36)) (exs_cons (EvE.cast (fun z : (List (List Int)) => rp z) (EvL.E (EvL.res (r' := lim (x.2.1 ++ (cut x.2.1 (some (-(1 : Int))) none))) (ev_cat (EvE.B (ev_var (i := 1) (m := .old) (x := x.2.1) rfl)) (EvL.B (EvL.res (r' := some (cut x.2.1 (some (-(1 : Int))) none)) (ev_sl (EvE.B (ev_var (i := 1) (m := .old) (x := x.2.1) rfl)) (eo_atP ev_neg) eo_no) (bsP (bsP (bsP rfl)))))) (bsP (bsP rfl))))) (EvXs.res (r' := ((lim (x.2.1 ++ ([([] : (List Int))] : (List (List Int))))).map rp).bind fun v33 => (((lim (([([] : (List Int))] : (List (List Int))) ++ x.2.1)).map rp).bind fun v31 => ((((lim (x.1.map fun x23 => ([x23] : (List Int)))).map rp).bind fun v27 => some (v27 :: ([] : (List Dt)))).bind fun l30 => some ((rp ([x.1] : (List (List Int)))) :: l30)).bind fun l32 => some (v31 :: l32)).bind fun l34 => some (v33 :: l34)) (exs_cons (EvE.cast (fun z : (List (List Int)) => rp z) (EvL.E (EvL.res (r' := lim (x.2.1 ++ ([([] : (List Int))] : (List (List Int))))) (ev_cat (EvE.B (ev_var (i := 1) (m := .old) (x := x.2.1) rfl)) (EvB.old (EvL.B (ev_list (m := .new) (EvXs.res (r' := some ([([] : (List Int))] : (List (List Int)))) (exs_cons (EvL.E (ev_list (m := .new) exs_nil)) exs_nil) (bsP (bsP rfl))))))) (bsP (bsP rfl))))) (EvXs.res (r' := ((lim (([([] : (List Int))] : (List (List Int))) ++ x.2.1)).map rp).bind fun v31 => ((((lim (x.1.map fun x23 => ([x23] : (List Int)))).map rp).bind fun v27 => some (v27 :: ([] : (List Dt)))).bind fun l30 => some ((rp ([x.1] : (List (List Int)))) :: l30)).bind fun l32 => some (v31 :: l32)) (exs_cons (EvE.cast (fun z : (List (List Int)) => rp z) (EvL.E (EvL.res (r' := lim (([([] : (List Int))] : (List (List Int))) ++ x.2.1)) (ev_cat (EvB.old (EvL.B (ev_list (m := .new) (EvXs.res (r' := some ([([] : (List Int))] : (List (List Int)))) (exs_cons (EvL.E (ev_list (m := .new) exs_nil)) exs_nil) (bsP (bsP rfl)))))) (EvE.B (ev_var (i := 1) (m := .old) (x := x.2.1) rfl))) (bsP (bsP rfl))))) (EvXs.res (r' := (((lim (x.1.map fun x23 => ([x23] : (List Int)))).map rp).bind fun v27 => some (v27 :: ([] : (List Dt)))).bind fun l30 => some ((rp ([x.1] : (List (List Int)))) :: l30)) (exs_cons (EvE.res (r' := some (rp ([x.1] : (List (List Int))))) (EvE.cast (fun z : (List (List Int)) => rp z) (EvL.E (ev_list (m := .old) (EvXs.res (r' := some ([x.1] : (List (List Int)))) (exs_cons (ev_var (i := 0) (m := .old) (x := x.1) rfl) exs_nil) (bsP (bsP rfl)))))) rfl) (EvXs.res (r' := ((lim (x.1.map fun x23 => ([x23] : (List Int)))).map rp).bind fun v27 => some (v27 :: ([] : (List Dt)))) (exs_cons (EvE.old (EvE.cast (fun z : (List (List Int)) => rp z) (EvL.E (EvL.res (r' := lim (x.1.map fun x23 => ([x23] : (List Int)))) (ev_lcM (vs := [7]) (Eb := fun (x23 : Int) => [.dat .old (rp x.1), .dat .old (rp x.2.1), .dat .old (rp x.2.2), .un, .un, .un, .un, .dat .new (rp x23)]) (EvI.sc (m1 := .new) (ei_list (ev_var (i := 0) (m := .old) (x := x.1) rfl))) (fun x23 => (eg_nameS (m1 := .new))) (fun x23 => (EvL.E (ev_list (m := .new) (EvXs.res (r' := some ([x23] : (List Int))) (exs_cons (ev_var (i := 7) (m := .new) (x := x23) rfl) exs_nil) (bsP (bsP rfl))))))) (bsP rfl))))) exs_nil) (bcP fun _ => (bsP rfl)))) (bsP (bcP fun _ => rfl)))) (bcP fun _ => (bcP fun _ => rfl)))) (bcP fun _ => (bcP fun _ => rfl)))) (bcP fun _ => (bcP fun _ => rfl)))) (bsP (bcP fun _ => rfl)))) (bsP (bcP fun _ => rfl)))) (bsP (bcP fun _ => rfl)))) (bsP (bcP fun _ => rfl)))) (bsP (bcP fun _ => rfl))))) (fun papers_47 =>
 (er_seq (E := fun (papers_94 : (List Dt)) => [.dat .old (rp x.1), .dat .old (rp x.2.1), .dat .old (rp x.2.2), .own .old (rps papers_94), .un, .un, .un, .un]) (en_own (EvL.res (r' := lim (papers_47 ++ ([Dt.non, (rp true), (rp (0 : Int)), (rp (Str.ofString "")), (rp (Str.ofString "heads")), (rp (TupL.mk ([] : (List Int)))), (rp ([] : (List Int))), (rp ([([] : (List Int))] : (List (List Int)))), (rp ([()] : (List Unit))), (rp ([([()] : (List Unit))] : (List (List Unit)))), (rp x.1), (rp ([x.1, ([] : (List Int))] : (List (List Int)))), (rp ([(TupL.mk x.1)] : (List (TupL Int)))), (rp ([x.2.1] : (List (List (List Int)))))] : (List Dt)))) (ev_cat (ev_own (i := 3) (m := .old) (xs := papers_47) rfl) (EvL.B (ev_list (m := .old) (EvXs.res (r' := some ([Dt.non, (rp true), (rp (0 : Int)), (rp (Str.ofString "")), (rp (Str.ofString "heads")), (rp (TupL.mk ([] : (List Int)))), (rp ([] : (List Int))), (rp ([([] : (List Int))] : (List (List Int)))), (rp ([()] : (List Unit))), (rp ([([()] : (List Unit))] : (List (List Unit)))), (rp x.1), (rp ([x.1, ([] : (List Int))] : (List (List Int)))), (rp ([(TupL.mk x.1)] : (List (TupL Int)))), (rp ([x.2.1] : (List (List (List Int)))))] : (List Dt))) (exs_cons (EvE.old ev_nonD) (EvXs.res (r' := some ([(rp true), (rp (0 : Int)), (rp (Str.ofString "")), (rp (Str.ofString "heads")), (rp (TupL.mk ([] : (List Int)))), (rp ([] : (List Int))), (rp ([([] : (List Int))] : (List (List Int)))), (rp ([()] : (List Unit))), (rp ([([()] : (List Unit))] : (List (List Unit)))), (rp x.1), (rp ([x.1, ([] : (List Int))] : (List (List Int)))), (rp ([(TupL.mk x.1)] : (List (TupL Int)))), (rp ([x.2.1] : (List (List (List Int)))))] : (List Dt))) (exs_cons (EvE.old (EvE.res (r' := some (rp true)) (EvE.cast (fun z : Bool => rp z) ev_bl) rfl)) (EvXs.res (r' := some ([(rp (0 : Int)), (rp (Str.ofString "")), (rp (Str.ofString "heads")), (rp (TupL.mk ([] : (List Int)))), (rp ([] : (List Int))), (rp ([([] : (List Int))] : (List (List Int)))), (rp ([()] : (List Unit))), (rp ([([()] : (List Unit))] : (List (List Unit)))), (rp x.1), (rp ([x.1, ([] : (List Int))] : (List (List Int)))), (rp ([(TupL.mk x.1)] : (List (TupL Int)))), (rp ([x.2.1] : (List (List (List Int)))))] : (List Dt))) (exs_cons (EvE.old (EvE.res (r' := some (rp (0 : Int))) (EvE.cast (fun z : Int => rp z) ev_int) rfl)) (EvXs.res (r' := some ([(rp (Str.ofString "")), (rp (Str.ofString "heads")), (rp (TupL.mk ([] : (List Int)))), (rp ([] : (List Int))), (rp ([([] : (List Int))] : (List (List Int)))), (rp ([()] : (List Unit))), (rp ([([()] : (List Unit))] : (List (List Unit)))), (rp x.1), (rp ([x.1, ([] : (List Int))] : (List (List Int)))), (rp ([(TupL.mk x.1)] : (List (TupL Int)))), (rp ([x.2.1] : (List (List (List Int)))))] : (List Dt))) (exs_cons (EvE.old (EvE.res (r' := some (rp (Str.ofString ""))) (EvE.cast (fun z : Str => rp z) ev_str) rfl)) (EvXs.res (r' := some ([(rp (Str.ofString "heads")), (rp (TupL.mk ([] : (List Int)))), (rp ([] : (List Int))), (rp ([([] : (List Int))] : (List (List Int)))), (rp ([()] : (List Unit))), (rp ([([()] : (List Unit))] : (List (List Unit)))), (rp x.1), (rp ([x.1, ([] : (List Int))] : (List (List Int)))), (rp ([(TupL.mk x.1)] : (List (TupL Int)))), (rp ([x.2.1] : (List (List (List Int)))))] : (List Dt))) (exs_cons (EvE.old (EvE.res (r' := some (rp (Str.ofString "heads"))) (EvE.cast (fun z : Str => rp z) ev_str) rfl)) (EvXs.res (r' := some ([(rp (TupL.mk ([] : (List Int)))), (rp ([] : (List Int))), (rp ([([] : (List Int))] : (List (List Int)))), (rp ([()] : (List Unit))), (rp ([([()] : (List Unit))] : (List (List Unit)))), (rp x.1), (rp ([x.1, ([] : (List Int))] : (List (List Int)))), (rp ([(TupL.mk x.1)] : (List (TupL Int)))), (rp ([x.2.1] : (List (List (List Int)))))] : (List Dt))) (exs_cons (EvE.old (EvE.res (r' := some (rp (TupL.mk ([] : (List Int))))) (EvE.cast (fun z : (TupL Int) => rp z) (EvE.res (r' := some (TupL.mk ([] : (List Int)))) (ev_tupX (m := .new) exs_nil) rfl)) rfl)) (EvXs.res (r' := some ([(rp ([] : (List Int))), (rp ([([] : (List Int))] : (List (List Int)))), (rp ([()] : (List Unit))), (rp ([([()] : (List Unit))] : (List (List Unit)))), (rp x.1), (rp ([x.1, ([] : (List Int))] : (List (List Int)))), (rp ([(TupL.mk x.1)] : (List (TupL Int)))), (rp ([x.2.1] : (List (List (List Int)))))] : (List Dt))) (exs_cons (EvE.old (EvE.res (r' := some (rp ([] : (List Int)))) (EvE.cast (fun z : (List Int) => rp z) (EvL.E (ev_list (m := .new) exs_nil))) rfl)) (EvXs.res (r' := some ([(rp ([([] : (List Int))] : (List (List Int)))), (rp ([()] : (List Unit))), (rp ([([()] : (List Unit))] : (List (List Unit)))), (rp x.1), (rp ([x.1, ([] : (List Int))] : (List (List Int)))), (rp ([(TupL.mk x.1)] : (List (TupL Int)))), (rp ([x.2.1] : (List (List (List Int)))))] : (List Dt))) (exs_cons (EvE.old (EvE.res (r' := some (rp ([([] : (List Int))] : (List (List Int))))) (EvE.cast (fun z : (List (List Int)) => rp z) (EvL.E (ev_list (m := .new) (EvXs.res (r' := some ([([] : (List Int))] : (List (List Int)))) (exs_cons (EvL.E (ev_list (m := .new) exs_nil)) exs_nil) (bsP (bsP rfl)))))) rfl)) (EvXs.res (r' := some ([(rp ([()] : (List Unit))), (rp ([([()] : (List Unit))] : (List (List Unit)))), (rp x.1), (rp ([x.1, ([] : (List Int))] : (List (List Int)))), (rp ([(TupL.mk x.1)] : (List (TupL Int)))), (rp ([x.2.1] : (List (List (List Int)))))] : (List Dt))) (exs_cons (EvE.old (EvE.res (r' := some (rp ([()] : (List Unit)))) (EvE.cast (fun z : (List Unit) => rp z) (EvL.E (ev_list (m := .new) (EvXs.res (r' := some ([()] : (List Unit))) (exs_cons ev_unit exs_nil) (bsP (bsP rfl)))))) rfl)) (EvXs.res (r' := some ([(rp ([([()] : (List Unit))] : (List (List Unit)))), (rp x.1), (rp ([x.1, ([] : (List Int))] : (List (List Int)))), (rp ([(TupL.mk x.1)] : (List (TupL Int)))), (rp ([x.2.1] : (List (List (List Int)))))] : (List Dt))) (exs_cons (EvE.old (EvE.res (r' := some (rp ([([()] : (List Unit))] : (List (List Unit))))) (EvE.cast (fun z : (List (List Unit)) => rp z) (EvL.E (ev_list (m := .new) (EvXs.res (r' := some ([([()] : (List Unit))] : (List (List Unit)))) (exs_cons (EvL.E (ev_list (m := .new) (EvXs.res (r' := some ([()] : (List Unit))) (exs_cons ev_unit exs_nil) (bsP (bsP rfl))))) exs_nil) (bsP (bsP rfl)))))) rfl)) (EvXs.res (r' := some ([(rp x.1), (rp ([x.1, ([] : (List Int))] : (List (List Int)))), (rp ([(TupL.mk x.1)] : (List (TupL Int)))), (rp ([x.2.1] : (List (List (List Int)))))] : (List Dt))) (exs_cons (EvE.res (r' := some (rp x.1)) (EvE.cast (fun z : (List Int) => rp z) (ev_var (i := 0) (m := .old) (x := x.1) rfl)) rfl) (EvXs.res (r' := some ([(rp ([x.1, ([] : (List Int))] : (List (List Int)))), (rp ([(TupL.mk x.1)] : (List (TupL Int)))), (rp ([x.2.1] : (List (List (List Int)))))] : (List Dt))) (exs_cons (EvE.res (r' := some (rp ([x.1, ([] : (List Int))] : (List (List Int))))) (EvE.cast (fun z : (List (List Int)) => rp z) (EvL.E (ev_list (m := .old) (EvXs.res (r' := some ([x.1, ([] : (List Int))] : (List (List Int)))) (exs_cons (ev_var (i := 0) (m := .old) (x := x.1) rfl) (EvXs.res (r' := some ([([] : (List Int))] : (List (List Int)))) (exs_cons (EvE.old (EvL.E (ev_list (m := .new) exs_nil))) exs_nil) (bsP (bsP rfl)))) (bsP (bsP rfl)))))) rfl) (EvXs.res (r' := some ([(rp ([(TupL.mk x.1)] : (List (TupL Int)))), (rp ([x.2.1] : (List (List (List Int)))))] : (List Dt))) (exs_cons (EvE.old (EvE.res (r' := some (rp ([(TupL.mk x.1)] : (List (TupL Int))))) (EvE.cast (fun z : (List (TupL Int)) => rp z) (EvL.E (ev_list (m := .new) (EvXs.res (r' := some ([(TupL.mk x.1)] : (List (TupL Int)))) (exs_cons (EvE.res (r' := some (TupL.mk x.1)) (ev_tupOf (EvB.sc (m1 := .new) (EvE.B (ev_var (i := 0) (m := .old) (x := x.1) rfl)))) rfl) exs_nil) (bsP (bsP rfl)))))) rfl)) (EvXs.res (r' := some ([(rp ([x.2.1] : (List (List (List Int)))))] : (List Dt))) (exs_cons (EvE.res (r' := some (rp ([x.2.1] : (List (List (List Int)))))) (EvE.cast (fun z : (List (List (List Int))) => rp z) (EvL.E (ev_list (m := .old) (EvXs.res (r' := some ([x.2.1] : (List (List (List Int))))) (exs_cons (ev_var (i := 1) (m := .old) (x := x.2.1) rfl) exs_nil) (bsP (bsP rfl)))))) rfl) exs_nil) (bsP (bsP rfl)))) (bsP (bsP rfl)))) (bsP (bsP rfl)))) (bsP (bsP rfl)))) (bsP (bsP rfl)))) (bsP (bsP rfl)))) (bsP (bsP rfl)))) (bsP (bsP rfl)))) (bsP (bsP rfl)))) (bsP (bsP rfl)))) (bsP (bsP rfl)))) (bsP (bsP rfl)))) (bsP (bsP rfl)))) (bsP (bsP rfl)))))) (bsP (bsP rfl)))) (fun papers_94 =>
 (er_seq (E := fun (s523 : (List Dt)) => [.dat .old (rp x.1), .dat .old (rp x.2.1), .dat .old (rp x.2.2), .own .old (rps s523), .un, .un, .un, .un]) (en_ifP (et_test (EvE.res (r' := some (decide ((0 : Int) < (x.2.1.length : Int)))) (ev_cmpI (EvE.res (r' := some (x.2.1.length : Int)) (ev_len (EvE.B (ev_var (i := 1) (m := .old) (x := x.2.1) rfl))) (bsP rfl)) ev_int) (bsP (bsP rfl))))
 (en_seq (E := fun (at_315 : Int) => [.dat .old (rp x.1), .dat .old (rp x.2.1), .dat .old (rp x.2.2), .own .old (rps papers_94), .dat .new (rp at_315), .un, .un, .un]) (en_set (EvE.res (r' := (atI x.2.2 (1 : Int)).bind fun v314 => modP v314 (x.2.1.length : Int)) (ev_mod (EvE.res (r' := atI x.2.2 (1 : Int)) (ev_ix (EvB.sc (m1 := .new) (EvE.B (ev_var (i := 2) (m := .old) (x := x.2.2) rfl))) ev_int) (bsP (bsP rfl))) (EvE.res (r' := some (x.2.1.length : Int)) (ev_len (EvE.B (ev_var (i := 1) (m := .old) (x := x.2.1) rfl))) (bsP rfl))) (bcP fun _ => (bsP rfl)))) (fun at_315 =>
 (en_seq (E := fun (item_318 : (List Int)) => [.dat .old (rp x.1), .dat .old (rp x.2.1), .dat .old (rp x.2.2), .own .old (rps papers_94), .dat .new (rp at_315), .dat .old (rp item_318), .un, .un]) (en_set (EvE.res (r' := atI x.2.1 at_315) (ev_ix (EvE.B (ev_var (i := 1) (m := .old) (x := x.2.1) rfl)) (ev_var (i := 4) (m := .new) (x := at_315) rfl)) (bsP (bsP rfl)))) (fun item_318 =>
 (en_seq (E := fun (s381 : (List Dt)) => [.dat .old (rp x.1), .dat .old (rp x.2.1), .dat .old (rp x.2.2), .own .old (rps s381), .dat .new (rp at_315), .dat .old (rp item_318), .un, .un]) (en_for (E := fun (s381 : (List Dt)) => [.dat .old (rp x.1), .dat .old (rp x.2.1), .dat .old (rp x.2.2), .own .old (rps s381), .dat .new (rp at_315), .dat .old (rp item_318), .un, .un]) (s0 := papers_94) (Eb := fun (s373 : (List Dt)) (other_374 : Dt) => [.dat .old (rp x.1), .dat .old (rp x.2.1), .dat .old (rp x.2.2), .own .old (rps s373), .dat .new (rp at_315), .dat .old (rp item_318), .dat .new (rp other_374), .un]) (vs := [6]) (ei_list (EvL.E (ev_list (m := .new) (EvXs.res (r' := ((((lim ((cut item_318 (some (1 : Int)) none) ++ (cut item_318 none (some (1 : Int))))).map rp).bind fun v367 => (((lim (item_318 ++ item_318)).map rp).bind fun v365 => (((((lim (([(rp false)] : (List Dt)) ++ ((cut item_318 (some (1 : Int)) none).map fun y => (rp y : Dt)))).map rp).bind fun v359 => (((lim (([(-(1 : Int))] : (List Int)) ++ (cut item_318 (some (1 : Int)) none))).map rp).bind fun v357 => ((((atI item_318 (0 : Int)).map rp).bind fun v353 => some (v353 :: ([(rp (Str.ofString ""))] : (List Dt)))).bind fun l356 => some (Dt.non :: l356)).bind fun l358 => some (v357 :: l358)).bind fun l360 => some (v359 :: l360)).bind fun l362 => some ((rp ([true] : (List Bool))) :: l362)).bind fun l364 => some ((rp (cut item_318 none (some (-(1 : Int))))) :: l364)).bind fun l366 => some (v365 :: l366)).bind fun l368 => some (v367 :: l368)).bind fun l370 => some ((rp item_318.reverse) :: l370)).bind fun l372 => some ((rp (TupL.mk item_318)) :: l372)) (exs_cons (EvE.res (r' := some (rp (TupL.mk item_318))) (EvE.cast (fun z : (TupL Int) => rp z) (EvE.res (r' := some (TupL.mk item_318)) (ev_tupOf (EvB.sc (m1 := .new) (EvE.B (ev_var (i := 5) (m := .old) (x := item_318) rfl)))) rfl)) rfl) (EvXs.res (r' := (((lim ((cut item_318 (some (1 : Int)) none) ++ (cut item_318 none (some (1 : Int))))).map rp).bind fun v367 => (((lim (item_318 ++ item_318)).map rp).bind fun v365 => (((((lim (([(rp false)] : (List Dt)) ++ ((cut item_318 (some (1 : Int)) none).map fun y => (rp y : Dt)))).map rp).bind fun v359 => (((lim (([(-(1 : Int))] : (List Int)) ++ (cut item_318 (some (1 : Int)) none))).map rp).bind fun v357 => ((((atI item_318 (0 : Int)).map rp).bind fun v353 => some (v353 :: ([(rp (Str.ofString ""))] : (List Dt)))).bind fun l356 => some (Dt.non :: l356)).bind fun l358 => some (v357 :: l358)).bind fun l360 => some (v359 :: l360)).bind fun l362 => some ((rp ([true] : (List Bool))) :: l362)).bind fun l364 => some ((rp (cut item_318 none (some (-(1 : Int))))) :: l364)).bind fun l366 => some (v365 :: l366)).bind fun l368 => some (v367 :: l368)).bind fun l370 => some ((rp item_318.reverse) :: l370)) (exs_cons (EvE.res (r' := some (rp item_318.reverse)) (EvE.cast (fun z : (List Int) => rp z) (EvL.E (EvL.res (r' := some item_318.reverse) (ev_revSl (EvB.sc (m1 := .new) (EvE.B (ev_var (i := 5) (m := .old) (x := item_318) rfl)))) (bsP rfl)))) rfl) (EvXs.res (r' := ((lim ((cut item_318 (some (1 : Int)) none) ++ (cut item_318 none (some (1 : Int))))).map rp).bind fun v367 => (((lim (item_318 ++ item_318)).map rp).bind fun v365 => (((((lim (([(rp false)] : (List Dt)) ++ ((cut item_318 (some (1 : Int)) none).map fun y => (rp y : Dt)))).map rp).bind fun v359 => (((lim (([(-(1 : Int))] : (List Int)) ++ (cut item_318 (some (1 : Int)) none))).map rp).bind fun v357 => ((((atI item_318 (0 : Int)).map rp).bind fun v353 => some (v353 :: ([(rp (Str.ofString ""))] : (List Dt)))).bind fun l356 => some (Dt.non :: l356)).bind fun l358 => some (v357 :: l358)).bind fun l360 => some (v359 :: l360)).bind fun l362 => some ((rp ([true] : (List Bool))) :: l362)).bind fun l364 => some ((rp (cut item_318 none (some (-(1 : Int))))) :: l364)).bind fun l366 => some (v365 :: l366)).bind fun l368 => some (v367 :: l368)) (exs_cons (EvE.cast (fun z : (List Int) => rp z) (EvL.E (EvL.res (r' := lim ((cut item_318 (some (1 : Int)) none) ++ (cut item_318 none (some (1 : Int))))) (ev_cat (EvL.B (EvL.res (r' := some (cut item_318 (some (1 : Int)) none)) (ev_sl (EvB.sc (m1 := .new) (EvE.B (ev_var (i := 5) (m := .old) (x := item_318) rfl))) (eo_atP ev_int) eo_no) (bsP (bsP (bsP rfl))))) (EvL.B (EvL.res (r' := some (cut item_318 none (some (1 : Int)))) (ev_sl (EvB.sc (m1 := .new) (EvE.B (ev_var (i := 5) (m := .old) (x := item_318) rfl))) eo_no (eo_atP ev_int)) (bsP (bsP (bsP rfl)))))) (bsP (bsP rfl))))) (EvXs.res (r' := ((lim (item_318 ++ item_318)).map rp).bind fun v365 => (((((lim (([(rp false)] : (List Dt)) ++ ((cut item_318 (some (1 : Int)) none).map fun y => (rp y : Dt)))).map rp).bind fun v359 => (((lim (([(-(1 : Int))] : (List Int)) ++ (cut item_318 (some (1 : Int)) none))).map rp).bind fun v357 => ((((atI item_318 (0 : Int)).map rp).bind fun v353 => some (v353 :: ([(rp (Str.ofString ""))] : (List Dt)))).bind fun l356 => some (Dt.non :: l356)).bind fun l358 => some (v357 :: l358)).bind fun l360 => some (v359 :: l360)).bind fun l362 => some ((rp ([true] : (List Bool))) :: l362)).bind fun l364 => some ((rp (cut item_318 none (some (-(1 : Int))))) :: l364)).bind fun l366 => some (v365 :: l366)) (exs_cons (EvE.cast (fun z : (List Int) => rp z) (EvL.E (EvL.res (r' := lim (item_318 ++ item_318)) (ev_cat (EvB.sc (m1 := .new) (EvE.B (ev_var (i := 5) (m := .old) (x := item_318) rfl))) (EvB.sc (m1 := .new) (EvE.B (ev_var (i := 5) (m := .old) (x := item_318) rfl)))) (bsP (bsP rfl))))) (EvXs.res (r' := ((((lim (([(rp false)] : (List Dt)) ++ ((cut item_318 (some (1 : Int)) none).map fun y => (rp y : Dt)))).map rp).bind fun v359 => (((lim (([(-(1 : Int))] : (List Int)) ++ (cut item_318 (some (1 : Int)) none))).map rp).bind fun v357 => ((((atI item_318 (0 : Int)).map rp).bind fun v353 => some (v353 :: ([(rp (Str.ofString ""))] : (List Dt)))).bind fun l356 => some (Dt.non :: l356)).bind fun l358 => some (v357 :: l358)).bind fun l360 => some (v359 :: l360)).bind fun l362 => some ((rp ([true] : (List Bool))) :: l362)).bind fun l364 => some ((rp (cut item_318 none (some (-(1 : Int))))) :: l364)) (exs_cons (EvE.res (r' := some (rp (cut item_318 none (some (-(1 : Int)))))) (EvE.cast (fun z : (List Int) => rp z) (EvL.E (EvL.res (r' := some (cut item_318 none (some (-(1 : Int))))) (ev_sl (EvB.sc (m1 := .new) (EvE.B (ev_var (i := 5) (m := .old) (x := item_318) rfl))) eo_no (eo_atP ev_neg)) (bsP (bsP (bsP rfl)))))) rfl) (EvXs.res (r' := (((lim (([(rp false)] : (List Dt)) ++ ((cut item_318 (some (1 : Int)) none).map fun y => (rp y : Dt)))).map rp).bind fun v359 => (((lim (([(-(1 : Int))] : (List Int)) ++ (cut item_318 (some (1 : Int)) none))).map rp).bind fun v357 => ((((atI item_318 (0 : Int)).map rp).bind fun v353 => some (v353 :: ([(rp (Str.ofString ""))] : (List Dt)))).bind fun l356 => some (Dt.non :: l356)).bind fun l358 => some (v357 :: l358)).bind fun l360 => some (v359 :: l360)).bind fun l362 => some ((rp ([true] : (List Bool))) :: l362)) (exs_cons (EvE.res (r' := some (rp ([true] : (List Bool)))) (EvE.cast (fun z : (List Bool) => rp z) (EvL.E (ev_list (m := .new) (EvXs.res (r' := some ([true] : (List Bool))) (exs_cons ev_bl exs_nil) (bsP (bsP rfl)))))) rfl) (EvXs.res (r' := ((lim (([(rp false)] : (List Dt)) ++ ((cut item_318 (some (1 : Int)) none).map fun y => (rp y : Dt)))).map rp).bind fun v359 => (((lim (([(-(1 : Int))] : (List Int)) ++ (cut item_318 (some (1 : Int)) none))).map rp).bind fun v357 => ((((atI item_318 (0 : Int)).map rp).bind fun v353 => some (v353 :: ([(rp (Str.ofString ""))] : (List Dt)))).bind fun l356 => some (Dt.non :: l356)).bind fun l358 => some (v357 :: l358)).bind fun l360 => some (v359 :: l360)) (exs_cons (EvE.cast (fun z : (List Dt) => rp z) (EvL.E (EvL.res (r' := lim (([(rp false)] : (List Dt)) ++ ((cut item_318 (some (1 : Int)) none).map fun y => (rp y : Dt)))) (ev_cat (EvL.B (ev_list (m := .new) (EvXs.res (r' := some ([(rp false)] : (List Dt))) (exs_cons (EvE.res (r' := some (rp false)) (EvE.cast (fun z : Bool => rp z) ev_bl) rfl) exs_nil) (bsP (bsP rfl))))) (EvE.B (EvE.res (r' := some ((cut item_318 (some (1 : Int)) none).map fun y => (rp y : Dt))) (EvE.cast (fun z : (List Int) => (z.map fun y => (rp y : Dt))) (EvL.E (EvL.res (r' := some (cut item_318 (some (1 : Int)) none)) (ev_sl (EvB.sc (m1 := .new) (EvE.B (ev_var (i := 5) (m := .old) (x := item_318) rfl))) (eo_atP ev_int) eo_no) (bsP (bsP (bsP rfl))))) rp_lst) rfl))) (bsP (bsP rfl))))) (EvXs.res (r' := ((lim (([(-(1 : Int))] : (List Int)) ++ (cut item_318 (some (1 : Int)) none))).map rp).bind fun v357 => ((((atI item_318 (0 : Int)).map rp).bind fun v353 => some (v353 :: ([(rp (Str.ofString ""))] : (List Dt)))).bind fun l356 => some (Dt.non :: l356)).bind fun l358 => some (v357 :: l358)) (exs_cons (EvE.cast (fun z : (List Int) => rp z) (EvL.E (EvL.res (r' := lim (([(-(1 : Int))] : (List Int)) ++ (cut item_318 (some (1 : Int)) none))) (ev_cat (EvL.B (ev_list (m := .new) (EvXs.res (r' := some ([(-(1 : Int))] : (List Int))) (exs_cons ev_neg exs_nil) (bsP (bsP rfl))))) (EvL.B (EvL.res (r' := some (cut item_318 (some (1 : Int)) none)) (ev_sl (EvB.sc (m1 := .new) (EvE.B (ev_var (i := 5) (m := .old) (x := item_318) rfl))) (eo_atP ev_int) eo_no) (bsP (bsP (bsP rfl)))))) (bsP (bsP rfl))))) (EvXs.res (r' := (((atI item_318 (0 : Int)).map rp).bind fun v353 => some (v353 :: ([(rp (Str.ofString ""))] : (List Dt)))).bind fun l356 => some (Dt.non :: l356)) (exs_cons ev_nonD (EvXs.res (r' := ((atI item_318 (0 : Int)).map rp).bind fun v353 => some (v353 :: ([(rp (Str.ofString ""))] : (List Dt)))) (exs_cons (EvE.cast (fun z : Int => rp z) (EvE.res (r' := atI item_318 (0 : Int)) (ev_ix (EvB.sc (m1 := .new) (EvE.B (ev_var (i := 5) (m := .old) (x := item_318) rfl))) ev_int) (bsP (bsP rfl)))) (EvXs.res (r' := some ([(rp (Str.ofString ""))] : (List Dt))) (exs_cons (EvE.res (r' := some (rp (Str.ofString ""))) (EvE.cast (fun z : Str => rp z) ev_str) rfl) exs_nil) (bsP (bsP rfl)))) (bcP fun _ => (bsP rfl)))) (bsP (bcP fun _ => rfl)))) (bcP fun _ => (bcP fun _ => rfl)))) (bcP fun _ => (bcP fun _ => rfl)))) (bsP (bcP fun _ => rfl)))) (bsP (bcP fun _ => rfl)))) (bcP fun _ => (bcP fun _ => rfl)))) (bcP fun _ => (bcP fun _ => rfl)))) (bsP (bcP fun _ => rfl)))) (bsP (bcP fun _ => rfl)))))) (.cons .id (.cons .id (.cons .id (.cons .id (.cons .id (.cons .id (.cons .id (.cons .id .nil)))))))) (fun s373 other_374 => eg_name) (fun s373 other_374 =>
 (en_last (en_seq (E := fun (papers_375 : (List Dt)) => [.dat .old (rp x.1), .dat .old (rp x.2.1), .dat .old (rp x.2.2), .own .old (rps papers_375), .dat .new (rp at_315), .dat .old (rp item_318), .dat .new (rp other_374), .un]) (en_append (i := 3) (m := .old) (xs := s373) (EvE.cast (fun z : (List Dt) => rp z) (EvE.res (r' := f_law_with (x.2.1.map fun y => (rp y : Dt)) at_315 other_374) (ev_call3 (EvE.res (r' := some (x.2.1.map fun y => (rp y : Dt))) (EvE.cast (fun z : (List (List Int)) => (z.map fun y => (rp y : Dt))) (ev_var (i := 1) (m := .old) (x := x.2.1) rfl) rp_lst) rfl) (ev_var (i := 4) (m := .new) (x := at_315) rfl) (ev_var (i := 6) (m := .new) (x := other_374) rfl)) (bsP (bsP (bsP rfl))))) rfl) (fun papers_375 =>
 (en_end (s := papers_375) (.cons .id (.cons .id (.cons .id (.cons .id (.cons .id (.cons .id (.cons .un (.cons .id .nil)))))))))))))) (fun s383 =>
 (en_seq (E := fun (s434 : (List Dt)) => [.dat .old (rp x.1), .dat .old (rp x.2.1), .dat .old (rp x.2.2), .own .old (rps s434), .dat .new (rp at_315), .dat .old (rp item_318), .un, .un]) (en_for (E := fun (s434 : (List Dt)) => [.dat .old (rp x.1), .dat .old (rp x.2.1), .dat .old (rp x.2.2), .own .old (rps s434), .dat .new (rp at_315), .dat .old (rp item_318), .un, .un]) (s0 := s383) (Eb := fun (s422 : (List Dt)) (other_423 : Dt) => [.dat .old (rp x.1), .dat .old (rp x.2.1), .dat .old (rp x.2.2), .own .old (rps s422), .dat .new (rp at_315), .dat .old (rp item_318), .dat .new (rp other_423), .un]) (vs := [6]) (ei_list (EvL.E (ev_list (m := .new) (EvXs.res (r' := (((atI item_318 (0 : Int)).bind fun v388 => some (v388 + (1 : Int))).map rp).bind fun v420 => ((((atI item_318 (0 : Int)).bind fun v392 => strI v392).map rp).bind fun v418 => ((((((atI item_318 (0 : Int)).bind fun v395 => some (v395 :: ([] : (List Int)))).map rp).bind fun v412 => (((((atI item_318 (0 : Int)).bind fun v399 => some (v399 :: ([] : (List Int)))).map TupL.mk).map rp).bind fun v410 => (((((atI item_318 (0 : Int)).bind fun v404 => some (-v404)).bind fun v407 => some (v407 - (1 : Int))).map rp).bind fun v408 => some (v408 :: ([] : (List Dt)))).bind fun l411 => some (v410 :: l411)).bind fun l413 => some (v412 :: l413)).bind fun l415 => some (Dt.non :: l415)).bind fun l417 => some ((rp true) :: l417)).bind fun l419 => some (v418 :: l419)).bind fun l421 => some (v420 :: l421)) (exs_cons (EvE.cast (fun z : Int => rp z) (EvE.res (r' := (atI item_318 (0 : Int)).bind fun v388 => some (v388 + (1 : Int))) (ev_arith (EvE.res (r' := atI item_318 (0 : Int)) (ev_ix (EvB.sc (m1 := .new) (EvE.B (ev_var (i := 5) (m := .old) (x := item_318) rfl))) ev_int) (bsP (bsP rfl))) ev_int) (bcP fun _ => (bsP rfl)))) (EvXs.res (r' := (((atI item_318 (0 : Int)).bind fun v392 => strI v392).map rp).bind fun v418 => ((((((atI item_318 (0 : Int)).bind fun v395 => some (v395 :: ([] : (List Int)))).map rp).bind fun v412 => (((((atI item_318 (0 : Int)).bind fun v399 => some (v399 :: ([] : (List Int)))).map TupL.mk).map rp).bind fun v410 => (((((atI item_318 (0 : Int)).bind fun v404 => some (-v404)).bind fun v407 => some (v407 - (1 : Int))).map rp).bind fun v408 => some (v408 :: ([] : (List Dt)))).bind fun l411 => some (v410 :: l411)).bind fun l413 => some (v412 :: l413)).bind fun l415 => some (Dt.non :: l415)).bind fun l417 => some ((rp true) :: l417)).bind fun l419 => some (v418 :: l419)) (exs_cons (EvE.cast (fun z : Str => rp z) (EvE.res (r' := (atI item_318 (0 : Int)).bind fun v392 => strI v392) (ev_strI (EvE.res (r' := atI item_318 (0 : Int)) (ev_ix (EvB.sc (m1 := .new) (EvE.B (ev_var (i := 5) (m := .old) (x := item_318) rfl))) ev_int) (bsP (bsP rfl)))) (bcP fun _ => rfl))) (EvXs.res (r' := (((((atI item_318 (0 : Int)).bind fun v395 => some (v395 :: ([] : (List Int)))).map rp).bind fun v412 => (((((atI item_318 (0 : Int)).bind fun v399 => some (v399 :: ([] : (List Int)))).map TupL.mk).map rp).bind fun v410 => (((((atI item_318 (0 : Int)).bind fun v404 => some (-v404)).bind fun v407 => some (v407 - (1 : Int))).map rp).bind fun v408 => some (v408 :: ([] : (List Dt)))).bind fun l411 => some (v410 :: l411)).bind fun l413 => some (v412 :: l413)).bind fun l415 => some (Dt.non :: l415)).bind fun l417 => some ((rp true) :: l417)) (exs_cons (EvE.res (r' := some (rp true)) (EvE.cast (fun z : Bool => rp z) ev_bl) rfl) (EvXs.res (r' := ((((atI item_318 (0 : Int)).bind fun v395 => some (v395 :: ([] : (List Int)))).map rp).bind fun v412 => (((((atI item_318 (0 : Int)).bind fun v399 => some (v399 :: ([] : (List Int)))).map TupL.mk).map rp).bind fun v410 => (((((atI item_318 (0 : Int)).bind fun v404 => some (-v404)).bind fun v407 => some (v407 - (1 : Int))).map rp).bind fun v408 => some (v408 :: ([] : (List Dt)))).bind fun l411 => some (v410 :: l411)).bind fun l413 => some (v412 :: l413)).bind fun l415 => some (Dt.non :: l415)) (exs_cons ev_nonD (EvXs.res (r' := (((atI item_318 (0 : Int)).bind fun v395 => some (v395 :: ([] : (List Int)))).map rp).bind fun v412 => (((((atI item_318 (0 : Int)).bind fun v399 => some (v399 :: ([] : (List Int)))).map TupL.mk).map rp).bind fun v410 => (((((atI item_318 (0 : Int)).bind fun v404 => some (-v404)).bind fun v407 => some (v407 - (1 : Int))).map rp).bind fun v408 => some (v408 :: ([] : (List Dt)))).bind fun l411 => some (v410 :: l411)).bind fun l413 => some (v412 :: l413)) (exs_cons (EvE.cast (fun z : (List Int) => rp z) (EvL.E (ev_list (m := .new) (EvXs.res (r' := (atI item_318 (0 : Int)).bind fun v395 => some (v395 :: ([] : (List Int)))) (exs_cons (EvE.res (r' := atI item_318 (0 : Int)) (ev_ix (EvB.sc (m1 := .new) (EvE.B (ev_var (i := 5) (m := .old) (x := item_318) rfl))) ev_int) (bsP (bsP rfl))) exs_nil) (bcP fun _ => (bsP rfl)))))) (EvXs.res (r' := ((((atI item_318 (0 : Int)).bind fun v399 => some (v399 :: ([] : (List Int)))).map TupL.mk).map rp).bind fun v410 => (((((atI item_318 (0 : Int)).bind fun v404 => some (-v404)).bind fun v407 => some (v407 - (1 : Int))).map rp).bind fun v408 => some (v408 :: ([] : (List Dt)))).bind fun l411 => some (v410 :: l411)) (exs_cons (EvE.cast (fun z : (TupL Int) => rp z) (ev_tupX (m := .new) (EvXs.res (r' := (atI item_318 (0 : Int)).bind fun v399 => some (v399 :: ([] : (List Int)))) (exs_cons (EvE.res (r' := atI item_318 (0 : Int)) (ev_ix (EvB.sc (m1 := .new) (EvE.B (ev_var (i := 5) (m := .old) (x := item_318) rfl))) ev_int) (bsP (bsP rfl))) exs_nil) (bcP fun _ => (bsP rfl))))) (EvXs.res (r' := ((((atI item_318 (0 : Int)).bind fun v404 => some (-v404)).bind fun v407 => some (v407 - (1 : Int))).map rp).bind fun v408 => some (v408 :: ([] : (List Dt)))) (exs_cons (EvE.cast (fun z : Int => rp z) (EvE.res (r' := ((atI item_318 (0 : Int)).bind fun v404 => some (-v404)).bind fun v407 => some (v407 - (1 : Int))) (ev_arith (EvE.res (r' := (atI item_318 (0 : Int)).bind fun v404 => some (-v404)) (ev_un (EvE.res (r' := atI item_318 (0 : Int)) (ev_ix (EvB.sc (m1 := .new) (EvE.B (ev_var (i := 5) (m := .old) (x := item_318) rfl))) ev_int) (bsP (bsP rfl)))) (bcP fun _ => rfl)) ev_int) (bcP fun _ => (bsP rfl)))) exs_nil) (bcP fun _ => (bsP rfl)))) (bcP fun _ => (bcP fun _ => rfl)))) (bcP fun _ => (bcP fun _ => rfl)))) (bsP (bcP fun _ => rfl)))) (bsP (bcP fun _ => rfl)))) (bcP fun _ => (bcP fun _ => rfl)))) (bcP fun _ => (bcP fun _ => rfl)))))) (.cons .id (.cons .id (.cons .id (.cons .id (.cons .id (.cons .id (.cons .id (.cons .id .nil)))))))) (fun s422 other_423 => eg_name) (fun s422 other_423 =>
 (en_last (en_seq (E := fun (papers_424 : (List Dt)) => [.dat .old (rp x.1), .dat .old (rp x.2.1), .dat .old (rp x.2.2), .own .old (rps papers_424), .dat .new (rp at_315), .dat .old (rp item_318), .dat .new (rp other_423), .un]) (en_append (i := 3) (m := .old) (xs := s422) (EvE.cast (fun z : (List Dt) => rp z) (EvE.res (r' := ((f_law_with (item_318.map fun y => (rp y : Dt)) (0 : Int) other_423).map rp).bind fun v431 => f_law_with (x.2.1.map fun y => (rp y : Dt)) at_315 v431) (ev_call3 (EvE.res (r' := some (x.2.1.map fun y => (rp y : Dt))) (EvE.cast (fun z : (List (List Int)) => (z.map fun y => (rp y : Dt))) (ev_var (i := 1) (m := .old) (x := x.2.1) rfl) rp_lst) rfl) (ev_var (i := 4) (m := .new) (x := at_315) rfl) (EvE.cast (fun z : (List Dt) => rp z) (EvE.res (r' := f_law_with (item_318.map fun y => (rp y : Dt)) (0 : Int) other_423) (ev_call3 (EvE.res (r' := some (item_318.map fun y => (rp y : Dt))) (EvE.cast (fun z : (List Int) => (z.map fun y => (rp y : Dt))) (ev_var (i := 5) (m := .old) (x := item_318) rfl) rp_lst) rfl) ev_int (ev_var (i := 6) (m := .new) (x := other_423) rfl)) (bsP (bsP (bsP rfl)))))) (bsP (bsP (bcP fun _ => rfl))))) rfl) (fun papers_424 =>
 (en_end (s := papers_424) (.cons .id (.cons .id (.cons .id (.cons .id (.cons .id (.cons .id (.cons .un (.cons .id .nil)))))))))))))) (fun s436 =>
 (en_seq (E := fun (papers_437 : (List Dt)) => [.dat .old (rp x.1), .dat .old (rp x.2.1), .dat .old (rp x.2.2), .own .old (rps papers_437), .dat .new (rp at_315), .dat .old (rp item_318), .un, .un]) (en_append (i := 3) (m := .old) (xs := s436) (EvE.cast (fun z : (List (List Int)) => rp z) (EvL.E (EvL.res (r' := (lim ((cut x.2.1 none (some at_315)) ++ ([(cut item_318 none (some (1 : Int))), (cut item_318 (some (1 : Int)) none)] : (List (List Int))))).bind fun v460 => lim (v460 ++ (cut x.2.1 (some (at_315 + (1 : Int))) none))) (ev_cat (EvL.B (EvL.res (r' := lim ((cut x.2.1 none (some at_315)) ++ ([(cut item_318 none (some (1 : Int))), (cut item_318 (some (1 : Int)) none)] : (List (List Int))))) (ev_cat (EvL.B (EvL.res (r' := some (cut x.2.1 none (some at_315))) (ev_sl (EvE.B (ev_var (i := 1) (m := .old) (x := x.2.1) rfl)) eo_no (eo_atP (ev_var (i := 4) (m := .new) (x := at_315) rfl))) (bsP (bsP (bsP rfl))))) (EvB.old (EvL.B (ev_list (m := .new) (EvXs.res (r' := some ([(cut item_318 none (some (1 : Int))), (cut item_318 (some (1 : Int)) none)] : (List (List Int)))) (exs_cons (EvL.E (EvL.res (r' := some (cut item_318 none (some (1 : Int)))) (ev_sl (EvB.sc (m1 := .new) (EvE.B (ev_var (i := 5) (m := .old) (x := item_318) rfl))) eo_no (eo_atP ev_int)) (bsP (bsP (bsP rfl))))) (EvXs.res (r' := some ([(cut item_318 (some (1 : Int)) none)] : (List (List Int)))) (exs_cons (EvL.E (EvL.res (r' := some (cut item_318 (some (1 : Int)) none)) (ev_sl (EvB.sc (m1 := .new) (EvE.B (ev_var (i := 5) (m := .old) (x := item_318) rfl))) (eo_atP ev_int) eo_no) (bsP (bsP (bsP rfl))))) exs_nil) (bsP (bsP rfl)))) (bsP (bsP rfl))))))) (bsP (bsP rfl)))) (EvL.B (EvL.res (r' := some (cut x.2.1 (some (at_315 + (1 : Int))) none)) (ev_sl (EvE.B (ev_var (i := 1) (m := .old) (x := x.2.1) rfl)) (eo_atP (EvE.res (r' := some (at_315 + (1 : Int))) (ev_arith (ev_var (i := 4) (m := .new) (x := at_315) rfl) ev_int) (bsP (bsP rfl)))) eo_no) (bsP (bsP (bsP rfl)))))) (bcP fun _ => (bsP rfl))))) rfl) (fun papers_437 =>
 (en_ifP (et_test (EvE.res (r' := some (decide ((0 : Int) < at_315))) (ev_cmpI (ev_var (i := 4) (m := .new) (x := at_315) rfl) ev_int) (bsP (bsP rfl))))
 (en_seq (E := fun (papers_465 : (List Dt)) => [.dat .old (rp x.1), .dat .old (rp x.2.1), .dat .old (rp x.2.2), .own .old (rps papers_465), .dat .new (rp at_315), .dat .old (rp item_318), .un, .un]) (en_append (i := 3) (m := .old) (xs := papers_437) (EvE.cast (fun z : (List (List Int)) => rp z) (EvL.E (EvL.res (r' := ((((atI x.2.1 (at_315 - (1 : Int))).bind fun v477 => lim (v477 ++ item_318)).bind fun v478 => some (v478 :: ([] : (List (List Int))))).bind fun v482 => lim ((cut x.2.1 none (some (at_315 - (1 : Int)))) ++ v482)).bind fun v490 => lim (v490 ++ (cut x.2.1 (some (at_315 + (1 : Int))) none))) (ev_cat (EvL.B (EvL.res (r' := (((atI x.2.1 (at_315 - (1 : Int))).bind fun v477 => lim (v477 ++ item_318)).bind fun v478 => some (v478 :: ([] : (List (List Int))))).bind fun v482 => lim ((cut x.2.1 none (some (at_315 - (1 : Int)))) ++ v482)) (ev_cat (EvL.B (EvL.res (r' := some (cut x.2.1 none (some (at_315 - (1 : Int))))) (ev_sl (EvE.B (ev_var (i := 1) (m := .old) (x := x.2.1) rfl)) eo_no (eo_atP (EvE.res (r' := some (at_315 - (1 : Int))) (ev_arith (ev_var (i := 4) (m := .new) (x := at_315) rfl) ev_int) (bsP (bsP rfl))))) (bsP (bsP (bsP rfl))))) (EvB.old (EvL.B (ev_list (m := .new) (EvXs.res (r' := ((atI x.2.1 (at_315 - (1 : Int))).bind fun v477 => lim (v477 ++ item_318)).bind fun v478 => some (v478 :: ([] : (List (List Int))))) (exs_cons (EvL.E (EvL.res (r' := (atI x.2.1 (at_315 - (1 : Int))).bind fun v477 => lim (v477 ++ item_318)) (ev_cat (EvB.sc (m1 := .new) (EvE.B (EvE.res (r' := atI x.2.1 (at_315 - (1 : Int))) (ev_ix (EvE.B (ev_var (i := 1) (m := .old) (x := x.2.1) rfl)) (EvE.res (r' := some (at_315 - (1 : Int))) (ev_arith (ev_var (i := 4) (m := .new) (x := at_315) rfl) ev_int) (bsP (bsP rfl)))) (bsP (bsP rfl))))) (EvB.sc (m1 := .new) (EvE.B (ev_var (i := 5) (m := .old) (x := item_318) rfl)))) (bcP fun _ => (bsP rfl)))) exs_nil) (bcP fun _ => (bsP rfl))))))) (bsP (bcP fun _ => rfl)))) (EvL.B (EvL.res (r' := some (cut x.2.1 (some (at_315 + (1 : Int))) none)) (ev_sl (EvE.B (ev_var (i := 1) (m := .old) (x := x.2.1) rfl)) (eo_atP (EvE.res (r' := some (at_315 + (1 : Int))) (ev_arith (ev_var (i := 4) (m := .new) (x := at_315) rfl) ev_int) (bsP (bsP rfl)))) eo_no) (bsP (bsP (bsP rfl)))))) (bcP fun _ => (bsP rfl))))) rfl) (fun papers_465 =>
 (en_last (en_seq (E := fun (papers_493 : (List Dt)) => [.dat .old (rp x.1), .dat .old (rp x.2.1), .dat .old (rp x.2.2), .own .old (rps papers_493), .dat .new (rp at_315), .dat .old (rp item_318), .un, .un]) (en_append (i := 3) (m := .old) (xs := papers_465) (EvE.cast (fun z : (List (List Int)) => rp z) (EvL.E (EvL.res (r' := ((((atI x.2.1 (at_315 - (1 : Int))).bind fun v503 => some (v503 :: ([] : (List (List Int))))).bind fun l506 => some (item_318 :: l506)).bind fun v509 => lim ((cut x.2.1 none (some (at_315 - (1 : Int)))) ++ v509)).bind fun v517 => lim (v517 ++ (cut x.2.1 (some (at_315 + (1 : Int))) none))) (ev_cat (EvL.B (EvL.res (r' := (((atI x.2.1 (at_315 - (1 : Int))).bind fun v503 => some (v503 :: ([] : (List (List Int))))).bind fun l506 => some (item_318 :: l506)).bind fun v509 => lim ((cut x.2.1 none (some (at_315 - (1 : Int)))) ++ v509)) (ev_cat (EvL.B (EvL.res (r' := some (cut x.2.1 none (some (at_315 - (1 : Int))))) (ev_sl (EvE.B (ev_var (i := 1) (m := .old) (x := x.2.1) rfl)) eo_no (eo_atP (EvE.res (r' := some (at_315 - (1 : Int))) (ev_arith (ev_var (i := 4) (m := .new) (x := at_315) rfl) ev_int) (bsP (bsP rfl))))) (bsP (bsP (bsP rfl))))) (EvL.B (ev_list (m := .old) (EvXs.res (r' := ((atI x.2.1 (at_315 - (1 : Int))).bind fun v503 => some (v503 :: ([] : (List (List Int))))).bind fun l506 => some (item_318 :: l506)) (exs_cons (ev_var (i := 5) (m := .old) (x := item_318) rfl) (EvXs.res (r' := (atI x.2.1 (at_315 - (1 : Int))).bind fun v503 => some (v503 :: ([] : (List (List Int))))) (exs_cons (EvE.res (r' := atI x.2.1 (at_315 - (1 : Int))) (ev_ix (EvE.B (ev_var (i := 1) (m := .old) (x := x.2.1) rfl)) (EvE.res (r' := some (at_315 - (1 : Int))) (ev_arith (ev_var (i := 4) (m := .new) (x := at_315) rfl) ev_int) (bsP (bsP rfl)))) (bsP (bsP rfl))) exs_nil) (bcP fun _ => (bsP rfl)))) (bsP (bcP fun _ => rfl)))))) (bsP (bcP fun _ => rfl)))) (EvL.B (EvL.res (r' := some (cut x.2.1 (some (at_315 + (1 : Int))) none)) (ev_sl (EvE.B (ev_var (i := 1) (m := .old) (x := x.2.1) rfl)) (eo_atP (EvE.res (r' := some (at_315 + (1 : Int))) (ev_arith (ev_var (i := 4) (m := .new) (x := at_315) rfl) ev_int) (bsP (bsP rfl)))) eo_no) (bsP (bsP (bsP rfl)))))) (bcP fun _ => (bsP rfl))))) rfl) (fun papers_493 =>
 (en_end (s := papers_493) (.cons .id (.cons .id (.cons .id (.cons .id (.cons .un (.cons .un (.cons .id (.cons .id .nil))))))))))))))
 (en_end (s := papers_437) (.cons .id (.cons .id (.cons .id (.cons .id (.cons .un (.cons .un (.cons .id (.cons .id .nil))))))))))))))))))))
 (en_end (s := papers_94) (.cons .id (.cons .id (.cons .id (.cons .id (.cons .id (.cons .id (.cons .id (.cons .id .nil)))))))))) (fun s522 =>
 (EvR.frz (m1 := .old) (i := 3) (l := rps s522) (er_ret (ev_var (i := 3) (m := .old) (x := s522) rfl)) rfl))))))) (.cons .id (.cons .id (.cons .id (.cons .id (.cons .id (.cons .id (.cons .id (.cons .id .nil))))))))
theorem ok_run_from (T : Tx K mg) : FnOk P w K mg base CX0 1 T.f_run_from.a T.f_run_from.d ["word", "start"] (sp2 K f_run_from .new) := by
  have sc : FnScope ["word", "start", "end", "behind"] ["word", "start"] (defScope st_run_from) := ⟨rfl, rfl, rfl, by decide +kernel, rfl, by decide +kernel, by decide +kernel⟩
  refine T.f_run_from.F.ok sc (fun vs H Q E h => spA_len h fun _ => rfl) (fun cdv A outer s H vs Q E hr h => ⟨_, (pss_cons (ps_set (i := 2) sc.nd rfl (by first | exact .inl rfl | exact .inr rfl) (pe_op op_add (pv 1) pe_int))
 (pss_cons (ps_set (i := 3) sc.nd rfl (by first | exact .inl rfl | exact .inr rfl) (pv 1))
 (pss_cons (ps_while PassesOwn.never (PW.pt (pw_and (pt_cmpR op_lt (pv 2) (pe_callB call_len_seq (by rfl) T.n_len (by decide +kernel) (pa_cons (pv 0) pa_nil)) (nomark _)) (pw_and1 (pt_cmpR op_le (pe_ix ix_list (pv 0) (pv 3) (fun _ _ => rfl)) (pe_ix ix_list (pv 0) (pv 2) (fun _ _ => rfl)) (nomark _)))))
 (pss_cons (ps_if (pt_cmpR op_lt (pe_ix ix_list (pv 0) (pv 3) (fun _ _ => rfl)) (pe_ix ix_list (pv 0) (pv 2) (fun _ _ => rfl)) (nomark _)) (pss_one (ps_set (i := 3) sc.nd rfl (by first | exact .inl rfl | exact .inr rfl) (pv 1))) (pss_one (ps_set (i := 3) sc.nd rfl (by first | exact .inl rfl | exact .inr rfl) (pe_op op_add (pv 3) pe_int))))
 (pss_one (ps_set (i := 2) sc.nd rfl (by first | exact .inl rfl | exact .inr rfl) (pe_op op_add (pv 2) pe_int)))))
 (pss_one (ps_ret (pe_tup (pa_cons (pv 2) (pa_cons (pe_op op_sub (pv 2) (pv 3)) pa_nil)))))))), of_body (fun x => ?_) (fun _ => Nat.le_of_ble_eq_true rfl) h⟩)
  exact EvR.weakL (er_seq (E := fun (end_3 : Int) => [.dat .old (rp x.1), .dat .new (rp x.2), .dat .new (rp end_3), .un]) (en_set (EvE.res (r' := some (x.2 + (1 : Int))) (ev_arith (ev_var (i := 1) (m := .new) (x := x.2) rfl) ev_int) (bsP (bsP rfl)))) (fun end_3 =>
 (er_seq (E := fun (behind_4 : Int) => [.dat .old (rp x.1), .dat .new (rp x.2), .dat .new (rp end_3), .dat .new (rp behind_4)]) (en_set (ev_var (i := 1) (m := .new) (x := x.2) rfl)) (fun behind_4 =>
 (er_seq (E := fun (s36 : (Int × Int)) => [.dat .old (rp x.1), .dat .new (rp x.2), .dat .new (rp s36.1), .dat .new (rp s36.2)]) (en_while (n := 1000000) (E := fun (s36 : (Int × Int)) => [.dat .old (rp x.1), .dat .new (rp x.2), .dat .new (rp s36.1), .dat .new (rp s36.2)]) (s0 := (end_3, behind_4)) (.cons .id (.cons .id (.cons .id (.cons .id .nil)))) (fun s5 => (EvT.res (r' := if (decide (s5.1 < (x.1.length : Int))) = true then (atI x.1 s5.2).bind fun v15 => (atI x.1 s5.1).bind fun v16 => some (decide (v15 ≤ v16)) else some false) (et_and (et_test (EvE.res (r' := some (decide (s5.1 < (x.1.length : Int)))) (ev_cmpI (ev_var (i := 2) (m := .new) (x := s5.1) rfl) (EvE.res (r' := some (x.1.length : Int)) (ev_len (EvB.sc (m1 := .new) (EvE.B (ev_var (i := 0) (m := .old) (x := x.1) rfl)))) (bsP rfl))) (bsP (bsP rfl)))) (et_test (EvE.res (r' := (atI x.1 s5.2).bind fun v15 => (atI x.1 s5.1).bind fun v16 => some (decide (v15 ≤ v16))) (ev_cmpI (EvE.res (r' := atI x.1 s5.2) (ev_ix (EvB.sc (m1 := .new) (EvE.B (ev_var (i := 0) (m := .old) (x := x.1) rfl))) (ev_var (i := 3) (m := .new) (x := s5.2) rfl)) (bsP (bsP rfl))) (EvE.res (r' := atI x.1 s5.1) (ev_ix (EvB.sc (m1 := .new) (EvE.B (ev_var (i := 0) (m := .old) (x := x.1) rfl))) (ev_var (i := 2) (m := .new) (x := s5.1) rfl)) (bsP (bsP rfl)))) (bcP fun _ => (bcP fun _ => rfl))))) (bsP rfl))) (fun s5 =>
 (en_seq (E := fun (s35 : Int) => [.dat .old (rp x.1), .dat .new (rp x.2), .dat .new (rp s5.1), .dat .new (rp s35)]) (en_if (et_test (EvE.res (r' := (atI x.1 s5.2).bind fun v24 => (atI x.1 s5.1).bind fun v25 => some (decide (v24 < v25))) (ev_cmpI (EvE.res (r' := atI x.1 s5.2) (ev_ix (EvB.sc (m1 := .new) (EvE.B (ev_var (i := 0) (m := .old) (x := x.1) rfl))) (ev_var (i := 3) (m := .new) (x := s5.2) rfl)) (bsP (bsP rfl))) (EvE.res (r' := atI x.1 s5.1) (ev_ix (EvB.sc (m1 := .new) (EvE.B (ev_var (i := 0) (m := .old) (x := x.1) rfl))) (ev_var (i := 2) (m := .new) (x := s5.1) rfl)) (bsP (bsP rfl)))) (bcP fun _ => (bcP fun _ => rfl))))
 (en_last (en_seq (E := fun (behind_26 : Int) => [.dat .old (rp x.1), .dat .new (rp x.2), .dat .new (rp s5.1), .dat .new (rp behind_26)]) (en_set (ev_var (i := 1) (m := .new) (x := x.2) rfl)) (fun behind_26 =>
 (en_end (s := behind_26) (.cons .id (.cons .id (.cons .id (.cons .id .nil))))))))
 (en_last (en_seq (E := fun (behind_29 : Int) => [.dat .old (rp x.1), .dat .new (rp x.2), .dat .new (rp s5.1), .dat .new (rp behind_29)]) (en_set (EvE.res (r' := some (s5.2 + (1 : Int))) (ev_arith (ev_var (i := 3) (m := .new) (x := s5.2) rfl) ev_int) (bsP (bsP rfl)))) (fun behind_29 =>
 (en_end (s := behind_29) (.cons .id (.cons .id (.cons .id (.cons .id .nil))))))))) (fun s31 =>
 (en_last (en_seq (E := fun (end_34 : Int) => [.dat .old (rp x.1), .dat .new (rp x.2), .dat .new (rp end_34), .dat .new (rp s31)]) (en_set (EvE.res (r' := some (s5.1 + (1 : Int))) (ev_arith (ev_var (i := 2) (m := .new) (x := s5.1) rfl) ev_int) (bsP (bsP rfl)))) (fun end_34 =>
 (en_end (s := (end_34, s31)) (.cons .id (.cons .id (.cons .id (.cons .id .nil)))))))))))) (fun s37 =>
 (er_ret (EvE.res (r' := some (s37.1, (s37.1 - s37.2))) (ev_pair (ev_var (i := 2) (m := .new) (x := s37.1) rfl) (EvE.res (r' := some (s37.1 - s37.2)) (ev_arith (ev_var (i := 2) (m := .new) (x := s37.1) rfl) (ev_var (i := 3) (m := .new) (x := s37.2) rfl)) (bsP (bsP rfl)))) (bsP (bsP rfl)))))))))) (.cons .id (.cons .sc (.cons .id (.cons .id .nil))))
theorem ok_heads_of (T : Tx K mg) : FnOk P w K mg base CX0 2 T.f_heads_of.a T.f_heads_of.d ["word"] (sp1 K f_heads_of .new) := by
  have sc : FnScope ["word", "found", "start", "end", "period"] ["word"] (defScope st_heads_of) := ⟨rfl, rfl, rfl, by decide +kernel, rfl, by decide +kernel, by decide +kernel⟩
  refine T.f_heads_of.F.ok sc (fun vs H Q E h => spA_len h fun _ => rfl) (fun cdv A outer s H vs Q E hr h => ⟨_, (pss_cons (ps_set (i := 1) sc.nd rfl (by first | exact .inl rfl | exact .inr rfl) (pe_lst pa_nil))
 (pss_cons (ps_set (i := 2) sc.nd rfl (by first | exact .inl rfl | exact .inr rfl) pe_int)
 (pss_cons (ps_while PassesOwn.never (pt_cmpR op_lt (pv 2) (pe_callB call_len_seq (by rfl) T.n_len (by decide +kernel) (pa_cons (pv 0) pa_nil)) (nomark _))
 (pss_cons (ps_asg (pe_call (ok_run_from T) (hr.mono (by decide)) (by rfl) T.f_run_from.g T.f_run_from.F.kp T.f_run_from.b .nil pass0 (pa_cons (pv 0) (pa_cons (pv 2) pa_nil))) (pg_tup rfl (pgs_cons (pg_name (i := 3) sc.nd rfl (by first | exact .inl rfl | exact .inr rfl)) (pgs_cons (pg_name (i := 4) sc.nd rfl (by first | exact .inl rfl | exact .inr rfl)) pgs_nil))))
 (pss_one (ps_while PassesOwn.never (pt_cmpR op_le (pe_op op_add (pv 2) (pv 4)) (pv 3) (nomark _))
 (pss_cons (ps_expr (pe_bm PySem.F.plainAttrs_list PySem.F.slot_list_append PySem.F.type_list_append mt_append (pv 1) (pa_cons (pe_slice sl_list (pv 0) (po_some (pv 2)) (po_some (pe_op op_add (pv 2) (pv 4)))) pa_nil)))
 (pss_one (ps_set (i := 2) sc.nd rfl (by first | exact .inl rfl | exact .inr rfl) (pe_op op_add (pv 2) (pv 4)))))))))
 (pss_one (ps_ret (pv 1)))))), of_body (fun x => ?_) (fun _ => Nat.le_of_ble_eq_true rfl) h⟩)
  exact EvR.weakL (er_seq (E := fun (found_1 : (List (List Int))) => [.dat .old (rp x), .own .new (rps found_1), .un, .un, .un]) (en_own (ev_list (m := .new) exs_nil)) (fun found_1 =>
 (er_seq (E := fun (start_2 : Int) => [.dat .old (rp x), .own .new (rps found_1), .dat .new (rp start_2), .un, .un]) (en_set ev_int) (fun start_2 =>
 (er_seq (E := fun (s27 : ((List (List Int)) × Int)) => [.dat .old (rp x), .own .new (rps s27.1), .dat .new (rp s27.2), .un, .un]) (en_while (n := 1000000) (E := fun (s27 : ((List (List Int)) × Int)) => [.dat .old (rp x), .own .new (rps s27.1), .dat .new (rp s27.2), .un, .un]) (s0 := (found_1, start_2)) (.cons .id (.cons .id (.cons .id (.cons .id (.cons .id .nil))))) (fun s3 => (et_test (EvE.res (r' := some (decide (s3.2 < (x.length : Int)))) (ev_cmpI (ev_var (i := 2) (m := .new) (x := s3.2) rfl) (EvE.res (r' := some (x.length : Int)) (ev_len (EvB.sc (m1 := .new) (EvE.B (ev_var (i := 0) (m := .old) (x := x) rfl)))) (bsP rfl))) (bsP (bsP rfl))))) (fun s3 =>
 (en_seq (E := fun (p9 : (Int × Int)) => [.dat .old (rp x), .own .new (rps s3.1), .dat .new (rp s3.2), .dat .new (rp p9.1), .dat .new (rp p9.2)]) (en_asg (vs := [3, 4]) (EvE.res (r' := f_run_from x s3.2) (ev_call2 (ev_var (i := 0) (m := .old) (x := x) rfl) (ev_var (i := 2) (m := .new) (x := s3.2) rfl)) (bsP (bsP rfl))) (fun p9 => (eg_pair (eg_nameS (m1 := .new)) (eg_nameS (m1 := .new))))) (fun p9 =>
 (en_last (en_seq (E := fun (s25 : ((List (List Int)) × Int)) => [.dat .old (rp x), .own .new (rps s25.1), .dat .new (rp s25.2), .dat .new (rp p9.1), .dat .new (rp p9.2)]) (en_while (n := 1000000) (E := fun (s25 : ((List (List Int)) × Int)) => [.dat .old (rp x), .own .new (rps s25.1), .dat .new (rp s25.2), .dat .new (rp p9.1), .dat .new (rp p9.2)]) (s0 := (s3.1, s3.2)) (.cons .id (.cons .id (.cons .id (.cons .id (.cons .id .nil))))) (fun s10 => (et_test (EvE.res (r' := some (decide ((s10.2 + p9.2) ≤ p9.1))) (ev_cmpI (EvE.res (r' := some (s10.2 + p9.2)) (ev_arith (ev_var (i := 2) (m := .new) (x := s10.2) rfl) (ev_var (i := 4) (m := .new) (x := p9.2) rfl)) (bsP (bsP rfl))) (ev_var (i := 3) (m := .new) (x := p9.1) rfl)) (bsP (bsP rfl))))) (fun s10 =>
 (en_seq (E := fun (found_15 : (List (List Int))) => [.dat .old (rp x), .own .new (rps found_15), .dat .new (rp s10.2), .dat .new (rp p9.1), .dat .new (rp p9.2)]) (en_append (i := 1) (m := .new) (xs := s10.1) (EvL.E (EvL.res (r' := some (cut x (some s10.2) (some (s10.2 + p9.2)))) (ev_sl (EvB.sc (m1 := .new) (EvE.B (ev_var (i := 0) (m := .old) (x := x) rfl))) (eo_atP (ev_var (i := 2) (m := .new) (x := s10.2) rfl)) (eo_atP (EvE.res (r' := some (s10.2 + p9.2)) (ev_arith (ev_var (i := 2) (m := .new) (x := s10.2) rfl) (ev_var (i := 4) (m := .new) (x := p9.2) rfl)) (bsP (bsP rfl))))) (bsP (bsP (bsP rfl))))) rfl) (fun found_15 =>
 (en_last (en_seq (E := fun (start_24 : Int) => [.dat .old (rp x), .own .new (rps found_15), .dat .new (rp start_24), .dat .new (rp p9.1), .dat .new (rp p9.2)]) (en_set (EvE.res (r' := some (s10.2 + p9.2)) (ev_arith (ev_var (i := 2) (m := .new) (x := s10.2) rfl) (ev_var (i := 4) (m := .new) (x := p9.2) rfl)) (bsP (bsP rfl)))) (fun start_24 =>
 (en_end (s := (found_15, start_24)) (.cons .id (.cons .id (.cons .id (.cons .id (.cons .id .nil))))))))))))) (fun s26 =>
 (en_end (s := (s26.1, s26.2)) (.cons .id (.cons .id (.cons .id (.cons .un (.cons .un .nil))))))))))))) (fun s28 =>
 (EvR.frz (m1 := .new) (i := 1) (l := rps s28.1) (er_ret (ev_var (i := 1) (m := .new) (x := s28.1) rfl)) rfl))))))) (.cons .id (.cons .id (.cons .id (.cons .id (.cons .id .nil)))))
theorem ok_law (T : Tx K mg) : FnOkG P w K mg base 6 T.f_law.a T.f_law.d ["script"] (sp1 K f_law .new) := by
  have sc : FnScope ["script", "draws", "length", "word", "cuts", "right", "heads", "total", "item", "cut"] ["script"] (defScope st_law) := ⟨rfl, rfl, rfl, by decide +kernel, rfl, by decide +kernel, by decide +kernel⟩
  refine L2.DL.okG T.f_law.F sc (fun vs H Q E h => spA_len h fun _ => rfl) (fun cdv A outer s H vs Q E hG hr h => ⟨_, (pss_cons (ps_set (i := 1) sc.nd rfl (by first | exact .inl rfl | exact .inr rfl) (pe_call (ok_law_draws T) (hr.mono (by decide)) (by rfl) T.f_law_draws.g T.f_law_draws.F.kp T.f_law_draws.b .nil pass0 (pa_cons (pv 0) (pa_cons pe_int pa_nil))))
 (pss_cons (ps_set (i := 2) sc.nd rfl (by first | exact .inl rfl | exact .inr rfl) (pe_op op_mod (pe_ix ix_list (pv 1) pe_int (fun _ _ => rfl)) pe_int))
 (pss_cons (ps_if (pt_cmpR op_eq (pe_op op_mod (pe_ix ix_list (pv 1) pe_int (fun _ _ => rfl)) pe_int) pe_int (nomark _)) (pss_one (ps_set (i := 2) sc.nd rfl (by first | exact .inl rfl | exact .inr rfl) (pe_op op_add pe_int (pe_op op_mod (pe_op op_fdivW (pe_ix ix_list (pv 1) pe_int (fun _ _ => rfl)) pe_int) pe_int)))) pss_nil)
 (pss_cons (ps_set (i := 3) sc.nd rfl (by first | exact .inl rfl | exact .inr rfl) (pe_call (ok_law_word T) (hr.mono (by decide)) (by rfl) T.f_law_word.g T.f_law_word.F.kp T.f_law_word.b .nil pass0 (pa_cons (pv 1) (pa_cons pe_int (pa_cons (pv 2) (pa_cons (pe_op op_add pe_int (pe_op op_mod (pe_ix ix_list (pv 1) pe_int (fun _ _ => rfl)) pe_int)) pa_nil))))))
 (pss_cons (ps_set (i := 4) sc.nd rfl (by first | exact .inl rfl | exact .inr rfl) (pe_call (ok_law_cuts T) (hr.mono (by decide)) (by rfl) T.f_law_cuts.g T.f_law_cuts.F.kp T.f_law_cuts.b .nil pass0 (pa_cons (pv 3) pa_nil)))
 (pss_cons (ps_setLc (i := 5) (own := [("cut", 9)]) rfl sc.nd rfl rfl (sw_true rfl rfl rfl (by decide +kernel)) (pi_list (pv 4)) (blkOk_by (N := ["script", "draws", "length", "word", "cuts", "right", "heads", "total", "item", "cut"]) (sc := defScope st_law) (by decide +kernel)) (fun _ _ _ _ _ => (pg_name (i := 9) sc.nd rfl (by first | exact .inl rfl | exact .inr rfl))) (fun _ _ _ _ _ => (pts_one (pt_val (pe_call (ok_law_shows T) (hr.mono (by decide)) (by rfl) T.f_law_shows.g T.f_law_shows.F.kp T.f_law_shows.b .nil pass0 (pa_cons (pv 3) (pa_cons (pv 9) pa_nil)))))) (fun _ _ _ _ _ => (pv 9)))
 (pss_cons (ps_if (PW.pt (pw_or (pt_cmpR op_ne (pe_callB call_len_seq (by rfl) T.n_len (by decide +kernel) (pa_cons (pv 5) pa_nil)) pe_int (nomark _)) (pw_or1 (pt_cmpR (op_neD hr.units) (pe_call (ok_heads_of T) (hr.mono (by decide)) (by rfl) T.f_heads_of.g T.f_heads_of.F.kp T.f_heads_of.b .nil pass0 (pa_cons (pe_callTy call_list_of (by rfl) T.n_list (by decide +kernel) (pa_cons (pv 3) pa_nil)) pa_nil)) (pe_ix ix_list (pv 5) pe_int (fun _ _ => rfl)) (nomark _))))) (pss_one (ps_ret pe_bl)) pss_nil)
 (pss_cons (ps_if (PW.pt (pw_and (pt_cmpR op_le (pe_callB call_len_seq (by rfl) T.n_len (by decide +kernel) (pa_cons (pv 4) pa_nil)) pe_int (nomark _)) (pw_and1 (pt_not (pt_val (pe_callG (ok_law_judged T) hG (hr.mono (by decide)) (by rfl) T.f_law_judged.g T.f_law_judged.F.kp T.f_law_judged.b .nil pass0 (pa_cons (pv 3) (pa_cons (pv 4) pa_nil)))))))) (pss_one (ps_ret pe_bl)) pss_nil)
 (pss_cons (ps_if (pt_not (pt_val (pe_callG (ok_law_judged T) hG (hr.mono (by decide)) (by rfl) T.f_law_judged.g T.f_law_judged.F.kp T.f_law_judged.b .nil pass0 (pa_cons (pv 3) (pa_cons (pe_call (ok_law_papers T) (hr.mono (by decide)) (by rfl) T.f_law_papers.g T.f_law_papers.F.kp T.f_law_papers.b .nil pass0 (pa_cons (pv 3) (pa_cons (pe_ix ix_list (pv 5) pe_int (fun _ _ => rfl)) (pa_cons (pv 1) pa_nil)))) pa_nil))))) (pss_one (ps_ret pe_bl)) pss_nil)
 (pss_cons (ps_set (i := 6) sc.nd rfl (by first | exact .inl rfl | exact .inr rfl) (pe_call (ok_law_longer T) (hr.mono (by decide)) (by rfl) T.f_law_longer.g T.f_law_longer.F.kp T.f_law_longer.b .nil pass0 (pa_cons (pv 1) pa_nil)))
 (pss_cons (ps_set (i := 7) sc.nd rfl (by first | exact .inl rfl | exact .inr rfl) (pe_lst pa_nil))
 (pss_cons (ps_for PassesOwn.never rfl (pi_list (pv 6)) (pg_name (i := 8) sc.nd rfl (by first | exact .inl rfl | exact .inr rfl))
 (pss_one (ps_set (i := 7) sc.nd rfl (by first | exact .inl rfl | exact .inr rfl) (pe_op op_cat (pv 7) (pv 8)))))
 (pss_cons (ps_if (PW.pt (pw_or (pt_cmpR (op_neD hr.units) (pe_call (ok_heads_of T) (hr.mono (by decide)) (by rfl) T.f_heads_of.g T.f_heads_of.F.kp T.f_heads_of.b .nil pass0 (pa_cons (pe_callTy call_list_of (by rfl) T.n_list (by decide +kernel) (pa_cons (pv 7) pa_nil)) pa_nil)) (pv 6) (nomark _)) (pw_or1 (pt_not (pt_val (pe_callG (ok_law_judged T) hG (hr.mono (by decide)) (by rfl) T.f_law_judged.g T.f_law_judged.F.kp T.f_law_judged.b .nil pass0 (pa_cons (pv 7) (pa_cons (pe_call (ok_law_papers T) (hr.mono (by decide)) (by rfl) T.f_law_papers.g T.f_law_papers.F.kp T.f_law_papers.b .nil pass0 (pa_cons (pv 7) (pa_cons (pv 6) (pa_cons (pv 1) pa_nil)))) pa_nil)))))))) (pss_one (ps_ret pe_bl)) pss_nil)
 (pss_one (ps_ret (pe_and (pe_callG (ok_law_judged T) hG (hr.mono (by decide)) (by rfl) T.f_law_judged.g T.f_law_judged.F.kp T.f_law_judged.b .nil pass0 (pa_cons (pe_lst pa_nil) (pa_cons (pe_lst (pa_cons (pe_lst pa_nil) (pa_cons (pe_lst (pa_cons (pe_lst pa_nil) pa_nil)) (pa_cons pe_non (pa_cons (pe_lst (pa_cons (pe_lst (pa_cons pe_int pa_nil)) pa_nil)) (pa_cons (pe_tup pa_nil) (pa_cons pe_str pa_nil))))))) pa_nil))) (pe_one (pe_cmpR (op_eqD hr.units) (pe_call (ok_heads_of T) (hr.mono (by decide)) (by rfl) T.f_heads_of.g T.f_heads_of.F.kp T.f_heads_of.b .nil pass0 (pa_cons (pe_callTy call_list_of (by rfl) T.n_list (by decide +kernel) (pa_cons (pv 3) pa_nil)) pa_nil)) (pe_ix ix_list (pv 5) pe_int (fun _ _ => rfl)) (nomark _))))))))))))))))))), of_body (fun x => ?_) (fun _ => Nat.le_of_ble_eq_true rfl) h⟩)
  exact EvR.weakL (er_seq (E := fun (draws_3 : (List Int)) => [.dat .old (rp x), .dat .new (rp draws_3), .un, .un, .un, .un, .un, .un, .un, .un]) (en_set (EvE.res (r' := f_law_draws x (60 : Int)) (ev_call2 (ev_var (i := 0) (m := .old) (x := x) rfl) ev_int) (bsP (bsP rfl)))) (fun draws_3 =>
 (er_seq (E := fun (length_8 : Int) => [.dat .old (rp x), .dat .new (rp draws_3), .dat .new (rp length_8), .un, .un, .un, .un, .un, .un, .un]) (en_set (EvE.res (r' := (atI draws_3 (0 : Int)).bind fun v7 => some (v7 % 8)) (ev_modC (EvE.res (r' := atI draws_3 (0 : Int)) (ev_ix (EvE.B (ev_var (i := 1) (m := .new) (x := draws_3) rfl)) ev_int) (bsP (bsP rfl)))) (bcP fun _ => rfl))) (fun length_8 =>
 (er_seq (E := fun (s123 : Int) => [.dat .old (rp x), .dat .new (rp draws_3), .dat .new (rp s123), .un, .un, .un, .un, .un, .un, .un]) (en_if (et_test (EvE.res (r' := ((atI draws_3 (2 : Int)).bind fun v12 => some (v12 % 8)).bind fun v15 => some (decide (v15 = (5 : Int)))) (ev_eqI (EvE.res (r' := (atI draws_3 (2 : Int)).bind fun v12 => some (v12 % 8)) (ev_modC (EvE.res (r' := atI draws_3 (2 : Int)) (ev_ix (EvE.B (ev_var (i := 1) (m := .new) (x := draws_3) rfl)) ev_int) (bsP (bsP rfl)))) (bcP fun _ => rfl)) ev_int) (bcP fun _ => (bsP rfl))))
 (en_last (en_seq (E := fun (length_25 : Int) => [.dat .old (rp x), .dat .new (rp draws_3), .dat .new (rp length_25), .un, .un, .un, .un, .un, .un, .un]) (en_set (EvE.res (r' := (((atI draws_3 (0 : Int)).bind fun v19 => some (v19 / 8)).bind fun v21 => some (v21 % 2)).bind fun v24 => some ((8 : Int) + v24)) (ev_arith ev_int (EvE.res (r' := ((atI draws_3 (0 : Int)).bind fun v19 => some (v19 / 8)).bind fun v21 => some (v21 % 2)) (ev_modC (EvE.res (r' := (atI draws_3 (0 : Int)).bind fun v19 => some (v19 / 8)) (ev_divC (EvE.res (r' := atI draws_3 (0 : Int)) (ev_ix (EvE.B (ev_var (i := 1) (m := .new) (x := draws_3) rfl)) ev_int) (bsP (bsP rfl)))) (bcP fun _ => rfl))) (bcP fun _ => rfl))) (bsP (bcP fun _ => rfl)))) (fun length_25 =>
 (en_end (s := length_25) (.cons .id (.cons .id (.cons .id (.cons .id (.cons .id (.cons .id (.cons .id (.cons .id (.cons .id (.cons .id .nil))))))))))))))
 (en_end (s := length_8) (.cons .id (.cons .id (.cons .id (.cons .id (.cons .id (.cons .id (.cons .id (.cons .id (.cons .id (.cons .id .nil)))))))))))) (fun s27 =>
 (er_seq (E := fun (word_40 : (List Int)) => [.dat .old (rp x), .dat .new (rp draws_3), .dat .new (rp s27), .dat .new (rp word_40), .un, .un, .un, .un, .un, .un]) (en_set (EvE.res (r' := (((atI draws_3 (5 : Int)).bind fun v31 => some (v31 % 4)).bind fun v34 => some ((1 : Int) + v34)).bind fun v39 => f_law_word draws_3 (8 : Int) s27 v39) (ev_call4 (ev_var (i := 1) (m := .new) (x := draws_3) rfl) ev_int (ev_var (i := 2) (m := .new) (x := s27) rfl) (EvE.res (r' := ((atI draws_3 (5 : Int)).bind fun v31 => some (v31 % 4)).bind fun v34 => some ((1 : Int) + v34)) (ev_arith ev_int (EvE.res (r' := (atI draws_3 (5 : Int)).bind fun v31 => some (v31 % 4)) (ev_modC (EvE.res (r' := atI draws_3 (5 : Int)) (ev_ix (EvE.B (ev_var (i := 1) (m := .new) (x := draws_3) rfl)) ev_int) (bsP (bsP rfl)))) (bcP fun _ => rfl))) (bsP (bcP fun _ => rfl)))) (bsP (bsP (bsP (bcP fun _ => rfl)))))) (fun word_40 =>
 (er_seq (E := fun (cuts_41 : (List (List (List Int)))) => [.dat .old (rp x), .dat .new (rp draws_3), .dat .new (rp s27), .dat .new (rp word_40), .dat .new (rp cuts_41), .un, .un, .un, .un, .un]) (en_set (EvE.res (r' := f_law_cuts word_40) (ev_call1 (ev_var (i := 3) (m := .new) (x := word_40) rfl)) (bsP rfl))) (fun cuts_41 =>
 (er_seq (E := fun (right_46 : (List (List (List Int)))) => [.dat .old (rp x), .dat .new (rp draws_3), .dat .new (rp s27), .dat .new (rp word_40), .dat .new (rp cuts_41), .dat .new (rp right_46), .un, .un, .un, .un]) (en_set (EvL.E (EvL.res (r' := (compM (fun x42 => f_law_shows word_40 (rp x42)) (fun x42 => some x42) cuts_41).bind lim) (ev_lc (vs := [9]) (Eb := fun (x42 : (List (List Int))) => [.dat .old (rp x), .dat .new (rp draws_3), .dat .new (rp s27), .dat .new (rp word_40), .dat .new (rp cuts_41), .un, .un, .un, .un, .dat .new (rp x42)]) (ei_list (ev_var (i := 4) (m := .new) (x := cuts_41) rfl)) (fun x42 => eg_name) (fun x42 => (et_val (EvE.res (r' := f_law_shows word_40 (rp x42)) (ev_call2 (ev_var (i := 3) (m := .new) (x := word_40) rfl) (EvE.res (r' := some (rp x42)) (EvE.cast (fun z : (List (List Int)) => rp z) (ev_var (i := 9) (m := .new) (x := x42) rfl)) rfl)) (bsP (bsP rfl))))) (fun x42 => (ev_var (i := 9) (m := .new) (x := x42) rfl))) (bsP rfl)))) (fun right_46 =>
 (er_ifS (er_if (EvT.res (r' := if (decide ((right_46.length : Int) ≠ (1 : Int))) = true then some true else (f_heads_of word_40).bind fun v54 => (atI right_46 (0 : Int)).bind fun v55 => (eqD (rp v54) (rp v55)).map fun b => !b) (et_or (et_test (EvE.res (r' := some (decide ((right_46.length : Int) ≠ (1 : Int)))) (ev_neI (EvE.res (r' := some (right_46.length : Int)) (ev_len (EvE.B (ev_var (i := 5) (m := .new) (x := right_46) rfl))) (bsP rfl)) ev_int) (bsP (bsP rfl)))) (et_test (EvE.res (r' := (f_heads_of word_40).bind fun v54 => (atI right_46 (0 : Int)).bind fun v55 => (eqD (rp v54) (rp v55)).map fun b => !b) (ev_neL (EvE.B (EvE.res (r' := f_heads_of word_40) (ev_call1 (EvL.E (ev_listOf (EvE.B (ev_var (i := 3) (m := .new) (x := word_40) rfl))))) (bsP rfl))) (EvE.B (EvE.res (r' := atI right_46 (0 : Int)) (ev_ix (EvE.B (ev_var (i := 5) (m := .new) (x := right_46) rfl)) ev_int) (bsP (bsP rfl))))) (bcP fun _ => (bcP fun _ => rfl))))) (bsP rfl))
 (er_cut (er_ret ev_bl))
 (er_nx (er_ifS (er_if (EvT.res (r' := if (decide ((cuts_41.length : Int) ≤ (128 : Int))) = true then (f_law_judged word_40 (cuts_41.map fun y => (rp y : Dt))).map fun b => !b else some false) (et_and (et_test (EvE.res (r' := some (decide ((cuts_41.length : Int) ≤ (128 : Int)))) (ev_cmpI (EvE.res (r' := some (cuts_41.length : Int)) (ev_len (EvE.B (ev_var (i := 4) (m := .new) (x := cuts_41) rfl))) (bsP rfl)) ev_int) (bsP (bsP rfl)))) (et_not (et_val (EvE.res (r' := f_law_judged word_40 (cuts_41.map fun y => (rp y : Dt))) (ev_call2 (ev_var (i := 3) (m := .new) (x := word_40) rfl) (EvE.res (r' := some (cuts_41.map fun y => (rp y : Dt))) (EvE.cast (fun z : (List (List (List Int))) => (z.map fun y => (rp y : Dt))) (ev_var (i := 4) (m := .new) (x := cuts_41) rfl) rp_lst) rfl)) (bsP (bsP rfl)))))) (bsP rfl))
 (er_cut (er_ret ev_bl))
 (er_nx (er_ifS (er_if (et_not (et_val (EvE.res (r' := ((atI right_46 (0 : Int)).bind fun v68 => f_law_papers word_40 v68 draws_3).bind fun v71 => f_law_judged word_40 v71) (ev_call2 (ev_var (i := 3) (m := .new) (x := word_40) rfl) (EvE.res (r' := (atI right_46 (0 : Int)).bind fun v68 => f_law_papers word_40 v68 draws_3) (ev_call3 (ev_var (i := 3) (m := .new) (x := word_40) rfl) (EvE.res (r' := atI right_46 (0 : Int)) (ev_ix (EvE.B (ev_var (i := 5) (m := .new) (x := right_46) rfl)) ev_int) (bsP (bsP rfl))) (ev_var (i := 1) (m := .new) (x := draws_3) rfl)) (bsP (bcP fun _ => (bsP rfl))))) (bsP (bcP fun _ => rfl)))))
 (er_cut (er_ret ev_bl))
 (er_nx (er_seq (E := fun (heads_72 : (List (List Int))) => [.dat .old (rp x), .dat .new (rp draws_3), .dat .new (rp s27), .dat .new (rp word_40), .dat .new (rp cuts_41), .dat .new (rp right_46), .dat .new (rp heads_72), .un, .un, .un]) (en_set (EvE.res (r' := f_law_longer draws_3) (ev_call1 (ev_var (i := 1) (m := .new) (x := draws_3) rfl)) (bsP rfl))) (fun heads_72 =>
 (er_seq (E := fun (total_73 : (List Int)) => [.dat .old (rp x), .dat .new (rp draws_3), .dat .new (rp s27), .dat .new (rp word_40), .dat .new (rp cuts_41), .dat .new (rp right_46), .dat .new (rp heads_72), .dat .new (rp total_73), .un, .un]) (en_set (EvL.E (ev_list (m := .new) exs_nil))) (fun total_73 =>
 (er_seq (E := fun (s79 : (List Int)) => [.dat .old (rp x), .dat .new (rp draws_3), .dat .new (rp s27), .dat .new (rp word_40), .dat .new (rp cuts_41), .dat .new (rp right_46), .dat .new (rp heads_72), .dat .new (rp s79), .un, .un]) (en_forP (E := fun (s79 : (List Int)) => [.dat .old (rp x), .dat .new (rp draws_3), .dat .new (rp s27), .dat .new (rp word_40), .dat .new (rp cuts_41), .dat .new (rp right_46), .dat .new (rp heads_72), .dat .new (rp s79), .un, .un]) (s0 := total_73) (Eb := fun (s74 : (List Int)) (item_75 : (List Int)) => [.dat .old (rp x), .dat .new (rp draws_3), .dat .new (rp s27), .dat .new (rp word_40), .dat .new (rp cuts_41), .dat .new (rp right_46), .dat .new (rp heads_72), .dat .new (rp s74), .dat .new (rp item_75), .un]) (vs := [8]) (ei_list (ev_var (i := 6) (m := .new) (x := heads_72) rfl)) (.cons .id (.cons .id (.cons .id (.cons .id (.cons .id (.cons .id (.cons .id (.cons .id (.cons .id (.cons .id .nil)))))))))) (fun s74 item_75 => eg_name) (fun s74 item_75 =>
 (en_last (en_seq (E := fun (total_78 : (List Int)) => [.dat .old (rp x), .dat .new (rp draws_3), .dat .new (rp s27), .dat .new (rp word_40), .dat .new (rp cuts_41), .dat .new (rp right_46), .dat .new (rp heads_72), .dat .new (rp total_78), .dat .new (rp item_75), .un]) (en_set (EvL.E (EvL.res (r' := lim (s74 ++ item_75)) (ev_cat (EvE.B (ev_var (i := 7) (m := .new) (x := s74) rfl)) (EvE.B (ev_var (i := 8) (m := .new) (x := item_75) rfl))) (bsP (bsP rfl))))) (fun total_78 =>
 (en_end (s := total_78) (.cons .id (.cons .id (.cons .id (.cons .id (.cons .id (.cons .id (.cons .id (.cons .id (.cons .un (.cons .id .nil)))))))))))))))) (fun s81 =>
 (er_ifS (er_if (et_or (et_test (EvE.res (r' := (f_heads_of s81).bind fun v84 => (eqD (rp v84) (rp heads_72)).map fun b => !b) (ev_neL (EvE.B (EvE.res (r' := f_heads_of s81) (ev_call1 (EvL.E (ev_listOf (EvE.B (ev_var (i := 7) (m := .new) (x := s81) rfl))))) (bsP rfl))) (EvE.B (ev_var (i := 6) (m := .new) (x := heads_72) rfl))) (bcP fun _ => (bsP rfl)))) (et_not (et_val (EvE.res (r' := (f_law_papers s81 heads_72 draws_3).bind fun v90 => f_law_judged s81 v90) (ev_call2 (ev_var (i := 7) (m := .new) (x := s81) rfl) (EvE.res (r' := f_law_papers s81 heads_72 draws_3) (ev_call3 (ev_var (i := 7) (m := .new) (x := s81) rfl) (ev_var (i := 6) (m := .new) (x := heads_72) rfl) (ev_var (i := 1) (m := .new) (x := draws_3) rfl)) (bsP (bsP (bsP rfl))))) (bsP (bcP fun _ => rfl))))))
 (er_cut (er_ret ev_bl))
 (er_nx (er_ret (ev_andV (EvE.res (r' := f_law_judged ([] : (List Int)) ([(rp ([] : (List Int))), (rp ([([] : (List Int))] : (List (List Int)))), Dt.non, (rp ([([(0 : Int)] : (List Int))] : (List (List Int)))), (rp (TupL.mk ([] : (List Int)))), (rp (Str.ofString ""))] : (List Dt))) (ev_call2 (EvL.E (ev_list (m := .new) exs_nil)) (EvL.E (ev_list (m := .new) (EvXs.res (r' := some ([(rp ([] : (List Int))), (rp ([([] : (List Int))] : (List (List Int)))), Dt.non, (rp ([([(0 : Int)] : (List Int))] : (List (List Int)))), (rp (TupL.mk ([] : (List Int)))), (rp (Str.ofString ""))] : (List Dt))) (exs_cons (EvE.res (r' := some (rp ([] : (List Int)))) (EvE.cast (fun z : (List Int) => rp z) (EvL.E (ev_list (m := .new) exs_nil))) rfl) (EvXs.res (r' := some ([(rp ([([] : (List Int))] : (List (List Int)))), Dt.non, (rp ([([(0 : Int)] : (List Int))] : (List (List Int)))), (rp (TupL.mk ([] : (List Int)))), (rp (Str.ofString ""))] : (List Dt))) (exs_cons (EvE.res (r' := some (rp ([([] : (List Int))] : (List (List Int))))) (EvE.cast (fun z : (List (List Int)) => rp z) (EvL.E (ev_list (m := .new) (EvXs.res (r' := some ([([] : (List Int))] : (List (List Int)))) (exs_cons (EvL.E (ev_list (m := .new) exs_nil)) exs_nil) (bsP (bsP rfl)))))) rfl) (EvXs.res (r' := some ([Dt.non, (rp ([([(0 : Int)] : (List Int))] : (List (List Int)))), (rp (TupL.mk ([] : (List Int)))), (rp (Str.ofString ""))] : (List Dt))) (exs_cons ev_nonD (EvXs.res (r' := some ([(rp ([([(0 : Int)] : (List Int))] : (List (List Int)))), (rp (TupL.mk ([] : (List Int)))), (rp (Str.ofString ""))] : (List Dt))) (exs_cons (EvE.res (r' := some (rp ([([(0 : Int)] : (List Int))] : (List (List Int))))) (EvE.cast (fun z : (List (List Int)) => rp z) (EvL.E (ev_list (m := .new) (EvXs.res (r' := some ([([(0 : Int)] : (List Int))] : (List (List Int)))) (exs_cons (EvL.E (ev_list (m := .new) (EvXs.res (r' := some ([(0 : Int)] : (List Int))) (exs_cons ev_int exs_nil) (bsP (bsP rfl))))) exs_nil) (bsP (bsP rfl)))))) rfl) (EvXs.res (r' := some ([(rp (TupL.mk ([] : (List Int)))), (rp (Str.ofString ""))] : (List Dt))) (exs_cons (EvE.res (r' := some (rp (TupL.mk ([] : (List Int))))) (EvE.cast (fun z : (TupL Int) => rp z) (EvE.res (r' := some (TupL.mk ([] : (List Int)))) (ev_tupX (m := .new) exs_nil) rfl)) rfl) (EvXs.res (r' := some ([(rp (Str.ofString ""))] : (List Dt))) (exs_cons (EvE.res (r' := some (rp (Str.ofString ""))) (EvE.cast (fun z : Str => rp z) ev_str) rfl) exs_nil) (bsP (bsP rfl)))) (bsP (bsP rfl)))) (bsP (bsP rfl)))) (bsP (bsP rfl)))) (bsP (bsP rfl)))) (bsP (bsP rfl)))))) (bsP (bsP rfl))) (EvE.res (r' := (f_heads_of word_40).bind fun v116 => (atI right_46 (0 : Int)).bind fun v117 => eqD (rp v116) (rp v117)) (ev_eqL (EvE.B (EvE.res (r' := f_heads_of word_40) (ev_call1 (EvL.E (ev_listOf (EvE.B (ev_var (i := 3) (m := .new) (x := word_40) rfl))))) (bsP rfl))) (EvE.B (EvE.res (r' := atI right_46 (0 : Int)) (ev_ix (EvE.B (ev_var (i := 5) (m := .new) (x := right_46) rfl)) ev_int) (bsP (bsP rfl))))) (bcP fun _ => (bcP fun _ => rfl))))))))))))))))))))))))))))))))))) (.cons .id (.cons .id (.cons .id (.cons .id (.cons .id (.cons .id (.cons .id (.cons .id (.cons .id (.cons .id .nil))))))))))
end
theorem law_sp {K : PySem.W.Frag} {H : Hp} {a : Addr} {ns : List Int} (hp : f_law ⟨ns⟩ = some true) (hS : SqL K H a (ns.map V.int)) : sp1 K f_law .new [.ref a] H (fun v _ => v = .bl true) fun _ _ _ => False := by
  refine ⟨H, ⟨ns⟩, true, .refl _, .cons ?_ .nil, hp, fun u C' H' _ r => r.bl_⟩
  simp only [rp, Rp.rp, Rep]
  exact ⟨a, rfl, hS⟩
theorem law_fn {P : Program} {w : World} {K : PySem.W.Frag} {mg : Str → Option Value} {fa : Addr} {T : Tx K mg} (h : mg "law" = some (.ref fa)) :
    ∃ fd : FuncData, (∀ (s : Shared) (u : Value), BindsTo s fd ⟨[u], []⟩ [("script", u)]) ∧ ∀ base : Heap, K.In base → base.Ns mainGlobals mg → FnOkG P w K mg base 6 fa fd ["script"] (sp1 K f_law .new) := by
  have e := h.symm.trans T.f_law.g
  cases e
  exact ⟨T.f_law.d, fun s u => T.f_law.b1 s u rfl, fun base _ _ => ok_law T⟩
/-! ### the end -/
end L2.DL.K77
open PySem PySem.Spec PyProof.Rows L2 L2.DL L2.DL.K77
theorem PySem.Challenge.cw_daysround_k77_whole_the_only_list_of_hea_holds : PySem.Challenge.rw_daysround_k77_whole_the_only_list_of_hea.Holds := by
  w_on; o_law; k_head; (case hw => w_witness2)
  k_fill
  refine walk_ofG (l := PySem.Challenge.rw_daysround_k77_whole_the_only_list_of_hea) (n := 63) (k := 6) (x := "script") (sp := fun w => sp1 _ f_law .new) rfl (by decide) rfl ⟨rfl, by decide, by decide⟩ (fun w h Y => PySem.W.kIn_of Y) ?F (fun w H a ns hl _ hS => law_sp (plain_law ns hl) hS)
  case F =>
    intro w mg fa h KX G hmg
    refine' law_fn (T := {
      f_law_cuts := at_mk KX G ?a0 ?l0 ?c0 ?k0 (fun _ _ _ _ _ _ us hl => match us, hl with | [_], _ => rfl),
      f_law_draws := at_mk KX G ?a1 ?l1 ?c1 ?k1 (fun _ _ _ _ _ _ us hl => match us, hl with | [_, _], _ => rfl),
      f_law_turned := at_mk KX G ?a2 ?l2 ?c2 ?k2 (fun _ _ _ _ _ _ us hl => match us, hl with | [_, _], _ => rfl),
      f_law_is_head := at_mk KX G ?a3 ?l3 ?c3 ?k3 (fun _ _ _ _ _ _ us hl => match us, hl with | [_], _ => rfl),
      f_law_is_number := at_mk KX G ?a4 ?l4 ?c4 ?k4 (fun _ _ _ _ _ _ us hl => match us, hl with | [_], _ => rfl),
      f_law_is_numbers := at_mk KX G ?a5 ?l5 ?c5 ?k5 (fun _ _ _ _ _ _ us hl => match us, hl with | [_], _ => rfl),
      f_law_shows := at_mk KX G ?a6 ?l6 ?c6 ?k6 (fun _ _ _ _ _ _ us hl => match us, hl with | [_, _], _ => rfl),
      f_turned := at_mk KX G ?a7 ?l7 ?c7 ?k7 (fun _ _ _ _ _ _ us hl => match us, hl with | [_, _], _ => rfl),
      f_is_head := at_mk KX G ?a8 ?l8 ?c8 ?k8 (fun _ _ _ _ _ _ us hl => match us, hl with | [_], _ => rfl),
      f_is_number := at_mk KX G ?a9 ?l9 ?c9 ?k9 (fun _ _ _ _ _ _ us hl => match us, hl with | [_], _ => rfl),
      f_is_numbers := at_mk KX G ?a10 ?l10 ?c10 ?k10 (fun _ _ _ _ _ _ us hl => match us, hl with | [_], _ => rfl),
      f_is_word := at_mk KX G ?a11 ?l11 ?c11 ?k11 (fun _ _ _ _ _ _ us hl => match us, hl with | [_], _ => rfl),
      f_joined_words := at_mk KX G ?a12 ?l12 ?c12 ?k12 (fun _ _ _ _ _ _ us hl => match us, hl with | [_], _ => rfl),
      f_shows_heads := at_mk KX G ?a13 ?l13 ?c13 ?k13 (fun _ _ _ _ _ _ us hl => match us, hl with | [_, _], _ => rfl),
      f_law_judged := at_mk KX G ?a14 ?l14 ?c14 ?k14 (fun _ _ _ _ _ _ us hl => match us, hl with | [_, _], _ => rfl),
      f_law_cell := at_mk KX G ?a15 ?l15 ?c15 ?k15 (fun _ _ _ _ _ _ us hl => match us, hl with | [_, _], _ => rfl),
      f_law_word := at_mk KX G ?a16 ?l16 ?c16 ?k16 (fun _ _ _ _ _ _ us hl => match us, hl with | [_, _, _, _], _ => rfl),
      f_law_longer := at_mk KX G ?a17 ?l17 ?c17 ?k17 (fun _ _ _ _ _ _ us hl => match us, hl with | [_], _ => rfl),
      f_law_with := at_mk KX G ?a18 ?l18 ?c18 ?k18 (fun _ _ _ _ _ _ us hl => match us, hl with | [_, _, _], _ => rfl),
      f_law_papers := at_mk KX G ?a19 ?l19 ?c19 ?k19 (fun _ _ _ _ _ _ us hl => match us, hl with | [_, _, _], _ => rfl),
      f_run_from := at_mk KX G ?a20 ?l20 ?c20 ?k20 (fun _ _ _ _ _ _ us hl => match us, hl with | [_, _], _ => rfl),
      f_heads_of := at_mk KX G ?a21 ?l21 ?c21 ?k21 (fun _ _ _ _ _ _ us hl => match us, hl with | [_], _ => rfl),
      f_law := at_mk KX G ?a22 ?l22 ?c22 ?k22 (fun _ _ _ _ _ _ us hl => match us, hl with | [_], _ => rfl),
      n_abs := PySem.W.mg_none_of KX G ?z0,
      n_bool := PySem.W.mg_none_of KX G ?z1,
      n_int := PySem.W.mg_none_of KX G ?z2,
      n_isinstance := PySem.W.mg_none_of KX G ?z3,
      n_len := PySem.W.mg_none_of KX G ?z4,
      n_list := PySem.W.mg_none_of KX G ?z5,
      n_min := PySem.W.mg_none_of KX G ?z6,
      n_range := PySem.W.mg_none_of KX G ?z7,
      n_repr := PySem.W.mg_none_of KX G ?z8,
      n_sorted := PySem.W.mg_none_of KX G ?z9,
      n_str := PySem.W.mg_none_of KX G ?z10,
      n_tuple := PySem.W.mg_none_of KX G ?z11 }) hmg
    (case a0 => k_is); (case l0 => k_is); (case c0 => k_is); (case k0 => k_is); (case a1 => k_is); (case l1 => k_is); (case c1 => k_is); (case k1 => k_is); (case a2 => k_is); (case l2 => k_is); (case c2 => k_is); (case k2 => k_is); (case a3 => k_is); (case l3 => k_is); (case c3 => k_is); (case k3 => k_is); (case a4 => k_is); (case l4 => k_is); (case c4 => k_is); (case k4 => k_is); (case a5 => k_is); (case l5 => k_is); (case c5 => k_is); (case k5 => k_is); (case a6 => k_is); (case l6 => k_is); (case c6 => k_is); (case k6 => k_is); (case a7 => k_is); (case l7 => k_is); (case c7 => k_is); (case k7 => k_is); (case a8 => k_is); (case l8 => k_is); (case c8 => k_is); (case k8 => k_is); (case a9 => k_is); (case l9 => k_is); (case c9 => k_is); (case k9 => k_is); (case a10 => k_is); (case l10 => k_is); (case c10 => k_is); (case k10 => k_is); (case a11 => k_is); (case l11 => k_is); (case c11 => k_is); (case k11 => k_is); (case a12 => k_is); (case l12 => k_is); (case c12 => k_is); (case k12 => k_is); (case a13 => k_is); (case l13 => k_is); (case c13 => k_is); (case k13 => k_is); (case a14 => k_is); (case l14 => k_is); (case c14 => k_is); (case k14 => k_is); (case a15 => k_is); (case l15 => k_is); (case c15 => k_is); (case k15 => k_is); (case a16 => k_is); (case l16 => k_is); (case c16 => k_is); (case k16 => k_is); (case a17 => k_is); (case l17 => k_is); (case c17 => k_is); (case k17 => k_is); (case a18 => k_is); (case l18 => k_is); (case c18 => k_is); (case k18 => k_is); (case a19 => k_is); (case l19 => k_is); (case c19 => k_is); (case k19 => k_is); (case a20 => k_is); (case l20 => k_is); (case c20 => k_is); (case k20 => k_is); (case a21 => k_is); (case l21 => k_is); (case c21 => k_is); (case k21 => k_is); (case a22 => k_is); (case l22 => k_is); (case c22 => k_is); (case k22 => k_is); (case z0 => k_is); (case z1 => k_is); (case z2 => k_is); (case z3 => k_is); (case z4 => k_is); (case z5 => k_is); (case z6 => k_is); (case z7 => k_is); (case z8 => k_is); (case z9 => k_is); (case z10 => k_is); (case z11 => k_is)
