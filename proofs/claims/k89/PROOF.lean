import PyProof.Rows.All
import Wide.All
import OpenK.AllK
import Wide.FinOn
import HandS.ForMost
import HandS.Wide
import HandS.Flow
import HandS.IsInst
import HandS.TupLe
import HandS.Style
import HandS.SortInts
import KE.DataMinMax
import KE.SortData
import HandS.Deep
import HandS.SetFor
import HandS.Conv
import HandS.Rev
import HandS.Zip
import PyProof.Rows.SetFrom
import PyProof.ReprRoads
import HandS.RaiseMore
import HandS.Ends
import KE.KRevSl
import HandS.Iter
import HandS.ReplaceLit
import PyProof.StrOps2
import KE.KSuper
import KE.KExcSuper
import HandS.Base
import HandS.Call
import HandS.Exc
import KE.KIsAll
import KE.KTryMore
import HandS.ExcField
import HandS.ExcIs
import HandS.CallSlots
import HandS.TryOnly
import HandS.WordsExc
import KE.RegKIsAll
import KE.RegKSuper
import PyProof.ReprLen
import PySem.Challenge.RW_daysround_k89_texts_of_pieces_and_round
set_option Elab.async false
set_option linter.all false
set_option maxRecDepth 100000
set_option maxHeartbeats 4000000
set_option autoImplicit false
/-! DL1: data over the hand layer: values as trees, ownership, readings by data. -/
namespace L2.DL
open PySem PySem.Spec PyProof.Rows

inductive Dt where
  | non | bl (b : Bool) | int (i : Int) | str (s : Str) | lst (l : List Dt) | tup (l : List Dt) | frz (l : List Int)

section
variable (K : PySem.W.Frag)
mutual
def Rep (H : Hp) : Dt → V → Prop
  | .non, v => v = .non
  | .bl b, v => v = .bl b
  | .int i, v => v = .int i
  | .str s, v => v = .str s
  | .lst l, v => ∃ a vs, v = .ref a ∧ H a = some (.lst vs) ∧ RepL H l vs
  | .tup l, v => ∃ a vs, v = .ref a ∧ H a = some (.tup vs) ∧ RepL H l vs
  | .frz l, v => ∃ a, v = .ref a ∧ SqL K H a (l.map V.int)
def RepL (H : Hp) : List Dt → List V → Prop
  | [], vs => vs = []
  | d :: ds, vs => ∃ v r, vs = v :: r ∧ Rep H d v ∧ RepL H ds r
end
end
section
variable {K : PySem.W.Frag} {H H' : Hp}
mutual
theorem Rep.mono (h : Same H H') : ∀ (d : Dt) (v : V), Rep K H d v → Rep K H' d v
  | .non, v, r => by simp only [Rep] at r ⊢; exact r
  | .bl _, v, r => by simp only [Rep] at r ⊢; exact r
  | .int _, v, r => by simp only [Rep] at r ⊢; exact r
  | .str _, v, r => by simp only [Rep] at r ⊢; exact r
  | .lst l, v, r => by
    simp only [Rep] at r ⊢
    obtain ⟨a, vs, e, e2, q⟩ := r
    exact ⟨a, vs, e, h _ _ e2, RepL.mono h l vs q⟩
  | .tup l, v, r => by
    simp only [Rep] at r ⊢
    obtain ⟨a, vs, e, e2, q⟩ := r
    exact ⟨a, vs, e, h _ _ e2, RepL.mono h l vs q⟩
  | .frz l, v, r => by
    simp only [Rep] at r ⊢
    obtain ⟨a, e, q⟩ := r
    exact ⟨a, e, h.seq q⟩
theorem RepL.mono (h : Same H H') : ∀ (ds : List Dt) (vs : List V), RepL K H ds vs → RepL K H' ds vs
  | [], vs, r => by simp only [RepL] at r ⊢; exact r
  | d :: ds, vs, r => by
    simp only [RepL] at r ⊢
    obtain ⟨v, q, e, r1, r2⟩ := r
    exact ⟨v, q, e, Rep.mono h d v r1, RepL.mono h ds q r2⟩
end
theorem RepL.nil : RepL K H [] [] := by simp only [RepL]
theorem RepL.nil_iff {vs : List V} (h : RepL K H [] vs) : vs = [] := by simp only [RepL] at h; exact h
theorem RepL.cons {d : Dt} {ds : List Dt} {v : V} {vs : List V} (h1 : Rep K H d v) (h2 : RepL K H ds vs) : RepL K H (d :: ds) (v :: vs) := by
  simp only [RepL]
  exact ⟨v, vs, rfl, h1, h2⟩
theorem RepL.uncons {d : Dt} {ds : List Dt} {vs : List V} (h : RepL K H (d :: ds) vs) : ∃ v r, vs = v :: r ∧ Rep K H d v ∧ RepL K H ds r := by
  simp only [RepL] at h
  exact h
theorem RepL.length : ∀ {ds : List Dt} {vs : List V}, RepL K H ds vs → vs.length = ds.length
  | [], vs, h => by rw [h.nil_iff]; rfl
  | d :: ds, vs, h => by
    obtain ⟨v, r, rfl, _, h2⟩ := h.uncons
    rw [List.length_cons, List.length_cons, h2.length]
theorem RepL.append : ∀ {ds es : List Dt} {vs us : List V}, RepL K H ds vs → RepL K H es us → RepL K H (ds ++ es) (vs ++ us)
  | [], es, vs, us, h, h' => by rw [h.nil_iff]; exact h'
  | d :: ds, es, vs, us, h, h' => by
    obtain ⟨v, r, rfl, h1, h2⟩ := h.uncons
    exact .cons h1 (h2.append h')
theorem RepL.get : ∀ {ds : List Dt} {vs : List V} {i : Nat} {d : Dt}, RepL K H ds vs → ds[i]? = some d → ∃ v, vs[i]? = some v ∧ Rep K H d v
  | [], vs, i, d, h, e => by simp at e
  | d :: ds, vs, 0, d', h, e => by
    obtain ⟨v, r, rfl, h1, h2⟩ := h.uncons
    simp at e
    subst e
    exact ⟨v, rfl, h1⟩
  | d :: ds, vs, i + 1, d', h, e => by
    obtain ⟨v, r, rfl, h1, h2⟩ := h.uncons
    obtain ⟨w, e1, e2⟩ := h2.get (i := i) (d := d') (by simpa using e)
    exact ⟨w, by simpa using e1, e2⟩
theorem RepL.at : ∀ {ds : List Dt} {vs : List V} {i : Nat} {v : V}, RepL K H ds vs → vs[i]? = some v → ∃ d, ds[i]? = some d ∧ Rep K H d v
  | [], vs, i, v, h, e => by rw [h.nil_iff] at e; simp at e
  | d :: ds, vs, 0, v', h, e => by
    obtain ⟨v, r, rfl, h1, h2⟩ := h.uncons
    simp at e
    subst e
    exact ⟨d, rfl, h1⟩
  | d :: ds, vs, i + 1, v', h, e => by
    obtain ⟨v, r, rfl, h1, h2⟩ := h.uncons
    obtain ⟨w, e1, e2⟩ := h2.at (i := i) (v := v') (by simpa using e)
    exact ⟨w, by simpa using e1, e2⟩
theorem RepL.take : ∀ {ds : List Dt} {vs : List V} (n : Nat), RepL K H ds vs → RepL K H (ds.take n) (vs.take n)
  | ds, vs, 0, h => .nil
  | [], vs, n + 1, h => by rw [h.nil_iff]; exact .nil
  | d :: ds, vs, n + 1, h => by
    obtain ⟨v, r, rfl, h1, h2⟩ := h.uncons
    exact .cons h1 (h2.take n)
theorem RepL.drop : ∀ {ds : List Dt} {vs : List V} (n : Nat), RepL K H ds vs → RepL K H (ds.drop n) (vs.drop n)
  | ds, vs, 0, h => h
  | [], vs, n + 1, h => by rw [h.nil_iff]; exact .nil
  | d :: ds, vs, n + 1, h => by
    obtain ⟨v, r, rfl, h1, h2⟩ := h.uncons
    exact h2.drop n
theorem RepL.set : ∀ {ds : List Dt} {vs : List V} {d : Dt} {v : V} (n : Nat), RepL K H ds vs → Rep K H d v → RepL K H (ds.set n d) (vs.set n v)
  | [], vs, d, v, n, h, h' => by rw [h.nil_iff]; exact .nil
  | e :: ds, vs, d, v, 0, h, h' => by
    obtain ⟨v', r, rfl, h1, h2⟩ := h.uncons
    exact .cons h' h2
  | e :: ds, vs, d, v, n + 1, h, h' => by
    obtain ⟨v', r, rfl, h1, h2⟩ := h.uncons
    exact .cons h1 (h2.set n h')
theorem RepL.reverse : ∀ {ds : List Dt} {vs : List V}, RepL K H ds vs → RepL K H ds.reverse vs.reverse
  | [], vs, h => by rw [h.nil_iff]; exact .nil
  | d :: ds, vs, h => by
    obtain ⟨v, r, rfl, h1, h2⟩ := h.uncons
    rw [List.reverse_cons, List.reverse_cons]
    exact h2.reverse.append (.cons h1 .nil)
theorem RepL.rep {ds : List Dt} {vs : List V} (h : RepL K H ds vs) : ∀ n : Nat, RepL K H (List.replicate n ds).flatten (List.replicate n vs).flatten
  | 0 => .nil
  | n + 1 => by
    rw [List.replicate_succ, List.replicate_succ, List.flatten_cons, List.flatten_cons]
    exact h.append (h.rep n)
theorem RepL.dropLast {ds : List Dt} {vs : List V} (h : RepL K H ds vs) : RepL K H ds.dropLast vs.dropLast := by
  rw [List.dropLast_eq_take, List.dropLast_eq_take, h.length]
  exact h.take _
end

/-! ### heaps -/
/-- from the clean part C of the heap H on: nothing that was tracked is changed, what comes into the clean part is new -/
structure Ext (C H C' H' : Hp) : Prop where
  c : Same C C'
  h : Same H H'
  s : Same C' H'
  f : ∀ a, H a ≠ none → C a = none → C' a = none
theorem Ext.refl {C H : Hp} (s : Same C H) : Ext C H C H := ⟨.refl _, .refl _, s, fun _ _ e => e⟩
theorem some_of {H : Hp} {a : Addr} (h : H a ≠ none) : ∃ o, H a = some o := by
  cases e : H a with
  | none => exact absurd e h
  | some o => exact ⟨o, rfl⟩
theorem Same.ne {H H' : Hp} (h : Same H H') {a : Addr} (e : H a ≠ none) : H' a ≠ none := by
  obtain ⟨o, q⟩ := some_of e
  rw [h _ _ q]
  simp
theorem Ext.trans {C H C1 H1 C2 H2 : Hp} (x : Ext C H C1 H1) (y : Ext C1 H1 C2 H2) : Ext C H C2 H2 :=
  ⟨x.c.trans y.c, x.h.trans y.h, y.s, fun a e n => y.f a (Same.ne x.h e) (x.f a e n)⟩
/-- which part of the clean heap a datum stands in: anywhere, or in what is new since the entry -/
inductive Md | new | old | out (A : Addr → Bool)
def part (m : Md) (Ht C : Hp) : Hp := match m with
  | .old => C
  | .new => fun a => if (Ht a).isNone = true then C a else none
  | .out A => fun a => if (A a && (Ht a).isSome) = true then none else C a
def inA (A : Addr → Bool) (C : Hp) : Hp := fun a => if A a = true then C a else none
theorem inA_mono {A : Addr → Bool} {C C' : Hp} (h : Same C C') : Same (inA A C) (inA A C') := fun a o e => by
  unfold inA at e ⊢
  split at e
  · rename_i q
    rw [if_pos q]
    exact h _ _ e
  · cases e
theorem inA_le {A : Addr → Bool} {C : Hp} : Same (inA A C) C := fun a o e => by
  unfold inA at e
  split at e
  · exact e
  · cases e
theorem part_mono {m : Md} {Ht C C' : Hp} (h : Same C C') : Same (part m Ht C) (part m Ht C') := by
  cases m with
  | old => exact h
  | new =>
    intro a o e
    simp only [part] at e ⊢
    split at e
    · rename_i q
      rw [if_pos q]
      exact h _ _ e
    · cases e
  | out A =>
    intro a o e
    simp only [part] at e ⊢
    split at e
    · cases e
    · rename_i q
      rw [if_neg q]
      exact h _ _ e
theorem part_le {m : Md} {Ht C : Hp} : Same (part m Ht C) C := by
  cases m with
  | old => exact .refl _
  | new =>
    intro a o e
    simp only [part] at e
    split at e
    · exact e
    · cases e
  | out A =>
    intro a o e
    simp only [part] at e
    split at e
    · cases e
    · exact e
theorem part_at {m : Md} {Ht C : Hp} {a : Addr} {o : HO} (h : C a = some o) (n : Ht a = none) : part m Ht C a = some o := by
  cases m with
  | old => exact h
  | new => simp only [part, n, Option.isNone_none, if_true]; exact h
  | out A => simp only [part, n, Option.isSome_none, Bool.and_false, Bool.false_eq_true, if_false]; exact h
theorem part_new {m : Md} {Ht C : Hp} : Same (part .new Ht C) (part m Ht C) := fun a o e => by
  simp only [part] at e
  split at e
  · rename_i q
    exact part_at e (by simpa using q)
  · cases e
/-- what was there later counts earlier -/
theorem part_ht {m : Md} {Ht H C : Hp} (h : Same Ht H) : Same (part m H C) (part m Ht C) := by
  have hn : ∀ a, H a = none → Ht a = none := fun a e => Same.free h e
  cases m with
  | old => exact .refl _
  | new =>
    intro a o e
    simp only [part] at e
    split at e
    · rename_i q
      exact part_at e (hn a (by simpa using q))
    · cases e
  | out A =>
    intro a o e
    simp only [part] at e ⊢
    split at e
    · cases e
    · rename_i q
      rw [if_neg]
      · exact e
      · intro z
        refine q ?_
        rw [Bool.and_eq_true] at z ⊢
        refine ⟨z.1, ?_⟩
        cases hh : H a with
        | none => rw [hn a hh] at z; exact absurd z.2 (by simp)
        | some o => rfl
theorem same_upd {H : Hp} {p : Addr} {o : HO} (h : H p = none) : Same H (upd H p o) := fun b x e => by
  rw [upd_ne (ne_of_none e h)]
  exact e
theorem free_of {H H' : Hp} (h : Same H H') {a : Addr} (e : H' a = none) : H a = none := Same.free h e

/-! ### what the slots hold -/
inductive Slot where
  /-- nothing is known -/
  | un
  /-- a datum -/
  | dat (m : Md) (d : Dt)
  /-- a list that nobody else holds; its items are data -/
  | own (m : Md) (l : List Dt)
  /-- a datum of an island, which will be changed and forgotten -/
  | isl (A : Addr → Bool) (d : Dt)
  /-- an error that a suite holds, its own dict, what stands there -/
  | err (a : Addr) (dd : Option Addr) (fs : List (Str × V))
abbrev En := List Slot
section
variable (K : PySem.W.Frag)
def SlotOk (Ht C H : Hp) (o : Option (Option V)) : Slot → Prop
  | .un => True
  | .dat m d => ∃ v, o = some (some v) ∧ Rep K (part m Ht C) d v
  | .own m l => ∃ a vs, o = some (some (.ref a)) ∧ Ht a = none ∧ C a = none ∧ H a = some (.lst vs) ∧ RepL K (part m Ht C) l vs
  | .isl A d => ∃ v, o = some (some v) ∧ Rep K (inA A C) d v
  | .err a dd fs => o = some (some (.ref a)) ∧ ∀ x, dd = some x → H x = some (.xd fs)
structure EnvI (Ht C0 C H : Hp) (σ : St) (ρ : En) : Prop where
  ext : Ext C0 Ht C H
  len : σ.length = ρ.length
  ok : ∀ (i : Nat) (s : Slot), ρ[i]? = some s → SlotOk K Ht C H σ[i]? s
  sep : ∀ (i j : Nat) (a : Addr) (mi : Md) (li : List Dt) (mj : Md) (lj : List Dt), i ≠ j → ρ[i]? = some (.own mi li) → ρ[j]? = some (.own mj lj) → σ[i]? = some (some (.ref a)) → σ[j]? ≠ some (some (.ref a))
end
section
variable {K : PySem.W.Frag} {Ht C0 C H C' H' : Hp} {σ : St} {ρ : En}
theorem SlotOk.ext {o : Option (Option V)} {s : Slot} (x : Ext C H C' H') (h : SlotOk K Ht C H o s) : SlotOk K Ht C' H' o s := by
  cases s with
  | un => trivial
  | dat m d =>
    obtain ⟨v, e, r⟩ := h
    exact ⟨v, e, r.mono (part_mono x.c)⟩
  | own m l =>
    obtain ⟨a, vs, e, h1, h2, h3, r⟩ := h
    exact ⟨a, vs, e, h1, x.f a (by rw [h3]; simp) h2, x.h _ _ h3, r.mono (part_mono x.c)⟩
  | isl A d =>
    obtain ⟨v, e, r⟩ := h
    exact ⟨v, e, r.mono (inA_mono x.c)⟩
  | err a dd fs => exact ⟨h.1, fun y e => x.h _ _ (h.2 y e)⟩
theorem EnvI.to (I : EnvI K Ht C0 C H σ ρ) (x : Ext C H C' H') : EnvI K Ht C0 C' H' σ ρ :=
  ⟨I.ext.trans x, I.len, fun i s e => (I.ok i s e).ext x, I.sep⟩
theorem EnvI.sub (I : EnvI K Ht C0 C H σ ρ) : Same C H := I.ext.s
theorem EnvI.same (I : EnvI K Ht C0 C H σ ρ) : Ext C H C H := .refl I.sub
theorem get_set {α : Type} {l : List α} {i j : Nat} {x y : α} (h : (l.set i x)[j]? = some y) : (j = i ∧ y = x) ∨ (j ≠ i ∧ l[j]? = some y) := by
  by_cases e : i = j
  · subst e
    by_cases q : i < l.length
    · rw [List.getElem?_set_self q] at h
      exact .inl ⟨Eq.refl _, (Option.some.inj h).symm⟩
    · rw [List.getElem?_eq_none (by rw [List.length_set]; omega)] at h
      cases h
  · rw [List.getElem?_set_ne e] at h
    exact .inr ⟨fun q => e q.symm, h⟩
/-- a slot is stored: a datum -/
theorem EnvI.set (I : EnvI K Ht C0 C H σ ρ) {i : Nat} {m : Md} {d : Dt} {v : V} (r : Rep K (part m Ht C) d v) : EnvI K Ht C0 C H (σ.set i (some v)) (ρ.set i (.dat m d)) := by
  refine ⟨I.ext, by rw [List.length_set, List.length_set]; exact I.len, fun j s e => ?_, fun j k a mi li mj lj n e1 e2 e3 e4 => ?_⟩
  · rcases get_set e with ⟨rfl, rfl⟩ | ⟨n, e⟩
    · have hj : j < ρ.length := by
        have := (List.getElem?_eq_some_iff.mp e).1
        rwa [List.length_set] at this
      refine ⟨v, ?_, r⟩
      rw [List.getElem?_set_self (by rw [I.len]; exact hj)]
    · rw [List.getElem?_set_ne (Ne.symm n)]
      exact I.ok j s e
  · rcases get_set e1 with ⟨_, q⟩ | ⟨n1, e1⟩
    · cases q
    · rcases get_set e2 with ⟨_, q⟩ | ⟨n2, e2⟩
      · cases q
      · rw [List.getElem?_set_ne (Ne.symm n1)] at e3
        rw [List.getElem?_set_ne (Ne.symm n2)] at e4
        exact I.sep j k a mi li mj lj n e1 e2 e3 e4
/-- a new list is stored, owned -/
theorem EnvI.setOwn (I : EnvI K Ht C0 C H σ ρ) {i : Nat} {m : Md} {l : List Dt} {a : Addr} {vs : List V} (hn : Ht a = none) (hc : C a = none) (ha : H a = some (.lst vs)) (r : RepL K (part m Ht C) l vs)
    (hs : ∀ (j : Nat) mj lj, j ≠ i → ρ[j]? = some (.own mj lj) → σ[j]? ≠ some (some (.ref a))) : EnvI K Ht C0 C H (σ.set i (some (.ref a))) (ρ.set i (.own m l)) := by
  refine ⟨I.ext, by rw [List.length_set, List.length_set]; exact I.len, fun j s e => ?_, fun j k b mi li mj lj n e1 e2 e3 e4 => ?_⟩
  · rcases get_set e with ⟨rfl, rfl⟩ | ⟨n, e⟩
    · have hj : j < ρ.length := by
        have := (List.getElem?_eq_some_iff.mp e).1
        rwa [List.length_set] at this
      refine ⟨a, vs, ?_, hn, hc, ha, r⟩
      rw [List.getElem?_set_self (by rw [I.len]; exact hj)]
    · rw [List.getElem?_set_ne (Ne.symm n)]
      exact I.ok j s e
  · rcases get_set e1 with ⟨rfl, q⟩ | ⟨n1, f1⟩
    · rcases get_set e2 with ⟨rfl, _⟩ | ⟨n2, e2⟩
      · exact n (Eq.refl _)
      · have hj : j < σ.length := by
          have := (List.getElem?_eq_some_iff.mp e3).1
          rwa [List.length_set] at this
        rw [List.getElem?_set_self hj] at e3
        cases e3
        rw [List.getElem?_set_ne (Ne.symm n2)] at e4
        exact hs k mj lj n2 e2 e4
    · rw [List.getElem?_set_ne (Ne.symm n1)] at e3
      rcases get_set e2 with ⟨rfl, q⟩ | ⟨n2, e2⟩
      · have hk : k < σ.length := by
          have := (List.getElem?_eq_some_iff.mp e4).1
          rwa [List.length_set] at this
        rw [List.getElem?_set_self hk] at e4
        cases e4
        exact hs j mi li n1 f1 e3
      · rw [List.getElem?_set_ne (Ne.symm n2)] at e4
        exact I.sep j k b mi li mj lj n f1 e2 e3 e4
/-- slots forgotten -/
theorem EnvI.forget (I : EnvI K Ht C0 C H σ ρ) {σ' : St} {ρ' : En} (hl : σ'.length = ρ'.length) (h : ∀ (i : Nat) (s : Slot), ρ'[i]? = some s → s = .un ∨ (ρ[i]? = some s ∧ σ'[i]? = σ[i]?)) : EnvI K Ht C0 C H σ' ρ' := by
  refine ⟨I.ext, hl, fun i s e => ?_, fun i j a mi li mj lj n e1 e2 e3 e4 => ?_⟩
  · rcases h i s e with rfl | ⟨e', q⟩
    · trivial
    · rw [q]
      exact I.ok i s e'
  · rcases h i _ e1 with q | ⟨e1', q1⟩
    · cases q
    · rcases h j _ e2 with q | ⟨e2', q2⟩
      · cases q
      · exact I.sep i j a mi li mj lj n e1' e2' (q1 ▸ e3) (q2 ▸ e4)
/-- a list owned becomes a datum -/
theorem EnvI.freeze (I : EnvI K Ht C0 C H σ ρ) {i : Nat} {m : Md} {l : List Dt} (hi : ρ[i]? = some (.own m l)) : ∃ C', EnvI K Ht C0 C' H σ (ρ.set i (.dat m (.lst l))) ∧ Same C C' := by
  obtain ⟨a, vs, e, hn, hc, ha, r⟩ := I.ok i _ hi
  have sc : Same C (upd C a (.lst vs)) := same_upd hc
  have hil : i < ρ.length := (List.getElem?_eq_some_iff.mp hi).1
  refine ⟨upd C a (.lst vs), ⟨⟨I.ext.c.trans sc, I.ext.h, fun b o q => ?_, fun b h1 h2 => ?_⟩, by rw [List.length_set]; exact I.len, fun j s q => ?_, fun j k b mi li mj lj n e1 e2 e3 e4 => ?_⟩, sc⟩
  · by_cases hb : b = a
    · subst hb
      rw [upd_same] at q
      cases q
      exact ha
    · rw [upd_ne hb] at q
      exact I.sub _ _ q
  · have nb : b ≠ a := fun z => by rw [z] at h1; exact h1 hn
    rw [upd_ne nb]
    exact I.ext.f b h1 h2
  · rcases get_set q with ⟨rfl, rfl⟩ | ⟨n, q⟩
    · refine ⟨.ref a, e, ?_⟩
      simp only [Rep]
      exact ⟨a, vs, Eq.refl _, part_at upd_same hn, r.mono (part_mono sc)⟩
    · have hs := I.ok j s q
      cases s with
      | un => trivial
      | dat m' d' =>
        obtain ⟨v, e1, r1⟩ := hs
        exact ⟨v, e1, r1.mono (part_mono sc)⟩
      | isl A' d' =>
        obtain ⟨v, e1, r1⟩ := hs
        exact ⟨v, e1, r1.mono (inA_mono sc)⟩
      | err a' dd' fs' => exact hs
      | own m' l' =>
        obtain ⟨b, us, e1, h1, h2, h3, r1⟩ := hs
        refine ⟨b, us, e1, h1, ?_, h3, r1.mono (part_mono sc)⟩
        have nb : b ≠ a := fun z => I.sep i j a m l m' l' (Ne.symm n) hi q e (z ▸ e1)
        rw [upd_ne nb]
        exact h2
  · rcases get_set e1 with ⟨_, q⟩ | ⟨n1, e1⟩
    · cases q
    · rcases get_set e2 with ⟨_, q⟩ | ⟨n2, e2⟩
      · cases q
      · exact I.sep j k b mi li mj lj n e1 e2 e3 e4
/-- a list owned is changed -/
theorem EnvI.write (I : EnvI K Ht C0 C H σ ρ) {i : Nat} {m : Md} {l l' : List Dt} {a : Addr} {vs : List V} (hi : ρ[i]? = some (.own m l)) (ha : σ[i]? = some (some (.ref a))) (r : RepL K (part m Ht C) l' vs) :
    EnvI K Ht C0 C (upd H a (.lst vs)) σ (ρ.set i (.own m l')) := by
  obtain ⟨a', us, e, hn, hc, ha', _⟩ := I.ok i _ hi
  rw [ha] at e
  cases e
  refine ⟨⟨I.ext.c, fun b o q => ?_, fun b o q => ?_, I.ext.f⟩, by rw [List.length_set]; exact I.len, fun j s q => ?_, fun j k b mi li mj lj n e1 e2 e3 e4 => ?_⟩
  · rw [upd_ne (ne_of_none q hn)]
    exact I.ext.h _ _ q
  · rw [upd_ne (ne_of_none q hc)]
    exact I.ext.s _ _ q
  · rcases get_set q with ⟨rfl, rfl⟩ | ⟨n, q⟩
    · exact ⟨a, vs, ha, hn, hc, upd_same, r⟩
    · have hs := I.ok j s q
      cases s with
      | un => trivial
      | dat m' d' => exact hs
      | isl A' d' => exact hs
      | err a' dd' fs' => exact ⟨hs.1, fun y e => by
          have hy := hs.2 y e
          have ny : y ≠ a := fun z => by
            rw [z, ha'] at hy
            cases hy
          rw [upd_ne ny]
          exact hy⟩
      | own m' l2 =>
        obtain ⟨b, us', e1, h1, h2, h3, r1⟩ := hs
        refine ⟨b, us', e1, h1, h2, ?_, r1⟩
        have nb : b ≠ a := fun z => I.sep i j a m l m' l2 (Ne.symm n) hi q ha (z ▸ e1)
        rw [upd_ne nb]
        exact h3
  · rcases get_set e1 with ⟨rfl, q⟩ | ⟨n1, f1⟩
    · cases q
      rcases get_set e2 with ⟨rfl, _⟩ | ⟨n2, e2⟩
      · exact absurd (Eq.refl _) n
      · exact I.sep j k b m l mj lj n hi e2 e3 e4
    · rcases get_set e2 with ⟨rfl, q⟩ | ⟨n2, e2⟩
      · cases q
        exact I.sep j k b mi li m l n f1 hi e3 e4
      · exact I.sep j k b mi li mj lj n f1 e2 e3 e4
end
end L2.DL

/-! DL2: typed data, the judgements of expressions. -/
namespace L2.DL
open PySem PySem.Spec PyProof.Rows

/-! ### typed data -/
class Rp (α : Type) where
  rp : α → Dt
abbrev rp {α : Type} [Rp α] (x : α) : Dt := Rp.rp x
instance : Rp Dt := ⟨fun d => d⟩
instance : Rp Int := ⟨.int⟩
instance : Rp Bool := ⟨.bl⟩
instance : Rp Str := ⟨.str⟩
instance : Rp Unit := ⟨fun _ => .non⟩
instance {α : Type} [Rp α] : Rp (List α) := ⟨fun l => .lst (l.map rp)⟩
instance {α β : Type} [Rp α] [Rp β] : Rp (α × β) := ⟨fun p => .tup [rp p.1, rp p.2]⟩
instance {α : Type} [Rp α] : Rp (Option α) := ⟨fun o => match o with | none => .non | some x => rp x⟩
instance {α β : Type} [Rp α] [Rp β] : Rp (α ⊕ β) := ⟨fun o => match o with | .inl x => rp x | .inr x => rp x⟩
structure T3 (α β γ : Type) where
  mk ::
  p : α
  q : β
  r : γ
  deriving DecidableEq
structure T4 (α β γ δ : Type) where
  mk ::
  p : α
  q : β
  r : γ
  s : δ
  deriving DecidableEq
structure TupL (α : Type) where
  mk ::
  l : List α
  deriving DecidableEq
structure Scr where
  mk ::
  l : List Int
instance {α β γ : Type} [Rp α] [Rp β] [Rp γ] : Rp (T3 α β γ) := ⟨fun t => .tup [rp t.p, rp t.q, rp t.r]⟩
instance {α β γ δ : Type} [Rp α] [Rp β] [Rp γ] [Rp δ] : Rp (T4 α β γ δ) := ⟨fun t => .tup [rp t.p, rp t.q, rp t.r, rp t.s]⟩
instance {α : Type} [Rp α] : Rp (TupL α) := ⟨fun t => .tup (t.l.map rp)⟩
instance : Rp Scr := ⟨fun s => .frz s.l⟩
abbrev rps {α : Type} [Rp α] (l : List α) : List Dt := l.map rp

class Scal (α : Type) [Rp α] : Prop where
  ok : ∀ (K : PySem.W.Frag) (H H' : Hp) (x : α) (v : V), Rep K H (rp x) v → Rep K H' (rp x) v
instance : Scal Int := ⟨fun K H H' x v h => by simp only [rp, Rp.rp, Rep] at h ⊢; exact h⟩
instance : Scal Bool := ⟨fun K H H' x v h => by simp only [rp, Rp.rp, Rep] at h ⊢; exact h⟩
instance : Scal Str := ⟨fun K H H' x v h => by simp only [rp, Rp.rp, Rep] at h ⊢; exact h⟩
instance : Scal Unit := ⟨fun K H H' x v h => by simp only [rp, Rp.rp, Rep] at h ⊢; exact h⟩
instance {α : Type} [Rp α] [Scal α] : Scal (Option α) := ⟨fun K H H' x v h => by
  cases x with
  | none => simp only [rp, Rp.rp, Rep] at h ⊢; exact h
  | some x => exact Scal.ok (α := α) K H H' x v h⟩
instance {α β : Type} [Rp α] [Rp β] [Scal α] [Scal β] : Scal (α ⊕ β) := ⟨fun K H H' x v h => by
  cases x with
  | inl x => exact Scal.ok (α := α) K H H' x v h
  | inr x => exact Scal.ok (α := β) K H H' x v h⟩
theorem RepL.scal {α : Type} [Rp α] [Scal α] {K : PySem.W.Frag} {H H' : Hp} : ∀ {xs : List α} {vs : List V}, RepL K H (rps xs) vs → RepL K H' (rps xs) vs
  | [], vs, h => by rw [h.nil_iff]; exact .nil
  | x :: xs, vs, h => by
    obtain ⟨v, r, rfl, h1, h2⟩ := h.uncons
    exact .cons (Scal.ok K H H' x v h1) h2.scal

section
variable (K : PySem.W.Frag)
/-- an expression gives a datum -/
def EvE {α : Type} [Rp α] (t : TE) (ρ : En) (m : Md) (r : Option α) : Prop :=
  ∀ (Ht C0 C H : Hp) (σ : St), EnvI K Ht C0 C H σ ρ → ∀ x, r = some x → ∀ Q : VK, (∀ v C' H', Ext C H C' H' → Rep K (part m Ht C') (rp x) v → Q v H') → t σ H Q
/-- .. a new list that nobody holds -/
def EvL {α : Type} [Rp α] (t : TE) (ρ : En) (m : Md) (r : Option (List α)) : Prop :=
  ∀ (Ht C0 C H : Hp) (σ : St), EnvI K Ht C0 C H σ ρ → ∀ xs, r = some xs → ∀ Q : VK,
    (∀ a vs C' H', Ext C H C' H' → H a = none → C' a = none → H' a = some (.lst vs) → RepL K (part m Ht C') (rps xs) vs → Q (.ref a) H') → t σ H Q
/-- .. a list that may be read -/
def EvB {α : Type} [Rp α] (t : TE) (ρ : En) (m : Md) (r : Option (List α)) : Prop :=
  ∀ (Ht C0 C H : Hp) (σ : St), EnvI K Ht C0 C H σ ρ → ∀ xs, r = some xs → ∀ Q : VK,
    (∀ a vs C' H', Ext C H C' H' → H' a = some (.lst vs) → RepL K (part m Ht C') (rps xs) vs → Q (.ref a) H') → t σ H Q
/-- a test -/
def EvT (t : TT) (ρ : En) (r : Option Bool) : Prop :=
  ∀ (Ht C0 C H : Hp) (σ : St), EnvI K Ht C0 C H σ ρ → ∀ b, r = some b → ∀ Q : Bool → Hp → Prop, (∀ C' H', Ext C H C' H' → Q b H') → t σ H Q
/-- arguments -/
def EvA {A : Type} (ds : A → List Dt) (t : TA) (ρ : En) (r : Option A) : Prop :=
  ∀ (Ht C0 C H : Hp) (σ : St), EnvI K Ht C0 C H σ ρ → ∀ x, r = some x → ∀ Q : List V → Hp → Prop, (∀ vs C' H', Ext C H C' H' → RepL K C' (ds x) vs → Q vs H') → t σ H Q
/-- a part of a slice -/
def EvO (t : TO) (ρ : En) (r : Option (Option Int)) : Prop :=
  ∀ (Ht C0 C H : Hp) (σ : St), EnvI K Ht C0 C H σ ρ → ∀ x, r = some x → ∀ Q : Option Int → Hp → Prop, (∀ C' H', Ext C H C' H' → Q x H') → t σ H Q
end
section
variable {K : PySem.W.Frag} {t ta tb : TE} {ρ : En} {m m1 m2 : Md}
variable {α β γ : Type} [Rp α] [Rp β] [Rp γ]
theorem some_bind {A B : Type} {r : Option A} {f : A → Option B} {y : B} (h : r.bind f = some y) : ∃ x, r = some x ∧ f x = some y := Option.bind_eq_some_iff.mp h
theorem some_map {A B : Type} {r : Option A} {f : A → B} {y : B} (h : r.map f = some y) : ∃ x, r = some x ∧ f x = y := Option.map_eq_some_iff.mp h
theorem EvE.B {r : Option (List α)} (h : EvE K t ρ m r) : EvB K t ρ m r := fun Ht C0 C H σ I xs e Q q => by
  refine h Ht C0 C H σ I xs e Q fun v C' H' x rv => ?_
  simp only [rp, Rp.rp, Rep] at rv
  obtain ⟨a, vs, rfl, h1, h2⟩ := rv
  exact q a vs C' H' x (x.s _ _ (part_le _ _ h1)) h2
theorem EvL.B {r : Option (List α)} (h : EvL K t ρ m r) : EvB K t ρ m r := fun Ht C0 C H σ I xs e Q q =>
  h Ht C0 C H σ I xs e Q fun a vs C' H' x _ _ h2 h3 => q a vs C' H' x h2 h3
theorem EvL.E {r : Option (List α)} (h : EvL K t ρ m r) : EvE K t ρ m r := fun Ht C0 C H σ I xs e Q q => by
  refine h Ht C0 C H σ I xs e Q fun a vs C' H' x hn hc ha rv => ?_
  have sc : Same C' (upd C' a (.lst vs)) := same_upd hc
  refine q (.ref a) (upd C' a (.lst vs)) H' ⟨x.c.trans sc, x.h, fun b o e => ?_, fun b h1 h2 => ?_⟩ ?_
  · by_cases hb : b = a
    · subst hb
      rw [upd_same] at e
      cases e
      exact ha
    · rw [upd_ne hb] at e
      exact x.s _ _ e
  · have nb : b ≠ a := fun z => by rw [z] at h1; exact h1 hn
    rw [upd_ne nb]
    exact x.f b h1 h2
  · simp only [rp, Rp.rp, Rep]
    exact ⟨a, vs, rfl, part_at upd_same (free_of I.ext.h hn), rv.mono (part_mono sc)⟩
/-- from anywhere -/
theorem EvE.old {r : Option α} (h : EvE K t ρ m r) : EvE K t ρ .old r := fun Ht C0 C H σ I x e Q q =>
  h Ht C0 C H σ I x e Q fun v C' H' y rv => q v C' H' y (rv.mono part_le)
theorem EvL.old {r : Option (List α)} (h : EvL K t ρ m r) : EvL K t ρ .old r := fun Ht C0 C H σ I x e Q q =>
  h Ht C0 C H σ I x e Q fun a vs C' H' y hn hc ha rv => q a vs C' H' y hn hc ha (rv.mono part_le)
theorem EvB.old {r : Option (List α)} (h : EvB K t ρ m r) : EvB K t ρ .old r := fun Ht C0 C H σ I x e Q q =>
  h Ht C0 C H σ I x e Q fun a vs C' H' y ha rv => q a vs C' H' y ha (rv.mono part_le)
theorem EvE.sc [Scal α] {r : Option α} (h : EvE K t ρ m r) : EvE K t ρ m1 r := fun Ht C0 C H σ I x e Q q =>
  h Ht C0 C H σ I x e Q fun v C' H' y rv => q v C' H' y (Scal.ok K _ _ x v rv)
theorem EvL.sc [Scal α] {r : Option (List α)} (h : EvL K t ρ m r) : EvL K t ρ m1 r := fun Ht C0 C H σ I x e Q q =>
  h Ht C0 C H σ I x e Q fun a vs C' H' y hn hc ha rv => q a vs C' H' y hn hc ha rv.scal
theorem EvB.sc [Scal α] {r : Option (List α)} (h : EvB K t ρ m r) : EvB K t ρ m1 r := fun Ht C0 C H σ I x e Q q =>
  h Ht C0 C H σ I x e Q fun a vs C' H' y ha rv => q a vs C' H' y ha rv.scal
/-- the same datum under another type -/
theorem EvE.cast {r : Option α} (f : α → β) (h : EvE K t ρ m r) (e : ∀ x, rp (f x) = rp x := by intro _; rfl) : EvE K t ρ m (r.map f) := fun Ht C0 C H σ I x e' Q q => by
  obtain ⟨y, ey, rfl⟩ := some_map e'
  refine h Ht C0 C H σ I y ey Q fun v C' H' z rv => q v C' H' z ?_
  rw [e y]
  exact rv
theorem EvE.res {r r' : Option α} (h : EvE K t ρ m r) (e : r' = r) : EvE K t ρ m r' := e ▸ h
theorem EvL.res {r r' : Option (List α)} (h : EvL K t ρ m r) (e : r' = r) : EvL K t ρ m r' := e ▸ h
theorem EvB.res {r r' : Option (List α)} (h : EvB K t ρ m r) (e : r' = r) : EvB K t ρ m r' := e ▸ h

/-! ### names, constants -/
theorem ev_var {i : Nat} {x : α} (h : ρ[i]? = some (.dat m (rp x)) := by rfl) : EvE K (tVar i) ρ m (some x) := fun Ht C0 C H σ I y e Q q => by
  cases e
  obtain ⟨v, e1, r⟩ := I.ok i _ h
  exact ⟨v, e1, q v C H I.same r⟩
theorem ev_own {i : Nat} {xs : List α} (h : ρ[i]? = some (.own m (rps xs)) := by rfl) : EvB K (tVar i) ρ m (some xs) := fun Ht C0 C H σ I y e Q q => by
  cases e
  obtain ⟨a, vs, e1, _, _, h3, r⟩ := I.ok i _ h
  exact ⟨.ref a, e1, q a vs C H I.same h3 r⟩
theorem ev_c {v : V} {x : α} (h : ∀ H, Rep K H (rp x) v) : EvE K (tC v) ρ m (some x) := fun Ht C0 C H σ I y e Q q => by
  cases e
  exact q v C H I.same (h _)
theorem ev_int {i : Int} : EvE K (tC (.int i)) ρ .new (some i) := ev_c fun H => by simp only [rp, Rp.rp, Rep]
theorem ev_bl {b : Bool} : EvE K (tC (.bl b)) ρ .new (some b) := ev_c fun H => by simp only [rp, Rp.rp, Rep]
theorem ev_str {s : Str} : EvE K (tC (.str s)) ρ .new (some s) := ev_c fun H => by simp only [rp, Rp.rp, Rep]
theorem ev_non {A : Type} [Rp A] : EvE K (tC .non) ρ .new (some (none : Option A)) := ev_c fun H => by simp only [rp, Rp.rp, Rep]
theorem ev_nonD : EvE K (tC .non) ρ .new (some Dt.non) := ev_c fun H => by simp only [rp, Rp.rp, Rep]

/-! ### ints -/
theorem Rep.int_ {H : Hp} {i : Int} {v : V} (h : Rep K H (rp i) v) : v = .int i := by simp only [rp, Rp.rp, Rep] at h; exact h
theorem Rep.bl_ {H : Hp} {i : Bool} {v : V} (h : Rep K H (rp i) v) : v = .bl i := by simp only [rp, Rp.rp, Rep] at h; exact h
theorem Rep.str_ {H : Hp} {i : Str} {v : V} (h : Rep K H (rp i) v) : v = .str i := by simp only [rp, Rp.rp, Rep] at h; exact h
theorem Rep.ofInt {H : Hp} {i : Int} : Rep K H (rp i) (.int i) := by simp only [rp, Rp.rp, Rep]
theorem Rep.ofBl {H : Hp} {i : Bool} : Rep K H (rp i) (.bl i) := by simp only [rp, Rp.rp, Rep]
theorem Rep.ofStr {H : Hp} {i : Str} : Rep K H (rp i) (.str i) := by simp only [rp, Rp.rp, Rep]
/-- two values in a row -/
theorem ev_two {r : R2} {ra : Option α} {rb : Option β} {f : α → β → Option γ} (ha : EvE K ta ρ m1 ra) (hb : EvE K tb ρ m2 rb)
    (h : ∀ (Ht C H : Hp) (x : α) (y : β) (z : γ) (v u : V) (Q : VK), Same C H → f x y = some z → Rep K (part m1 Ht C) (rp x) v → Rep K (part m2 Ht C) (rp y) u →
      (∀ w C' H', Ext C H C' H' → Rep K (part m Ht C') (rp z) w → Q w H') → r v u H Q) : EvE K (tOp r ta tb) ρ m (ra.bind fun x => rb.bind fun y => f x y) := fun Ht C0 C H σ I z e Q q => by
  obtain ⟨x, ex, e⟩ := some_bind e
  obtain ⟨y, ey, e⟩ := some_bind e
  refine ha Ht C0 C H σ I x ex _ fun v C1 H1 x1 r1 => ?_
  refine hb Ht C0 C1 H1 σ (I.to x1) y ey _ fun u C2 H2 x2 r2 => ?_
  exact h Ht C2 H2 x y z v u Q x2.s e (r1.mono (part_mono x2.c)) r2 fun w C' H' x3 r3 => q w C' H' ((x1.trans x2).trans x3) r3
theorem ev_arith {g : Int → Int → Int} {ra rb : Option Int} (ha : EvE K ta ρ m1 ra) (hb : EvE K tb ρ m2 rb) : EvE K (tOp (rI0 fun i j => .int (g i j)) ta tb) ρ .new (ra.bind fun x => rb.bind fun y => some (g x y)) :=
  ev_two ha hb fun Ht C H x y z v u Q s e r1 r2 q => by
    cases e
    rw [r1.int_, r2.int_]
    exact ⟨x, y, rfl, rfl, q _ C H (.refl s) .ofInt⟩
theorem ev_arithC {g : Int → Int → Int} {P : Int → Int → Prop} {ra rb : Option Int} {f : Int → Int → Option Int} (hf : ∀ x y z, f x y = some z → P x y ∧ z = g x y) (ha : EvE K ta ρ m1 ra) (hb : EvE K tb ρ m2 rb) : EvE K (tOp (rI P fun i j => .int (g i j)) ta tb) ρ .new (ra.bind fun x => rb.bind fun y => f x y) :=
  ev_two ha hb fun Ht C H x y z v u Q s e r1 r2 q => by
    rw [r1.int_, r2.int_]
    obtain ⟨p, rfl⟩ := hf x y z e
    exact ⟨x, y, rfl, rfl, p, q _ C H (.refl s) .ofInt⟩
theorem ev_cmpI {g : Int → Int → Bool} {ra rb : Option Int} (ha : EvE K ta ρ m1 ra) (hb : EvE K tb ρ m2 rb) : EvE K (tOp (rI0 fun i j => .bl (g i j)) ta tb) ρ .new (ra.bind fun x => rb.bind fun y => some (g x y)) :=
  ev_two ha hb fun Ht C H x y z v u Q s e r1 r2 q => by
    cases e
    rw [r1.int_, r2.int_]
    exact ⟨x, y, rfl, rfl, q _ C H (.refl s) .ofBl⟩
/-- a product of numbers of at most 4096 bits -/
@[irreducible] def mulP (x y : Int) : Option Int := if x.natAbs < 2 ^ 4096 ∧ y.natAbs < 2 ^ 4096 then some (x * y) else none
/-- a quotient by a positive divisor of at most 4096 bits -/
@[irreducible] def divP (x y : Int) : Option Int := if 0 < y ∧ y < 2 ^ 4096 then some (x / y) else none
@[irreducible] def modP (x y : Int) : Option Int := if 0 < y then some (x % y) else none
theorem mulP_def (x y : Int) : mulP x y = if x.natAbs < 2 ^ 4096 ∧ y.natAbs < 2 ^ 4096 then some (x * y) else none := by unfold mulP; rfl
theorem divP_def (x y : Int) : divP x y = if 0 < y ∧ y < 2 ^ 4096 then some (x / y) else none := by unfold divP; rfl
theorem modP_def (x y : Int) : modP x y = if 0 < y then some (x % y) else none := by unfold modP; rfl
theorem some_if {A : Type} {c : Prop} [Decidable c] {x y : A} (h : (if c then some x else none) = some y) : c ∧ x = y := by
  split at h
  · rename_i hc
    exact ⟨hc, Option.some.inj h⟩
  · cases h
theorem ev_mul {ra rb : Option Int} (ha : EvE K ta ρ m1 ra) (hb : EvE K tb ρ m2 rb) : EvE K (tOp (rI CMulW fun i j => .int (i * j)) ta tb) ρ .new (ra.bind fun x => rb.bind fun y => mulP x y) :=
  ev_arithC (fun x y z h => by
    rw [mulP_def] at h
    obtain ⟨⟨h1, h2⟩, e⟩ := some_if h
    exact ⟨wide_mul h1 h2 (by decide) (by decide) (by decide), e.symm⟩) ha hb
theorem ev_div {ra rb : Option Int} (ha : EvE K ta ρ m1 ra) (hb : EvE K tb ρ m2 rb) : EvE K (tOp (rI CDivW fun i j => .int (i / j)) ta tb) ρ .new (ra.bind fun x => rb.bind fun y => divP x y) :=
  ev_arithC (fun x y z h => by
    rw [divP_def] at h
    obtain ⟨⟨h1, h2⟩, e⟩ := some_if h
    exact ⟨wide_div (b := 4096) h1 (by omega) (by decide) (by decide), e.symm⟩) ha hb
theorem ev_mod {ra rb : Option Int} (ha : EvE K ta ρ m1 ra) (hb : EvE K tb ρ m2 rb) : EvE K (tOp (rI (fun _ j => 0 < j) fun i j => .int (i % j)) ta tb) ρ .new (ra.bind fun x => rb.bind fun y => modP x y) :=
  ev_arithC (fun x y z h => by
    rw [modP_def] at h
    obtain ⟨h1, e⟩ := some_if h
    exact ⟨h1, e.symm⟩) ha hb
theorem bsP {A B : Type} {x : A} {f : A → Option B} {y : Option B} (h : y = f x) : y = (some x).bind f := h
theorem bcP {A B : Type} {r : Option A} {f g : A → Option B} (h : ∀ v, f v = g v) : r.bind f = r.bind g := congrArg r.bind (funext h)
/-- by a written number -/
theorem ev_divC {ra : Option Int} {k : Int} (ha : EvE K ta ρ m1 ra) (h : 0 < k ∧ k.natAbs.log2 < 9000 := by decide) : EvE K (tOp (rI CDivW fun i j => .int (i / j)) ta (tC (.int k))) ρ .new (ra.bind fun x => some (x / k)) :=
  ev_arithC (rb := some k) (f := fun x y => if y = k then some (x / y) else none) (fun x y z e => by obtain ⟨rfl, e2⟩ := some_if e; exact ⟨h, e2.symm⟩) ha ev_int |>.res (by
    cases ra <;> simp)
theorem ev_modC {ra : Option Int} {k : Int} (ha : EvE K ta ρ m1 ra) (h : 0 < k := by decide) : EvE K (tOp (rI (fun _ j => 0 < j) fun i j => .int (i % j)) ta (tC (.int k))) ρ .new (ra.bind fun x => some (x % k)) :=
  ev_arithC (rb := some k) (f := fun x y => if y = k then some (x % y) else none) (fun x y z e => by obtain ⟨rfl, e2⟩ := some_if e; exact ⟨h, e2.symm⟩) ha ev_int |>.res (by
    cases ra <;> simp)
theorem ev_mulC {ra : Option Int} {k : Int} (ha : EvE K ta ρ m1 ra) (h : CMul 0 k := by first | exact .inr (by decide) | exact .inl (by decide)) (h2 : -(2 ^ 64) < k ∧ k < 2 ^ 64 := by decide) : EvE K (tOp (rI CMul fun i j => .int (i * j)) ta (tC (.int k))) ρ .new (ra.bind fun x => some (x * k)) :=
  ev_arithC (rb := some k) (f := fun x y => if y = k then some (x * y) else none) (fun x y z e => by obtain ⟨rfl, e2⟩ := some_if e; exact ⟨.inr h2, e2.symm⟩) ha ev_int |>.res (by
    cases ra <;> simp)
theorem ev_mulCl {rb : Option Int} {k : Int} (hb : EvE K tb ρ m1 rb) (h2 : -(2 ^ 64) < k ∧ k < 2 ^ 64 := by decide) : EvE K (tOp (rI CMul fun i j => .int (i * j)) (tC (.int k)) tb) ρ .new (rb.bind fun x => some (k * x)) :=
  ev_arithC (ra := some k) (f := fun x y => if x = k then some (x * y) else none) (fun x y z e => by obtain ⟨rfl, e2⟩ := some_if e; exact ⟨.inl h2, e2.symm⟩) ev_int hb |>.res (by
    cases rb <;> simp)
theorem ev_pow {a b : Int} (h : 0 ≤ b ∧ b ≤ 1000000 ∧ a.natAbs < 2 ^ 64 := by decide) : EvE K (tOp (rI CPow fun i j => .int (i ^ j.toNat)) (tC (.int a)) (tC (.int b))) ρ .new (some (a ^ b.toNat)) :=
  ev_arithC (ra := some a) (rb := some b) (f := fun x y => if x = a ∧ y = b then some (x ^ y.toNat) else none) (fun x y z e => by obtain ⟨⟨rfl, rfl⟩, e2⟩ := some_if e; exact ⟨h, e2.symm⟩) ev_int ev_int |>.res (by simp)
theorem ev_un {g : Int → Int} {ra : Option Int} (ha : EvE K ta ρ m1 ra) : EvE K (tUn (rU fun i => .int (g i)) ta) ρ .new (ra.bind fun x => some (g x)) := fun Ht C0 C H σ I z e Q q => by
  obtain ⟨x, ex, e⟩ := some_bind e
  cases e
  refine ha Ht C0 C H σ I x ex _ fun v C1 H1 x1 r1 => ?_
  rw [r1.int_]
  exact ⟨x, rfl, q _ C1 H1 x1 .ofInt⟩
theorem ev_neg {k : Int} : EvE K (tUn (rU fun i => .int (-i)) (tC (.int k))) ρ .new (some (-k)) := ev_un (ra := some k) ev_int

/-! ### tests -/
theorem et_test {r : Option Bool} (h : EvE K t ρ m r) : EvT K (tTest t) ρ r := fun Ht C0 C H σ I b e Q q =>
  h Ht C0 C H σ I b e _ fun v C' H' x rv => ⟨b, rv.bl_, q C' H' x⟩
theorem et_val {r : Option Bool} (h : EvE K t ρ m r) : EvT K (tB t) ρ r := fun Ht C0 C H σ I b e Q q =>
  h Ht C0 C H σ I b e _ fun v C' H' x rv => ⟨b, rv.bl_, q C' H' x⟩
variable {u v : TT} {ra rb : Option Bool}
theorem et_not (h : EvT K u ρ ra) : EvT K (tNot u) ρ (ra.map fun b => !b) := fun Ht C0 C H σ I b e Q q => by
  obtain ⟨c, ec, rfl⟩ := some_map e
  exact h Ht C0 C H σ I c ec _ fun C' H' x => q C' H' x
theorem et_and (h1 : EvT K u ρ ra) (h2 : EvT K v ρ rb) : EvT K (tAnd u v) ρ (ra.bind fun b => if b = true then rb else some false) := fun Ht C0 C H σ I b e Q q => by
  obtain ⟨c, ec, e⟩ := some_bind e
  refine h1 Ht C0 C H σ I c ec _ fun C' H' x => ?_
  cases c with
  | false => rw [if_neg Bool.false_ne_true] at e; cases e; exact iteF (q C' H' x)
  | true => rw [if_pos rfl] at e; exact iteT (h2 Ht C0 C' H' σ (I.to x) b e _ fun C2 H2 x2 => q C2 H2 (x.trans x2))
theorem et_or (h1 : EvT K u ρ ra) (h2 : EvT K v ρ rb) : EvT K (tOr u v) ρ (ra.bind fun b => if b = true then some true else rb) := fun Ht C0 C H σ I b e Q q => by
  obtain ⟨c, ec, e⟩ := some_bind e
  refine h1 Ht C0 C H σ I c ec _ fun C' H' x => ?_
  cases c with
  | true => rw [if_pos rfl] at e; cases e; exact iteT (q C' H' x)
  | false => rw [if_neg Bool.false_ne_true] at e; exact iteF (h2 Ht C0 C' H' σ (I.to x) b e _ fun C2 H2 x2 => q C2 H2 (x.trans x2))
theorem EvT.res {r r' : Option Bool} (h : EvT K u ρ r) (e : r' = r) : EvT K u ρ r' := e ▸ h
/-- both without a fault -/
theorem et_andP {a b : Bool} (h1 : EvT K u ρ (some a)) (h2 : EvT K v ρ (some b)) : EvT K (tAnd u v) ρ (some (a && b)) := (et_and h1 h2).res (by cases a <;> rfl)
theorem et_orP {a b : Bool} (h1 : EvT K u ρ (some a)) (h2 : EvT K v ρ (some b)) : EvT K (tOr u v) ρ (some (a || b)) := (et_or h1 h2).res (by cases a <;> rfl)
/-- as values -/
theorem ev_andV {ra rb : Option Bool} (h1 : EvE K ta ρ m1 ra) (h2 : EvE K tb ρ m2 rb) : EvE K (tAndV ta tb) ρ .new (ra.bind fun b => if b = true then rb else some false) := fun Ht C0 C H σ I b e Q q => by
  obtain ⟨c, ec, e⟩ := some_bind e
  refine h1 Ht C0 C H σ I c ec _ fun v C' H' x rv => ⟨c, rv.bl_, ?_⟩
  cases c with
  | false => rw [if_neg Bool.false_ne_true] at e; cases e; exact iteF (q _ C' H' x .ofBl)
  | true => rw [if_pos rfl] at e; exact iteT (h2 Ht C0 C' H' σ (I.to x) b e _ fun w C2 H2 x2 r2 => q w C2 H2 (x.trans x2) (Scal.ok K _ _ b w r2))
theorem ev_orV {ra rb : Option Bool} (h1 : EvE K ta ρ m1 ra) (h2 : EvE K tb ρ m2 rb) : EvE K (tOrV ta tb) ρ .new (ra.bind fun b => if b = true then some true else rb) := fun Ht C0 C H σ I b e Q q => by
  obtain ⟨c, ec, e⟩ := some_bind e
  refine h1 Ht C0 C H σ I c ec _ fun v C' H' x rv => ⟨c, rv.bl_, ?_⟩
  cases c with
  | true => rw [if_pos rfl] at e; cases e; exact iteT (q _ C' H' x .ofBl)
  | false => rw [if_neg Bool.false_ne_true] at e; exact iteF (h2 Ht C0 C' H' σ (I.to x) b e _ fun w C2 H2 x2 r2 => q w C2 H2 (x.trans x2) (Scal.ok K _ _ b w r2))
theorem ev_andVP {a b : Bool} (h1 : EvE K ta ρ m1 (some a)) (h2 : EvE K tb ρ m2 (some b)) : EvE K (tAndV ta tb) ρ .new (some (a && b)) := (ev_andV h1 h2).res (by cases a <;> rfl)
theorem ev_orVP {a b : Bool} (h1 : EvE K ta ρ m1 (some a)) (h2 : EvE K tb ρ m2 (some b)) : EvE K (tOrV ta tb) ρ .new (some (a || b)) := (ev_orV h1 h2).res (by cases a <;> rfl)
theorem ev_notV {ra : Option Bool} (h1 : EvE K ta ρ m1 ra) : EvE K (tNotV ta) ρ .new (ra.map fun b => !b) := fun Ht C0 C H σ I b e Q q => by
  obtain ⟨c, ec, rfl⟩ := some_map e
  exact h1 Ht C0 C H σ I c ec _ fun v C' H' x rv => ⟨c, rv.bl_, q _ C' H' x .ofBl⟩
/-- a if t else b -/
theorem ev_if {rc : Option Bool} {ra rb : Option α} (hc : EvT K u ρ rc) (h1 : EvE K ta ρ m ra) (h2 : EvE K tb ρ m rb) : EvE K (tIf u ta tb) ρ m (rc.bind fun c => if c = true then ra else rb) := fun Ht C0 C H σ I x e Q q => by
  obtain ⟨c, ec, e⟩ := some_bind e
  refine hc Ht C0 C H σ I c ec _ fun C' H' y => ?_
  cases c with
  | true => rw [if_pos rfl] at e; exact iteT (h1 Ht C0 C' H' σ (I.to y) x e _ fun w C2 H2 x2 r2 => q w C2 H2 (y.trans x2) r2)
  | false => rw [if_neg Bool.false_ne_true] at e; exact iteF (h2 Ht C0 C' H' σ (I.to y) x e _ fun w C2 H2 x2 r2 => q w C2 H2 (y.trans x2) r2)
/-- equal numbers, texts, bools -/
theorem ev_eqI {ra rb : Option Int} (ha : EvE K ta ρ m1 ra) (hb : EvE K tb ρ m2 rb) : EvE K (tOp rEq ta tb) ρ .new (ra.bind fun x => rb.bind fun y => some (decide (x = y))) :=
  ev_two ha hb fun Ht C H x y z v u Q s e r1 r2 q => by
    cases e
    rw [r1.int_, r2.int_]
    exact ⟨rfl, q _ C H (.refl s) (by simp only [rp, Rp.rp, Rep, V.int.injEq])⟩
theorem ev_neI {ra rb : Option Int} (ha : EvE K ta ρ m1 ra) (hb : EvE K tb ρ m2 rb) : EvE K (tOp rNe ta tb) ρ .new (ra.bind fun x => rb.bind fun y => some (decide (x ≠ y))) :=
  ev_two ha hb fun Ht C H x y z v u Q s e r1 r2 q => by
    cases e
    rw [r1.int_, r2.int_]
    exact ⟨rfl, q _ C H (.refl s) (by simp only [rp, Rp.rp, Rep, V.int.injEq, ne_eq, decide_not])⟩
theorem ev_eqS {ra rb : Option Str} (ha : EvE K ta ρ m1 ra) (hb : EvE K tb ρ m2 rb) : EvE K (tOp rEq ta tb) ρ .new (ra.bind fun x => rb.bind fun y => some (decide (x = y))) :=
  ev_two ha hb fun Ht C H x y z v u Q s e r1 r2 q => by
    cases e
    rw [r1.str_, r2.str_]
    exact ⟨rfl, q _ C H (.refl s) (by simp only [rp, Rp.rp, Rep, V.str.injEq])⟩
theorem ev_neS {ra rb : Option Str} (ha : EvE K ta ρ m1 ra) (hb : EvE K tb ρ m2 rb) : EvE K (tOp rNe ta tb) ρ .new (ra.bind fun x => rb.bind fun y => some (decide (x ≠ y))) :=
  ev_two ha hb fun Ht C H x y z v u Q s e r1 r2 q => by
    cases e
    rw [r1.str_, r2.str_]
    exact ⟨rfl, q _ C H (.refl s) (by simp only [rp, Rp.rp, Rep, V.str.injEq, ne_eq, decide_not])⟩
theorem ev_eqB {ra rb : Option Bool} (ha : EvE K ta ρ m1 ra) (hb : EvE K tb ρ m2 rb) : EvE K (tOp rEq ta tb) ρ .new (ra.bind fun x => rb.bind fun y => some (decide (x = y))) :=
  ev_two ha hb fun Ht C H x y z v u Q s e r1 r2 q => by
    cases e
    rw [r1.bl_, r2.bl_]
    exact ⟨rfl, q _ C H (.refl s) (by simp only [rp, Rp.rp, Rep, V.bl.injEq])⟩
theorem ev_neB {ra rb : Option Bool} (ha : EvE K ta ρ m1 ra) (hb : EvE K tb ρ m2 rb) : EvE K (tOp rNe ta tb) ρ .new (ra.bind fun x => rb.bind fun y => some (decide (x ≠ y))) :=
  ev_two ha hb fun Ht C H x y z v u Q s e r1 r2 q => by
    cases e
    rw [r1.bl_, r2.bl_]
    exact ⟨rfl, q _ C H (.refl s) (by simp only [rp, Rp.rp, Rep, V.bl.injEq, ne_eq, decide_not])⟩
end
end L2.DL

/-! DL3: lists, tuples, slices, comprehensions, built-ins, by data. -/
namespace L2.DL
open PySem PySem.Spec PyProof.Rows

/-- a list that Python can hold -/
@[irreducible] def lim {α : Type} (l : List α) : Option (List α) := if l.length ≤ 16777216 then some l else none
theorem lim_def {α : Type} (l : List α) : lim l = if l.length ≤ 16777216 then some l else none := by unfold lim; rfl
theorem lim_of {α : Type} {l : List α} (h : l.length ≤ 16777216) : lim l = some l := by rw [lim_def, if_pos h]
theorem of_lim {α : Type} {l r : List α} (h : lim l = some r) : l.length ≤ sizeLine ∧ r = l := by
  rw [lim_def] at h
  obtain ⟨a, b⟩ := some_if h
  exact ⟨by rw [sizeLine_eq]; exact a, b.symm⟩
def cut {α : Type} (xs : List α) (lo hi : Option Int) : List α := (xs.drop (HT.sIx xs.length 0 lo)).take (HT.sIx xs.length xs.length hi - HT.sIx xs.length 0 lo)
def rangeL (lo hi : Int) : List Int := (List.range (hi - lo).toNat).map fun (k : Nat) => lo + (k : Int)
@[irreducible] def rangeP (lo hi : Int) : Option (List Int) := if -(2 ^ 62) ≤ lo ∧ lo < 2 ^ 62 ∧ -(2 ^ 62) ≤ hi ∧ hi < 2 ^ 62 then some (rangeL lo hi) else none
theorem rangeP_def (lo hi : Int) : rangeP lo hi = if -(2 ^ 62) ≤ lo ∧ lo < 2 ^ 62 ∧ -(2 ^ 62) ≤ hi ∧ hi < 2 ^ 62 then some (rangeL lo hi) else none := by unfold rangeP; rfl
/-- all or nothing -/
def mapO {α β : Type} (f : α → Option β) : List α → Option (List β)
  | [] => some []
  | x :: xs => (f x).bind fun y => (mapO f xs).bind fun ys => some (y :: ys)
def compM {α β : Type} (p : α → Option Bool) (f : α → Option β) : List α → Option (List β)
  | [] => some []
  | x :: xs => (p x).bind fun b => if b = true then (f x).bind fun y => (compM p f xs).bind fun ys => some (y :: ys) else compM p f xs
theorem compM_map {α β : Type} {f : α → β} : ∀ xs : List α, compM (fun _ => some true) (fun x => some (f x)) xs = some (xs.map f)
  | [] => rfl
  | x :: xs => by
    simp only [compM, compM_map xs, Option.bind_some, if_true, List.map_cons]
theorem compM_mapO {α β : Type} {f : α → Option β} : ∀ xs : List α, compM (fun _ => some true) f xs = mapO f xs
  | [] => rfl
  | x :: xs => by
    simp only [compM, mapO, compM_mapO xs, Option.bind_some, if_true]
theorem compM_filter {α β : Type} {p : α → Bool} {f : α → β} : ∀ xs : List α, compM (fun x => some (p x)) (fun x => some (f x)) xs = some ((xs.filter p).map f)
  | [] => rfl
  | x :: xs => by
    cases h : p x <;> simp [compM, compM_filter xs, h]

section
variable {K : PySem.W.Frag} {t ta tb te : TE} {ρ : En} {m m1 m2 : Md}
variable {α β γ : Type} [Rp α] [Rp β] [Rp γ]
theorem rep_lst {H : Hp} {xs : List α} {v : V} (h : Rep K H (rp xs) v) : ∃ a vs, v = .ref a ∧ H a = some (.lst vs) ∧ RepL K H (rps xs) vs := by
  simp only [rp, Rp.rp, Rep] at h
  exact h
theorem rep_pair {H : Hp} {p : α × β} {v : V} (h : Rep K H (rp p) v) : ∃ a x y, v = .ref a ∧ H a = some (.tup [x, y]) ∧ Rep K H (rp p.1) x ∧ Rep K H (rp p.2) y := by
  simp only [rp, Rp.rp, Rep] at h
  obtain ⟨a, vs, e, h1, h2⟩ := h
  obtain ⟨x, r, rfl, r1, h2⟩ := h2.uncons
  obtain ⟨y, r', rfl, r2, h2⟩ := h2.uncons
  rw [h2.nil_iff] at h1
  exact ⟨a, x, y, e, h1, r1, r2⟩
theorem rep_t3 {H : Hp} {p : T3 α β γ} {v : V} (h : Rep K H (rp p) v) : ∃ a x y z, v = .ref a ∧ H a = some (.tup [x, y, z]) ∧ Rep K H (rp p.p) x ∧ Rep K H (rp p.q) y ∧ Rep K H (rp p.r) z := by
  simp only [rp, Rp.rp, Rep] at h
  obtain ⟨a, vs, e, h1, h2⟩ := h
  obtain ⟨x, r, rfl, r1, h2⟩ := h2.uncons
  obtain ⟨y, r', rfl, r2, h2⟩ := h2.uncons
  obtain ⟨z, r', rfl, r3, h2⟩ := h2.uncons
  rw [h2.nil_iff] at h1
  exact ⟨a, x, y, z, e, h1, r1, r2, r3⟩
theorem rep_tupL {H : Hp} {p : TupL α} {v : V} (h : Rep K H (rp p) v) : ∃ a vs, v = .ref a ∧ H a = some (.tup vs) ∧ RepL K H (rps p.l) vs := by
  simp only [rp, Rp.rp, Rep] at h
  exact h

/-! ### subscripts -/
theorem atI_rep {H : Hp} {xs : List α} {vs : List V} {i : Int} {x : α} (h : RepL K H (rps xs) vs) (e : atI xs i = some x) : ∃ v, atI vs i = some v ∧ Rep K H (rp x) v := by
  have hl : vs.length = xs.length := by rw [h.length, List.length_map]
  unfold atI at e ⊢
  rw [hl]
  obtain ⟨j, ej, e⟩ := some_bind e
  rw [ej]
  obtain ⟨v, e1, e2⟩ := h.get (i := j) (d := rp x) (by rw [rps, List.getElem?_map, e]; rfl)
  exact ⟨v, e1, e2⟩
theorem ev_ix {ra : Option (List α)} {rb : Option Int} (ha : EvB K ta ρ m ra) (hb : EvE K tb ρ m2 rb) : EvE K (tOp (rIxL K) ta tb) ρ m (ra.bind fun xs => rb.bind fun i => atI xs i) := fun Ht C0 C H σ I z e Q q => by
  obtain ⟨xs, ex, e⟩ := some_bind e
  obtain ⟨i, ei, e⟩ := some_bind e
  refine ha Ht C0 C H σ I xs ex _ fun a vs C1 H1 x1 h1 r1 => ?_
  refine hb Ht C0 C1 H1 σ (I.to x1) i ei _ fun u C2 H2 x2 r2 => ?_
  rw [r2.int_]
  obtain ⟨v, ev, rv⟩ := atI_rep (r1.mono (part_mono x2.c)) e
  exact ⟨a, vs, i, v, rfl, rfl, .of (x2.h _ _ h1), ev, q v C2 H2 (x1.trans x2) rv⟩
theorem ev_ixT {ra : Option (TupL α)} {rb : Option Int} (ha : EvE K ta ρ m ra) (hb : EvE K tb ρ m2 rb) : EvE K (tOp (rIxT K) ta tb) ρ m (ra.bind fun xs => rb.bind fun i => atI xs.l i) :=
  ev_two ha hb fun Ht C H x y z v u Q s e r1 r2 q => by
    obtain ⟨a, vs, rfl, h1, h2⟩ := rep_tupL r1
    rw [r2.int_]
    obtain ⟨w, ev, rv⟩ := atI_rep h2 e
    exact ⟨a, vs, y, w, rfl, rfl, .of (s _ _ (part_le _ _ h1)), ev, q w C H (.refl s) rv⟩
theorem ev_fst {ra : Option (α × β)} (ha : EvE K ta ρ m ra) : EvE K (tOp (rIxT K) ta (tC (.int 0))) ρ m (ra.map fun p => p.1) :=
  (ev_two (f := fun (p : α × β) (i : Int) => if i = 0 then some p.1 else none) ha (ev_int (i := 0)) fun Ht C H x y z v u Q s e r1 r2 q => by
    obtain ⟨rfl, rfl⟩ := some_if e
    obtain ⟨a, x1, y1, rfl, h1, h2, h3⟩ := rep_pair r1
    rw [r2.int_]
    exact ⟨a, _, 0, x1, rfl, rfl, .of (s _ _ (part_le _ _ h1)), atI_nat (j := 0) rfl, q x1 C H (.refl s) h2⟩).res (by cases ra <;> rfl)
theorem ev_snd {ra : Option (α × β)} (ha : EvE K ta ρ m ra) : EvE K (tOp (rIxT K) ta (tC (.int 1))) ρ m (ra.map fun p => p.2) :=
  (ev_two (f := fun (p : α × β) (i : Int) => if i = 1 then some p.2 else none) ha (ev_int (i := 1)) fun Ht C H x y z v u Q s e r1 r2 q => by
    obtain ⟨rfl, rfl⟩ := some_if e
    obtain ⟨a, x1, y1, rfl, h1, h2, h3⟩ := rep_pair r1
    rw [r2.int_]
    exact ⟨a, _, 1, y1, rfl, rfl, .of (s _ _ (part_le _ _ h1)), atI_nat (j := 1) rfl, q y1 C H (.refl s) h3⟩).res (by cases ra <;> rfl)
theorem ev_3a {ra : Option (T3 α β γ)} (ha : EvE K ta ρ m ra) : EvE K (tOp (rIxT K) ta (tC (.int 0))) ρ m (ra.map fun p => p.p) :=
  (ev_two (f := fun (p : T3 α β γ) (i : Int) => if i = 0 then some p.p else none) ha (ev_int (i := 0)) fun Ht C H x y z v u Q s e r1 r2 q => by
    obtain ⟨rfl, rfl⟩ := some_if e
    obtain ⟨a, x1, y1, z1, rfl, h1, h2, h3, h4⟩ := rep_t3 r1
    rw [r2.int_]
    exact ⟨a, _, 0, x1, rfl, rfl, .of (s _ _ (part_le _ _ h1)), atI_nat (j := 0) rfl, q x1 C H (.refl s) h2⟩).res (by cases ra <;> rfl)
theorem ev_3b {ra : Option (T3 α β γ)} (ha : EvE K ta ρ m ra) : EvE K (tOp (rIxT K) ta (tC (.int 1))) ρ m (ra.map fun p => p.q) :=
  (ev_two (f := fun (p : T3 α β γ) (i : Int) => if i = 1 then some p.q else none) ha (ev_int (i := 1)) fun Ht C H x y z v u Q s e r1 r2 q => by
    obtain ⟨rfl, rfl⟩ := some_if e
    obtain ⟨a, x1, y1, z1, rfl, h1, h2, h3, h4⟩ := rep_t3 r1
    rw [r2.int_]
    exact ⟨a, _, 1, y1, rfl, rfl, .of (s _ _ (part_le _ _ h1)), atI_nat (j := 1) rfl, q y1 C H (.refl s) h3⟩).res (by cases ra <;> rfl)
theorem ev_3c {ra : Option (T3 α β γ)} (ha : EvE K ta ρ m ra) : EvE K (tOp (rIxT K) ta (tC (.int 2))) ρ m (ra.map fun p => p.r) :=
  (ev_two (f := fun (p : T3 α β γ) (i : Int) => if i = 2 then some p.r else none) ha (ev_int (i := 2)) fun Ht C H x y z v u Q s e r1 r2 q => by
    obtain ⟨rfl, rfl⟩ := some_if e
    obtain ⟨a, x1, y1, z1, rfl, h1, h2, h3, h4⟩ := rep_t3 r1
    rw [r2.int_]
    exact ⟨a, _, 2, z1, rfl, rfl, .of (s _ _ (part_le _ _ h1)), atI_nat (j := 2) rfl, q z1 C H (.refl s) h4⟩).res (by cases ra <;> rfl)

/-! ### new lists and tuples -/
/-- the end of a rule that makes a new list -/
theorem new_list {Ht C H C1 H1 : Hp} {xs : List α} {vs : List V} {p : Addr} {Q : VK} (x : Ext C H C1 H1) (hp : H1 p = none) (r : RepL K (part m Ht C1) (rps xs) vs)
    (q : ∀ a vs C' H', Ext C H C' H' → H a = none → C' a = none → H' a = some (.lst vs) → RepL K (part m Ht C') (rps xs) vs → Q (.ref a) H') : Q (.ref p) (upd H1 p (.lst vs)) :=
  q p vs C1 (upd H1 p (.lst vs)) ⟨x.c, x.h.trans (same_upd hp), x.s.trans (same_upd hp), fun a h1 h2 => x.f a h1 h2⟩ (free_of x.h hp) (free_of x.s hp) upd_same r
/-- the new object joins the clean part -/
theorem new_clean {C H C1 H1 : Hp} {p : Addr} {o : HO} (x : Ext C H C1 H1) (hp : H1 p = none) : Ext C H (upd C1 p o) (upd H1 p o) :=
  ⟨x.c.trans (same_upd (free_of x.s hp)), x.h.trans (same_upd hp), fun b u e => by
    by_cases hb : b = p
    · subst hb
      rw [upd_same] at e ⊢
      exact e
    · rw [upd_ne hb] at e ⊢
      exact x.s _ _ e, fun b h1 h2 => by
    have nb : b ≠ p := fun z => by rw [z] at h1; exact h1 (free_of x.h hp)
    rw [upd_ne nb]
    exact x.f b h1 h2⟩
/-- the items of a display, from the left -/
def EvX (K : PySem.W.Frag) (t : TA) (ρ : En) (m : Md) (r : Option (List Dt)) : Prop :=
  ∀ (Ht C0 C H : Hp) (σ : St), EnvI K Ht C0 C H σ ρ → ∀ ds, r = some ds → ∀ Q : List V → Hp → Prop, (∀ vs C' H', Ext C H C' H' → RepL K (part m Ht C') ds vs → Q vs H') → t σ H Q
theorem ex_nil : EvX K tNil ρ m (some []) := fun Ht C0 C H σ I ds e Q q => by
  cases e
  exact q [] C H I.same .nil
theorem ex_cons {t : TA} {ra : Option α} {rb : Option (List Dt)} (ha : EvE K ta ρ m ra) (hb : EvX K t ρ m rb) : EvX K (tCons ta t) ρ m (ra.bind fun x => rb.bind fun ds => some (rp x :: ds)) := fun Ht C0 C H σ I ds e Q q => by
  obtain ⟨x, ex, e⟩ := some_bind e
  obtain ⟨y, ey, e⟩ := some_bind e
  cases e
  refine ha Ht C0 C H σ I x ex _ fun v C1 H1 x1 r1 => ?_
  refine hb Ht C0 C1 H1 σ (I.to x1) y ey _ fun u C2 H2 x2 r2 => ?_
  exact q (v :: u) C2 H2 (x1.trans x2) (.cons (r1.mono (part_mono x2.c)) r2)
/-- .. typed, n of them -/
def EvXs (K : PySem.W.Frag) {α : Type} [Rp α] (t : TA) (ρ : En) (m : Md) (n : Nat) (r : Option (List α)) : Prop := EvX K t ρ m (r.map rps) ∧ ∀ xs, r = some xs → xs.length = n
theorem exs_nil : EvXs K (α := α) tNil ρ m 0 (some []) := ⟨ex_nil, fun xs e => by cases e; rfl⟩
theorem exs_cons {t : TA} {n : Nat} {ra : Option α} {rb : Option (List α)} (ha : EvE K ta ρ m ra) (hb : EvXs K t ρ m n rb) : EvXs K (tCons ta t) ρ m (n + 1) (ra.bind fun x => rb.bind fun ds => some (x :: ds)) := by
  refine ⟨?_, fun xs e => ?_⟩
  · have h := ex_cons ha hb.1
    cases ra with
    | none => exact h
    | some x =>
      cases rb with
      | none => exact h
      | some y => exact h
  · obtain ⟨x, ex, e⟩ := some_bind e
    obtain ⟨y, ey, e⟩ := some_bind e
    cases e
    rw [List.length_cons, hb.2 y ey]
theorem ev_list {t : TA} {n : Nat} {r : Option (List α)} (h : EvXs K t ρ m n r) (hn : n ≤ 1000 := by decide) : EvL K (tLst t) ρ m r := fun Ht C0 C H σ I xs e Q q => by
  refine h.1 Ht C0 C H σ I (rps xs) (by rw [e]; rfl) _ fun vs C1 H1 x1 r1 => ⟨?_, fun p hp => new_list x1 hp r1 q⟩
  rw [r1.length, List.length_map, h.2 xs e]
  exact Nat.le_trans hn (by decide)
theorem ev_tup {t : TA} {r : Option (List Dt)} {rz : Option γ} (f : List Dt → γ) (h : EvX K t ρ m r) (hz : rz = r.map f) (hd : ∀ ds, r = some ds → rp (f ds) = .tup ds ∧ ds.length ≤ 1000) : EvE K (tTup t) ρ m rz := fun Ht C0 C H σ I z e Q q => by
  rw [hz] at e
  obtain ⟨ds, e2, rfl⟩ := some_map e
  refine h Ht C0 C H σ I ds e2 _ fun vs C1 H1 x1 r1 => ⟨?_, fun p hp => ?_⟩
  · rw [r1.length]
    exact Nat.le_trans (hd ds e2).2 (by decide)
  · refine q (.ref p) (upd C1 p (.tup vs)) _ (new_clean x1 hp) ?_
    rw [(hd ds e2).1]
    simp only [Rep]
    exact ⟨p, vs, rfl, part_at upd_same (free_of (I.ext.h.trans x1.h) hp), r1.mono (part_mono (same_upd (free_of x1.s hp)))⟩
theorem ev_pair {ra : Option α} {rb : Option β} (ha : EvE K ta ρ m ra) (hb : EvE K tb ρ m rb) : EvE K (tTup (tCons ta (tCons tb tNil))) ρ m (ra.bind fun x => rb.bind fun y => some (x, y)) := fun Ht C0 C H σ I z e Q q => by
  obtain ⟨x, ex, e⟩ := some_bind e
  obtain ⟨y, ey, e⟩ := some_bind e
  cases e
  refine ha Ht C0 C H σ I x ex _ fun v C1 H1 x1 r1 => ?_
  refine hb Ht C0 C1 H1 σ (I.to x1) y ey _ fun u C2 H2 x2 r2 => ⟨(by show 2 ≤ sizeLine; decide), fun p hp => ?_⟩
  refine q (.ref p) (upd C2 p (.tup [v, u])) _ (new_clean (x1.trans x2) hp) ?_
  simp only [rp, Rp.rp, Rep]
  have s2 := same_upd (o := .tup [v, u]) (free_of x2.s hp)
  exact ⟨p, _, rfl, part_at upd_same (free_of (I.ext.h.trans (x1.h.trans x2.h)) hp), .cons (r1.mono (part_mono (x2.c.trans s2))) (.cons (r2.mono (part_mono s2)) .nil)⟩
theorem ev_trip {tc : TE} {ra : Option α} {rb : Option β} {rc : Option γ} (ha : EvE K ta ρ m ra) (hb : EvE K tb ρ m rb) (hc : EvE K tc ρ m rc) : EvE K (tTup (tCons ta (tCons tb (tCons tc tNil)))) ρ m (ra.bind fun x => rb.bind fun y => rc.bind fun z => some (T3.mk x y z)) := fun Ht C0 C H σ I z e Q q => by
  obtain ⟨x, ex, e⟩ := some_bind e
  obtain ⟨y, ey, e⟩ := some_bind e
  obtain ⟨z, ez, e⟩ := some_bind e
  cases e
  refine ha Ht C0 C H σ I x ex _ fun v C1 H1 x1 r1 => ?_
  refine hb Ht C0 C1 H1 σ (I.to x1) y ey _ fun u C2 H2 x2 r2 => ?_
  refine hc Ht C0 C2 H2 σ ((I.to x1).to x2) z ez _ fun w C3 H3 x3 r3 => ⟨(by show 3 ≤ sizeLine; decide), fun p hp => ?_⟩
  refine q (.ref p) (upd C3 p (.tup [v, u, w])) _ (new_clean ((x1.trans x2).trans x3) hp) ?_
  simp only [rp, Rp.rp, Rep]
  have s3 := same_upd (o := .tup [v, u, w]) (free_of x3.s hp)
  exact ⟨p, _, rfl, part_at upd_same (free_of (I.ext.h.trans ((x1.h.trans x2.h).trans x3.h)) hp), .cons (r1.mono (part_mono ((x2.c.trans x3.c).trans s3))) (.cons (r2.mono (part_mono (x3.c.trans s3))) (.cons (r3.mono (part_mono s3)) .nil))⟩

/-! ### slices -/
theorem eo_no : EvO K tNoPart ρ (some none) := fun Ht C0 C H σ I x e Q q => by
  cases e
  exact q C H I.same
theorem eo_at {ra : Option Int} (ha : EvE K ta ρ m ra) : EvO K (tPart ta) ρ (ra.map some) := fun Ht C0 C H σ I x e Q q => by
  obtain ⟨i, ei, rfl⟩ := some_map e
  exact ha Ht C0 C H σ I i ei _ fun v C1 H1 x1 r1 => ⟨i, r1.int_, q C1 H1 x1⟩
theorem eo_atP {x : Int} (ha : EvE K ta ρ m (some x)) : EvO K (tPart ta) ρ (some (some x)) := eo_at ha
theorem cut_rep {H : Hp} {xs : List α} {vs : List V} {lo hi : Option Int} (h : RepL K H (rps xs) vs) : RepL K H (rps (cut xs lo hi)) (cutV vs lo hi) := by
  have hl : vs.length = xs.length := by rw [h.length, List.length_map]
  unfold cut cutV
  rw [hl, rps, List.map_take, List.map_drop]
  exact (h.drop _).take _
theorem ev_sl {tl th : TO} {ra : Option (List α)} {rl rh : Option (Option Int)} (ha : EvB K ta ρ m ra) (hl : EvO K tl ρ rl) (hh : EvO K th ρ rh) : EvL K (tSl (rSlL K) ta tl th) ρ m (ra.bind fun xs => rl.bind fun lo => rh.bind fun hi => some (cut xs lo hi)) := fun Ht C0 C H σ I z e Q q => by
  obtain ⟨xs, ex, e⟩ := some_bind e
  obtain ⟨lo, el, e⟩ := some_bind e
  obtain ⟨hi, eh, e⟩ := some_bind e
  cases e
  refine ha Ht C0 C H σ I xs ex _ fun a vs C1 H1 x1 h1 r1 => ?_
  refine hl Ht C0 C1 H1 σ (I.to x1) lo el _ fun C2 H2 x2 => ?_
  refine hh Ht C0 C2 H2 σ ((I.to x1).to x2) hi eh _ fun C3 H3 x3 => ?_
  exact ⟨a, vs, rfl, .of (x3.h _ _ (x2.h _ _ h1)), fun p hp => new_list ((x1.trans x2).trans x3) hp (cut_rep (r1.mono (part_mono (x2.c.trans x3.c)))) q⟩
theorem RepL.ints {H : Hp} : ∀ ns : List Int, RepL K H (rps ns) (ns.map V.int)
  | [] => .nil
  | n :: ns => .cons .ofInt (RepL.ints ns)
theorem RepL.ints_eq {H : Hp} : ∀ {ns : List Int} {vs : List V}, RepL K H (rps ns) vs → vs = ns.map V.int
  | [], vs, h => h.nil_iff
  | n :: ns, vs, h => by
    obtain ⟨v, r, rfl, h1, h2⟩ := h.uncons
    rw [h1.int_, h2.ints_eq]
    rfl
/-- of the script -/
theorem ev_slS {tl th : TO} {ra : Option Scr} {rl rh : Option (Option Int)} (ha : EvE K ta ρ m ra) (hl : EvO K tl ρ rl) (hh : EvO K th ρ rh) : EvL K (tSl (rSlL K) ta tl th) ρ .new (ra.bind fun xs => rl.bind fun lo => rh.bind fun hi => some (cut xs.l lo hi)) := fun Ht C0 C H σ I z e Q q => by
  obtain ⟨xs, ex, e⟩ := some_bind e
  obtain ⟨lo, el, e⟩ := some_bind e
  obtain ⟨hi, eh, e⟩ := some_bind e
  cases e
  refine ha Ht C0 C H σ I xs ex _ fun v C1 H1 x1 r1 => ?_
  refine hl Ht C0 C1 H1 σ (I.to x1) lo el _ fun C2 H2 x2 => ?_
  refine hh Ht C0 C2 H2 σ ((I.to x1).to x2) hi eh _ fun C3 H3 x3 => ?_
  simp only [rp, Rp.rp, Rep] at r1
  obtain ⟨a, rfl, r1⟩ := r1
  exact ⟨a, _, rfl, ((((part_le.trans x1.s).trans x2.h).trans x3.h)).seq r1, fun p hp => new_list ((x1.trans x2).trans x3) hp (cut_rep (RepL.ints xs.l)) q⟩

/-! ### + and * of lists -/
theorem ev_cat {ra rb : Option (List α)} (ha : EvB K ta ρ m ra) (hb : EvB K tb ρ m rb) : EvL K (tOp rCat ta tb) ρ m (ra.bind fun x => rb.bind fun y => lim (x ++ y)) := fun Ht C0 C H σ I z e Q q => by
  obtain ⟨x, ex, e⟩ := some_bind e
  obtain ⟨y, ey, e⟩ := some_bind e
  obtain ⟨hz, rfl⟩ := of_lim e
  refine ha Ht C0 C H σ I x ex _ fun a vs C1 H1 x1 h1 r1 => ?_
  refine hb Ht C0 C1 H1 σ (I.to x1) y ey _ fun b us C2 H2 x2 h2 r2 => ?_
  refine ⟨a, b, vs, us, rfl, rfl, x2.h _ _ h1, h2, ?_, fun p hp => new_list (x1.trans x2) hp ?_ q⟩
  · rw [r1.length, r2.length, List.length_map, List.length_map, ← List.length_append]
    exact hz
  · rw [rps, List.map_append]
    exact (r1.mono (part_mono x2.c)).append r2
/-- xs * k -/
@[irreducible] def repP {α : Type} (xs : List α) (k : Int) : Option (List α) := if -(2 ^ 63) ≤ k ∧ k < 2 ^ 63 ∧ xs.length * k.toNat ≤ 16777216 then some (List.replicate k.toNat xs).flatten else none
theorem repP_def {α : Type} (xs : List α) (k : Int) : repP xs k = if -(2 ^ 63) ≤ k ∧ k < 2 ^ 63 ∧ xs.length * k.toNat ≤ 16777216 then some (List.replicate k.toNat xs).flatten else none := by unfold repP; rfl
theorem ev_rep {ra : Option (List α)} {rb : Option Int} (ha : EvB K ta ρ m ra) (hb : EvE K tb ρ m2 rb) : EvL K (tOp rRep ta tb) ρ m (ra.bind fun x => rb.bind fun y => repP x y) := fun Ht C0 C H σ I z e Q q => by
  obtain ⟨x, ex, e⟩ := some_bind e
  obtain ⟨y, ey, e⟩ := some_bind e
  rw [repP_def] at e
  obtain ⟨⟨h1', h2', h3'⟩, rfl⟩ := some_if e
  refine ha Ht C0 C H σ I x ex _ fun a vs C1 H1 x1 h1 r1 => ?_
  refine hb Ht C0 C1 H1 σ (I.to x1) y ey _ fun b C2 H2 x2 r2 => ?_
  rw [r2.int_]
  refine ⟨a, y, vs, rfl, rfl, x2.h _ _ h1, h1', h2', ?_, fun p hp => new_list (x1.trans x2) hp ?_ q⟩
  · rw [r1.length, List.length_map, sizeLine_eq]
    exact h3'
  · rw [rps, List.map_flatten, List.map_replicate]
    exact (r1.mono (part_mono x2.c)).rep _

/-! ### built-ins -/
abbrev rLen (K : PySem.W.Frag) : List V → Hp → VK → Prop := fun xs H Q => ∃ p ys, xs = [.ref p] ∧ (SqL K H p ys ∨ SqT K H p ys) ∧ Q (.int ys.length) H
theorem ev_len {ra : Option (List α)} (ha : EvB K ta ρ m ra) : EvE K (tCB (rLen K) (tCons ta tNil)) ρ .new (ra.bind fun x => some (x.length : Int)) := fun Ht C0 C H σ I z e Q q => by
  obtain ⟨x, ex, e⟩ := some_bind e
  cases e
  refine ha Ht C0 C H σ I x ex _ fun a vs C1 H1 x1 h1 r1 => ⟨a, vs, rfl, .inl (.of h1), ?_⟩
  refine q _ C1 H1 x1 ?_
  rw [r1.length, List.length_map]
  exact .ofInt
theorem ev_lenT {ra : Option (TupL α)} (ha : EvE K ta ρ m ra) : EvE K (tCB (rLen K) (tCons ta tNil)) ρ .new (ra.bind fun x => some (x.l.length : Int)) := fun Ht C0 C H σ I z e Q q => by
  obtain ⟨x, ex, e⟩ := some_bind e
  cases e
  refine ha Ht C0 C H σ I x ex _ fun v C1 H1 x1 r1 => ?_
  obtain ⟨a, vs, rfl, h1, h2⟩ := rep_tupL r1
  refine ⟨a, vs, rfl, .inr (.of (x1.s _ _ (part_le _ _ h1))), q _ C1 H1 x1 ?_⟩
  rw [h2.length, List.length_map]
  exact .ofInt
/-- one argument, an int -/
theorem ev_one {r : List V → Hp → VK → Prop} {ra : Option α} {f : α → Option β} (ha : EvE K ta ρ m1 ra)
    (h : ∀ (Ht C H : Hp) (x : α) (y : β) (v : V) (Q : VK), Same C H → f x = some y → Rep K (part m1 Ht C) (rp x) v → (∀ w C' H', Ext C H C' H' → Rep K (part m Ht C') (rp y) w → Q w H') → r [v] H Q) :
    EvE K (tCB r (tCons ta tNil)) ρ m (ra.bind f) := fun Ht C0 C H σ I z e Q q => by
  obtain ⟨x, ex, e⟩ := some_bind e
  refine ha Ht C0 C H σ I x ex _ fun v C1 H1 x1 r1 => ?_
  exact h Ht C1 H1 x z v Q x1.s e r1 fun w C' H' x2 r2 => q w C' H' (x1.trans x2) r2
theorem ev_abs {ra : Option Int} (ha : EvE K ta ρ m1 ra) : EvE K (tCB (fun xs H Q => ∃ i, xs = [.int i] ∧ Q (.int (if i < 0 then -i else i)) H) (tCons ta tNil)) ρ .new (ra.bind fun x => some (if x < 0 then -x else x)) :=
  ev_one ha fun Ht C H x y v Q s e r q => by
    cases e
    rw [r.int_]
    exact ⟨x, rfl, q _ C H (.refl s) .ofInt⟩
theorem ev_intI {ra : Option Int} (ha : EvE K ta ρ m1 ra) : EvE K (tCB (fun xs H Q => (∃ i, xs = [.int i] ∧ Q (.int i) H) ∨ ∃ k, xs = [.bl k] ∧ Q (.int (if k then 1 else 0)) H) (tCons ta tNil)) ρ .new ra :=
  (ev_one (f := fun x => some x) ha fun Ht C H x y v Q s e r q => by
    cases e
    rw [r.int_]
    exact .inl ⟨x, rfl, q _ C H (.refl s) .ofInt⟩).res (by cases ra <;> rfl)
theorem ev_intB {ra : Option Bool} (ha : EvE K ta ρ m1 ra) : EvE K (tCB (fun xs H Q => (∃ i, xs = [.int i] ∧ Q (.int i) H) ∨ ∃ k, xs = [.bl k] ∧ Q (.int (if k then 1 else 0)) H) (tCons ta tNil)) ρ .new (ra.bind fun b => some (if b = true then (1 : Int) else 0)) :=
  ev_one ha fun Ht C H x y v Q s e r q => by
    cases e
    rw [r.bl_]
    exact .inr ⟨x, rfl, q _ C H (.refl s) .ofInt⟩
theorem ev_maxI2 {ra rb : Option Int} (ha : EvE K ta ρ m1 ra) (hb : EvE K tb ρ m2 rb) : EvE K (tCB (fun xs H Q => ∃ i j, xs = [.int i, .int j] ∧ Q (.int (if j > i then j else i)) H) (tCons ta (tCons tb tNil))) ρ .new (ra.bind fun x => rb.bind fun y => some (if y > x then y else x)) := fun Ht C0 C H σ I z e Q q => by
  obtain ⟨x, ex, e⟩ := some_bind e
  obtain ⟨y, ey, e⟩ := some_bind e
  cases e
  refine ha Ht C0 C H σ I x ex _ fun v C1 H1 x1 r1 => ?_
  refine hb Ht C0 C1 H1 σ (I.to x1) y ey _ fun u C2 H2 x2 r2 => ?_
  rw [r1.int_, r2.int_]
  exact ⟨x, y, rfl, q _ C2 H2 (x1.trans x2) .ofInt⟩
theorem ev_minI2 {ra rb : Option Int} (ha : EvE K ta ρ m1 ra) (hb : EvE K tb ρ m2 rb) : EvE K (tCB (fun xs H Q => ∃ i j, xs = [.int i, .int j] ∧ Q (.int (if j < i then j else i)) H) (tCons ta (tCons tb tNil))) ρ .new (ra.bind fun x => rb.bind fun y => some (if y < x then y else x)) := fun Ht C0 C H σ I z e Q q => by
  obtain ⟨x, ex, e⟩ := some_bind e
  obtain ⟨y, ey, e⟩ := some_bind e
  cases e
  refine ha Ht C0 C H σ I x ex _ fun v C1 H1 x1 r1 => ?_
  refine hb Ht C0 C1 H1 σ (I.to x1) y ey _ fun u C2 H2 x2 r2 => ?_
  rw [r1.int_, r2.int_]
  exact ⟨x, y, rfl, q _ C2 H2 (x1.trans x2) .ofInt⟩
/-- one argument, a list of ints, read -/
theorem ev_oneB {r : List V → Hp → VK → Prop} {ra : Option (List α)} {f : List α → Option β} (ha : EvB K ta ρ m1 ra)
    (h : ∀ (Ht C H : Hp) (x : List α) (y : β) (a : Addr) (vs : List V) (Q : VK), Same C H → f x = some y → H a = some (.lst vs) → RepL K (part m1 Ht C) (rps x) vs → (∀ w C' H', Ext C H C' H' → Rep K (part m Ht C') (rp y) w → Q w H') → r [.ref a] H Q) :
    EvE K (tCB r (tCons ta tNil)) ρ m (ra.bind f) := fun Ht C0 C H σ I z e Q q => by
  obtain ⟨x, ex, e⟩ := some_bind e
  refine ha Ht C0 C H σ I x ex _ fun a vs C1 H1 x1 h1 r1 => ?_
  exact h Ht C1 H1 x z a vs Q x1.s e h1 r1 fun w C' H' x2 r2 => q w C' H' (x1.trans x2) r2
theorem ev_sum {ra : Option (List Int)} (ha : EvB K ta ρ m1 ra) : EvE K (tCB (rSum K) (tCons ta tNil)) ρ .new (ra.bind fun x => some x.sum) :=
  ev_oneB ha fun Ht C H x y a vs Q s e h r q => by
    cases e
    rw [r.ints_eq] at h
    exact ⟨a, x, rfl, .of h, q _ C H (.refl s) .ofInt⟩
/-- the greatest, the least number of a list -/
def maxL : List Int → Option Int
  | [] => none
  | x :: xs => some (xs.foldl (fun a b => if b > a then b else a) x)
def minL : List Int → Option Int
  | [] => none
  | x :: xs => some (xs.foldl (fun a b => if b < a then b else a) x)
theorem maxL_spec {xs : List Int} {y : Int} (h : maxL xs = some y) : y ∈ xs ∧ ∀ z ∈ xs, z ≤ y := by
  cases xs with
  | nil => cases h
  | cons x xs =>
    have e : xs.foldl (fun a b => if b > a then b else a) x = y := Option.some.inj h
    have key : ∀ (l : List Int) (x : Int), l.foldl (fun a b => if b > a then b else a) x ∈ x :: l ∧ x ≤ l.foldl (fun a b => if b > a then b else a) x ∧ ∀ z ∈ l, z ≤ l.foldl (fun a b => if b > a then b else a) x := by
      intro l
      induction l with
      | nil => intro x; exact ⟨List.mem_cons_self, Int.le_refl _, fun z hz => absurd hz (by simp)⟩
      | cons b l ih =>
        intro x
        rw [List.foldl_cons]
        obtain ⟨i1, i2, i3⟩ := ih (if b > x then b else x)
        refine ⟨?_, ?_, fun z hz => ?_⟩
        · rcases List.mem_cons.mp i1 with i1 | i1
          · rw [i1]
            split
            · exact List.mem_cons_of_mem _ List.mem_cons_self
            · exact List.mem_cons_self
          · exact List.mem_cons_of_mem _ (List.mem_cons_of_mem _ i1)
        · refine Int.le_trans ?_ i2
          split <;> omega
        · rcases List.mem_cons.mp hz with rfl | hz
          · refine Int.le_trans ?_ i2
            split <;> omega
          · exact i3 z hz
    obtain ⟨k1, k2, k3⟩ := key xs x
    rw [e] at k1 k2 k3
    exact ⟨k1, fun z hz => (List.mem_cons.mp hz).elim (fun e => e ▸ k2) (k3 z)⟩
theorem minL_spec {xs : List Int} {y : Int} (h : minL xs = some y) : y ∈ xs ∧ ∀ z ∈ xs, y ≤ z := by
  cases xs with
  | nil => cases h
  | cons x xs =>
    have e : xs.foldl (fun a b => if b < a then b else a) x = y := Option.some.inj h
    have key : ∀ (l : List Int) (x : Int), l.foldl (fun a b => if b < a then b else a) x ∈ x :: l ∧ l.foldl (fun a b => if b < a then b else a) x ≤ x ∧ ∀ z ∈ l, l.foldl (fun a b => if b < a then b else a) x ≤ z := by
      intro l
      induction l with
      | nil => intro x; exact ⟨List.mem_cons_self, Int.le_refl _, fun z hz => absurd hz (by simp)⟩
      | cons b l ih =>
        intro x
        rw [List.foldl_cons]
        obtain ⟨i1, i2, i3⟩ := ih (if b < x then b else x)
        refine ⟨?_, ?_, fun z hz => ?_⟩
        · rcases List.mem_cons.mp i1 with i1 | i1
          · rw [i1]
            split
            · exact List.mem_cons_of_mem _ List.mem_cons_self
            · exact List.mem_cons_self
          · exact List.mem_cons_of_mem _ (List.mem_cons_of_mem _ i1)
        · refine Int.le_trans i2 ?_
          split <;> omega
        · rcases List.mem_cons.mp hz with rfl | hz
          · refine Int.le_trans i2 ?_
            split <;> omega
          · exact i3 z hz
    obtain ⟨k1, k2, k3⟩ := key xs x
    rw [e] at k1 k2 k3
    exact ⟨k1, fun z hz => (List.mem_cons.mp hz).elim (fun e => e ▸ k2) (k3 z)⟩
theorem ev_max {ra : Option (List Int)} (ha : EvB K ta ρ m1 ra) : EvE K (tCB (rMax K) (tCons ta tNil)) ρ .new (ra.bind maxL) :=
  ev_oneB ha fun Ht C H x y a vs Q s e h r q => by
    rw [r.ints_eq] at h
    obtain ⟨k1, k2⟩ := maxL_spec e
    refine ⟨a, x, rfl, .of h, List.length_pos_of_mem k1, fun z h1 h2 => ?_⟩
    have ez : z = y := by have := k2 z h1; have := h2 y k1; omega
    rw [ez]
    exact q _ C H (.refl s) .ofInt
theorem ev_min {ra : Option (List Int)} (ha : EvB K ta ρ m1 ra) : EvE K (tCB (rMin K) (tCons ta tNil)) ρ .new (ra.bind minL) :=
  ev_oneB ha fun Ht C H x y a vs Q s e h r q => by
    rw [r.ints_eq] at h
    obtain ⟨k1, k2⟩ := minL_spec e
    refine ⟨a, x, rfl, .of h, List.length_pos_of_mem k1, fun z h1 h2 => ?_⟩
    have ez : z = y := by have := k2 z h1; have := h2 y k1; omega
    rw [ez]
    exact q _ C H (.refl s) .ofInt
/-- list(xs): a new list -/
abbrev rListOf (K : PySem.W.Frag) : List V → Hp → VK → Prop := fun xs H Q => ∃ p ys, xs = [.ref p] ∧ (SqL K H p ys ∨ SqT K H p ys) ∧ ∀ l, H l = none → Q (.ref l) (upd H l (.lst ys))
theorem ev_listOf {ra : Option (List α)} (ha : EvB K ta ρ m ra) : EvL K (tCB (rListOf K) (tCons ta tNil)) ρ m ra := fun Ht C0 C H σ I x ex Q q => by
  refine ha Ht C0 C H σ I x ex _ fun a vs C1 H1 x1 h1 r1 => ⟨a, vs, rfl, .inl (.of h1), fun p hp => new_list x1 hp r1 q⟩
theorem ev_listOfT {ra : Option (TupL α)} (ha : EvE K ta ρ m ra) : EvL K (tCB (rListOf K) (tCons ta tNil)) ρ m (ra.map TupL.l) := fun Ht C0 C H σ I z e Q q => by
  obtain ⟨x, ex, rfl⟩ := some_map e
  refine ha Ht C0 C H σ I x ex _ fun v C1 H1 x1 r1 => ?_
  obtain ⟨a, vs, rfl, h1, h2⟩ := rep_tupL r1
  exact ⟨a, vs, rfl, .inr (.of (x1.s _ _ (part_le _ _ h1))), fun p hp => new_list x1 hp h2 q⟩
/-- tuple(xs): a new tuple -/
abbrev rTupOf (K : PySem.W.Frag) : List V → Hp → VK → Prop := fun xs H Q => ∃ p ys, xs = [.ref p] ∧ ((SqL K H p ys ∧ ∀ l, H l = none → Q (.ref l) (upd H l (.tup ys))) ∨ (SqT K H p ys ∧ Q (.ref p) H))
theorem ev_tupOf {ra : Option (List α)} (ha : EvB K ta ρ m ra) : EvE K (tCB (rTupOf K) (tCons ta tNil)) ρ m (ra.map TupL.mk) := fun Ht C0 C H σ I z e Q q => by
  obtain ⟨x, ex, rfl⟩ := some_map e
  refine ha Ht C0 C H σ I x ex _ fun a vs C1 H1 x1 h1 r1 => ⟨a, vs, rfl, .inl ⟨.of h1, fun p hp => ?_⟩⟩
  refine q (.ref p) (upd C1 p (.tup vs)) _ (new_clean x1 hp) ?_
  simp only [rp, Rp.rp, Rep]
  exact ⟨p, vs, rfl, part_at upd_same (free_of (I.ext.h.trans x1.h) hp), r1.mono (part_mono (same_upd (free_of x1.s hp)))⟩

/-! ### isinstance -/
def isTyN (n t : String) : Bool := t == n || (t == "bool" && n == "int")
def tyName : Dt → String
  | .non => "NoneType"
  | .bl _ => "bool"
  | .int _ => "int"
  | .str _ => "str"
  | .lst _ => "list"
  | .tup _ => "tuple"
  | .frz _ => "list"
def isTy (n : String) (d : Dt) : Bool := isTyN n (tyName d)
def tyNames : List String := ["NoneType", "bool", "int", "str", "list", "tuple"]
theorem tyName_in (d : Dt) : tyName d ∈ tyNames := by cases d <;> simp [tyName, tyNames]
theorem rep_ty {H H' : Hp} (hs : Same H H') : ∀ {d : Dt} {v : V}, (∀ l, d ≠ .frz l) → Rep K H d v → TyX K H' v (.type (tyName d))
  | .non, v, _, h => by simp only [Rep] at h; subst h; exact .base .non
  | .bl _, v, _, h => by simp only [Rep] at h; subst h; exact .base (.bl _)
  | .int _, v, _, h => by simp only [Rep] at h; subst h; exact .base (.int _)
  | .str _, v, _, h => by simp only [Rep] at h; subst h; exact .base (.str _)
  | .lst _, v, _, h => by
    simp only [Rep] at h
    obtain ⟨a, vs, rfl, e, _⟩ := h
    exact .base (.lst (hs _ _ e))
  | .tup _, v, _, h => by
    simp only [Rep] at h
    obtain ⟨a, vs, rfl, e, _⟩ := h
    exact .base (.tup (hs _ _ e))
  | .frz l, v, n, h => absurd rfl (n l)
def noFrz : Dt → Bool
  | .frz _ => false
  | _ => true
theorem ev_isi {n : String} {ra : Option α} (ha : EvE K ta ρ m1 ra) (hk : ∀ t ∈ tyNames, kitB t n = some (isTyN n t) := by decide +kernel) :
    EvE K (tCB (rIsi K) (tCons ta (tCons (tC (.ty n)) tNil))) ρ .new (ra.bind fun x => if noFrz (rp x) = true then some (isTy n (rp x)) else none) := fun Ht C0 C H σ I z e Q q => by
  obtain ⟨x, ex, e⟩ := some_bind e
  obtain ⟨hf, rfl⟩ := some_if e
  refine ha Ht C0 C H σ I x ex _ fun v C1 H1 x1 r1 => ?_
  refine ⟨v, .ty n, .type (tyName (rp x)), .type n, isTy n (rp x), rfl, .ty n, rep_ty (part_le.trans x1.s) (fun l e => ?_) r1, kit_ty (hk _ (tyName_in (rp x))), q _ C1 H1 x1 .ofBl⟩
  rw [e] at hf
  cases hf

/-! ### == of data -/
mutual
def toPy : Dt → PyData
  | .non => .none
  | .bl b => .bool b
  | .int i => .int i
  | .str s => .str s
  | .lst l => .list (toPyL l)
  | .tup l => .tuple (toPyL l)
  | .frz l => .list (l.map .int)
def toPyL : List Dt → List PyData
  | [] => []
  | d :: ds => toPy d :: toPyL ds
end
theorem dpInts {H : Hp} : ∀ l : List Int, DpAll K H (l.map V.int) (l.map PyData.int)
  | [] => .nil
  | i :: l => .cons (.int i) (dpInts l)
mutual
theorem rep_dp {H : Hp} : ∀ (d : Dt) (v : V), Rep K H d v → Dp K H v (toPy d)
  | .non, v, h => by simp only [Rep] at h; subst h; exact .non
  | .bl _, v, h => by simp only [Rep] at h; subst h; exact .bl _
  | .int _, v, h => by simp only [Rep] at h; subst h; exact .int _
  | .str _, v, h => by simp only [Rep] at h; subst h; exact .str _
  | .lst l, v, h => by
    simp only [Rep] at h
    obtain ⟨a, vs, rfl, e, r⟩ := h
    simp only [toPy]
    exact .lst (.of e) (rep_dpL l vs r)
  | .tup l, v, h => by
    simp only [Rep] at h
    obtain ⟨a, vs, rfl, e, r⟩ := h
    simp only [toPy]
    exact .tup (.of e) (rep_dpL l vs r)
  | .frz l, v, h => by
    simp only [Rep] at h
    obtain ⟨a, rfl, e⟩ := h
    simp only [toPy]
    exact .lst e (dpInts l)
theorem rep_dpL {H : Hp} : ∀ (ds : List Dt) (vs : List V), RepL K H ds vs → DpAll K H vs (toPyL ds)
  | [], vs, h => by rw [h.nil_iff]; exact .nil
  | d :: ds, vs, h => by
    obtain ⟨v, r, rfl, h1, h2⟩ := h.uncons
    exact .cons (rep_dp d v h1) (rep_dpL ds r h2)
end
def eqD (x y : Dt) : Option Bool := if SeqAt.shaped (toPy x) = true ∧ SeqAt.shaped (toPy y) = true then some (PyData.eqv (toPy x) (toPy y)) else none
theorem ev_eqD {ra : Option α} {rb : Option β} (ha : EvE K ta ρ m1 ra) (hb : EvE K tb ρ m2 rb) : EvE K (tOp (rEqD K) ta tb) ρ .new (ra.bind fun x => rb.bind fun y => eqD (rp x) (rp y)) :=
  ev_two ha hb fun Ht C H x y z v u Q s e r1 r2 q => by
    obtain ⟨⟨h1, h2⟩, rfl⟩ := some_if e
    exact ⟨_, _, rep_dp _ _ (r1.mono (part_le.trans s)), rep_dp _ _ (r2.mono (part_le.trans s)), h1, h2, q _ C H (.refl s) .ofBl⟩
theorem ev_neD {ra : Option α} {rb : Option β} (ha : EvE K ta ρ m1 ra) (hb : EvE K tb ρ m2 rb) : EvE K (tOp (rNeD K) ta tb) ρ .new (ra.bind fun x => rb.bind fun y => (eqD (rp x) (rp y)).map fun b => !b) :=
  ev_two ha hb fun Ht C H x y z v u Q s e r1 r2 q => by
    obtain ⟨b, eb, rfl⟩ := some_map e
    obtain ⟨⟨h1, h2⟩, rfl⟩ := some_if eb
    exact ⟨_, _, rep_dp _ _ (r1.mono (part_le.trans s)), rep_dp _ _ (r2.mono (part_le.trans s)), h1, h2, q _ C H (.refl s) .ofBl⟩
/-- .. of lists that are read -/
theorem ev_eqB' {ra : Option (List α)} {rb : Option (List β)} {neg : Bool} (ha : EvB K ta ρ m1 ra) (hb : EvB K tb ρ m2 rb) {r : R2} (hr : r = if neg then rNeD K else rEqD K) : EvE K (tOp r ta tb) ρ .new (ra.bind fun x => rb.bind fun y => (eqD (rp x) (rp y)).map fun b => b != neg) := fun Ht C0 C H σ I z e Q q => by
  obtain ⟨x, ex, e⟩ := some_bind e
  obtain ⟨y, ey, e⟩ := some_bind e
  obtain ⟨b, eb, rfl⟩ := some_map e
  obtain ⟨⟨k1, k2⟩, rfl⟩ := some_if eb
  refine ha Ht C0 C H σ I x ex _ fun a vs C1 H1 x1 h1 r1 => ?_
  refine hb Ht C0 C1 H1 σ (I.to x1) y ey _ fun c us C2 H2 x2 h2 r2 => ?_
  have d1 : Dp K H2 (.ref a) (toPy (rp x)) := by
    refine rep_dp _ _ ?_
    simp only [rp, Rp.rp, Rep]
    exact ⟨a, vs, rfl, x2.h _ _ h1, r1.mono ((part_mono x2.c).trans (part_le.trans x2.s))⟩
  have d2 : Dp K H2 (.ref c) (toPy (rp y)) := by
    refine rep_dp _ _ ?_
    simp only [rp, Rp.rp, Rep]
    exact ⟨c, us, rfl, h2, r2.mono (part_le.trans x2.s)⟩
  subst hr
  cases neg with
  | false => exact ⟨_, _, d1, d2, k1, k2, by have := q _ C2 H2 (x1.trans x2) (.ofBl (i := PyData.eqv (toPy (rp x)) (toPy (rp y)) != false)); rwa [Bool.bne_false] at this⟩
  | true => exact ⟨_, _, d1, d2, k1, k2, by have := q _ C2 H2 (x1.trans x2) (.ofBl (i := PyData.eqv (toPy (rp x)) (toPy (rp y)) != true)); rwa [Bool.bne_true] at this⟩
theorem ev_eqL {ra : Option (List α)} {rb : Option (List β)} (ha : EvB K ta ρ m1 ra) (hb : EvB K tb ρ m2 rb) : EvE K (tOp (rEqD K) ta tb) ρ .new (ra.bind fun x => rb.bind fun y => eqD (rp x) (rp y)) :=
  (ev_eqB' (neg := false) ha hb rfl).res (by cases ra <;> cases rb <;> simp)
theorem ev_neL {ra : Option (List α)} {rb : Option (List β)} (ha : EvB K ta ρ m1 ra) (hb : EvB K tb ρ m2 rb) : EvE K (tOp (rNeD K) ta tb) ρ .new (ra.bind fun x => rb.bind fun y => (eqD (rp x) (rp y)).map fun b => !b) :=
  (ev_eqB' (neg := true) ha hb rfl).res (by cases ra <;> cases rb <;> simp)
/-- is None -/
theorem ev_isN {ra : Option (Option α)} (ha : EvE K ta ρ m1 ra) (hn : ∀ H (x : α), ¬ Rep K H (rp x) .non := by intro H x; simp [rp, Rp.rp, Rep]) : EvE K (tOp (fun x y H Q => y = .non ∧ Q (.bl (decide (x = .non))) H) ta (tC .non)) ρ .new (ra.bind fun x => some x.isNone) := fun Ht C0 C H σ I z e Q q => by
  obtain ⟨x, ex, e⟩ := some_bind e
  cases e
  refine ha Ht C0 C H σ I x ex _ fun v C1 H1 x1 r1 => ⟨rfl, q _ C1 H1 x1 ?_⟩
  cases x with
  | none =>
    simp only [rp, Rp.rp, Rep] at r1 ⊢
    simp [r1]
  | some y =>
    have nv : v ≠ .non := fun z => hn (part m1 Ht C1) y (z ▸ r1)
    simp only [rp, Rp.rp, Rep]
    simp [nv]
theorem ev_notN {ra : Option (Option α)} (ha : EvE K ta ρ m1 ra) (hn : ∀ H (x : α), ¬ Rep K H (rp x) .non := by intro H x; simp [rp, Rp.rp, Rep]) : EvE K (tOp (fun x y H Q => y = .non ∧ Q (.bl (!decide (x = .non))) H) ta (tC .non)) ρ .new (ra.bind fun x => some x.isSome) := fun Ht C0 C H σ I z e Q q => by
  obtain ⟨x, ex, e⟩ := some_bind e
  cases e
  refine ha Ht C0 C H σ I x ex _ fun v C1 H1 x1 r1 => ⟨rfl, q _ C1 H1 x1 ?_⟩
  cases x with
  | none =>
    simp only [rp, Rp.rp, Rep] at r1 ⊢
    simp [r1]
  | some y =>
    have nv : v ≠ .non := fun z => hn (part m1 Ht C1) y (z ▸ r1)
    simp only [rp, Rp.rp, Rep]
    simp [nv]
/-- x in xs: ints -/
theorem eqV_int {i j : Int} : eqV (.int i) (.int j) = decide (i = j) := by
  rw [eqV]
  exact Bool.beq_eq_decide_eq ..
theorem inV_ints (i : Int) : ∀ xs : List Int, inV (.int i) (xs.map V.int) = decide (i ∈ xs)
  | [] => by simp [inV]
  | x :: xs => by
    have ih := inV_ints i xs
    unfold inV at ih ⊢
    rw [List.map_cons, List.any_cons, ih, eqV_int]
    by_cases h : x = i
    · subst h; simp
    · have h' : ¬ i = x := fun e => h e.symm
      simp [h, h']
theorem flat_ints : ∀ xs : List Int, (xs.map V.int).all flatV = true
  | [] => rfl
  | x :: xs => by rw [List.map_cons, List.all_cons, flat_ints xs]; rfl
theorem ev_inI {ra : Option Int} {rb : Option (List Int)} (ha : EvE K ta ρ m1 ra) (hb : EvB K tb ρ m2 rb) : EvE K (tOp (rIn K false) ta tb) ρ .new (ra.bind fun x => rb.bind fun xs => some (decide (x ∈ xs))) := fun Ht C0 C H σ I z e Q q => by
  obtain ⟨x, ex, e⟩ := some_bind e
  obtain ⟨y, ey, e⟩ := some_bind e
  cases e
  refine ha Ht C0 C H σ I x ex _ fun v C1 H1 x1 r1 => ?_
  refine hb Ht C0 C1 H1 σ (I.to x1) y ey _ fun c us C2 H2 x2 h2 r2 => ?_
  rw [r1.int_]
  rw [r2.ints_eq] at h2
  refine ⟨c, _, rfl, .inl (.of h2), rfl, flat_ints y, ?_⟩
  rw [inV_ints]
  exact q _ C2 H2 (x1.trans x2) .ofBl
theorem ev_ninI {ra : Option Int} {rb : Option (List Int)} (ha : EvE K ta ρ m1 ra) (hb : EvB K tb ρ m2 rb) : EvE K (tOp (rIn K true) ta tb) ρ .new (ra.bind fun x => rb.bind fun xs => some (decide (x ∉ xs))) := fun Ht C0 C H σ I z e Q q => by
  obtain ⟨x, ex, e⟩ := some_bind e
  obtain ⟨y, ey, e⟩ := some_bind e
  cases e
  refine ha Ht C0 C H σ I x ex _ fun v C1 H1 x1 r1 => ?_
  refine hb Ht C0 C1 H1 σ (I.to x1) y ey _ fun c us C2 H2 x2 h2 r2 => ?_
  rw [r1.int_]
  rw [r2.ints_eq] at h2
  refine ⟨c, _, rfl, .inl (.of h2), rfl, flat_ints y, ?_⟩
  rw [inV_ints]
  have := q _ C2 H2 (x1.trans x2) (.ofBl (i := decide (x ∉ y)))
  simpa using this
end
end L2.DL

/-! DL4: what is walked, comprehensions, statements, defs, by data. -/
namespace L2.DL
open PySem PySem.Spec PyProof.Rows

/-! ### weaker environments -/
inductive SlotW : Slot → Slot → Prop
  | id {s : Slot} : SlotW s s
  | un {s : Slot} : SlotW s .un
  | old {m : Md} {d : Dt} : SlotW (.dat m d) (.dat .old d)
  | sc {m m' : Md} {α : Type} [Rp α] [Scal α] {x : α} : SlotW (.dat m (rp x)) (.dat m' (rp x))
  | oldO {m : Md} {l : List Dt} : SlotW (.own m l) (.own .old l)
  | scO {m m' : Md} {α : Type} [Rp α] [Scal α] {x : List α} : SlotW (.own m (rps x)) (.own m' (rps x))
inductive EnvW : En → En → Prop
  | nil : EnvW [] []
  | cons {s s' : Slot} {ρ ρ' : En} : SlotW s s' → EnvW ρ ρ' → EnvW (s :: ρ) (s' :: ρ')
theorem EnvW.refl : ∀ {ρ : En}, EnvW ρ ρ
  | [] => .nil
  | _ :: _ => .cons .id EnvW.refl
theorem EnvW.at : ∀ {ρ ρ' : En} {i : Nat} {s' : Slot}, EnvW ρ ρ' → ρ'[i]? = some s' → ∃ s, ρ[i]? = some s ∧ SlotW s s'
  | _, _, i, s', .nil, e => by simp at e
  | _, _, 0, s', .cons h t, e => by
    simp at e
    subst e
    exact ⟨_, rfl, h⟩
  | _, _, i + 1, s', .cons h t, e => by
    obtain ⟨s, e1, e2⟩ := t.at (i := i) (s' := s') (by simpa using e)
    exact ⟨s, by simpa using e1, e2⟩
theorem EnvW.len : ∀ {ρ ρ' : En}, EnvW ρ ρ' → ρ.length = ρ'.length
  | _, _, .nil => rfl
  | _, _, .cons h t => by rw [List.length_cons, List.length_cons, t.len]
section
variable {K : PySem.W.Frag} {Ht C0 C H : Hp} {σ : St} {ρ ρ' : En}
theorem SlotOk.weak {o : Option (Option V)} {s s' : Slot} (w : SlotW s s') (h : SlotOk K Ht C H o s) : SlotOk K Ht C H o s' := by
  cases w with
  | id => exact h
  | un => trivial
  | old =>
    obtain ⟨v, e, r⟩ := h
    exact ⟨v, e, r.mono part_le⟩
  | sc =>
    obtain ⟨v, e, r⟩ := h
    exact ⟨v, e, Scal.ok K _ _ _ v r⟩
  | oldO =>
    obtain ⟨a, vs, e, h1, h2, h3, r⟩ := h
    exact ⟨a, vs, e, h1, h2, h3, r.mono part_le⟩
  | scO =>
    obtain ⟨a, vs, e, h1, h2, h3, r⟩ := h
    exact ⟨a, vs, e, h1, h2, h3, r.scal⟩
theorem SlotW.own {s : Slot} {m : Md} {l : List Dt} (w : SlotW s (.own m l)) : ∃ m', s = .own m' l := by
  cases w with
  | id => exact ⟨m, rfl⟩
  | oldO => exact ⟨_, rfl⟩
  | scO => exact ⟨_, rfl⟩
theorem EnvI.weak (I : EnvI K Ht C0 C H σ ρ) (w : EnvW ρ ρ') : EnvI K Ht C0 C H σ ρ' := by
  refine ⟨I.ext, I.len.trans w.len, fun i s' e => ?_, fun i j a mi li mj lj n e1 e2 e3 e4 => ?_⟩
  · obtain ⟨s, e1, w1⟩ := w.at e
    exact (I.ok i s e1).weak w1
  · obtain ⟨s1, f1, w1⟩ := w.at e1
    obtain ⟨s2, f2, w2⟩ := w.at e2
    obtain ⟨m1, rfl⟩ := w1.own
    obtain ⟨m2, rfl⟩ := w2.own
    exact I.sep i j a _ _ _ _ n f1 f2 e3 e4
end

/-! ### targets -/
def EvG (K : PySem.W.Frag) (g : TG) (m : Md) (d : Dt) (ρ ρ' : En) (vs : List Nat) : Prop :=
  ∀ (Ht C0 C H : Hp) (σ : St) (v : V), EnvI K Ht C0 C H σ ρ → Rep K (part m Ht C) d v → ∀ Q : St → Hp → Prop,
    (∀ σ', EnvI K Ht C0 C H σ' ρ' → (∀ j, j ∉ vs → σ'[j]? = σ[j]?) → σ'.length = σ.length → Q σ' H) → g v σ H Q
section
variable {K : PySem.W.Frag} {ρ ρ' ρ2 : En} {m m1 m2 : Md}
variable {α β γ : Type} [Rp α] [Rp β] [Rp γ]
theorem eg_name {i : Nat} {d : Dt} : EvG K (gName i) m d ρ (ρ.set i (.dat m d)) [i] := fun Ht C0 C H σ v I r Q q => by
  refine q _ (I.set r) (fun j hj => ?_) (List.length_set ..)
  rw [List.getElem?_set_ne (fun e => hj (by simp [e]))]
theorem eg_nameS [Scal α] {i : Nat} {x : α} : EvG K (gName i) m (rp x) ρ (ρ.set i (.dat m1 (rp x))) [i] := fun Ht C0 C H σ v I r Q q => by
  refine q _ (I.set (Scal.ok K _ _ x v r)) (fun j hj => ?_) (List.length_set ..)
  rw [List.getElem?_set_ne (fun e => hj (by simp [e]))]
theorem EvG.weak {g : TG} {d : Dt} {vs : List Nat} (h : EvG K g m d ρ ρ' vs) (w : EnvW ρ' ρ2) : EvG K g m d ρ ρ2 vs := fun Ht C0 C H σ v I r Q q =>
  h Ht C0 C H σ v I r Q fun σ' I' e1 e2 => q σ' (I'.weak w) e1 e2
/-- a, b = a pair -/
theorem eg_pair {g1 g2 : TG} {x : α × β} {v1 v2 : List Nat} (h1 : EvG K g1 m (rp x.1) ρ ρ' v1) (h2 : EvG K g2 m (rp x.2) ρ' ρ2 v2) : EvG K (gTup K 2 (gCons g1 (gCons g2 gNil))) m (rp x) ρ ρ2 (v1 ++ v2) := fun Ht C0 C H σ v I r Q q => by
  obtain ⟨a, u, w, rfl, e, r1, r2⟩ := rep_pair r
  refine ⟨a, [u, w], rfl, .of (I.sub _ _ (part_le _ _ e)), rfl, u, [w], rfl, ?_⟩
  refine h1 Ht C0 C H σ u I r1 _ fun σ1 I1 e1 l1 => ⟨w, [], rfl, ?_⟩
  refine h2 Ht C0 C H σ1 w I1 r2 _ fun σ2 I2 e2 l2 => ⟨rfl, q σ2 I2 (fun j hj => ?_) (l2.trans l1)⟩
  rw [e2 j fun z => hj (List.mem_append_right _ z), e1 j fun z => hj (List.mem_append_left _ z)]
theorem eg_trip {g1 g2 g3 : TG} {x : T3 α β γ} {ρ3 : En} {v1 v2 v3 : List Nat} (h1 : EvG K g1 m (rp x.p) ρ ρ' v1) (h2 : EvG K g2 m (rp x.q) ρ' ρ2 v2) (h3 : EvG K g3 m (rp x.r) ρ2 ρ3 v3) :
    EvG K (gTup K 3 (gCons g1 (gCons g2 (gCons g3 gNil)))) m (rp x) ρ ρ3 (v1 ++ (v2 ++ v3)) := fun Ht C0 C H σ v I r Q q => by
  obtain ⟨a, u, w, w3, rfl, e, r1, r2, r3⟩ := rep_t3 r
  refine ⟨a, [u, w, w3], rfl, .of (I.sub _ _ (part_le _ _ e)), rfl, u, [w, w3], rfl, ?_⟩
  refine h1 Ht C0 C H σ u I r1 _ fun σ1 I1 e1 l1 => ⟨w, [w3], rfl, ?_⟩
  refine h2 Ht C0 C H σ1 w I1 r2 _ fun σ2 I2 e2 l2 => ⟨w3, [], rfl, ?_⟩
  refine h3 Ht C0 C H σ2 w3 I2 r3 _ fun σ3 I3 e3 l3 => ⟨rfl, q σ3 I3 (fun j hj => ?_) (l3.trans (l2.trans l1))⟩
  rw [e3 j fun z => hj (List.mem_append_right _ (List.mem_append_right _ z)), e2 j fun z => hj (List.mem_append_right _ (List.mem_append_left _ z)), e1 j fun z => hj (List.mem_append_left _ z)]
end

/-! ### what is walked -/
structure ItOk (K : PySem.W.Frag) (J : It) (Ht Ci : Hp) (m : Md) (ds : List Dt) : Prop where
  go : ∀ (i : Nat) (C H : Hp) (d : Dt), ds[i]? = some d → Same Ci C → Same C H → Same Ht H → J.go i H ∧ ∀ x H', J.yld i H x H' → ∃ C', Ext C H C' H' ∧ Rep K (part m Ht C') d x
  stop : ∀ (C H : Hp), Same Ci C → Same C H → J.stop ds.length H
def EvI (K : PySem.W.Frag) {α : Type} [Rp α] (w : TI) (ρ : En) (m : Md) (r : Option (List α)) : Prop :=
  ∀ (Ht C0 C H : Hp) (σ : St), EnvI K Ht C0 C H σ ρ → ∀ xs, r = some xs → ∀ R : It → Hp → Prop, (∀ J C' H', Ext C H C' H' → ItOk K J Ht C' m (rps xs) → R J H') → w σ H R
section
variable {K : PySem.W.Frag} {ta tb : TE} {ρ : En} {m m1 m2 : Md}
variable {α β γ : Type} [Rp α] [Rp β] [Rp γ]
theorem ei_list {ra : Option (List α)} (ha : EvE K ta ρ m ra) : EvI K (iList K ta) ρ m ra := fun Ht C0 C H σ I xs ex R q => by
  refine ha Ht C0 C H σ I xs ex _ fun v C1 H1 x1 r1 => ?_
  obtain ⟨a, vs, rfl, e, r⟩ := rep_lst r1
  have ec : C1 a = some (.lst vs) := part_le _ _ e
  refine ⟨a, rfl, ⟨vs, .of (x1.s _ _ ec)⟩, q _ C1 H1 x1 ⟨fun i C2 H2 d ed hc hs _ => ?_, fun C2 H2 hc hs => ⟨vs, .of (hs _ _ (hc _ _ ec)), ?_⟩⟩⟩
  · obtain ⟨u, eu, ru⟩ := r.get ed
    have s2 : SqL K H2 a vs := .of (hs _ _ (hc _ _ ec))
    refine ⟨⟨vs, u, s2, eu⟩, fun x H' y => ?_⟩
    obtain ⟨rfl, y⟩ := y
    have e2 := y vs s2
    rw [eu] at e2
    cases e2
    exact ⟨C2, .refl hs, ru.mono (part_mono hc)⟩
  · rw [r.length]
    exact Nat.le_refl _
theorem ei_tup {ra : Option (TupL α)} (ha : EvE K ta ρ m ra) : EvI K (iTup K ta) ρ m (ra.map TupL.l) := fun Ht C0 C H σ I xs ex R q => by
  obtain ⟨t, et, rfl⟩ := some_map ex
  refine ha Ht C0 C H σ I t et _ fun v C1 H1 x1 r1 => ?_
  obtain ⟨a, vs, rfl, e, r⟩ := rep_tupL r1
  have ec : C1 a = some (.tup vs) := part_le _ _ e
  refine ⟨a, rfl, ⟨vs, .of (x1.s _ _ ec)⟩, q _ C1 H1 x1 ⟨fun i C2 H2 d ed hc hs _ => ?_, fun C2 H2 hc hs => ⟨vs, .of (hs _ _ (hc _ _ ec)), ?_⟩⟩⟩
  · obtain ⟨u, eu, ru⟩ := r.get ed
    have s2 : SqT K H2 a vs := .of (hs _ _ (hc _ _ ec))
    refine ⟨⟨vs, u, s2, eu⟩, fun x H' y => ?_⟩
    obtain ⟨rfl, y⟩ := y
    have e2 := y vs s2
    rw [eu] at e2
    cases e2
    exact ⟨C2, .refl hs, ru.mono (part_mono hc)⟩
  · rw [r.length]
    exact Nat.le_refl _
theorem rangeL_length (lo hi : Int) : (rangeL lo hi).length = (hi - lo).toNat := by simp [rangeL]
theorem rangeL_get {lo hi : Int} {i : Nat} {d : Dt} (h : (rps (rangeL lo hi))[i]? = some d) : i < (hi - lo).toNat ∧ d = .int (lo + i) := by
  have hl : i < (rps (rangeL lo hi)).length := (List.getElem?_eq_some_iff.mp h).1
  rw [List.length_map, rangeL_length] at hl
  refine ⟨hl, ?_⟩
  rw [rps, rangeL, List.map_map, List.getElem?_map, List.getElem?_range hl] at h
  exact (Option.some.inj h).symm
theorem it_range {Ht C : Hp} {lo hi : Int} : ItOk K (Itr lo (hi - lo).toNat) Ht C m (rps (rangeL lo hi)) := by
  refine ⟨fun i C2 H2 d ed hc hs _ => ?_, fun C2 H2 hc hs => ?_⟩
  · obtain ⟨hi', rfl⟩ := rangeL_get ed
    refine ⟨hi', fun x H' y => ?_⟩
    obtain ⟨rfl, rfl⟩ := y
    exact ⟨C2, .refl hs, by simp only [Rep]⟩
  · show _ ≤ _
    rw [List.length_map, rangeL_length]
    exact Nat.le_refl _
theorem ei_range1 {ra : Option Int} (ha : EvE K ta ρ m1 ra) : EvI K (iRng1 (tCons ta tNil)) ρ .new (ra.bind fun n => rangeP 0 n) := fun Ht C0 C H σ I xs ex R q => by
  obtain ⟨n, en, ex⟩ := some_bind ex
  rw [rangeP_def] at ex
  obtain ⟨⟨h1, h2, h3, h4⟩, rfl⟩ := some_if ex
  refine ha Ht C0 C H σ I n en _ fun v C1 H1 x1 r1 => ?_
  rw [r1.int_]
  refine ⟨n, rfl, h3, h4, q _ C1 H1 x1 ?_⟩
  have := it_range (K := K) (m := .new) (Ht := Ht) (C := C1) (lo := 0) (hi := n)
  rwa [Int.sub_zero] at this
theorem ei_range2 {ra rb : Option Int} (ha : EvE K ta ρ m1 ra) (hb : EvE K tb ρ m2 rb) : EvI K (iRng2 (tCons ta (tCons tb tNil))) ρ .new (ra.bind fun l => rb.bind fun n => rangeP l n) := fun Ht C0 C H σ I xs ex R q => by
  obtain ⟨l, el, ex⟩ := some_bind ex
  obtain ⟨n, en, ex⟩ := some_bind ex
  rw [rangeP_def] at ex
  obtain ⟨⟨h1, h2, h3, h4⟩, rfl⟩ := some_if ex
  refine ha Ht C0 C H σ I l el _ fun v C1 H1 x1 r1 => ?_
  refine hb Ht C0 C1 H1 σ (I.to x1) n en _ fun u C2 H2 x2 r2 => ?_
  rw [r1.int_, r2.int_]
  exact ⟨l, n, rfl, ⟨h1, h2, h3, h4⟩, q _ C2 H2 (x1.trans x2) it_range⟩
theorem EvI.sc [Scal α] {w : TI} {r : Option (List α)} (h : EvI K w ρ m r) : EvI K w ρ m1 r := fun Ht C0 C H σ I xs ex R q =>
  h Ht C0 C H σ I xs ex R fun J C' H' x ok => q J C' H' x ⟨fun i C2 H2 d ed hc hs ht => by
    obtain ⟨g, y⟩ := ok.go i C2 H2 d ed hc hs ht
    refine ⟨g, fun x H3 hy => ?_⟩
    obtain ⟨C3, x3, r3⟩ := y x H3 hy
    refine ⟨C3, x3, ?_⟩
    rw [rps, List.getElem?_map] at ed
    obtain ⟨z, _, rfl⟩ := some_map ed
    exact Scal.ok K _ _ z x r3, ok.stop⟩
theorem EvI.res {w : TI} {r r' : Option (List α)} (h : EvI K w ρ m r) (e : r' = r) : EvI K w ρ m r' := e ▸ h
end

/-! ### comprehensions -/
def wipeE (ρ : En) : List Nat → En
  | [] => ρ
  | v :: vs => (wipeE ρ vs).set v .un
section
variable {K : PySem.W.Frag} {Ht C0 C H : Hp} {σ : St} {ρ : En}
theorem wipeE_at : ∀ {vs : List Nat} {i : Nat} {s : Slot}, (wipeE ρ vs)[i]? = some s → s = .un ∨ (i ∉ vs ∧ ρ[i]? = some s)
  | [], i, s, h => .inr ⟨by simp, h⟩
  | v :: vs, i, s, h => by
    rcases get_set h with ⟨rfl, rfl⟩ | ⟨n, h⟩
    · exact .inl rfl
    · rcases wipeE_at h with rfl | ⟨h1, h2⟩
      · exact .inl rfl
      · exact .inr ⟨fun z => (List.mem_cons.mp z).elim n h1, h2⟩
theorem wipeE_length : ∀ vs : List Nat, (wipeE ρ vs).length = ρ.length
  | [] => rfl
  | v :: vs => by unfold wipeE; rw [List.length_set, wipeE_length vs]
theorem EnvI.wipe (I : EnvI K Ht C0 C H σ ρ) (vs : List Nat) : EnvI K Ht C0 C H (wipe σ vs) (wipeE ρ vs) := by
  refine I.forget (by rw [wipe_length, wipeE_length]; exact I.len) fun i s e => ?_
  rcases wipeE_at e with rfl | ⟨h1, h2⟩
  · exact .inl rfl
  · exact .inr ⟨h2, wipe_out h1⟩
theorem wipe_in : ∀ {vs : List Nat} {i : Nat}, i ∈ vs → (wipe σ vs)[i]? = if i < σ.length then some none else none
  | v :: vs, i, h => by
    unfold L2.wipe
    by_cases e : v = i
    · subst e
      by_cases hv : v < σ.length
      · rw [List.getElem?_set_self (by rw [wipe_length]; exact hv), if_pos hv]
      · rw [List.getElem?_eq_none (by rw [List.length_set, wipe_length]; omega), if_neg hv]
    · rw [List.getElem?_set_ne e]
      exact wipe_in ((List.mem_cons.mp h).elim (fun z => absurd z.symm e) id)
theorem wipe_eq {σ' : St} {vs : List Nat} (h : ∀ j, j ∉ vs → σ'[j]? = (wipe σ vs)[j]?) (hl : σ'.length = σ.length) : wipe σ' vs = wipe σ vs := by
  refine List.ext_getElem? fun i => ?_
  by_cases hi : i ∈ vs
  · rw [wipe_in hi, wipe_in hi, hl]
  · rw [wipe_out hi, h i hi]
end
section
variable {K : PySem.W.Frag} {te : TE} {ρ : En} {m mi : Md} {w : TI} {g : TG} {tt : TT}
variable {α β γ : Type} [Rp α] [Rp β] [Rp γ]
theorem et_yes : EvT K tYes ρ (some true) := fun Ht C0 C H σ I b e Q q => by
  cases e
  exact q C H I.same
theorem ev_lc {vs : List Nat} {rx : Option (List α)} {p : α → Option Bool} {f : α → Option β} {Eb : α → En} (hi : EvI K w ρ mi rx) (hg : ∀ x, EvG K g mi (rp x) (wipeE ρ vs) (Eb x) vs)
    (ht : ∀ x, EvT K tt (Eb x) (p x)) (he : ∀ x, EvE K te (Eb x) m (f x)) : EvL K (tLc w g tt te vs) ρ m (rx.bind fun xs => (compM p f xs).bind lim) := fun Ht C0 C H σ I z e Q q => by
  obtain ⟨xs, ex, e⟩ := some_bind e
  obtain ⟨all, ea, e⟩ := some_bind e
  obtain ⟨hz, rfl⟩ := of_lim e
  refine hi Ht C0 C H σ I xs ex _ fun J C1 H1 x1 ok => fun D hD => ?_
  refine ⟨fun i n Hc => n = xs.length - i ∧ i ≤ xs.length ∧ ∃ Cc ys acc rest, Ext C1 H1 Cc Hc ∧ Cc D = none ∧ Hc D = some (.lst acc) ∧ RepL K (part m Ht Cc) (rps ys) acc ∧ compM p f (xs.drop i) = some rest ∧ ys ++ rest = z,
    ⟨xs.length, rfl, Nat.zero_le _, C1, [], [], z, ⟨.refl _, same_upd hD, x1.s.trans (same_upd hD), fun a _ h => h⟩, free_of x1.s hD, upd_same, .nil, ea, rfl⟩, ?_⟩
  rintro i n Hc ⟨rfl, hi', Cc, ys, acc, rest, xc, cD, hDc, ra, er, eq⟩
  by_cases hlt : i < xs.length
  · have ed : (rps xs)[i]? = some (rp xs[i]) := by rw [rps, List.getElem?_map, List.getElem?_eq_getElem hlt]; rfl
    obtain ⟨go, yl⟩ := ok.go i Cc Hc _ ed xc.c xc.s (I.ext.h.trans (x1.h.trans xc.h))
    refine .inr ⟨go, fun H' => ∃ Cc ys acc rest, Ext C1 H1 Cc H' ∧ Cc D = none ∧ H' D = some (.lst acc) ∧ RepL K (part m Ht Cc) (rps ys) acc ∧ compM p f (xs.drop (i + 1)) = some rest ∧ ys ++ rest = z,
      fun H' h => ⟨xs.length - (i + 1), by omega, rfl, hlt, h⟩, fun x H' hy => ?_⟩
    obtain ⟨C2, x2, r2⟩ := yl x H' hy
    have dn : Hc D ≠ none := by rw [hDc]; simp
    rw [List.drop_eq_getElem_cons hlt] at er
    obtain ⟨b, eb, er⟩ := some_bind er
    have I2 := ((I.to x1).to (xc.trans x2)).wipe vs
    refine hg xs[i] Ht C0 C2 H' (wipe σ vs) x I2 r2 _ fun σ3 I3 e3 l3 => ⟨wipe_eq e3 (l3.trans (wipe_length _ _)), ?_⟩
    refine ht xs[i] Ht C0 C2 H' σ3 I3 b eb _ fun C4 H4 x4 => ?_
    have xa := (xc.trans x2).trans x4
    cases b with
    | false =>
      rw [if_neg Bool.false_ne_true] at er
      exact iteF ⟨C4, ys, acc, rest, xa, x4.f D (Same.ne x2.h dn) (x2.f D dn cD), x4.h _ _ (x2.h _ _ hDc), ra.mono (part_mono (x2.c.trans x4.c)), er, eq⟩
    | true =>
      rw [if_pos rfl] at er
      obtain ⟨y, ey, er⟩ := some_bind er
      obtain ⟨rest', er', er⟩ := some_bind er
      cases er
      refine iteT (he xs[i] Ht C0 C4 H4 σ3 (I3.to x4) y ey _ fun v C5 H5 x5 r5 => ?_)
      have xb := xa.trans x5
      have hl : acc.length < sizeLine := by
        rw [ra.length, List.length_map]
        have hzz := hz
        rw [← eq, List.length_append, List.length_cons] at hzz
        omega
      refine ⟨acc, x5.h _ _ (x4.h _ _ (x2.h _ _ hDc)), hl, C5, ys ++ [y], acc ++ [v], rest', ⟨xb.c, fun a o ha => ?_, fun a o ha => ?_, xb.f⟩, ?_, upd_same, ?_, er', by rw [← eq, List.append_assoc]; rfl⟩
      · rw [upd_ne (ne_of_none ha hD)]
        exact xb.h _ _ ha
      · have c5 : C5 D = none := x5.f D (Same.ne x4.h (Same.ne x2.h dn)) (x4.f D (Same.ne x2.h dn) (x2.f D dn cD))
        rw [upd_ne (ne_of_none ha c5)]
        exact xb.s _ _ ha
      · exact x5.f D (Same.ne x4.h (Same.ne x2.h dn)) (x4.f D (Same.ne x2.h dn) (x2.f D dn cD))
      · rw [rps, List.map_append]
        exact (ra.mono (part_mono ((x2.c.trans x4.c).trans x5.c))).append (.cons r5 .nil)
  · have hie : i = xs.length := by omega
    subst hie
    rw [List.drop_length] at er
    cases er
    rw [List.append_nil] at eq
    subst eq
    have st := ok.stop Cc Hc xc.c xc.s
    rw [List.length_map] at st
    refine .inl ⟨st, q D acc Cc Hc (x1.trans xc) (free_of x1.h hD) cD hDc ra⟩
/-- .. its plain forms -/
theorem ev_lcM {vs : List Nat} {rx : Option (List α)} {f : α → β} {Eb : α → En} (hi : EvI K w ρ mi rx) (hg : ∀ x, EvG K g mi (rp x) (wipeE ρ vs) (Eb x) vs) (he : ∀ x, EvE K te (Eb x) m (some (f x))) :
    EvL K (tLc w g tYes te vs) ρ m (rx.bind fun xs => lim (xs.map f)) :=
  (ev_lc (p := fun _ => some true) (f := fun x => some (f x)) hi hg (fun _ => et_yes) he).res (by cases rx <;> simp [compM_map])
theorem ev_lcO {vs : List Nat} {rx : Option (List α)} {f : α → Option β} {Eb : α → En} (hi : EvI K w ρ mi rx) (hg : ∀ x, EvG K g mi (rp x) (wipeE ρ vs) (Eb x) vs) (he : ∀ x, EvE K te (Eb x) m (f x)) :
    EvL K (tLc w g tYes te vs) ρ m (rx.bind fun xs => (mapO f xs).bind lim) :=
  (ev_lc (p := fun _ => some true) hi hg (fun _ => et_yes) he).res (by cases rx <;> simp [compM_mapO])
theorem ev_lcF {vs : List Nat} {rx : Option (List α)} {p : α → Bool} {f : α → β} {Eb : α → En} (hi : EvI K w ρ mi rx) (hg : ∀ x, EvG K g mi (rp x) (wipeE ρ vs) (Eb x) vs) (ht : ∀ x, EvT K tt (Eb x) (some (p x))) (he : ∀ x, EvE K te (Eb x) m (some (f x))) :
    EvL K (tLc w g tt te vs) ρ m (rx.bind fun xs => lim ((xs.filter p).map f)) :=
  (ev_lc (p := fun x => some (p x)) (f := fun x => some (f x)) hi hg ht he).res (by cases rx <;> simp [compM_filter])
end

/-! ### statements -/
section
variable (K : PySem.W.Frag)
/-- what holds at every state of an environment, later -/
def Thn (Ht C0 C : Hp) (ρ : En) (P : St → Hp → Prop) : Prop := ∀ C' H' σ', EnvI K Ht C0 C' H' σ' ρ → Same C C' → P σ' H'
/-- a statement goes on -/
def EvN {S : Type} (t : TS) (ρ : En) (E : S → En) (o : Option S) : Prop :=
  ∀ (Ht C0 C H : Hp) (σ : St), EnvI K Ht C0 C H σ ρ → ∀ s, o = some s → ∀ D : Ends, Thn K Ht C0 C (E s) D.nx → t D σ H
/-- .. returns -/
def EvR {R : Type} [Rp R] (t : TS) (ρ : En) (m : Md) (o : Option R) : Prop :=
  ∀ (Ht C0 C H : Hp) (σ : St), EnvI K Ht C0 C H σ ρ → ∀ r, o = some r → ∀ D : Ends, (∀ v C' H', Ext C0 Ht C' H' → Rep K (part m Ht C') (rp r) v → D.rt v H') → t D σ H
end
/-- where a statement leads: on, out of the loop, to its next turn, back -/
inductive Fl (S T R : Type) where
  | nx (s : S) | bk (t : T) | ct (t : T) | rt (r : R)
def FlOk (K : PySem.W.Frag) {S T R : Type} [Rp R] (Ht C0 C : Hp) (E : S → En) (L : T → En) (m : Md) (D : Ends) : Fl S T R → Prop
  | .nx s => Thn K Ht C0 C (E s) D.nx
  | .bk s => Thn K Ht C0 C (L s) D.bk
  | .ct s => Thn K Ht C0 C (L s) D.ct
  | .rt r => ∀ v C' H', Ext C0 Ht C' H' → Rep K (part m Ht C') (rp r) v → D.rt v H'
/-- .. any of these -/
def EvF (K : PySem.W.Frag) {S T R : Type} [Rp R] (t : TS) (ρ : En) (E : S → En) (L : T → En) (m : Md) (o : Option (Fl S T R)) : Prop :=
  ∀ (Ht C0 C H : Hp) (σ : St), EnvI K Ht C0 C H σ ρ → ∀ f, o = some f → ∀ D : Ends, FlOk K Ht C0 C E L m D f → t D σ H
def Fl.seq {S S2 T R : Type} (o : Option (Fl S T R)) (f : S → Option (Fl S2 T R)) : Option (Fl S2 T R) := o.bind fun x => match x with
  | .nx s => f s
  | .bk s => some (.bk s)
  | .ct s => some (.ct s)
  | .rt r => some (.rt r)
/-- a loop's turns, that may leave -/
def forL {α S T R : Type} (f : S → α → Option (Fl S S R)) : List α → S → Option (Fl S T R)
  | [], s => some (.nx s)
  | x :: xs, s => (f s x).bind fun o => match o with
    | .nx s' => forL f xs s'
    | .ct s' => forL f xs s'
    | .bk s' => some (.nx s')
    | .rt r => some (.rt r)
def whileL {S T R : Type} (c : S → Option Bool) (f : S → Option (Fl S S R)) : Nat → S → Option (Fl S T R)
  | 0, _ => none
  | n + 1, s => (c s).bind fun b => if b = true then (f s).bind fun o => match o with
    | .nx s' => whileL c f n s'
    | .ct s' => whileL c f n s'
    | .bk s' => some (.nx s')
    | .rt r => some (.rt r)
    else some (.nx s)
def whileN {S : Type} (c : S → Option Bool) (f : S → Option S) : Nat → S → Option S
  | 0, _ => none
  | n + 1, s => (c s).bind fun b => if b = true then (f s).bind fun s' => whileN c f n s' else some s
/-- what comes behind a statement that may have returned -/
def Fl.ret {S T R : Type} (o : Option (Fl S T R)) (f : S → Option R) : Option R := o.bind fun x => match x with
  | .nx s => f s
  | .rt r => some r
  | _ => none

section
variable {K : PySem.W.Frag} {t u v : TS} {te ta tb : TE} {ρ ρ' : En} {m m1 m2 mi : Md} {S S2 T R : Type} [Rp R] {E : S → En} {E2 : S2 → En} {L : T → En}
variable {α β γ : Type} [Rp α] [Rp β] [Rp γ]
theorem Thn.next {Ht C0 C C1 : Hp} {P : St → Hp → Prop} (h : Thn K Ht C0 C ρ P) (s : Same C C1) : Thn K Ht C0 C1 ρ P := fun C' H' σ' I s' => h C' H' σ' I (s.trans s')
theorem Thn.wk {Ht C0 C : Hp} {P : St → Hp → Prop} (h : Thn K Ht C0 C ρ' P) (w : EnvW ρ ρ') : Thn K Ht C0 C ρ P := fun C' H' σ' I s' => h C' H' σ' (I.weak w) s'

theorem EvN.weakL {o : Option S} (h : EvN K t ρ' E o) (w : EnvW ρ ρ') : EvN K t ρ E o := fun Ht C0 C H σ I => h Ht C0 C H σ (I.weak w)
theorem EvR.weakL {o : Option R} (h : EvR K t ρ' m o) (w : EnvW ρ ρ') : EvR K t ρ m o := fun Ht C0 C H σ I => h Ht C0 C H σ (I.weak w)
theorem EvF.weakL {o : Option (Fl S T R)} (h : EvF K t ρ' E L m o) (w : EnvW ρ ρ') : EvF K t ρ E L m o := fun Ht C0 C H σ I => h Ht C0 C H σ (I.weak w)
theorem EvN.res {o o' : Option S} (h : EvN K t ρ E o) (e : o' = o) : EvN K t ρ E o' := e ▸ h
theorem EvR.res {o o' : Option R} (h : EvR K t ρ m o) (e : o' = o) : EvR K t ρ m o' := e ▸ h
theorem EvF.res {o o' : Option (Fl S T R)} (h : EvF K t ρ E L m o) (e : o' = o) : EvF K t ρ E L m o' := e ▸ h
/-- to another form of the environment -/
theorem EvN.to {o : Option S} (h : EvN K t ρ E o) (f : S → S2) (w : ∀ s, EnvW (E s) (E2 (f s))) : EvN K t ρ E2 (o.map f) := fun Ht C0 C H σ I s e D q => by
  obtain ⟨s', es, rfl⟩ := some_map e
  exact h Ht C0 C H σ I s' es D (q.wk (w s'))
/-- a list held becomes a datum -/
theorem freeze_same {Ht C0 C H : Hp} {σ : St} (I : EnvI K Ht C0 C H σ ρ) {i : Nat} {m : Md} {l : List Dt} (hi : ρ[i]? = some (.own m l)) : ∃ C', EnvI K Ht C0 C' H σ (ρ.set i (.dat m (.lst l))) ∧ Same C C' := I.freeze hi
theorem EvN.frz {o : Option S} {i : Nat} {l : List Dt} (h : EvN K t (ρ.set i (.dat m (.lst l))) E o) (hi : ρ[i]? = some (.own m l) := by rfl) : EvN K t ρ E o := fun Ht C0 C H σ I s e D q => by
  obtain ⟨C', I', s'⟩ := freeze_same I hi
  exact h Ht C0 C' H σ I' s e D (q.next s')
theorem EvR.frz {o : Option R} {i : Nat} {l : List Dt} (h : EvR K t (ρ.set i (.dat m1 (.lst l))) m o) (hi : ρ[i]? = some (.own m1 l) := by rfl) : EvR K t ρ m o := fun Ht C0 C H σ I => by
  obtain ⟨C', I', s'⟩ := freeze_same I hi
  exact h Ht C0 C' H σ I'
theorem EvF.frz {o : Option (Fl S T R)} {i : Nat} {l : List Dt} (h : EvF K t (ρ.set i (.dat m1 (.lst l))) E L m o) (hi : ρ[i]? = some (.own m1 l) := by rfl) : EvF K t ρ E L m o := fun Ht C0 C H σ I f e D q => by
  obtain ⟨C', I', s'⟩ := freeze_same I hi
  refine h Ht C0 C' H σ I' f e D ?_
  cases f with
  | nx s => exact Thn.next q s'
  | bk s => exact Thn.next q s'
  | ct s => exact Thn.next q s'
  | rt r => exact q
/-- between the forms -/
theorem EvN.F {o : Option S} (h : EvN K t ρ E o) : EvF K t ρ E L m (o.map Fl.nx : Option (Fl S T R)) := fun Ht C0 C H σ I f e D q => by
  obtain ⟨s, es, rfl⟩ := some_map e
  exact h Ht C0 C H σ I s es D q
theorem EvR.F {o : Option R} (h : EvR K t ρ m o) : EvF K t ρ E L m (o.map Fl.rt : Option (Fl S T R)) := fun Ht C0 C H σ I f e D q => by
  obtain ⟨s, es, rfl⟩ := some_map e
  exact h Ht C0 C H σ I s es D q
/-- a body's end -/
theorem en_nil : EvN K tNext ρ (fun _ : Unit => ρ) (some ()) := fun Ht C0 C H σ I s e D q => q C H σ I (.refl _)
theorem en_end {s : S} (w : EnvW ρ (E s)) : EvN K tNext ρ E (some s) := fun Ht C0 C H σ I s' e D q => by
  cases e
  exact q C H σ (I.weak w) (.refl _)
theorem ef_end {s : S} (w : EnvW ρ (E s)) : EvF K tNext ρ E L m (some (.nx s : Fl S T R)) := fun Ht C0 C H σ I s' e D q => by
  cases e
  exact q C H σ (I.weak w) (.refl _)
theorem ef_bk {s : T} (w : EnvW ρ (L s)) : EvF K tBreak ρ E L m (some (.bk s : Fl S T R)) := fun Ht C0 C H σ I s' e D q => by
  cases e
  exact q C H σ (I.weak w) (.refl _)
theorem ef_ct {s : T} (w : EnvW ρ (L s)) : EvF K tCont ρ E L m (some (.ct s : Fl S T R)) := fun Ht C0 C H σ I s' e D q => by
  cases e
  exact q C H σ (I.weak w) (.refl _)
/-- one after the other -/
theorem en_seq {o : Option S} {f : S → Option S2} (h1 : EvN K t ρ E o) (h2 : ∀ s, EvN K u (E s) E2 (f s)) : EvN K (tSeq t u) ρ E2 (o.bind f) := fun Ht C0 C H σ I s e D q => by
  obtain ⟨s1, e1, e⟩ := some_bind e
  exact h1 Ht C0 C H σ I s1 e1 _ fun C' H' σ' I' s' => h2 s1 Ht C0 C' H' σ' I' s e D (q.next s')
theorem er_seq {o : Option S} {f : S → Option R} (h1 : EvN K t ρ E o) (h2 : ∀ s, EvR K u (E s) m (f s)) : EvR K (tSeq t u) ρ m (o.bind f) := fun Ht C0 C H σ I s e D q => by
  obtain ⟨s1, e1, e⟩ := some_bind e
  exact h1 Ht C0 C H σ I s1 e1 _ fun C' H' σ' I' _ => h2 s1 Ht C0 C' H' σ' I' s e D q
theorem er_seqF {o : Option (Fl S T R)} {f : S → Option R} (h1 : EvF K t ρ E L m o) (h2 : ∀ s, EvR K u (E s) m (f s)) : EvR K (tSeq t u) ρ m (Fl.ret o f) := fun Ht C0 C H σ I s e D q => by
  obtain ⟨s1, e1, e⟩ := some_bind e
  cases s1 with
  | nx s1 => exact h1 Ht C0 C H σ I _ e1 _ fun C' H' σ' I' _ => h2 s1 Ht C0 C' H' σ' I' s e D q
  | rt r => cases e; exact h1 Ht C0 C H σ I _ e1 _ q
  | bk s1 => cases e
  | ct s1 => cases e
theorem ef_seq {o : Option S} {f : S → Option (Fl S2 T R)} (h1 : EvN K t ρ E o) (h2 : ∀ s, EvF K u (E s) E2 L m (f s)) : EvF K (tSeq t u) ρ E2 L m (o.bind f) := fun Ht C0 C H σ I s e D q => by
  obtain ⟨s1, e1, e⟩ := some_bind e
  refine h1 Ht C0 C H σ I s1 e1 _ fun C' H' σ' I' s' => h2 s1 Ht C0 C' H' σ' I' s e D ?_
  cases s with
  | nx s => exact Thn.next q s'
  | bk s => exact Thn.next q s'
  | ct s => exact Thn.next q s'
  | rt r => exact q
theorem ef_seqF {o : Option (Fl S T R)} {f : S → Option (Fl S2 T R)} (h1 : EvF K t ρ E L m o) (h2 : ∀ s, EvF K u (E s) E2 L m (f s)) : EvF K (tSeq t u) ρ E2 L m (Fl.seq o f) := fun Ht C0 C H σ I s e D q => by
  obtain ⟨s1, e1, e⟩ := some_bind e
  cases s1 with
  | nx s1 =>
    refine h1 Ht C0 C H σ I _ e1 _ fun C' H' σ' I' s' => h2 s1 Ht C0 C' H' σ' I' s e D ?_
    cases s with
    | nx s => exact Thn.next q s'
    | bk s => exact Thn.next q s'
    | ct s => exact Thn.next q s'
    | rt r => exact q
  | rt r => cases e; exact h1 Ht C0 C H σ I _ e1 { D with nx := u D } q
  | bk s1 => cases e; exact h1 Ht C0 C H σ I _ e1 { D with nx := u D } q
  | ct s1 => cases e; exact h1 Ht C0 C H σ I _ e1 { D with nx := u D } q
/-- a return ends a block -/
theorem er_cut {o : Option R} (h : EvR K t ρ m o) : EvR K (tSeq t u) ρ m o := fun Ht C0 C H σ I s e D q => h Ht C0 C H σ I s e _ q
theorem er_nx {o : Option R} (h : EvR K u ρ m o) : EvR K (tSeq tNext u) ρ m o := fun Ht C0 C H σ I s e D q => h Ht C0 C H σ I s e D q
theorem ef_cutR {o : Option R} (h : EvR K t ρ m o) : EvF K (tSeq t u) ρ E L m (o.map Fl.rt : Option (Fl S T R)) := fun Ht C0 C H σ I f e D q => by
  obtain ⟨s, es, rfl⟩ := some_map e
  exact h Ht C0 C H σ I s es _ q
theorem ef_cutB {s : T} (w : EnvW ρ (L s)) : EvF K (tSeq tBreak u) ρ E L m (some (.bk s : Fl S T R)) := fun Ht C0 C H σ I s' e D q => by
  cases e
  exact q C H σ (I.weak w) (.refl _)
theorem ef_cutC {s : T} (w : EnvW ρ (L s)) : EvF K (tSeq tCont u) ρ E L m (some (.ct s : Fl S T R)) := fun Ht C0 C H σ I s' e D q => by
  cases e
  exact q C H σ (I.weak w) (.refl _)
theorem ef_nx {o : Option (Fl S T R)} (h : EvF K u ρ E L m o) : EvF K (tSeq tNext u) ρ E L m o := fun Ht C0 C H σ I s e D q => h Ht C0 C H σ I s e D q
theorem en_nx {o : Option S} (h : EvN K u ρ E o) : EvN K (tSeq tNext u) ρ E o := fun Ht C0 C H σ I s e D q => h Ht C0 C H σ I s e D q
/-- blocks are read from the left -/
theorem er_assoc {o : Option R} {w : TS} (h : EvR K (tSeq t (tSeq u w)) ρ m o) : EvR K (tSeq (tSeq t u) w) ρ m o := h
theorem ef_assoc {o : Option (Fl S T R)} {w : TS} (h : EvF K (tSeq t (tSeq u w)) ρ E L m o) : EvF K (tSeq (tSeq t u) w) ρ E L m o := h
theorem en_assoc {o : Option S} {w : TS} (h : EvN K (tSeq t (tSeq u w)) ρ E o) : EvN K (tSeq (tSeq t u) w) ρ E o := h
/-- return -/
theorem er_ret {o : Option R} (h : EvE K te ρ m o) : EvR K (tRet te) ρ m o := fun Ht C0 C H σ I r e D q =>
  h Ht C0 C H σ I r e _ fun v C' H' x rv => q v C' H' (I.ext.trans x) rv
theorem er_retN {A : Type} [Rp A] : EvR K tRetN ρ m (some (none : Option A)) := fun Ht C0 C H σ I r e D q => by
  cases e
  exact q .non C H I.ext (by simp only [rp, Rp.rp, Rep])
/-- name = a datum -/
theorem en_set {i : Nat} {ra : Option α} (h : EvE K te ρ m ra) : EvN K (tAsg te (gName i)) ρ (fun x => ρ.set i (.dat m (rp x))) ra := fun Ht C0 C H σ I x e D q =>
  h Ht C0 C H σ I x e _ fun v C' H' y rv => q C' H' _ ((I.to y).set rv) y.c
/-- name = a new list -/
theorem en_own {i : Nat} {ra : Option (List α)} (h : EvL K te ρ m ra) : EvN K (tAsg te (gName i)) ρ (fun x => ρ.set i (.own m (rps x))) ra := fun Ht C0 C H σ I x e D q => by
  refine h Ht C0 C H σ I x e _ fun a vs C' H' y hn hc ha rv => q C' H' _ ((I.to y).setOwn (free_of I.ext.h hn) hc ha rv fun j mj lj _ e1 e2 => ?_) y.c
  obtain ⟨b, us, e3, _, _, h3, _⟩ := I.ok j _ e1
  rw [e2] at e3
  cases e3
  rw [h3] at hn
  cases hn
/-- a target = a datum -/
theorem en_asg {g : TG} {ra : Option α} {vs : List Nat} {E : α → En} (h : EvE K te ρ m ra) (hg : ∀ x, EvG K g m (rp x) ρ (E x) vs) : EvN K (tAsg te g) ρ E ra := fun Ht C0 C H σ I x e D q =>
  h Ht C0 C H σ I x e _ fun v C' H' y rv => hg x Ht C0 C' H' σ v (I.to y) rv _ fun σ' I' _ _ => q C' H' σ' I' y.c
/-- a, b = x, y -/
theorem en_par {i j : Nat} {ra : Option α} {rb : Option β} (ha : EvE K ta ρ m1 ra) (hb : EvE K tb ρ m2 rb) : EvN K (tPar i j (tCons ta (tCons tb tNil))) ρ (fun p : α × β => (ρ.set i (.dat m1 (rp p.1))).set j (.dat m2 (rp p.2))) (ra.bind fun x => rb.bind fun y => some (x, y)) := fun Ht C0 C H σ I p e D q => by
  obtain ⟨x, ex, e⟩ := some_bind e
  obtain ⟨y, ey, e⟩ := some_bind e
  cases e
  refine ha Ht C0 C H σ I x ex _ fun v C1 H1 x1 r1 => ?_
  refine hb Ht C0 C1 H1 σ (I.to x1) y ey _ fun w C2 H2 x2 r2 => ⟨v, w, rfl, q C2 H2 _ ?_ (x1.c.trans x2.c)⟩
  exact (((I.to x1).to x2).set (r1.mono (part_mono x2.c))).set r2
/-! if -/
variable {c : TT} {rc : Option Bool}
theorem en_if {o1 o2 : Option S} (hc : EvT K c ρ rc) (h1 : EvN K t ρ E o1) (h2 : EvN K u ρ E o2) : EvN K (tIfS c t u) ρ E (rc.bind fun b => if b = true then o1 else o2) := fun Ht C0 C H σ I s e D q => by
  obtain ⟨b, eb, e⟩ := some_bind e
  refine hc Ht C0 C H σ I b eb _ fun C' H' x => ?_
  cases b with
  | true => rw [if_pos rfl] at e; exact iteT (h1 Ht C0 C' H' σ (I.to x) s e D (q.next x.c))
  | false => rw [if_neg Bool.false_ne_true] at e; exact iteF (h2 Ht C0 C' H' σ (I.to x) s e D (q.next x.c))
theorem er_if {o1 o2 : Option R} (hc : EvT K c ρ rc) (h1 : EvR K t ρ m o1) (h2 : EvR K u ρ m o2) : EvR K (tIfS c t u) ρ m (rc.bind fun b => if b = true then o1 else o2) := fun Ht C0 C H σ I s e D q => by
  obtain ⟨b, eb, e⟩ := some_bind e
  refine hc Ht C0 C H σ I b eb _ fun C' H' x => ?_
  cases b with
  | true => rw [if_pos rfl] at e; exact iteT (h1 Ht C0 C' H' σ (I.to x) s e D q)
  | false => rw [if_neg Bool.false_ne_true] at e; exact iteF (h2 Ht C0 C' H' σ (I.to x) s e D q)
theorem ef_if {o1 o2 : Option (Fl S T R)} (hc : EvT K c ρ rc) (h1 : EvF K t ρ E L m o1) (h2 : EvF K u ρ E L m o2) : EvF K (tIfS c t u) ρ E L m (rc.bind fun b => if b = true then o1 else o2) := fun Ht C0 C H σ I s e D q => by
  obtain ⟨b, eb, e⟩ := some_bind e
  refine hc Ht C0 C H σ I b eb _ fun C' H' x => ?_
  have q' : FlOk K Ht C0 C' E L m D s := by
    cases s with
    | nx s => exact Thn.next q x.c
    | bk s => exact Thn.next q x.c
    | ct s => exact Thn.next q x.c
    | rt r => exact q
  cases b with
  | true => rw [if_pos rfl] at e; exact iteT (h1 Ht C0 C' H' σ (I.to x) s e D q')
  | false => rw [if_neg Bool.false_ne_true] at e; exact iteF (h2 Ht C0 C' H' σ (I.to x) s e D q')
/-- what follows an if, pushed into both its ways -/
theorem er_ifS {w : TS} {o : Option R} (h : EvR K (tIfS c (tSeq t w) (tSeq u w)) ρ m o) : EvR K (tSeq (tIfS c t u) w) ρ m o := h
theorem ef_ifS {w : TS} {o : Option (Fl S T R)} (h : EvF K (tIfS c (tSeq t w) (tSeq u w)) ρ E L m o) : EvF K (tSeq (tIfS c t u) w) ρ E L m o := h
theorem en_ifS {w : TS} {o : Option S} (h : EvN K (tIfS c (tSeq t w) (tSeq u w)) ρ E o) : EvN K (tSeq (tIfS c t u) w) ρ E o := h
end

/-! ### loops -/
section
variable {K : PySem.W.Frag} {t : TS} {ρ : En} {m mi : Md} {S T R : Type} [Rp R] {E : S → En} {L : T → En}
variable {α : Type} [Rp α] {w : TI} {g : TG} {c : TT}
theorem en_for {vs : List Nat} {rx : Option (List α)} {s0 : S} {f : S → α → Option S} {Eb : S → α → En} (hi : EvI K w ρ mi rx) (h0 : EnvW ρ (E s0)) (hg : ∀ s x, EvG K g mi (rp x) (E s) (Eb s x) vs)
    (hb : ∀ s x, EvN K t (Eb s x) E (f s x)) : EvN K (tFor w g t) ρ E (rx.bind fun xs => xs.foldlM f s0) := fun Ht C0 C H σ I fin e D q => by
  obtain ⟨xs, ex, e⟩ := some_bind e
  refine hi Ht C0 C H σ I xs ex _ fun J C1 H1 x1 ok => ?_
  refine ⟨fun i n σ' Hc => n = xs.length - i ∧ i ≤ xs.length ∧ ∃ s Cc, EnvI K Ht C0 Cc Hc σ' (E s) ∧ Same C1 Cc ∧ (xs.drop i).foldlM f s = some fin, ⟨xs.length, rfl, Nat.zero_le _, s0, C1, (I.to x1).weak h0, .refl _, e⟩, ?_⟩
  rintro i n σ' Hc ⟨rfl, hi', s, Cc, Ic, sc, er⟩
  by_cases hlt : i < xs.length
  · have ed : (rps xs)[i]? = some (rp xs[i]) := by rw [rps, List.getElem?_map, List.getElem?_eq_getElem hlt]; rfl
    obtain ⟨go, yl⟩ := ok.go i Cc Hc _ ed sc Ic.sub Ic.ext.h
    refine .inr ⟨go, fun σ2 H2 => ∃ s Cc, EnvI K Ht C0 Cc H2 σ2 (E s) ∧ Same C1 Cc ∧ (xs.drop (i + 1)).foldlM f s = some fin, fun σ2 H2 h => ⟨xs.length - (i + 1), by omega, rfl, hlt, h⟩, fun x H2 hy => ?_⟩
    obtain ⟨C2, x2, r2⟩ := yl x H2 hy
    rw [List.drop_eq_getElem_cons hlt, List.foldlM_cons] at er
    obtain ⟨s2, e2, er⟩ := some_bind er
    refine hg s xs[i] Ht C0 C2 H2 σ' x (Ic.to x2) r2 _ fun σ3 I3 _ _ => ?_
    exact hb s xs[i] Ht C0 C2 H2 σ3 I3 s2 e2 _ fun C4 H4 σ4 I4 s4 => ⟨s2, C4, I4, (sc.trans x2.c).trans s4, er⟩
  · have hie : i = xs.length := by omega
    subst hie
    rw [List.drop_length] at er
    cases er
    have st := ok.stop Cc Hc sc Ic.sub
    rw [List.length_map] at st
    exact .inl ⟨st, q Cc Hc σ' Ic (x1.c.trans sc)⟩
theorem ef_for {vs : List Nat} {rx : Option (List α)} {s0 : S} {f : S → α → Option (Fl S S R)} {Eb : S → α → En} (hi : EvI K w ρ mi rx) (h0 : EnvW ρ (E s0)) (hg : ∀ s x, EvG K g mi (rp x) (E s) (Eb s x) vs)
    (hb : ∀ s x, EvF K t (Eb s x) E E m (f s x)) : EvF K (tFor w g t) ρ E L m (rx.bind fun xs => forL f xs s0) := fun Ht C0 C H σ I fin e D q => by
  obtain ⟨xs, ex, e⟩ := some_bind e
  refine hi Ht C0 C H σ I xs ex _ fun J C1 H1 x1 ok => ?_
  refine ⟨fun i n σ' Hc => n = xs.length - i ∧ i ≤ xs.length ∧ ∃ s Cc, EnvI K Ht C0 Cc Hc σ' (E s) ∧ Same C1 Cc ∧ forL f (xs.drop i) s = some fin, ⟨xs.length, rfl, Nat.zero_le _, s0, C1, (I.to x1).weak h0, .refl _, e⟩, ?_⟩
  rintro i n σ' Hc ⟨rfl, hi', s, Cc, Ic, sc, er⟩
  by_cases hlt : i < xs.length
  · have ed : (rps xs)[i]? = some (rp xs[i]) := by rw [rps, List.getElem?_map, List.getElem?_eq_getElem hlt]; rfl
    obtain ⟨go, yl⟩ := ok.go i Cc Hc _ ed sc Ic.sub Ic.ext.h
    refine .inr ⟨go, fun σ2 H2 => ∃ s Cc, EnvI K Ht C0 Cc H2 σ2 (E s) ∧ Same C1 Cc ∧ forL f (xs.drop (i + 1)) s = some fin, fun σ2 H2 h => ⟨xs.length - (i + 1), by omega, rfl, hlt, h⟩, fun x H2 hy => ?_⟩
    obtain ⟨C2, x2, r2⟩ := yl x H2 hy
    rw [List.drop_eq_getElem_cons hlt] at er
    obtain ⟨o, e2, er⟩ := some_bind er
    refine hg s xs[i] Ht C0 C2 H2 σ' x (Ic.to x2) r2 _ fun σ3 I3 _ _ => ?_
    refine hb s xs[i] Ht C0 C2 H2 σ3 I3 o e2 _ ?_
    have sc2 := sc.trans x2.c
    cases o with
    | nx s2 => exact fun C4 H4 σ4 I4 s4 => ⟨s2, C4, I4, sc2.trans s4, er⟩
    | ct s2 => exact fun C4 H4 σ4 I4 s4 => ⟨s2, C4, I4, sc2.trans s4, er⟩
    | bk s2 => cases er; exact fun C4 H4 σ4 I4 s4 => q C4 H4 σ4 I4 (x1.c.trans (sc2.trans s4))
    | rt r => cases er; exact q
  · have hie : i = xs.length := by omega
    subst hie
    rw [List.drop_length] at er
    cases er
    have st := ok.stop Cc Hc sc Ic.sub
    rw [List.length_map] at st
    exact .inl ⟨st, q Cc Hc σ' Ic (x1.c.trans sc)⟩
theorem en_while {n : Nat} {s0 : S} {cf : S → Option Bool} {f : S → Option S} (h0 : EnvW ρ (E s0)) (hc : ∀ s, EvT K c (E s) (cf s)) (hb : ∀ s, EvN K t (E s) E (f s)) : EvN K (tWhile c t) ρ E (whileN cf f n s0) := fun Ht C0 C H σ I fin e D q => by
  refine ⟨fun k σ' Hc => ∃ s Cc, EnvI K Ht C0 Cc Hc σ' (E s) ∧ Same C Cc ∧ whileN cf f k s = some fin, ⟨n, s0, C, I.weak h0, .refl _, e⟩, ?_⟩
  rintro k σ' Hc ⟨s, Cc, Ic, sc, er⟩
  cases k with
  | zero => cases er
  | succ k =>
    obtain ⟨b, eb, er⟩ := some_bind er
    refine hc s Ht C0 Cc Hc σ' Ic b eb _ fun C2 H2 x2 => ?_
    cases b with
    | true =>
      rw [if_pos rfl] at er
      obtain ⟨s2, e2, er⟩ := some_bind er
      refine iteT ⟨fun σ3 H3 => ∃ s Cc, EnvI K Ht C0 Cc H3 σ3 (E s) ∧ Same C Cc ∧ whileN cf f k s = some fin, fun σ3 H3 h => ⟨k, Nat.lt_succ_self k, h⟩, ?_⟩
      exact hb s Ht C0 C2 H2 σ' (Ic.to x2) s2 e2 _ fun C4 H4 σ4 I4 s4 => ⟨s2, C4, I4, (sc.trans x2.c).trans s4, er⟩
    | false =>
      rw [if_neg Bool.false_ne_true] at er
      cases er
      exact iteF (q C2 H2 σ' (Ic.to x2) (sc.trans x2.c))
theorem ef_while {n : Nat} {s0 : S} {cf : S → Option Bool} {f : S → Option (Fl S S R)} (h0 : EnvW ρ (E s0)) (hc : ∀ s, EvT K c (E s) (cf s)) (hb : ∀ s, EvF K t (E s) E E m (f s)) : EvF K (tWhile c t) ρ E L m (whileL cf f n s0) := fun Ht C0 C H σ I fin e D q => by
  refine ⟨fun k σ' Hc => ∃ s Cc, EnvI K Ht C0 Cc Hc σ' (E s) ∧ Same C Cc ∧ whileL cf f k s = some fin, ⟨n, s0, C, I.weak h0, .refl _, e⟩, ?_⟩
  rintro k σ' Hc ⟨s, Cc, Ic, sc, er⟩
  cases k with
  | zero => cases er
  | succ k =>
    obtain ⟨b, eb, er⟩ := some_bind er
    refine hc s Ht C0 Cc Hc σ' Ic b eb _ fun C2 H2 x2 => ?_
    have sc2 := sc.trans x2.c
    cases b with
    | true =>
      rw [if_pos rfl] at er
      obtain ⟨o, e2, er⟩ := some_bind er
      refine iteT ⟨fun σ3 H3 => ∃ s Cc, EnvI K Ht C0 Cc H3 σ3 (E s) ∧ Same C Cc ∧ whileL cf f k s = some fin, fun σ3 H3 h => ⟨k, Nat.lt_succ_self k, h⟩, ?_⟩
      refine hb s Ht C0 C2 H2 σ' (Ic.to x2) o e2 _ ?_
      cases o with
      | nx s2 => exact fun C4 H4 σ4 I4 s4 => ⟨s2, C4, I4, sc2.trans s4, er⟩
      | ct s2 => exact fun C4 H4 σ4 I4 s4 => ⟨s2, C4, I4, sc2.trans s4, er⟩
      | bk s2 => cases er; exact fun C4 H4 σ4 I4 s4 => q C4 H4 σ4 I4 (sc2.trans s4)
      | rt r => cases er; exact q
    | false =>
      rw [if_neg Bool.false_ne_true] at er
      cases er
      exact iteF (q C2 H2 σ' (Ic.to x2) sc2)
/-- a loop without a return -/
def Fl.go {S T : Type} (o : Option (Fl S T Empty)) : Option S := o.bind fun x => match x with
  | .nx s => some s
  | _ => none
instance : Rp Empty := ⟨fun e => nomatch e⟩
theorem EvF.N {o : Option (Fl S T Empty)} (h : EvF K t ρ E L m o) : EvN K t ρ E (Fl.go o) := fun Ht C0 C H σ I s e D q => by
  obtain ⟨f, ef, e⟩ := some_bind e
  cases f with
  | nx s' => cases e; exact h Ht C0 C H σ I _ ef D q
  | rt r => cases e
  | bk s' => cases e
  | ct s' => cases e
end

/-! ### lists changed in place -/
section
variable {K : PySem.W.Frag} {te ta tb : TE} {ρ : En} {m m1 m2 : Md}
variable {α β : Type} [Rp α] [Rp β]
theorem en_append {i : Nat} {xs : List α} {ra : Option α} (h : EvE K te ρ m ra) (hi : ρ[i]? = some (.own m (rps xs)) := by rfl) :
    EvN K (tDrop (tBM K "list" rAppend (tVar i) (tCons te tNil))) ρ (fun x => ρ.set i (.own m (rps x))) (ra.bind fun x => lim (xs ++ [x])) := fun Ht C0 C H σ I z e D q => by
  obtain ⟨x, ex, e⟩ := some_bind e
  obtain ⟨hz, rfl⟩ := of_lim e
  obtain ⟨a, vs, e1, hn, hc, ha, rv⟩ := I.ok i _ hi
  refine ⟨.ref a, e1, .inl ⟨rfl, _, .of ha⟩, h Ht C0 C H σ I x ex _ fun v C1 H1 x1 r1 => ?_⟩
  have I1 := I.to x1
  refine ⟨a, vs, v, rfl, rfl, x1.h _ _ ha, ?_, q C1 _ σ (I1.write hi e1 ?_) x1.c⟩
  · rw [List.length_append, List.length_singleton] at hz
    rw [rv.length, List.length_map]
    omega
  · rw [rps, List.map_append]
    exact (rv.mono (part_mono x1.c)).append (.cons r1 .nil)
/-- xs[i] = e -/
def setP {α : Type} (xs : List α) (i : Int) (x : α) : Option (List α) := (ixN xs.length i).map fun j => xs.set j x
theorem en_setix {i : Nat} {xs : List α} {rk : Option Int} {ra : Option α} (h : EvE K te ρ m ra) (hk : EvE K tb ρ m2 rk) (hi : ρ[i]? = some (.own m (rps xs)) := by rfl) :
    EvN K (tAsg te (gSub (tVar i) tb rSetL)) ρ (fun x => ρ.set i (.own m (rps x))) (ra.bind fun x => rk.bind fun k => setP xs k x) := fun Ht C0 C H σ I z e D q => by
  obtain ⟨x, ex, e⟩ := some_bind e
  obtain ⟨k, ek, e⟩ := some_bind e
  obtain ⟨j, ej, rfl⟩ := some_map e
  refine h Ht C0 C H σ I x ex _ fun v C1 H1 x1 r1 => ?_
  obtain ⟨a, vs, e1, hn, hc, ha, rv⟩ := (I.to x1).ok i _ hi
  refine ⟨.ref a, e1, hk Ht C0 C1 H1 σ (I.to x1) k ek _ fun u C2 H2 x2 r2 => ?_⟩
  rw [r2.int_]
  refine ⟨a, vs, k, j, rfl, rfl, x2.h _ _ ha, by rw [rv.length, List.length_map]; exact ej, q C2 _ σ (((I.to x1).to x2).write hi e1 ?_) (x1.c.trans x2.c)⟩
  rw [rps, List.map_set]
  exact (rv.mono (part_mono x2.c)).set j (r1.mono (part_mono x2.c))
end

/-! ### defs -/
/-- a def's promise by data: from the arguments' data, in the clean part, the value of f, in what is new (or anywhere) -/
def spA (K : PySem.W.Frag) {A R : Type} [Rp R] (ds : A → List Dt) (f : A → Option R) (m : Md) : Sp := fun vs H Q _ => ∃ (C : Hp) (x : A) (r : R), Same C H ∧ RepL K C (ds x) vs ∧ f x = some r ∧
  ∀ u C' H', Ext C H C' H' → Rep K (part m H C') (rp r) u → Q u H'
section
variable {K : PySem.W.Frag} {A R : Type} [Rp R] {ds : A → List Dt} {f : A → Option R} {m m1 m2 m3 m4 m5 m6 : Md} {ρ : En} {E : XK} {t : TA}
theorem ev_callA {ra : Option A} (h : EvA K ds t ρ ra) : EvE K (tCall (spA K ds f m) [] E t) ρ m (ra.bind f) := fun Ht C0 C H σ I z e Q q => by
  obtain ⟨x, ex, e⟩ := some_bind e
  refine h Ht C0 C H σ I x ex _ fun vs C1 H1 x1 r1 => ?_
  rw [List.append_nil]
  exact ⟨C1, x, z, x1.s, r1, e, fun u C' H' y ru => q u C' H' (x1.trans y) (ru.mono (part_ht (I.ext.h.trans x1.h)))⟩
variable {a1 a2 a3 a4 a5 a6 : Type} [Rp a1] [Rp a2] [Rp a3] [Rp a4] [Rp a5] [Rp a6] {t1 t2 t3 t4 t5 t6 : TE}
abbrev sp1 (K : PySem.W.Frag) (f : a1 → Option R) (m : Md) : Sp := spA K (fun x : a1 => [rp x]) f m
abbrev sp2 (K : PySem.W.Frag) (f : a1 → a2 → Option R) (m : Md) : Sp := spA K (fun x : a1 × a2 => [rp x.1, rp x.2]) (fun x => f x.1 x.2) m
abbrev sp3 (K : PySem.W.Frag) (f : a1 → a2 → a3 → Option R) (m : Md) : Sp := spA K (fun x : a1 × a2 × a3 => [rp x.1, rp x.2.1, rp x.2.2]) (fun x => f x.1 x.2.1 x.2.2) m
abbrev sp4 (K : PySem.W.Frag) (f : a1 → a2 → a3 → a4 → Option R) (m : Md) : Sp := spA K (fun x : a1 × a2 × a3 × a4 => [rp x.1, rp x.2.1, rp x.2.2.1, rp x.2.2.2]) (fun x => f x.1 x.2.1 x.2.2.1 x.2.2.2) m
abbrev sp5 (K : PySem.W.Frag) (f : a1 → a2 → a3 → a4 → a5 → Option R) (m : Md) : Sp := spA K (fun x : a1 × a2 × a3 × a4 × a5 => [rp x.1, rp x.2.1, rp x.2.2.1, rp x.2.2.2.1, rp x.2.2.2.2]) (fun x => f x.1 x.2.1 x.2.2.1 x.2.2.2.1 x.2.2.2.2) m
theorem ea_cons {A' : Type} {ds' : A' → List Dt} {r1 : Option a1} {r2 : Option A'} {te : TE} (h1 : EvE K te ρ m1 r1) (h2 : EvA K ds' t ρ r2) : EvA K (fun x : a1 × A' => rp x.1 :: ds' x.2) (tCons te t) ρ (r1.bind fun x => r2.bind fun y => some (x, y)) := fun Ht C0 C H σ I z e Q q => by
  obtain ⟨x, ex, e⟩ := some_bind e
  obtain ⟨y, ey, e⟩ := some_bind e
  cases e
  refine h1 Ht C0 C H σ I x ex _ fun v C1 H1 x1 q1 => ?_
  refine h2 Ht C0 C1 H1 σ (I.to x1) y ey _ fun vs C2 H2 x2 q2 => q (v :: vs) C2 H2 (x1.trans x2) (.cons (q1.mono (part_le.trans x2.c)) q2)
theorem ea_one {r1 : Option a1} {te : TE} (h1 : EvE K te ρ m1 r1) : EvA K (fun x : a1 => [rp x]) (tCons te tNil) ρ r1 := fun Ht C0 C H σ I z e Q q =>
  h1 Ht C0 C H σ I z e _ fun v C1 H1 x1 q1 => q [v] C1 H1 x1 (.cons (q1.mono part_le) .nil)
theorem ev_call1 {f : a1 → Option R} {r1 : Option a1} (h1 : EvE K t1 ρ m1 r1) : EvE K (tCall (sp1 K f m) [] E (tCons t1 tNil)) ρ m (r1.bind f) := ev_callA (ea_one h1)
theorem ev_call2 {f : a1 → a2 → Option R} {r1 : Option a1} {r2 : Option a2} (h1 : EvE K t1 ρ m1 r1) (h2 : EvE K t2 ρ m2 r2) : EvE K (tCall (sp2 K f m) [] E (tCons t1 (tCons t2 tNil))) ρ m (r1.bind fun x => r2.bind fun y => f x y) :=
  (ev_callA (ea_cons h1 (ea_one h2))).res (by cases r1 <;> cases r2 <;> rfl)
theorem ev_call3 {f : a1 → a2 → a3 → Option R} {r1 : Option a1} {r2 : Option a2} {r3 : Option a3} (h1 : EvE K t1 ρ m1 r1) (h2 : EvE K t2 ρ m2 r2) (h3 : EvE K t3 ρ m3 r3) : EvE K (tCall (sp3 K f m) [] E (tCons t1 (tCons t2 (tCons t3 tNil)))) ρ m (r1.bind fun x => r2.bind fun y => r3.bind fun z => f x y z) :=
  (ev_callA (ea_cons h1 (ea_cons h2 (ea_one h3)))).res (by cases r1 <;> cases r2 <;> cases r3 <;> rfl)
theorem ev_call4 {f : a1 → a2 → a3 → a4 → Option R} {r1 : Option a1} {r2 : Option a2} {r3 : Option a3} {r4 : Option a4} (h1 : EvE K t1 ρ m1 r1) (h2 : EvE K t2 ρ m2 r2) (h3 : EvE K t3 ρ m3 r3) (h4 : EvE K t4 ρ m4 r4) : EvE K (tCall (sp4 K f m) [] E (tCons t1 (tCons t2 (tCons t3 (tCons t4 tNil))))) ρ m (r1.bind fun x => r2.bind fun y => r3.bind fun z => r4.bind fun w => f x y z w) :=
  (ev_callA (ea_cons h1 (ea_cons h2 (ea_cons h3 (ea_one h4))))).res (by cases r1 <;> cases r2 <;> cases r3 <;> cases r4 <;> rfl)
theorem ev_call5 {f : a1 → a2 → a3 → a4 → a5 → Option R} {r1 : Option a1} {r2 : Option a2} {r3 : Option a3} {r4 : Option a4} {r5 : Option a5} (h1 : EvE K t1 ρ m1 r1) (h2 : EvE K t2 ρ m2 r2) (h3 : EvE K t3 ρ m3 r3) (h4 : EvE K t4 ρ m4 r4) (h5 : EvE K t5 ρ m5 r5) : EvE K (tCall (sp5 K f m) [] E (tCons t1 (tCons t2 (tCons t3 (tCons t4 (tCons t5 tNil)))))) ρ m (r1.bind fun x => r2.bind fun y => r3.bind fun z => r4.bind fun w => r5.bind fun v => f x y z w v) :=
  (ev_callA (ea_cons h1 (ea_cons h2 (ea_cons h3 (ea_cons h4 (ea_one h5)))))).res (by cases r1 <;> cases r2 <;> cases r3 <;> cases r4 <;> cases r5 <;> rfl)
/-- a list of flat things that a def hands back new may be held -/
theorem EvE.L {α : Type} [Rp α] [Scal α] {te : TE} {sp : Sp} {r : Option (List α)} (h : ∀ (Ht C0 C H : Hp) (σ : St), EnvI K Ht C0 C H σ ρ → ∀ x, r = some x → ∀ Q : VK, (∀ v C' H', Ext C H C' H' → Rep K (part .new H C') (rp x) v → Q v H') → te σ H Q) : EvL K te ρ m r := fun Ht C0 C H σ I xs e Q q => by
  refine h Ht C0 C H σ I xs e Q fun v C' H' x rv => ?_
  obtain ⟨a, vs, rfl, h1, h2⟩ := rep_lst rv
  have hn : H a = none := by
    simp only [part] at h1
    split at h1
    · rename_i z; simpa using z
    · cases h1
  -- the clean part as it was
  exact q a vs C H' ⟨.refl _, x.h, I.sub.trans x.h, fun _ _ z => z⟩ hn (free_of I.sub hn) (x.s _ _ (part_le _ _ h1)) h2.scal
theorem ev_callL {α : Type} [Rp α] [Scal α] {f : A → Option (List α)} {ra : Option A} (h : EvA K ds t ρ ra) : EvL K (tCall (spA K ds f .new) [] E t) ρ m (ra.bind f) := fun Ht C0 C H σ I z e Q q => by
  obtain ⟨x, ex, e⟩ := some_bind e
  refine h Ht C0 C H σ I x ex _ fun vs C1 H1 x1 r1 => ?_
  rw [List.append_nil]
  refine ⟨C1, x, z, x1.s, r1, e, fun u C' H' y ru => ?_⟩
  obtain ⟨a, us, rfl, h1, h2⟩ := rep_lst ru
  have hn : H1 a = none := by
    simp only [part] at h1
    split at h1
    · rename_i z; simpa using z
    · cases h1
  exact q a us C1 H' ⟨x1.c, x1.h.trans y.h, x1.s.trans y.h, x1.f⟩ (free_of x1.h hn) (free_of x1.s hn) (y.s _ _ (part_le _ _ h1)) h2.scal
theorem ev_callL1 {α : Type} [Rp α] [Scal α] {f : a1 → Option (List α)} {r1 : Option a1} (h1 : EvE K t1 ρ m1 r1) : EvL K (tCall (sp1 K f .new) [] E (tCons t1 tNil)) ρ m (r1.bind f) := ev_callL (ea_one h1)
theorem ev_callL2 {α : Type} [Rp α] [Scal α] {f : a1 → a2 → Option (List α)} {r1 : Option a1} {r2 : Option a2} (h1 : EvE K t1 ρ m1 r1) (h2 : EvE K t2 ρ m2 r2) : EvL K (tCall (sp2 K f .new) [] E (tCons t1 (tCons t2 tNil))) ρ m (r1.bind fun x => r2.bind fun y => f x y) :=
  (ev_callL (ea_cons h1 (ea_one h2))).res (by cases r1 <;> cases r2 <;> rfl)
theorem ev_callL3 {α : Type} [Rp α] [Scal α] {f : a1 → a2 → a3 → Option (List α)} {r1 : Option a1} {r2 : Option a2} {r3 : Option a3} (h1 : EvE K t1 ρ m1 r1) (h2 : EvE K t2 ρ m2 r2) (h3 : EvE K t3 ρ m3 r3) : EvL K (tCall (sp3 K f .new) [] E (tCons t1 (tCons t2 (tCons t3 tNil)))) ρ m (r1.bind fun x => r2.bind fun y => r3.bind fun z => f x y z) :=
  (ev_callL (ea_cons h1 (ea_cons h2 (ea_one h3)))).res (by cases r1 <;> cases r2 <;> cases r3 <;> rfl)
theorem ev_callL4 {α : Type} [Rp α] [Scal α] {f : a1 → a2 → a3 → a4 → Option (List α)} {r1 : Option a1} {r2 : Option a2} {r3 : Option a3} {r4 : Option a4} (h1 : EvE K t1 ρ m1 r1) (h2 : EvE K t2 ρ m2 r2) (h3 : EvE K t3 ρ m3 r3) (h4 : EvE K t4 ρ m4 r4) : EvL K (tCall (sp4 K f .new) [] E (tCons t1 (tCons t2 (tCons t3 (tCons t4 tNil))))) ρ m (r1.bind fun x => r2.bind fun y => r3.bind fun z => r4.bind fun w => f x y z w) :=
  (ev_callL (ea_cons h1 (ea_cons h2 (ea_cons h3 (ea_one h4))))).res (by cases r1 <;> cases r2 <;> cases r3 <;> cases r4 <;> rfl)
/-- a body's reading, from its promise -/
theorem of_body {N : List Str} {tb : TS} {vs : List V} {H : Hp} {Q : VK} {E : XK} (hb : ∀ x : A, EvR K tb ((ds x).map (.dat .old) ++ List.replicate (N.length - (ds x).length) .un) m (f x)) (hN : ∀ x, (ds x).length ≤ N.length) (h : spA K ds f m vs H Q E) :
    tb { nx := fun _ H' => Q .non H', rt := Q } (start N vs) H := by
  obtain ⟨C, x, r, s, ra, ef, q⟩ := h
  have hl := ra.length
  refine hb x H C C H (start N vs) ⟨.refl s, ?_, fun i sl e => ?_, fun i j a mi li mj lj n e1 _ _ => ?_⟩ r ef _ fun v C' H' y rv => q v C' H' y rv
  · unfold start
    rw [List.length_append, List.length_append, List.length_map, List.length_map, List.length_replicate, List.length_replicate, hl]
  · by_cases hi : i < (ds x).length
    · rw [List.getElem?_append_left (by rw [List.length_map]; exact hi), List.getElem?_map] at e
      obtain ⟨d, ed, rfl⟩ := some_map e
      obtain ⟨v, ev, rv⟩ := ra.get ed
      refine ⟨v, ?_, rv⟩
      unfold start
      rw [List.getElem?_append_left (by rw [List.length_map, hl]; exact hi), List.getElem?_map, ev]
      rfl
    · rw [List.getElem?_append_right (by rw [List.length_map]; omega), List.getElem?_replicate] at e
      split at e
      · cases e; trivial
      · cases e
  · by_cases hi : i < (ds x).length
    · rw [List.getElem?_append_left (by rw [List.length_map]; exact hi), List.getElem?_map] at e1
      obtain ⟨d, ed, z⟩ := some_map e1
      cases z
    · rw [List.getElem?_append_right (by rw [List.length_map]; omega), List.getElem?_replicate] at e1
      split at e1
      · cases e1
      · cases e1
theorem spA_len {n : Nat} {vs : List V} {H : Hp} {Q : VK} {E : XK} (h : spA K ds f m vs H Q E) (hn : ∀ x, (ds x).length = n) : vs.length = n := by
  obtain ⟨C, x, r, s, ra, _⟩ := h
  rw [ra.length, hn]
end
end L2.DL

/-! DL5: further rules. -/
namespace L2.DL
open PySem PySem.Spec PyProof.Rows

/-! ### defs of the text -/
structure DefAt (K : PySem.W.Frag) (mg : Str → Option Value) (x : Str) (st : Stmt) (ps : List Str) where
  a : Addr
  d : FuncData
  F : Fun K x x st a d
  g : mg x = some (.ref a)
  b : Binds K d ps []
  b1 : ∀ (s : Shared) (u : Value), ps.length = 1 → BindsTo s d ⟨[u], []⟩ (ps.zip [u])
def at_mk {K : PySem.W.Frag} {h : Heap} {mg : Str → Option Value} {x : Str} {st : Stmt} {ps : List Str} {f : Addr} {od an : Option Addr} {sl : Array (Option Value)} {oc kV dc pm cd ct : Value} (X : K.In h) (G : h.Ns mainGlobals mg)
    (a : PySem.W.nsIn K mainGlobals x = some (some (.ref f))) (l : K.lookup f = some ⟨oc, od, .func (PySem.W.fnOf x x (defArgs st) (defBody st) (defScope st) .none kV dc pm an cd ct), sl⟩) (c : PySem.W.codeIn K cd x = true) (k : PySem.W.keepIn K (.ref f) = true)
    (hb : ∀ (kV doc pm : Value) (an : Option Addr) (cdv ct : Value) (us : List Value), us.length = ps.length → bindArgs (PySem.W.fnOf x x (defArgs st) (defBody st) (defScope st) .none kV doc pm an cdv ct) ⟨us, []⟩ = pure (ps.zip us)) : DefAt K mg x st ps :=
  ⟨f, _, fun_mk l c k, PySem.W.mg_of X G a, (fun_mk l c k).binds hb, fun s u e => .of_eq (hb _ _ _ _ _ _ [u] e.symm)⟩

section
variable {K : PySem.W.Frag} {t u : TS} {te ta tb tc td : TE} {ρ : En} {m m1 m2 m3 m4 : Md} {S T R : Type} [Rp R] {E : S → En} {L : T → En}
variable {α β γ δ : Type} [Rp α] [Rp β] [Rp γ] [Rp δ]
/-- the last statement of a block -/
theorem en_last {o : Option S} (h : EvN K (tSeq t tNext) ρ E o) : EvN K t ρ E o := h
theorem ef_last {o : Option (Fl S T R)} (h : EvF K (tSeq t tNext) ρ E L m o) : EvF K t ρ E L m o := h
theorem ev_unit : EvE K (tC .non) ρ .new (some ()) := ev_c fun H => by simp only [rp, Rp.rp, Rep]
theorem ev_isB {ra rb : Option Bool} (ha : EvE K ta ρ m1 ra) (hb : EvE K tb ρ m2 rb) : EvE K (tOp (fun x y H Q => ∃ a b, x = .bl a ∧ y = .bl b ∧ Q (.bl (decide (a = b))) H) ta tb) ρ .new (ra.bind fun x => rb.bind fun y => some (decide (x = y))) :=
  ev_two ha hb fun Ht C H x y z v u Q s e r1 r2 q => by
    cases e
    rw [r1.bl_, r2.bl_]
    exact ⟨x, y, rfl, rfl, q _ C H (.refl s) .ofBl⟩
theorem ev_notB {ra rb : Option Bool} (ha : EvE K ta ρ m1 ra) (hb : EvE K tb ρ m2 rb) : EvE K (tOp (fun x y H Q => ∃ a b, x = .bl a ∧ y = .bl b ∧ Q (.bl (!decide (a = b))) H) ta tb) ρ .new (ra.bind fun x => rb.bind fun y => some (decide (x ≠ y))) :=
  ev_two ha hb fun Ht C H x y z v u Q s e r1 r2 q => by
    cases e
    rw [r1.bl_, r2.bl_]
    exact ⟨x, y, rfl, rfl, q _ C H (.refl s) (by simp only [rp, Rp.rp, Rep, ne_eq, decide_not])⟩
theorem ev_revSl {ra : Option (List α)} (ha : EvB K ta ρ m ra) : EvL K (tRevL K ta) ρ m (ra.bind fun x => some x.reverse) := fun Ht C0 C H σ I z e Q q => by
  obtain ⟨x, ex, e⟩ := some_bind e
  cases e
  refine ha Ht C0 C H σ I x ex _ fun a vs C1 H1 x1 h1 r1 => ⟨a, vs, rfl, .of h1, fun p hp => new_list x1 hp ?_ q⟩
  rw [rps, List.map_reverse]
  exact r1.reverse
/-- xs.extend(ys) -/
theorem en_extend {i : Nat} {xs : List α} {ra : Option (List α)} (h : EvE K te ρ m ra) (hi : ρ[i]? = some (.own m (rps xs)) := by rfl) :
    EvN K (tDrop (tBM K "list" rExtend (tVar i) (tCons te tNil))) ρ (fun x => ρ.set i (.own m (rps x))) (ra.bind fun x => lim (xs ++ x)) := fun Ht C0 C H σ I z e D q => by
  obtain ⟨x, ex, e⟩ := some_bind e
  obtain ⟨hz, rfl⟩ := of_lim e
  obtain ⟨a, vs, e1, hn, hc, ha, rv⟩ := I.ok i _ hi
  refine ⟨.ref a, e1, .inl ⟨rfl, _, .of ha⟩, h Ht C0 C H σ I x ex _ fun v C1 H1 x1 r1 => ?_⟩
  obtain ⟨b, us, rfl, hb, rb⟩ := rep_lst r1
  have I1 := I.to x1
  refine ⟨a, b, vs, us, rfl, rfl, x1.h _ _ ha, x1.s _ _ (part_le _ _ hb), ?_, q C1 _ σ (I1.write hi e1 ?_) x1.c⟩
  · rw [rv.length, rb.length, List.length_map, List.length_map, ← List.length_append]
    exact hz
  · rw [rps, List.map_append]
    exact (rv.mono (part_mono x1.c)).append rb
end
section
variable {K : PySem.W.Frag} {ta tb tc td : TE} {ρ : En} {m : Md}
variable {α β γ δ : Type} [Rp α] [Rp β] [Rp γ] [Rp δ]
/-- four of them -/
theorem ev_quad {ra : Option α} {rb : Option β} {rc : Option γ} {rd : Option δ} (ha : EvE K ta ρ m ra) (hb : EvE K tb ρ m rb) (hc : EvE K tc ρ m rc) (hd : EvE K td ρ m rd) : EvE K (tTup (tCons ta (tCons tb (tCons tc (tCons td tNil))))) ρ m (ra.bind fun x => rb.bind fun y => rc.bind fun z => rd.bind fun w => some (T4.mk x y z w)) := fun Ht C0 C H σ I z e Q q => by
  obtain ⟨x, ex, e⟩ := some_bind e
  obtain ⟨y, ey, e⟩ := some_bind e
  obtain ⟨z, ez, e⟩ := some_bind e
  obtain ⟨w, ew, e⟩ := some_bind e
  cases e
  refine ha Ht C0 C H σ I x ex _ fun v1 C1 H1 x1 r1 => ?_
  refine hb Ht C0 C1 H1 σ (I.to x1) y ey _ fun v2 C2 H2 x2 r2 => ?_
  refine hc Ht C0 C2 H2 σ ((I.to x1).to x2) z ez _ fun v3 C3 H3 x3 r3 => ?_
  refine hd Ht C0 C3 H3 σ (((I.to x1).to x2).to x3) w ew _ fun v4 C4 H4 x4 r4 => ⟨(by show 4 ≤ sizeLine; decide), fun p hp => ?_⟩
  have xx := ((x1.trans x2).trans x3).trans x4
  refine q (.ref p) (upd C4 p (.tup [v1, v2, v3, v4])) _ (new_clean xx hp) ?_
  simp only [rp, Rp.rp, Rep]
  have s4 := same_upd (o := .tup [v1, v2, v3, v4]) (free_of x4.s hp)
  have c34 := x4.c.trans s4
  have c234 := x3.c.trans c34
  exact ⟨p, _, rfl, part_at upd_same (free_of (I.ext.h.trans xx.h) hp), .cons (r1.mono (part_mono (x2.c.trans c234))) (.cons (r2.mono (part_mono c234)) (.cons (r3.mono (part_mono c34)) (.cons (r4.mono (part_mono s4)) .nil)))⟩
theorem rep_t4 {H : Hp} {p : T4 α β γ δ} {v : V} (h : Rep K H (rp p) v) : ∃ a x y z w, v = .ref a ∧ H a = some (.tup [x, y, z, w]) ∧ Rep K H (rp p.p) x ∧ Rep K H (rp p.q) y ∧ Rep K H (rp p.r) z ∧ Rep K H (rp p.s) w := by
  simp only [rp, Rp.rp, Rep] at h
  obtain ⟨a, vs, e, h1, h2⟩ := h
  obtain ⟨x, r, rfl, r1, h2⟩ := h2.uncons
  obtain ⟨y, r', rfl, r2, h2⟩ := h2.uncons
  obtain ⟨z, r', rfl, r3, h2⟩ := h2.uncons
  obtain ⟨w, r', rfl, r4, h2⟩ := h2.uncons
  rw [h2.nil_iff] at h1
  exact ⟨a, x, y, z, w, e, h1, r1, r2, r3, r4⟩
theorem eg_quad {g1 g2 g3 g4 : TG} {x : T4 α β γ δ} {ρ1 ρ2 ρ3 ρ4 : En} {v1 v2 v3 v4 : List Nat} (h1 : EvG K g1 m (rp x.p) ρ ρ1 v1) (h2 : EvG K g2 m (rp x.q) ρ1 ρ2 v2) (h3 : EvG K g3 m (rp x.r) ρ2 ρ3 v3) (h4 : EvG K g4 m (rp x.s) ρ3 ρ4 v4) :
    EvG K (gTup K 4 (gCons g1 (gCons g2 (gCons g3 (gCons g4 gNil))))) m (rp x) ρ ρ4 (v1 ++ (v2 ++ (v3 ++ v4))) := fun Ht C0 C H σ v I r Q q => by
  obtain ⟨a, u1, u2, u3, u4, rfl, e, r1, r2, r3, r4⟩ := rep_t4 r
  refine ⟨a, [u1, u2, u3, u4], rfl, .of (I.sub _ _ (part_le _ _ e)), rfl, u1, [u2, u3, u4], rfl, ?_⟩
  refine h1 Ht C0 C H σ u1 I r1 _ fun σ1 I1 e1 l1 => ⟨u2, [u3, u4], rfl, ?_⟩
  refine h2 Ht C0 C H σ1 u2 I1 r2 _ fun σ2 I2 e2 l2 => ⟨u3, [u4], rfl, ?_⟩
  refine h3 Ht C0 C H σ2 u3 I2 r3 _ fun σ3 I3 e3 l3 => ⟨u4, [], rfl, ?_⟩
  refine h4 Ht C0 C H σ3 u4 I3 r4 _ fun σ4 I4 e4 l4 => ⟨rfl, q σ4 I4 (fun j hj => ?_) (l4.trans (l3.trans (l2.trans l1)))⟩
  simp only [List.mem_append, not_or] at hj
  rw [e4 j hj.2.2.2, e3 j hj.2.2.1, e2 j hj.2.1, e1 j hj.1]
end

/-! ### lists that are held, lent to a call whose answer is new -/
open Classical in
noncomputable def wOwn (σ : St) (ρ : En) (C H : Hp) : Hp := fun a => if (∃ (i : Nat) (m : Md) (l : List Dt), ρ[i]? = some (.own m l) ∧ σ[i]? = some (some (.ref a))) then H a else C a
def EvP (K : PySem.W.Frag) {α : Type} [Rp α] (t : TE) (ρ : En) (r : Option α) : Prop :=
  ∀ (Ht C0 C H : Hp) (σ : St), EnvI K Ht C0 C H σ ρ → ∀ x, r = some x → ∀ Q : VK, (∀ v C' H', Ext C H C' H' → Rep K (wOwn σ ρ C' H') (rp x) v → Q v H') → t σ H Q
section
variable {K : PySem.W.Frag} {t t1 t2 t3 t4 t5 : TE} {ta : TA} {ρ : En} {m m1 m2 m3 : Md} {E : XK}
variable {α R A : Type} [Rp α] [Rp R]
theorem wOwn_c {Ht C0 C H : Hp} {σ : St} (I : EnvI K Ht C0 C H σ ρ) : Same C (wOwn σ ρ C H) := fun a o e => by
  unfold wOwn
  split
  · exact I.sub _ _ e
  · exact e
theorem wOwn_h {Ht C0 C H : Hp} {σ : St} (I : EnvI K Ht C0 C H σ ρ) : Same (wOwn σ ρ C H) H := fun a o e => by
  unfold wOwn at e
  split at e
  · exact e
  · exact I.sub _ _ e
theorem wOwn_x {C H C' H' : Hp} {σ : St} (x : Ext C H C' H') : Same (wOwn σ ρ C H) (wOwn σ ρ C' H') := fun a o e => by
  unfold wOwn at e ⊢
  split at e
  · rename_i hh; rw [if_pos hh]; exact x.h _ _ e
  · rename_i hh; rw [if_neg hh]; exact x.c _ _ e
theorem EvE.P {r : Option α} (h : EvE K t ρ m r) : EvP K t ρ r := fun Ht C0 C H σ I x e Q q =>
  h Ht C0 C H σ I x e Q fun v C' H' y rv => q v C' H' y (rv.mono (part_le.trans (wOwn_c (I.to y))))
theorem ep_own {i : Nat} {xs : List α} (h : ρ[i]? = some (.own m (rps xs)) := by rfl) : EvP K (tVar i) ρ (some xs) := fun Ht C0 C H σ I y e Q q => by
  cases e
  obtain ⟨a, vs, e1, _, _, h3, r⟩ := I.ok i _ h
  refine ⟨.ref a, e1, q _ C H I.same ?_⟩
  simp only [rp, Rp.rp, Rep]
  refine ⟨a, vs, rfl, ?_, r.mono (part_le.trans (wOwn_c I))⟩
  unfold wOwn
  rw [if_pos ⟨i, m, _, h, e1⟩]
  exact h3
def EvPs (K : PySem.W.Frag) {A : Type} (ds : A → List Dt) (t : TA) (ρ : En) (r : Option A) : Prop :=
  ∀ (Ht C0 C H : Hp) (σ : St), EnvI K Ht C0 C H σ ρ → ∀ x, r = some x → ∀ Q : List V → Hp → Prop, (∀ vs C' H', Ext C H C' H' → RepL K (wOwn σ ρ C' H') (ds x) vs → Q vs H') → t σ H Q
theorem ep_one {r : Option α} (h : EvP K t ρ r) : EvPs K (fun x : α => [rp x]) (tCons t tNil) ρ r := fun Ht C0 C H σ I z e Q q =>
  h Ht C0 C H σ I z e _ fun v C1 H1 x1 q1 => q [v] C1 H1 x1 (.cons q1 .nil)
theorem ep_cons {ds : A → List Dt} {r : Option α} {r2 : Option A} (h1 : EvP K t ρ r) (h2 : EvPs K ds ta ρ r2) : EvPs K (fun x : α × A => rp x.1 :: ds x.2) (tCons t ta) ρ (r.bind fun x => r2.bind fun y => some (x, y)) := fun Ht C0 C H σ I z e Q q => by
  obtain ⟨x, ex, e⟩ := some_bind e
  obtain ⟨y, ey, e⟩ := some_bind e
  cases e
  refine h1 Ht C0 C H σ I x ex _ fun v C1 H1 x1 q1 => ?_
  refine h2 Ht C0 C1 H1 σ (I.to x1) y ey _ fun vs C2 H2 x2 q2 => q (v :: vs) C2 H2 (x1.trans x2) (.cons (q1.mono (wOwn_x x2)) q2)
/-- what a call with an answer that is new leaves -/
theorem lent {Ht C0 C H C' H' : Hp} {σ : St} (I : EnvI K Ht C0 C H σ ρ) (x : Ext (wOwn σ ρ C H) H C' H') : ∃ C2, Ext C H C2 H' ∧ Same (part .new H C') (part .new Ht C2) := by
  refine ⟨fun a => if (H a).isNone = true then C' a else C a, ⟨fun a o e => ?_, x.h, fun a o e => ?_, fun a h1 h2 => ?_⟩, fun a o e => ?_⟩
  · have : ¬ (H a).isNone = true := by rw [I.sub _ _ e]; simp
    rw [if_neg this]
    exact e
  · split at e
    · exact x.s _ _ e
    · exact x.h _ _ (I.sub _ _ e)
  · have : ¬ (H a).isNone = true := by simpa using h1
    rw [if_neg this]
    exact h2
  · simp only [part] at e ⊢
    split at e
    · rename_i hn
      have hn' : H a = none := by simpa using hn
      rw [free_of I.ext.h hn']
      simp only [Option.isNone_none, if_true]
      rw [if_pos hn]
      exact e
    · cases e
theorem ev_callP {ds : A → List Dt} {f : A → Option R} {ra : Option A} (h : EvPs K ds ta ρ ra) : EvE K (tCall (spA K ds f .new) [] E ta) ρ .new (ra.bind f) := fun Ht C0 C H σ I z e Q q => by
  obtain ⟨x, ex, e⟩ := some_bind e
  refine h Ht C0 C H σ I x ex _ fun vs C1 H1 x1 r1 => ?_
  rw [List.append_nil]
  have I1 := I.to x1
  refine ⟨wOwn σ ρ C1 H1, x, z, wOwn_h I1, r1, e, fun u C' H' y ru => ?_⟩
  obtain ⟨C2, x2, s2⟩ := lent I1 y
  exact q u C2 H' (x1.trans x2) (ru.mono s2)
theorem ev_callPL {α : Type} [Rp α] [Scal α] {ds : A → List Dt} {f : A → Option (List α)} {ra : Option A} (h : EvPs K ds ta ρ ra) : EvL K (tCall (spA K ds f .new) [] E ta) ρ m (ra.bind f) := fun Ht C0 C H σ I z e Q q => by
  obtain ⟨x, ex, e⟩ := some_bind e
  refine h Ht C0 C H σ I x ex _ fun vs C1 H1 x1 r1 => ?_
  rw [List.append_nil]
  have I1 := I.to x1
  refine ⟨wOwn σ ρ C1 H1, x, z, wOwn_h I1, r1, e, fun u C' H' y ru => ?_⟩
  obtain ⟨a, us, rfl, h1, h2⟩ := rep_lst ru
  have hn : H1 a = none := by
    simp only [part] at h1
    split at h1
    · rename_i z; simpa using z
    · cases h1
  exact q a us C1 H' ⟨x1.c, x1.h.trans y.h, x1.s.trans y.h, x1.f⟩ (free_of x1.h hn) (free_of x1.s hn) (y.s _ _ (part_le _ _ h1)) h2.scal
variable {a1 a2 a3 a4 a5 : Type} [Rp a1] [Rp a2] [Rp a3] [Rp a4] [Rp a5]
theorem ev_callP1 {f : a1 → Option R} {r1 : Option a1} (h1 : EvP K t1 ρ r1) : EvE K (tCall (sp1 K f .new) [] E (tCons t1 tNil)) ρ .new (r1.bind f) := ev_callP (ep_one h1)
theorem ev_callP2 {f : a1 → a2 → Option R} {r1 : Option a1} {r2 : Option a2} (h1 : EvP K t1 ρ r1) (h2 : EvP K t2 ρ r2) : EvE K (tCall (sp2 K f .new) [] E (tCons t1 (tCons t2 tNil))) ρ .new (r1.bind fun x => r2.bind fun y => f x y) :=
  (ev_callP (ep_cons h1 (ep_one h2))).res (by cases r1 <;> cases r2 <;> rfl)
theorem ev_callP3 {f : a1 → a2 → a3 → Option R} {r1 : Option a1} {r2 : Option a2} {r3 : Option a3} (h1 : EvP K t1 ρ r1) (h2 : EvP K t2 ρ r2) (h3 : EvP K t3 ρ r3) : EvE K (tCall (sp3 K f .new) [] E (tCons t1 (tCons t2 (tCons t3 tNil)))) ρ .new (r1.bind fun x => r2.bind fun y => r3.bind fun z => f x y z) :=
  (ev_callP (ep_cons h1 (ep_cons h2 (ep_one h3)))).res (by cases r1 <;> cases r2 <;> cases r3 <;> rfl)
theorem ev_callP4 {f : a1 → a2 → a3 → a4 → Option R} {r1 : Option a1} {r2 : Option a2} {r3 : Option a3} {r4 : Option a4} (h1 : EvP K t1 ρ r1) (h2 : EvP K t2 ρ r2) (h3 : EvP K t3 ρ r3) (h4 : EvP K t4 ρ r4) : EvE K (tCall (sp4 K f .new) [] E (tCons t1 (tCons t2 (tCons t3 (tCons t4 tNil))))) ρ .new (r1.bind fun x => r2.bind fun y => r3.bind fun z => r4.bind fun w => f x y z w) :=
  (ev_callP (ep_cons h1 (ep_cons h2 (ep_cons h3 (ep_one h4))))).res (by cases r1 <;> cases r2 <;> cases r3 <;> cases r4 <;> rfl)
theorem ev_callPL1 {α : Type} [Rp α] [Scal α] {f : a1 → Option (List α)} {r1 : Option a1} (h1 : EvP K t1 ρ r1) : EvL K (tCall (sp1 K f .new) [] E (tCons t1 tNil)) ρ m (r1.bind f) := ev_callPL (ep_one h1)
theorem ev_callPL2 {α : Type} [Rp α] [Scal α] {f : a1 → a2 → Option (List α)} {r1 : Option a1} {r2 : Option a2} (h1 : EvP K t1 ρ r1) (h2 : EvP K t2 ρ r2) : EvL K (tCall (sp2 K f .new) [] E (tCons t1 (tCons t2 tNil))) ρ m (r1.bind fun x => r2.bind fun y => f x y) :=
  (ev_callPL (ep_cons h1 (ep_one h2))).res (by cases r1 <;> cases r2 <;> rfl)
end
end L2.DL
namespace L2.DL
theorem ten18 : (10 : Int) ^ (18 : Int).toNat = 1000000000000000000 := by decide +kernel
theorem ten9 : (10 : Int) ^ (9 : Int).toNat = 1000000000 := by decide +kernel
theorem ten12 : (10 : Int) ^ (12 : Int).toNat = 1000000000000 := by decide +kernel
theorem ten6 : (10 : Int) ^ (6 : Int).toNat = 1000000 := by decide +kernel
theorem map_bind_ {A B : Type} (f : A → B) (x : Option A) : x.map f = x.bind fun a => some (f a) := by cases x <;> rfl
theorem bind_some_ {A : Type} (x : Option A) : (x.bind fun a => some a) = x := by cases x <;> rfl
end L2.DL
namespace L2.DL
open PySem PySem.Spec PyProof.Rows
section
variable {K : PySem.W.Frag} {t u : TS} {ρ : En} {m mi : Md} {S T R : Type} [Rp R] {E : S → En} {L : T → En} {α : Type} [Rp α] {c : TT} {w : TI} {g : TG} {ta : TA}
theorem EvXs.res {n : Nat} {r r' : Option (List α)} (h : EvXs K ta ρ m n r) (e : r' = r) : EvXs K ta ρ m n r' := e ▸ h
theorem en_ifP {b : Bool} {o1 o2 : Option S} (hc : EvT K c ρ (some b)) (h1 : EvN K t ρ E o1) (h2 : EvN K u ρ E o2) : EvN K (tIfS c t u) ρ E (if b = true then o1 else o2) := en_if hc h1 h2
theorem er_ifP {b : Bool} {o1 o2 : Option R} (hc : EvT K c ρ (some b)) (h1 : EvR K t ρ m o1) (h2 : EvR K u ρ m o2) : EvR K (tIfS c t u) ρ m (if b = true then o1 else o2) := er_if hc h1 h2
theorem ef_ifP {b : Bool} {o1 o2 : Option (Fl S T R)} (hc : EvT K c ρ (some b)) (h1 : EvF K t ρ E L m o1) (h2 : EvF K u ρ E L m o2) : EvF K (tIfS c t u) ρ E L m (if b = true then o1 else o2) := ef_if hc h1 h2
theorem en_forP {vs : List Nat} {xs : List α} {s0 : S} {f : S → α → Option S} {Eb : S → α → En} (hi : EvI K w ρ mi (some xs)) (h0 : EnvW ρ (E s0)) (hg : ∀ s x, EvG K g mi (rp x) (E s) (Eb s x) vs)
    (hb : ∀ s x, EvN K t (Eb s x) E (f s x)) : EvN K (tFor w g t) ρ E (xs.foldlM f s0) := en_for hi h0 hg hb
theorem ef_forP {vs : List Nat} {xs : List α} {s0 : S} {f : S → α → Option (Fl S S R)} {Eb : S → α → En} (hi : EvI K w ρ mi (some xs)) (h0 : EnvW ρ (E s0)) (hg : ∀ s x, EvG K g mi (rp x) (E s) (Eb s x) vs)
    (hb : ∀ s x, EvF K t (Eb s x) E E m (f s x)) : EvF K (tFor w g t) ρ E L m (forL f xs s0) := ef_for hi h0 hg hb
theorem EvR.FP {r : R} (h : EvR K t ρ m (some r)) : EvF K t ρ E L m (some (.rt r : Fl S T R)) := EvR.F h
theorem ef_cutRP {r : R} (h : EvR K t ρ m (some r)) : EvF K (tSeq t u) ρ E L m (some (.rt r : Fl S T R)) := ef_cutR h
theorem ev_powV {a b v : Int} (h : 0 ≤ b ∧ b ≤ 1000000 ∧ a.natAbs < 2 ^ 64 := by decide) (hv : a ^ b.toNat = v := by decide +kernel) : EvE K (tOp (rI CPow fun i j => .int (i ^ j.toNat)) (tC (.int a)) (tC (.int b))) ρ .new (some v) := hv ▸ ev_pow h
end
end L2.DL

namespace L2.DL
open PySem PySem.Spec PyProof.Rows

/-! ## plain laws: what a mirror returns -/
def Rets {α : Type} (m : Option α) (Q : α → Prop) : Prop := ∃ x, m = some x ∧ Q x
section
variable {α β γ : Type} {m : Option α} {Q : α → Prop} {R : β → Prop}
theorem Rets.pure {x : α} (h : Q x) : Rets (some x) Q := ⟨x, rfl, h⟩
theorem Rets.bind {f : α → Option β} (h : Rets m Q) (k : ∀ x, Q x → Rets (f x) R) : Rets (m.bind f) R := by
  obtain ⟨x, rfl, q⟩ := h
  exact k x q
theorem Rets.some {x : α} {f : α → Option β} (k : Rets (f x) R) : Rets ((some x).bind f) R := k
theorem Rets.mono {Q' : α → Prop} (h : Rets m Q) (k : ∀ x, Q x → Q' x) : Rets m Q' := by
  obtain ⟨x, rfl, q⟩ := h
  exact ⟨x, rfl, k x q⟩
theorem Rets.ite {c : Prop} [Decidable c] {a b : Option α} (h1 : c → Rets a Q) (h2 : ¬ c → Rets b Q) : Rets (if c then a else b) Q := by
  split
  · exact h1 ‹_›
  · exact h2 ‹_›
theorem Rets.fold {f : β → α → Option β} (I : Nat → β → Prop) {N : Nat} : ∀ (l : List α) (k : Nat) (s : β), k + l.length ≤ N → I k s → (∀ k s x, x ∈ l → k < N → I k s → Rets (f s x) (I (k + 1))) → Rets (l.foldlM f s) (I (k + l.length))
  | [], k, s, _, h, _ => ⟨s, rfl, h⟩
  | x :: l, k, s, hN, h, st => by
    rw [List.length_cons] at hN
    obtain ⟨t, et, ht⟩ := st k s x List.mem_cons_self (by omega) h
    have h2 := Rets.fold I l (k + 1) t (by omega) ht fun k s y hy => st k s y (List.mem_cons_of_mem _ hy)
    have e : (x :: l).foldlM f s = l.foldlM f t := by
      rw [List.foldlM_cons, et]
      rfl
    rw [e, List.length_cons, show k + (l.length + 1) = k + 1 + l.length by omega]
    exact h2
theorem foldlM_app {f : β → α → Option β} : ∀ (l r : List α) (s : β), (l ++ r).foldlM f s = (l.foldlM f s).bind fun t => r.foldlM f t := fun l r s => by
  rw [List.foldlM_append]
  rfl
theorem foldlM_cons' {f : β → α → Option β} (x : α) (l : List α) (s : β) : (x :: l).foldlM f s = (f s x).bind fun t => l.foldlM f t := by
  rw [List.foldlM_cons]
  rfl
theorem foldlM_one {f : β → α → Option β} (x : α) (s : β) : [x].foldlM f s = f s x := by
  rw [foldlM_cons']
  cases f s x <;> rfl
theorem rangeL_nat (n : Nat) : rangeL 0 (n : Int) = (List.range n).map fun k : Nat => (k : Int) := by
  unfold rangeL
  rw [show ((n : Int) - 0).toNat = n by omega]
  exact List.map_congr_left fun k _ => by omega
theorem rangeP_nat {n : Nat} (h : n < 2 ^ 62) : rangeP 0 (n : Int) = some ((List.range n).map fun k : Nat => (k : Int)) := by
  rw [rangeP_def, rangeL_nat, if_pos]
  refine ⟨by decide, by decide, by omega, by omega⟩
theorem fold_range {f : β → Int → Option β} (I : Nat → β → Prop) {s : β} (h0 : I 0 s) : ∀ (n : Nat), (∀ k s, k < n → I k s → Rets (f s (k : Int)) (I (k + 1))) → Rets (((List.range n).map fun k : Nat => (k : Int)).foldlM f s) (I n)
  | 0, _ => ⟨s, rfl, h0⟩
  | n + 1, st => by
    obtain ⟨t, et, ht⟩ := fold_range I h0 n fun k s hk => st k s (by omega)
    obtain ⟨u, eu, hu⟩ := st n t (by omega) ht
    refine ⟨u, ?_, hu⟩
    rw [List.range_succ, List.map_append, foldlM_app, et]
    show [(n : Int)].foldlM f t = Option.some u
    rw [foldlM_one]
    exact eu
theorem Rets.range {f : β → Int → Option β} {n : Int} (I : Nat → β → Prop) {s : β} (hn : n < 2 ^ 62) (hn0 : 0 ≤ n) (h0 : I 0 s) (st : ∀ k s, k < n.toNat → I k s → Rets (f s (k : Int)) (I (k + 1))) : Rets ((rangeP 0 n).bind fun l => l.foldlM f s) (I n.toNat) := by
  have e : rangeP 0 n = rangeP 0 ((n.toNat : Nat) : Int) := congrArg _ (by omega)
  rw [e, rangeP_nat (by omega)]
  exact fold_range I h0 _ st
theorem atI_nat {l : List α} {k : Nat} (h : k < l.length) : atI l (k : Int) = Option.some l[k] := by
  unfold atI ixN
  rw [if_pos (by omega), if_pos (by omega)]
  show l[(k : Int).toNat]? = _
  rw [Int.toNat_natCast, List.getElem?_eq_getElem h]
theorem atI_int {l : List α} {i : Int} (h0 : 0 ≤ i) (h : i < l.length) : atI l i = Option.some (l[i.toNat]'(by omega)) := by
  obtain ⟨k, rfl⟩ := Int.eq_ofNat_of_zero_le h0
  exact atI_nat (k := k) (by omega)
theorem cut_take {l : List α} {k : Nat} : cut l none (Option.some (k : Int)) = l.take k := by
  unfold cut
  rw [HT.sIx_none, HT.sIx_nat]
  simp only [List.drop_zero, Nat.sub_zero]
  rcases Nat.le_total k l.length with h | h
  · rw [Nat.min_eq_left h]
  · rw [Nat.min_eq_right h, List.take_length, List.take_of_length_le h]
theorem cut_drop {l : List α} {k : Nat} : cut l (Option.some (k : Int)) none = l.drop k := by
  unfold cut
  rw [HT.sIx_none, HT.sIx_nat]
  rcases Nat.le_total k l.length with h | h
  · rw [Nat.min_eq_left h]
    exact List.take_of_length_le (by simp)
  · rw [Nat.min_eq_right h, List.drop_length, List.drop_of_length_le h, List.take_nil]
theorem cut_both {l : List α} {j k : Nat} : cut l (Option.some (j : Int)) (Option.some (k : Int)) = (l.drop j).take (k - j) := by
  unfold cut
  rw [HT.sIx_nat, HT.sIx_nat]
  rcases Nat.le_total j l.length with h | h
  · rw [Nat.min_eq_left h]
    rcases Nat.le_total k l.length with h' | h'
    · rw [Nat.min_eq_left h']
    · rw [Nat.min_eq_right h', List.take_of_length_le (by simp), List.take_of_length_le (by simp; omega)]
  · rw [Nat.min_eq_right h, List.drop_length, List.drop_of_length_le h]
    simp
end
/-- every draw -/
def Drawn (l : List Int) : Prop := ∀ x ∈ l, 0 ≤ x ∧ x < 1000003
theorem Drawn.snoc {l : List Int} {x : Int} (h : Drawn l) (h0 : 0 ≤ x) (h1 : x < 1000003) : Drawn (l ++ [x]) := fun y hy => by
  rcases List.mem_append.mp hy with h' | h'
  · exact h y h'
  · rw [List.mem_singleton.mp h']
    exact ⟨h0, h1⟩
def drawsP (a_script : Scr) (a_many : Int) : Option (List Int) :=
 (some ([] : (List Int))).bind fun found_1 =>
 ((cut a_script.l none (some (63 : Int))).foldlM (fun (s5 : (List Int)) (cell_6 : Int) =>
 (some (if cell_6 < 0 then -cell_6 else cell_6)).bind fun number_8 =>
 (if (decide ((1000000000000000000 : Int) ≤ number_8)) = true then
 ((rangeP 0 (60 : Int)).bind fun l23 => l23.foldlM (fun (s12 : ((List Int) × Int)) (k_13 : Int) =>
 (if (decide ((0 : Int) < s12.2)) = true then
 (lim (s12.1 ++ [(s12.2 % 1000003)])).bind fun found_16 =>
 (some (s12.2 / 1000003)).bind fun number_20 =>
 some (found_16, number_20)
else
 some (s12.1, s12.2))) (s5, number_8)).bind fun (s24 : ((List Int) × Int)) =>
 some s24.1
else
 (some ((((number_8 * 48271) + (7 * (s5.length : Int))) + (11 : Int)) % 2147483647)).bind fun mixed_33 =>
 ((rangeP 0 (4 : Int)).bind fun l53 => l53.foldlM (fun (s35 : ((List Int) × Int)) (k_36 : Int) =>
 (some (((((s35.2 * 69621) + (s35.2 / 65536)) + (13 * k_36)) + (5 : Int)) % 2147483629)).bind fun mixed_47 =>
 (lim (s35.1 ++ [((mixed_47 / 8) % 1000003)])).bind fun found_48 =>
 some (found_48, mixed_47)) (s5, mixed_33)).bind fun (s54 : ((List Int) × Int)) =>
 some s54.1)) found_1).bind fun (s58 : (List Int)) =>
 ((rangeP 0 a_many).bind fun l91 => l91.foldlM (fun (s60 : (List Int)) (k_61 : Int) =>
 (if (decide ((s60.length : Int) < a_many)) = true then
 (some (0 : Int)).bind fun base_65 =>
 ((if (decide ((0 : Int) < (s60.length : Int))) = true then
 ((modP k_61 (s60.length : Int)).bind fun v74 => atI s60 v74).bind fun base_75 =>
 some base_75
else
 some base_65)).bind fun (s77 : Int) =>
 (lim (s60 ++ [((((s77 * 16807) + (31 * (s60.length : Int))) + (17 : Int)) % 1000003)])).bind fun found_78 =>
 some found_78
else
 some s60)) s58).bind fun (s92 : (List Int)) =>
 some (cut s92 none (some a_many))
theorem drawsP_ok {ns : List Int} {many : Nat} (hm : many ≤ 1000) : Rets (drawsP ⟨ns⟩ (many : Int)) fun ds => ds.length = many ∧ Drawn ds := by
  unfold drawsP
  refine .some ?_
  refine .bind (Q := fun s : List Int => s.length ≤ 3780 ∧ Drawn s) ?_ ?_
  · have hl : (cut (Scr.mk ns).l none (some (63 : Int))).length ≤ 63 := by
      show (cut ns none (some ((63 : Nat) : Int))).length ≤ 63
      rw [cut_take, List.length_take]
      omega
    refine (Rets.fold (N := 63) (fun k (s : List Int) => s.length ≤ 60 * k ∧ Drawn s) _ 0 _ (by omega) ⟨Nat.zero_le _, by simp [Drawn]⟩ ?_).mono fun s h => ?_
    · intro k s x hx hk hI
      refine .some ?_
      obtain ⟨h1, h2⟩ := hI
      refine .ite (fun _ => ?_) fun _ => ?_
      · refine .bind (Rets.range (fun j (t : List Int × Int) => t.1.length ≤ 60 * k + j ∧ Drawn t.1) (by decide) (by decide) ⟨by omega, h2⟩ ?_) fun t ht => .pure ⟨by have := ht.1; simp only [Int.reduceToNat] at this; omega, ht.2⟩
        intro j t hj ht
        have hj' : j < 60 := hj
        refine .ite (fun _ => ?_) fun _ => .pure ⟨by show t.1.length ≤ _; omega, ht.2⟩
        rw [lim_of (by rw [List.length_append, List.length_singleton]; omega)]
        exact .pure ⟨by rw [List.length_append, List.length_singleton]; omega, ht.2.snoc (by omega) (by omega)⟩
      · refine .some ?_
        refine .bind (Rets.range (fun j (t : List Int × Int) => t.1.length ≤ 60 * k + j ∧ Drawn t.1) (by decide) (by decide) ⟨by omega, h2⟩ ?_) fun t ht => .pure ⟨by have := ht.1; simp only [Int.reduceToNat] at this; omega, ht.2⟩
        intro j t hj ht
        have hj' : j < 4 := hj
        refine .some ?_
        rw [lim_of (by rw [List.length_append, List.length_singleton]; omega)]
        exact .pure ⟨by rw [List.length_append, List.length_singleton]; omega, ht.2.snoc (by omega) (by omega)⟩
    · obtain ⟨h1, h2⟩ := h
      exact ⟨by omega, h2⟩
  · intro s hs
    refine .bind (Rets.range (fun j (t : List Int) => t.length ≤ 3780 + j ∧ Drawn t ∧ (j ≤ t.length ∨ many ≤ t.length)) (by omega) (by omega) ⟨by omega, hs.2, by omega⟩ ?_) fun t ht => ?_
    · intro j t hj ⟨h1, h2, h3⟩
      refine .ite (fun h => ?_) fun h => .pure ⟨by omega, h2, ?_⟩
      · refine .some ?_
        refine .bind (Q := fun _ => True) ?_ fun b _ => ?_
        · refine .ite (fun h4 => ?_) fun _ => .pure trivial
          have h4' := of_decide_eq_true h4
          rw [modP_def, if_pos h4']
          rw [show (some ((j : Int) % (t.length : Int))).bind (fun v74 => atI t v74) = atI t ((j : Int) % (t.length : Int)) from rfl]
          rw [atI_int (Int.emod_nonneg _ (by omega)) (Int.emod_lt_of_pos _ h4')]
          exact .pure trivial
        · rw [lim_of (by rw [List.length_append, List.length_singleton]; omega)]
          refine .pure ⟨by rw [List.length_append, List.length_singleton]; omega, h2.snoc (by omega) (by omega), ?_⟩
          rw [List.length_append, List.length_singleton]
          have := of_decide_eq_true h
          omega
      · have : ¬ (t.length : Int) < many := fun q => h (decide_eq_true q)
        omega
    · obtain ⟨h1, h2, h3⟩ := ht
      rw [cut_take]
      refine .pure ⟨by rw [List.length_take]; omega, fun x hx => h2 x (List.mem_of_mem_take hx)⟩
/-! ### == of data, of the types at hand -/
class EqR (α : Type) [Rp α] [DecidableEq α] where
  dep : Nat
  lay : ∀ x : α, PyData.canLay0 (toPy (rp x)) = true ∧ PyData.depth (toPy (rp x)) ≤ dep
  eq : ∀ x y : α, PyData.eqv (toPy (rp x)) (toPy (rp y)) = decide (x = y)
section
variable {α β γ δ : Type} [Rp α] [Rp β] [Rp γ] [Rp δ] [DecidableEq α] [DecidableEq β] [DecidableEq γ] [DecidableEq δ]
instance : EqR Int := ⟨0, fun x => ⟨by simp [rp, Rp.rp, toPy, PyData.canLay0], by simp [rp, Rp.rp, toPy, PyData.depth]⟩, fun x y => by simp only [rp, Rp.rp, toPy, PyData.eqv]; rfl⟩
instance : EqR Bool := ⟨0, fun x => ⟨by simp [rp, Rp.rp, toPy, PyData.canLay0], by simp [rp, Rp.rp, toPy, PyData.depth]⟩, fun x y => by simp only [rp, Rp.rp, toPy, PyData.eqv]; cases x <;> cases y <;> rfl⟩
theorem toPyL_map : ∀ l : List Dt, toPyL l = l.map toPy
  | [] => by simp only [toPyL, List.map_nil]
  | d :: l => by simp only [toPyL, List.map_cons, toPyL_map l]
theorem layAll [EqR α] : ∀ l : List α, PyData.canLayAll0 (toPyL (l.map rp)) = true ∧ PyData.depthAll (toPyL (l.map rp)) ≤ EqR.dep α
  | [] => by simp [toPyL, PyData.canLayAll0, PyData.depthAll]
  | x :: l => by
    obtain ⟨h1, h2⟩ := EqR.lay x
    obtain ⟨h3, h4⟩ := layAll l
    simp only [List.map_cons, toPyL, PyData.canLayAll0, PyData.depthAll]
    exact ⟨by rw [h1, h3]; rfl, by omega⟩
theorem eqAll [EqR α] : ∀ l r : List α, PyData.eqvAll (toPyL (l.map rp)) (toPyL (r.map rp)) = decide (l = r)
  | [], [] => by simp [toPyL, PyData.eqvAll]
  | [], _ :: _ => by simp [toPyL, PyData.eqvAll]
  | _ :: _, [] => by simp [toPyL, PyData.eqvAll]
  | x :: l, y :: r => by
    simp only [List.map_cons, toPyL, PyData.eqvAll]
    rw [EqR.eq x y, eqAll l r]
    by_cases h1 : x = y <;> by_cases h2 : l = r <;> simp [h1, h2]
instance [EqR α] : EqR (List α) := ⟨EqR.dep α + 1, fun l => by
  obtain ⟨h3, h4⟩ := layAll l
  simp only [rp, Rp.rp, toPy, PyData.canLay0, PyData.depth]
  exact ⟨h3, by omega⟩, fun l r => by
  simp only [rp, Rp.rp, toPy, PyData.eqv]
  exact eqAll l r⟩
instance [EqR α] [EqR β] : EqR (α × β) := ⟨max (EqR.dep α) (EqR.dep β) + 1, fun l => by
  obtain ⟨h1, h2⟩ := EqR.lay l.1
  obtain ⟨h3, h4⟩ := EqR.lay l.2
  simp only [rp, Rp.rp, toPy, toPyL, PyData.canLay0, PyData.canLayAll0, PyData.depth, PyData.depthAll] at *
  exact ⟨by simp [h1, h3], by omega⟩, fun l r => by
  have h1 := EqR.eq l.1 r.1
  have h2 := EqR.eq l.2 r.2
  simp only [rp, Rp.rp, toPy, toPyL, PyData.eqv, PyData.eqvAll] at *
  rw [h1, h2]
  by_cases h1 : l.1 = r.1 <;> by_cases h2 : l.2 = r.2 <;> simp [h1, h2, Prod.ext_iff]⟩
theorem eqD_of [EqR α] {x y : α} (h : EqR.dep α ≤ 64) : eqD (rp x) (rp y) = some (decide (x = y)) := by
  unfold eqD SeqAt.shaped
  obtain ⟨h1, h2⟩ := EqR.lay x
  obtain ⟨h3, h4⟩ := EqR.lay y
  rw [if_pos, EqR.eq]
  rw [h1, h3, decide_eq_true (Nat.le_trans h2 h), decide_eq_true (Nat.le_trans h4 h)]
  exact ⟨rfl, rfl⟩
theorem eqD_int {x y : Int} : eqD (rp x) (rp y) = some (decide (x = y)) := eqD_of (by decide)
theorem eqD_ints {x y : List Int} : eqD (rp x) (rp y) = some (decide (x = y)) := eqD_of (by decide)
theorem eqD_intss {x y : List (List Int)} : eqD (rp x) (rp y) = some (decide (x = y)) := eqD_of (by decide)
end
/-! ### steps of a mirror, that simp takes as steps and not as unfoldings -/
theorem bind_s {α β : Type} {x : α} {f : α → Option β} : (some x).bind f = f x := by rw [Option.bind_some]
theorem map_s {α β : Type} {x : α} {f : α → β} : (some x).map f = some (f x) := by rw [Option.map_some]
theorem not_t : (!true) = false := by rw [Bool.not_true]
theorem not_f : (!false) = true := by rw [Bool.not_false]
theorem ret_nx {S T R : Type} {s : S} {f : S → Option R} : Fl.ret (T := T) (some (.nx s)) f = f s := by
  unfold Fl.ret
  rw [bind_s]
theorem ret_rt {S T R : Type} {r : R} {f : S → Option R} : Fl.ret (T := T) (some (.rt r)) f = some r := by
  unfold Fl.ret
  rw [bind_s]
theorem if_ft {α : Type} {a b : α} : (if false = true then a else b) = b := if_neg Bool.false_ne_true
theorem if_tt {α : Type} {a b : α} : (if true = true then a else b) = a := if_pos rfl
theorem draw_at {ds : List Int} {n : Nat} (h : ds.length = n ∧ Drawn ds) (j : Int) (h0 : 0 ≤ j) (h1 : j < n) : ∃ x, atI ds j = some x ∧ 0 ≤ x ∧ x < 1000003 :=
  ⟨_, atI_int h0 (by rw [h.1]; exact h1), h.2 _ (List.getElem_mem _)⟩
end L2.DL

namespace L2.DL
open PySem PySem.Spec PyProof.Rows
section
variable {K : PySem.W.Frag} {ta tb : TE} {ρ : En} {m m1 m2 : Md}
variable {α β γ : Type} [Rp α] [Rp β] [Rp γ]
/-! ### an option that is there -/
theorem EvE.un {r : Option (Option α)} (h : EvE K ta ρ m r) : EvE K ta ρ m (r.bind fun x => x) := fun Ht C0 C H σ I x e Q q => by
  obtain ⟨y, ey, e⟩ := some_bind e
  subst e
  exact h Ht C0 C H σ I _ ey Q fun v C' H' z rv => q v C' H' z rv
/-! ### sorted -/
def insI (x : Int) : List Int → List Int
  | [] => [x]
  | y :: l => if x ≤ y then x :: y :: l else y :: insI x l
def sortI : List Int → List Int
  | [] => []
  | x :: l => insI x (sortI l)
theorem insI_perm (x : Int) : ∀ l : List Int, (insI x l).Perm (x :: l)
  | [] => .refl _
  | y :: l => by
    unfold insI
    split
    · exact .refl _
    · exact (List.Perm.cons y (insI_perm x l)).trans (List.Perm.swap x y l)
theorem sortI_perm : ∀ xs : List Int, (sortI xs).Perm xs
  | [] => .refl _
  | x :: l => (insI_perm x (sortI l)).trans (List.Perm.cons x (sortI_perm l))
theorem insI_pw (x : Int) : ∀ l : List Int, l.Pairwise (· ≤ ·) → (insI x l).Pairwise (· ≤ ·)
  | [], _ => List.pairwise_singleton _ _
  | y :: l, h => by
    unfold insI
    split
    · rename_i hxy
      refine List.pairwise_cons.mpr ⟨fun z hz => ?_, h⟩
      rcases List.mem_cons.mp hz with rfl | hz
      · exact hxy
      · have := (List.pairwise_cons.mp h).1 z hz
        omega
    · rename_i hxy
      refine List.pairwise_cons.mpr ⟨fun z hz => ?_, insI_pw x l (List.pairwise_cons.mp h).2⟩
      rcases List.mem_cons.mp ((insI_perm x l).mem_iff.mp hz) with rfl | hz
      · omega
      · exact (List.pairwise_cons.mp h).1 z hz
theorem sortI_pw : ∀ xs : List Int, (sortI xs).Pairwise (· ≤ ·)
  | [] => List.Pairwise.nil
  | x :: l => insI_pw x _ (sortI_pw l)
theorem sortI_uniq {xs ys : List Int} (h1 : ys.Perm xs) (h2 : ys.Pairwise (· ≤ ·)) : ys = sortI xs :=
  (h1.trans (sortI_perm xs).symm).eq_of_pairwise (le := (· ≤ ·)) (fun a b _ _ h h' => by omega) h2 (sortI_pw xs)
theorem ev_sortI {ra : Option (List Int)} (ha : EvB K ta ρ m1 ra) : EvL K (tCB (rSortedI K) (tCons ta tNil)) ρ .new (ra.bind fun x => some (sortI x)) := fun Ht C0 C H σ I z e Q q => by
  obtain ⟨x, ex, e⟩ := some_bind e
  cases e
  refine ha Ht C0 C H σ I x ex _ fun a vs C1 H1 x1 h1 r1 => ?_
  rw [r1.ints_eq] at h1
  refine ⟨a, x, rfl, .of h1, fun ns' p hp hw hn => ?_⟩
  rw [sortI_uniq hp hw]
  exact new_list x1 hn (RepL.ints _) q
end
theorem EvG.sub {K : PySem.W.Frag} {g : TG} {m : Md} {d : Dt} {ρ ρ' : En} {a b : List Nat} (h : EvG K g m d ρ ρ' a) (hs : ∀ i ∈ a, i ∈ b) : EvG K g m d ρ ρ' b := fun Ht C0 C H σ v I r Q q =>
  h Ht C0 C H σ v I r Q fun σ' I' e l => q σ' I' (fun j hj => e j fun hm => hj (hs j hm)) l
/-! ### comprehensions with two sources -/
def comp2 {α β γ : Type} (p : α → Option Bool) (r : α → Option (List γ)) (q : α → γ → Option Bool) (f : α → γ → Option β) : List α → Option (List β)
  | [] => some []
  | x :: xs => (p x).bind fun b => if b = true then (r x).bind fun us => (compM (q x) (f x) us).bind fun ys => (comp2 p r q f xs).bind fun zs => some (ys ++ zs) else comp2 p r q f xs
inductive OwnSub : En → En → Prop
  | nil : OwnSub [] []
  | un {a b : En} {s : Slot} : OwnSub a b → OwnSub (.un :: a) (s :: b)
  | dat {a b : En} {s : Slot} {m : Md} {d : Dt} : OwnSub a b → OwnSub (.dat m d :: a) (s :: b)
  | own {a b : En} {m : Md} {l : List Dt} : OwnSub a b → OwnSub (.own m l :: a) (.own m l :: b)
theorem OwnSub.at {a b : En} (h : OwnSub a b) : ∀ {i : Nat} {m : Md} {l : List Dt}, a[i]? = some (.own m l) → b[i]? = some (.own m l) := by
  induction h with
  | nil => intro i m l e; exact e
  | un h ih =>
    intro i m l e
    cases i with
    | zero => simp at e
    | succ i => simpa using ih (by simpa using e)
  | dat h ih =>
    intro i m l e
    cases i with
    | zero => simp at e
    | succ i => simpa using ih (by simpa using e)
  | own h ih =>
    intro i m l e
    cases i with
    | zero => simpa using e
    | succ i => simpa using ih (by simpa using e)
def era (D : Addr) (H : Hp) : Hp := fun a => if a = D then none else H a
theorem era_ne {D a : Addr} {H : Hp} (h : a ≠ D) : era D H a = H a := if_neg h
theorem era_le {D : Addr} {H : Hp} : Same (era D H) H := fun a o e => by
  by_cases h : a = D
  · rw [era, if_pos h] at e; cases e
  · rw [era_ne h] at e; exact e
theorem era_upd {D : Addr} {H : Hp} {o : HO} : era D (upd H D o) = era D H := by
  funext a
  by_cases h : a = D
  · simp only [era, if_pos h]
  · rw [era_ne h, era_ne h, upd_ne h]
theorem Ext.era {C H C' H' : Hp} {D : Addr} (x : Ext C H C' H') (h : H D ≠ none) (c : C D = none) : Ext C (DL.era D H) C' (DL.era D H') := by
  have c' := x.f D h c
  refine ⟨x.c, fun a o e => ?_, fun a o e => ?_, fun a e n => ?_⟩
  · by_cases hd : a = D
    · rw [DL.era, if_pos hd] at e; cases e
    · rw [era_ne hd] at e ⊢
      exact x.h _ _ e
  · have hd : a ≠ D := fun z => by rw [z, c'] at e; cases e
    rw [era_ne hd]
    exact x.s _ _ e
  · have hd : a ≠ D := fun z => e (by rw [z]; exact if_pos rfl)
    rw [era_ne hd] at e
    exact x.f a e n
theorem EnvI.back {K : PySem.W.Frag} {Ht C0 C H : Hp} {σ : St} {ρ : En} {D : Addr} (I : EnvI K Ht C0 C (era D H) σ ρ) : EnvI K Ht C0 C H σ ρ :=
  ⟨⟨I.ext.c, I.ext.h.trans era_le, I.ext.s.trans era_le, I.ext.f⟩, I.len, fun i s e => by
    have := I.ok i s e
    cases s with
    | un => exact this
    | dat m d => exact this
    | isl A d => exact this
    | err a dd fs => exact ⟨this.1, fun y e => era_le _ _ (this.2 y e)⟩
    | own m l =>
      obtain ⟨a, vs, h1, h2, h3, h4, h5⟩ := this
      exact ⟨a, vs, h1, h2, h3, era_le _ _ h4, h5⟩, I.sep⟩
theorem EnvI.era {K : PySem.W.Frag} {Ht C0 C H : Hp} {σ : St} {ρ : En} {D : Addr} (I : EnvI K Ht C0 C H σ ρ) (ht : Ht D = none) (hc : C D = none) (ho : ∀ (i : Nat) m l, ρ[i]? = some (.own m l) → σ[i]? ≠ some (some (.ref D))) (hl : ∃ l, H D = some (.lst l)) : EnvI K Ht C0 C (DL.era D H) σ ρ :=
  ⟨⟨I.ext.c, fun a o e => by
      rw [era_ne (fun z => by rw [z, ht] at e; cases e)]
      exact I.ext.h _ _ e, fun a o e => by
      rw [era_ne (fun z => by rw [z, hc] at e; cases e)]
      exact I.ext.s _ _ e, I.ext.f⟩, I.len, fun i s e => by
    have := I.ok i s e
    cases s with
    | un => exact this
    | dat m d => exact this
    | isl A d => exact this
    | err a dd fs => exact ⟨this.1, fun y ey => by
        have hy := this.2 y ey
        obtain ⟨l, hl⟩ := hl
        rw [era_ne (fun z => by rw [z, hl] at hy; cases hy)]
        exact hy⟩
    | own m l =>
      obtain ⟨a, vs, h1, h2, h3, h4, h5⟩ := this
      refine ⟨a, vs, h1, h2, h3, ?_, h5⟩
      rw [era_ne (fun z => ho i m l e (by rw [h1, z]))]
      exact h4, I.sep⟩
section
variable {K : PySem.W.Frag} {te : TE} {ρ : En} {m mi mj : Md} {w w1 : TI} {g g1 : TG} {tt tt1 : TT}
variable {α β γ : Type} [Rp α] [Rp β] [Rp γ]
theorem ev_lc2 {vs vs1 : List Nat} {rx : Option (List α)} {p : α → Option Bool} {r : α → Option (List γ)} {q : α → γ → Option Bool} {f : α → γ → Option β} {Eb : α → En} {Ec : α → γ → En}
    (hi : EvI K w ρ mi rx) (hg : ∀ x, EvG K g mi (rp x) (wipeE ρ vs) (Eb x) vs) (ho : ∀ x, OwnSub (Eb x) (wipeE ρ vs)) (ht : ∀ x, EvT K tt (Eb x) (p x))
    (hi1 : ∀ x, EvI K w1 (Eb x) mj (r x)) (hg1 : ∀ x u, EvG K g1 mj (rp u) (wipeE (Eb x) vs1) (Ec x u) vs1) (ht1 : ∀ x u, EvT K tt1 (Ec x u) (q x u)) (he : ∀ x u, EvE K te (Ec x u) m (f x u)) :
    EvL K (tLc2 w g tt w1 g1 tt1 te vs vs1) ρ m (rx.bind fun xs => (comp2 p r q f xs).bind lim) := fun Ht C0 C H σ I z e Q qq => by
  obtain ⟨xs, ex, e⟩ := some_bind e
  obtain ⟨all, ea, e⟩ := some_bind e
  obtain ⟨hz, rfl⟩ := of_lim e
  refine hi Ht C0 C H σ I xs ex _ fun J C1 H1 x1 ok => fun D hD => ?_
  refine ⟨fun i n Hc => n = xs.length - i ∧ i ≤ xs.length ∧ ∃ Cc ys acc rest, Ext C1 H1 Cc Hc ∧ Cc D = none ∧ Hc D = some (.lst acc) ∧ RepL K (part m Ht Cc) (rps ys) acc ∧ comp2 p r q f (xs.drop i) = some rest ∧ ys ++ rest = z,
    ⟨xs.length, rfl, Nat.zero_le _, C1, [], [], z, ⟨.refl _, same_upd hD, x1.s.trans (same_upd hD), fun a _ h => h⟩, free_of x1.s hD, upd_same, .nil, ea, rfl⟩, ?_⟩
  rintro i n Hc ⟨rfl, hi', Cc, ys, acc, rest, xc, cD, hDc, ra, er, eq⟩
  by_cases hlt : i < xs.length
  · have ed : (rps xs)[i]? = some (rp xs[i]) := by rw [rps, List.getElem?_map, List.getElem?_eq_getElem hlt]; rfl
    obtain ⟨go, yl⟩ := ok.go i Cc Hc _ ed xc.c xc.s (I.ext.h.trans (x1.h.trans xc.h))
    refine .inr ⟨go, fun H' => ∃ Cc ys acc rest, Ext C1 H1 Cc H' ∧ Cc D = none ∧ H' D = some (.lst acc) ∧ RepL K (part m Ht Cc) (rps ys) acc ∧ comp2 p r q f (xs.drop (i + 1)) = some rest ∧ ys ++ rest = z,
      fun H' h => ⟨xs.length - (i + 1), by omega, rfl, hlt, h⟩, fun x H' hy => ?_⟩
    obtain ⟨C2, x2, r2⟩ := yl x H' hy
    have dn : Hc D ≠ none := by rw [hDc]; simp
    rw [List.drop_eq_getElem_cons hlt] at er
    obtain ⟨b, eb, er⟩ := some_bind er
    have I1 := I.to x1
    have I2 := (I1.to (xc.trans x2)).wipe vs
    refine hg xs[i] Ht C0 C2 H' (wipe σ vs) x I2 r2 _ fun σ3 I3 e3 l3 => ⟨wipe_eq e3 (l3.trans (wipe_length _ _)), ?_⟩
    refine ht xs[i] Ht C0 C2 H' σ3 I3 b eb _ fun C4 H4 x4 => ?_
    have xa := (xc.trans x2).trans x4
    have d2 : H' D ≠ none := Same.ne x2.h dn
    have d4 : H4 D ≠ none := Same.ne x4.h d2
    have c4 : C4 D = none := x4.f D d2 (x2.f D dn cD)
    cases b with
    | false =>
      rw [if_neg Bool.false_ne_true] at er
      exact iteF ⟨C4, ys, acc, rest, xa, c4, x4.h _ _ (x2.h _ _ hDc), ra.mono (part_mono (x2.c.trans x4.c)), er, eq⟩
    | true =>
      rw [if_pos rfl] at er
      obtain ⟨us, eu, er⟩ := some_bind er
      obtain ⟨in1, e1, er⟩ := some_bind er
      obtain ⟨rest', er', er⟩ := some_bind er
      cases er
      have hown : ∀ (k : Nat) mo l, (Eb xs[i])[k]? = some (.own mo l) → σ3[k]? ≠ some (some (.ref D)) := fun k mo l ek => by
        have e5 := (ho xs[i]).at ek
        rcases wipeE_at e5 with z | ⟨n1, n2⟩
        · cases z
        · rw [e3 k n1, wipe_out n1]
          obtain ⟨a, vs', h1, h2, h3, h4, h5⟩ := I1.ok k _ n2
          intro z
          rw [h1] at z
          cases z
          rw [hD] at h4
          cases h4
      refine iteT (hi1 xs[i] Ht C0 C4 H4 σ3 (I3.to x4) us eu _ fun J1 C5 H5 x5 ok1 => ?_)
      have xb := xa.trans x5
      have d5 : H5 D ≠ none := Same.ne x5.h d4
      have c5 : C5 D = none := x5.f D d4 c4
      have tD : Ht D = none := free_of (I.ext.h.trans x1.h) hD
      have IE : EnvI K Ht C0 C5 (era D H5) σ3 (Eb xs[i]) := ((I3.to x4).to x5).era tD c5 hown ⟨_, x5.h _ _ (x4.h _ _ (x2.h _ _ hDc))⟩
      refine ⟨fun j k Hd => k = us.length - j ∧ j ≤ us.length ∧ ∃ Cd ys acc r1, Ext C5 (era D H5) Cd (era D Hd) ∧ Cd D = none ∧ Hd D = some (.lst acc) ∧ RepL K (part m Ht Cd) (rps ys) acc ∧ compM (q xs[i]) (f xs[i]) (us.drop j) = some r1 ∧ ys ++ (r1 ++ rest') = z,
        ⟨us.length, rfl, Nat.zero_le _, C5, ys, acc, in1, .refl IE.ext.s, c5, x5.h _ _ (x4.h _ _ (x2.h _ _ hDc)), ra.mono (part_mono ((x2.c.trans x4.c).trans x5.c)), e1, eq⟩, ?_⟩
      rintro j k Hd ⟨rfl, hj', Cd, zs, acd, r1, xd, dD, hDd, rd, ed1, eqd⟩
      have ddn : Hd D ≠ none := by rw [hDd]; simp
      have sd : Same Cd Hd := xd.s.trans era_le
      have tH : Same Ht Hd := (IE.ext.h.trans xd.h).trans era_le
      by_cases hltj : j < us.length
      · have edj : (rps us)[j]? = some (rp us[j]) := by rw [rps, List.getElem?_map, List.getElem?_eq_getElem hltj]; rfl
        obtain ⟨go1, yl1⟩ := ok1.go j Cd Hd _ edj xd.c sd tH
        refine .inr ⟨go1, fun H' => ∃ Cd ys acc r1, Ext C5 (era D H5) Cd (era D H') ∧ Cd D = none ∧ H' D = some (.lst acc) ∧ RepL K (part m Ht Cd) (rps ys) acc ∧ compM (q xs[i]) (f xs[i]) (us.drop (j + 1)) = some r1 ∧ ys ++ (r1 ++ rest') = z,
          fun H' h => ⟨us.length - (j + 1), by omega, rfl, hltj, h⟩, fun y H6 hy6 => ?_⟩
        obtain ⟨C6, x6, r6⟩ := yl1 y H6 hy6
        rw [List.drop_eq_getElem_cons hltj] at ed1
        obtain ⟨b1, eb1, ed1⟩ := some_bind ed1
        have d6 : H6 D ≠ none := Same.ne x6.h ddn
        have c6 : C6 D = none := x6.f D ddn dD
        have I6 : EnvI K Ht C0 C6 H6 σ3 (Eb xs[i]) := ((IE.to xd).back).to x6
        refine hg1 xs[i] us[j] Ht C0 C6 H6 (wipe σ3 vs1) y (I6.wipe vs1) r6 _ fun σ7 I7 e7 l7 => ⟨wipe_eq e7 (l7.trans (wipe_length _ _)), ?_⟩
        refine ht1 xs[i] us[j] Ht C0 C6 H6 σ7 I7 b1 eb1 _ fun C8 H8 x8 => ?_
        have d8 : H8 D ≠ none := Same.ne x8.h d6
        have c8 : C8 D = none := x8.f D d6 c6
        have xe := (x6.trans x8)
        cases b1 with
        | false =>
          rw [if_neg Bool.false_ne_true] at ed1
          exact iteF ⟨C8, zs, acd, r1, xd.trans (xe.era ddn dD), c8, xe.h _ _ hDd, rd.mono (part_mono xe.c), ed1, eqd⟩
        | true =>
          rw [if_pos rfl] at ed1
          obtain ⟨v, ev, ed1⟩ := some_bind ed1
          obtain ⟨r1', er1, ed1⟩ := some_bind ed1
          cases ed1
          refine iteT (he xs[i] us[j] Ht C0 C8 H8 σ7 (I7.to x8) v ev _ fun u C9 H9 x9 r9 => ?_)
          have xf := xe.trans x9
          have hl : acd.length < sizeLine := by
            rw [rd.length, List.length_map]
            have hzz := hz
            rw [← eqd, List.length_append, List.length_append, List.length_cons] at hzz
            omega
          refine ⟨acd, xf.h _ _ hDd, hl, C9, zs ++ [v], acd ++ [u], r1', ?_, x9.f D d8 c8, upd_same, ?_, er1, by rw [← eqd, List.append_assoc]; rfl⟩
          · rw [era_upd]
            exact xd.trans (xf.era ddn dD)
          · rw [rps, List.map_append]
            exact (rd.mono (part_mono xf.c)).append (.cons r9 .nil)
      · have hje : j = us.length := by omega
        subst hje
        rw [List.drop_length] at ed1
        cases ed1
        have st := ok1.stop Cd Hd xd.c sd
        rw [List.length_map] at st
        refine .inl ⟨st, Cd, zs, acd, rest', ⟨xb.c.trans xd.c, fun a o ha => ?_, sd, fun a n1 n2 => ?_⟩, dD, hDd, rd, er', eqd⟩
        · have hne := ne_of_none ha hD
          refine era_le _ _ (xd.h a o ?_)
          rw [era_ne hne]
          exact xb.h _ _ ha
        · have hne : a ≠ D := fun z => n1 (by rw [z]; exact hD)
          refine xd.f a ?_ (xb.f a n1 n2)
          rw [era_ne hne]
          exact Same.ne xb.h n1
  · have hie : i = xs.length := by omega
    subst hie
    rw [List.drop_length] at er
    cases er
    rw [List.append_nil] at eq
    subst eq
    have st := ok.stop Cc Hc xc.c xc.s
    rw [List.length_map] at st
    refine .inl ⟨st, qq D acc Cc Hc (x1.trans xc) (free_of x1.h hD) cD hDc ra⟩
/-- no tests -/
theorem compM_yes {α β : Type} {f : α → Option β} (xs : List α) : compM (fun _ => some true) f xs = mapO f xs := compM_mapO xs
end
/-! ### rules whose relation names the fragment, for the insides of comprehensions -/
section
variable {X : Cx} (K : PySem.W.Frag)
theorem op_eqDK (hu : X.A.units + 64 < cLine) (hK : X.K = K := by rfl) : OpR X (compareOp .Eq) (rEqD K) := hK ▸ op_eqD hu
theorem op_neDK (hu : X.A.units + 64 < cLine) (hK : X.K = K := by rfl) : OpR X (compareOp .NotEq) (rNeD K) := hK ▸ op_neD hu
theorem op_in_seqK (hK : X.K = K := by rfl) : OpR X (compareOp .In) (rIn K false) := hK ▸ op_in_seq
theorem op_notIn_seqK (hK : X.K = K := by rfl) : OpR X (compareOp .NotIn) (rIn K true) := hK ▸ op_notIn_seq
theorem op_catTK (hK : X.K = K := by rfl) : OpR X (binaryOp .Add) (rCatT K) := hK ▸ op_catT
theorem sl_listK (hK : X.K = K := by rfl) : SlR X (rSlL K) := hK ▸ sl_list
theorem ix_listK (hK : X.K = K := by rfl) : IxR X (rIxL K) := hK ▸ ix_list
theorem ix_tupK (hK : X.K = K := by rfl) : IxR X (rIxT K) := hK ▸ ix_tup
theorem call_len_seqK (hK : X.K = K := by rfl) : CallR X (.builtin "len") (fun xs H Q => ∃ p ys, xs = [.ref p] ∧ (SqL K H p ys ∨ SqT K H p ys) ∧ Q (.int ys.length) H) := hK ▸ call_len_seq
theorem call_list_ofK (hK : X.K = K := by rfl) : CallR X (.type "list") (rListOf K) := hK ▸ call_list_of
theorem call_tuple_ofK (hK : X.K = K := by rfl) : CallR X (.type "tuple") (rTupOf K) := hK ▸ call_tuple_of
theorem cr_sumK (hc : X.calm = true) (hK : X.K = K := by rfl) : CallR X (.builtin "sum") (rSum K) := hK ▸ cr_sum hc
theorem cr_minK' (hc : X.calm = true) (hK : X.K = K := by rfl) : CallR X (.builtin "min") (rMin K) := hK ▸ cr_min hc
theorem cr_maxK' (hc : X.calm = true) (hK : X.K = K := by rfl) : CallR X (.builtin "max") (rMax K) := hK ▸ cr_max hc
theorem call_isiK (hK : X.K = K := by rfl) : CallR X (.builtin "isinstance") (rIsi K) := hK ▸ call_isi
theorem cr_sortedIK (hK : X.K = K := by rfl) : CallR X (.builtin "sorted") (rSortedI K) := hK ▸ cr_sortedI
theorem pi_listK {tg l : Expr} {tl : TE} (hl : PE X l tl) (hK : X.K = K := by rfl) : PI X tg l (iList K tl) := hK ▸ pi_list hl
theorem pi_tupK {tg l : Expr} {tl : TE} (hl : PE X l tl) (hK : X.K = K := by rfl) : PI X tg l (iTup K tl) := hK ▸ pi_tup hl
end
end L2.DL

namespace L2.DL
open PySem PySem.Spec PyProof.Rows
/-! ## plain laws: loops -/
section
variable {α β S T R : Type}
theorem forL_nx {f : S → α → Option (Fl S S R)} {s : S} : ∀ {l : List α}, (∀ x ∈ l, f s x = some (.nx s)) → forL (T := T) f l s = some (.nx s)
  | [], _ => rfl
  | x :: l, h => by
    simp only [forL, h x List.mem_cons_self, bind_s]
    exact forL_nx fun y hy => h y (List.mem_cons_of_mem _ hy)
/-- a loop that asks, and leaves at the first yes -/
theorem ask_loop {f : α → Option Bool} {g : α → Bool} {r : R} : ∀ {l : List α}, (∀ x ∈ l, f x = some (g x)) →
    forL (T := T) (R := R) (fun (s : Unit) x => (f x).bind fun b => (if b = true then some (.rt r) else some (.nx ()))) l () = if l.any g then some (.rt r) else some (.nx ())
  | [], _ => rfl
  | x :: l, h => by
    rw [List.any_cons]
    simp only [forL, h x List.mem_cons_self, bind_s]
    cases e : g x with
    | true =>
      simp only [if_true, Bool.true_or]
      rw [bind_s]
    | false =>
      simp only [Bool.false_eq_true, if_false, Bool.false_or]
      rw [bind_s]
      exact ask_loop fun y hy => h y (List.mem_cons_of_mem _ hy)
theorem ask_loop' {F : Unit → α → Option (Fl Unit Unit R)} {g : α → Bool} {r : R} : ∀ {l : List α}, (∀ x ∈ l, F () x = if g x = true then some (.rt r) else some (.nx ())) →
    forL (T := T) (R := R) F l () = if l.any g = true then some (.rt r) else some (.nx ())
  | [], _ => rfl
  | x :: l, h => by
    rw [List.any_cons]
    simp only [forL, h x List.mem_cons_self]
    cases e : g x with
    | true =>
      simp only [if_true, Bool.true_or]
      rw [bind_s]
    | false =>
      simp only [Bool.false_eq_true, if_false, Bool.false_or]
      rw [bind_s]
      exact ask_loop' fun y hy => h y (List.mem_cons_of_mem _ hy)
theorem forL_range {f : S → Int → Option (Fl S S R)} (I : Nat → S → Prop) : ∀ (n k : Nat) {s : S}, I k s → (∀ j s, k ≤ j → j < k + n → I j s → ∃ s', f s (j : Int) = some (.nx s') ∧ I (j + 1) s') → ∃ s', forL (T := T) f ((List.range' k n).map fun k : Nat => (k : Int)) s = some (.nx s') ∧ I (k + n) s'
  | 0, k, s, h, _ => ⟨s, rfl, h⟩
  | n + 1, k, s, h, st => by
    obtain ⟨s1, e1, h1⟩ := st k s (Nat.le_refl _) (by omega) h
    obtain ⟨s2, e2, h2⟩ := forL_range I n (k + 1) h1 fun j s a b => st j s (by omega) (by omega)
    refine ⟨s2, ?_, by rwa [show k + (n + 1) = k + 1 + n by omega]⟩
    rw [List.range'_succ, List.map_cons]
    simp only [forL]
    rw [e1, bind_s]
    exact e2
theorem mapO_some {f : α → Option β} {g : α → β} : ∀ {l : List α}, (∀ x ∈ l, f x = some (g x)) → mapO f l = some (l.map g)
  | [], _ => rfl
  | x :: l, h => by
    simp only [mapO, h x List.mem_cons_self, mapO_some fun y hy => h y (List.mem_cons_of_mem _ hy), bind_s, List.map_cons]
theorem compM_some {p : α → Option Bool} {q : α → Bool} {f : α → Option β} {g : α → β} : ∀ {l : List α}, (∀ x ∈ l, p x = some (q x)) → (∀ x ∈ l, f x = some (g x)) → compM p f l = some ((l.filter q).map g)
  | [], _, _ => rfl
  | x :: l, h, h' => by
    simp only [compM, h x List.mem_cons_self, h' x List.mem_cons_self, compM_some (fun y hy => h y (List.mem_cons_of_mem _ hy)) (fun y hy => h' y (List.mem_cons_of_mem _ hy)), bind_s, List.filter_cons]
    cases q x <;> simp only [if_true, Bool.false_eq_true, if_false, List.map_cons]
/-- a loop that appends -/
theorem append_loop {g : α → Option β} {h : α → β} : ∀ {l : List α} {s : List β}, s.length + l.length ≤ 16777216 → (∀ x ∈ l, g x = some (h x)) →
    l.foldlM (fun (s : List β) x => ((g x).bind fun v => lim (s ++ [v])).bind fun y => some y) s = some (s ++ l.map h)
  | [], s, _, _ => by rw [List.map_nil, List.append_nil]; rfl
  | x :: l, s, hz, hg => by
    rw [List.length_cons] at hz
    rw [foldlM_cons', hg x List.mem_cons_self, bind_s, lim_of (by rw [List.length_append, List.length_singleton]; omega), bind_s, bind_s, append_loop (by rw [List.length_append, List.length_singleton]; omega) fun y hy => hg y (List.mem_cons_of_mem _ hy), List.append_assoc]
    rfl
theorem range'_map0 (n : Nat) : ((List.range n).map fun k : Nat => (k : Int)) = (List.range' 0 n).map fun k : Nat => (k : Int) := by rw [List.range_eq_range']
end
theorem mulP_of {x y : Int} (hx : x.natAbs ≤ 2 ^ 64) (hy : y.natAbs ≤ 2 ^ 64) : mulP x y = some (x * y) := by
  have : 2 ^ 64 < 2 ^ 4096 := Nat.pow_lt_pow_right (by decide) (by decide)
  rw [mulP_def, if_pos ⟨by omega, by omega⟩]
theorem divP_of {x y : Int} (hy : 0 < y) (hy2 : y ≤ 2 ^ 64) : divP x y = some (x / y) := by
  have : (2 : Int) ^ 64 < 2 ^ 4096 := by decide +kernel
  rw [divP_def, if_pos ⟨by omega, by omega⟩]
theorem modP_of {x y : Int} (hy : 0 < y) : modP x y = some (x % y) := by rw [modP_def, if_pos hy]
theorem minL_some {l : List Int} (h : l ≠ []) : ∃ y, minL l = some y ∧ y ∈ l ∧ ∀ z ∈ l, y ≤ z := by
  cases l with
  | nil => exact absurd rfl h
  | cons x xs => exact ⟨_, rfl, minL_spec rfl⟩
theorem maxL_some {l : List Int} (h : l ≠ []) : ∃ y, maxL l = some y ∧ y ∈ l ∧ ∀ z ∈ l, z ≤ y := by
  cases l with
  | nil => exact absurd rfl h
  | cons x xs => exact ⟨_, rfl, maxL_spec rfl⟩
def rot (k : Nat) (l : List Int) : List Int := l.drop k ++ l.take k
theorem rot_len {k : Nat} {l : List Int} : (rot k l).length = l.length := by
  unfold rot
  rw [List.length_append, List.length_drop, List.length_take]
  omega
theorem rot_sum {k : Nat} {l : List Int} : (rot k l).sum = l.sum := by
  unfold rot
  have h := List.take_append_drop k l
  have h2 : (l.take k).sum + (l.drop k).sum = l.sum := by rw [← List.sum_append, h]
  rw [List.sum_append]
  omega
theorem rot_mem {k : Nat} {l : List Int} {x : Int} : x ∈ rot k l → x ∈ l := fun h => by
  rcases List.mem_append.mp h with h | h
  · exact List.mem_of_mem_drop h
  · exact List.mem_of_mem_take h
theorem seq_nx {S S2 T R : Type} {s : S} {f : S → Option (Fl S2 T R)} : Fl.seq (some (.nx s)) f = f s := by
  unfold Fl.seq
  rw [bind_s]
theorem Rets.get {α : Type} {m : Option α} {v : α} (h : Rets m (· = v)) : m = Option.some v := by
  obtain ⟨x, e, rfl⟩ := h
  exact e
theorem cut_len {α : Type} {l : List α} {a b : Option Int} : (cut l a b).length ≤ l.length := by
  unfold cut
  rw [List.length_take, List.length_drop]
  omega
def nats (n : Nat) : List Int := (List.range n).map fun k : Nat => (k : Int)
theorem nats_len (n : Nat) : (nats n).length = n := by simp [nats]
theorem mem_nats {n : Nat} {x : Int} (h : x ∈ nats n) : 0 ≤ x ∧ x < n := by
  unfold nats at h
  obtain ⟨i, hi, rfl⟩ := List.mem_map.mp h
  have := List.mem_range.mp hi
  omega
theorem rangeP_nats {n : Nat} (h : n < 2 ^ 62) : rangeP 0 (n : Int) = some (nats n) := rangeP_nat h
theorem repP_ok {α : Type} {l : List α} {k : Int} (h0 : 0 ≤ k) (h1 : k < 2 ^ 63) (h2 : l.length * k.toNat ≤ 16777216) : ∃ r, repP l k = some r ∧ r.length = l.length * k.toNat ∧ ∀ x ∈ r, x ∈ l := by
  refine ⟨_, by rw [repP_def, if_pos ⟨by omega, h1, h2⟩], ?_, ?_⟩
  · rw [List.length_flatten, List.map_replicate, List.sum_replicate_nat, Nat.mul_comm]
  · intro x hx
    obtain ⟨m, h1, h2⟩ := List.mem_flatten.mp hx
    rwa [(List.mem_replicate.mp h1).2] at h2
theorem gcd_mod (a b : Int) : Int.gcd b (a % b) = Int.gcd a b := by
  refine Nat.dvd_antisymm ?_ ?_
  · have h1 := Int.gcd_dvd_left (a := b) (b := a % b)
    have h2 := Int.gcd_dvd_right (a := b) (b := a % b)
    refine Int.dvd_gcd ?_ h1
    have h3 := Int.dvd_add (Int.dvd_trans h1 (Int.dvd_mul_right _ (a / b))) h2
    rwa [Int.mul_ediv_add_emod a b] at h3
  · have h1 := Int.gcd_dvd_left (a := a) (b := b)
    have h2 := Int.gcd_dvd_right (a := a) (b := b)
    refine Int.dvd_gcd h2 ?_
    rw [Int.emod_def]
    exact Int.dvd_sub h1 (Int.dvd_trans h2 (Int.dvd_mul_right _ _))
theorem gcd_loop : ∀ {fuel : Nat} {a b : Int}, 0 ≤ a → 0 ≤ b → b < fuel → ∃ s : Int × Int, whileN (fun (s5 : (Int × Int)) => some (decide (s5.2 ≠ (0 : Int)))) (fun (s5 : (Int × Int)) =>
 (modP s5.1 s5.2).bind fun rest_10 =>
 (some s5.2).bind fun first_11 =>
 (some rest_10).bind fun second_12 =>
 some (first_11, second_12)) fuel (a, b) = some s ∧ s.1 = (Int.gcd a b : Nat)
  | 0, a, b, _, h, h1 => by omega
  | n + 1, a, b, ha, hb, h1 => by
    simp only [whileN, bind_s]
    by_cases h : b = 0
    · subst h
      rw [if_neg (by simp)]
      exact ⟨_, rfl, by simp; omega⟩
    · rw [if_pos (decide_eq_true h), modP_def, if_pos (by omega)]
      simp only [bind_s]
      obtain ⟨s, e, hs⟩ := gcd_loop (fuel := n) (a := b) (b := a % b) hb (Int.emod_nonneg _ h) (by have := Int.emod_lt_of_pos a (b := b) (by omega); omega)
      exact ⟨s, e, by rw [hs, gcd_mod]⟩
end L2.DL

namespace L2.DL
open PySem PySem.Spec PyProof.Rows PySem.W
/-! ### order of data -/
class OrR (α : Type) [Rp α] [DecidableEq α] extends EqR α where
  lt : α → α → Bool
  al : ∀ x y : α, PySem.W.alike (toPy (rp x)) (toPy (rp y)) = true
  nn : ∀ x : α, toPy (rp x) ≠ .none
  ok : ∀ x y : α, PySem.W.dataLt (toPy (rp x)) (toPy (rp y)) = lt x y
section
variable {α β : Type} [Rp α] [Rp β] [DecidableEq α] [DecidableEq β]
def ltLst (lt : α → α → Bool) : List α → List α → Bool
  | [], [] => false
  | [], _ :: _ => true
  | _ :: _, [] => false
  | x :: xs, y :: ys => if x = y then ltLst lt xs ys else lt x y
instance : OrR Int := { lt := fun x y => decide (x < y), al := fun x y => by simp [rp, Rp.rp, toPy, PySem.W.alike], nn := fun x => by simp [rp, Rp.rp, toPy], ok := fun x y => by simp only [rp, Rp.rp, toPy]; exact PySem.W.dataLt_int x y }
theorem al_all [OrR α] : ∀ xs ys : List α, PySem.W.alikeAll (toPyL (xs.map rp)) (toPyL (ys.map rp)) = true
  | [], [] => by simp [toPyL, PySem.W.alikeAll]
  | [], _ :: _ => by simp [toPyL, PySem.W.alikeAll]
  | _ :: _, [] => by simp [toPyL, PySem.W.alikeAll]
  | x :: xs, y :: ys => by
    simp only [List.map_cons, toPyL, PySem.W.alikeAll, OrR.al x y, al_all xs ys, Bool.and_self]
theorem lt_all [OrR α] : ∀ xs ys : List α, PyProof.Rows.lexLt PyProof.Rows.itemOrd (PySem.W.keyToksAll (toPyL (xs.map rp))) (PySem.W.keyToksAll (toPyL (ys.map rp))) = ltLst OrR.lt xs ys
  | [], [] => PyProof.Rows.lex_irrefl _
  | [], y :: ys => by
    simp only [List.map_cons, List.map_nil, toPyL, ltLst]
    rw [PySem.W.toks_all_cons]
    simp only [PySem.W.keyToksAll]
    rw [PyProof.Rows.lex_diff (O := PyProof.Rows.itemOrd) (by simp)]
    rfl
  | x :: xs, [] => by
    simp only [List.map_cons, List.map_nil, toPyL, ltLst]
    rw [PySem.W.toks_all_cons]
    simp only [PySem.W.keyToksAll]
    rw [PyProof.Rows.lex_diff (O := PyProof.Rows.itemOrd) (by simp)]
    rfl
  | x :: xs, y :: ys => by
    simp only [List.map_cons, toPyL, ltLst]
    rw [PySem.W.dataLt_cons (OrR.al x y), OrR.ok, EqR.eq, lt_all xs ys]
    simp only [decide_eq_true_eq]
instance [OrR α] : OrR (List α) where
  lt := ltLst OrR.lt
  al := fun x y => by
    simp only [rp, Rp.rp, toPy, PySem.W.alike]
    exact al_all x y
  nn := fun x => by simp [rp, Rp.rp, toPy]
  ok := fun x y => by
    simp only [rp, Rp.rp, toPy]
    rw [PySem.W.dataLt_list]
    exact lt_all x y
instance [OrR α] [OrR β] : OrR (α × β) where
  lt := fun x y => if x.1 = y.1 then (if x.2 = y.2 then false else OrR.lt x.2 y.2) else OrR.lt x.1 y.1
  al := fun x y => by
    have h1 := OrR.al x.1 y.1
    have h2 := OrR.al x.2 y.2
    simp only [rp, Rp.rp, toPy, toPyL, PySem.W.alike, PySem.W.alikeAll] at *
    rw [h1, h2]
    rfl
  nn := fun x => by simp [rp, Rp.rp, toPy]
  ok := fun x y => by
    have h1 := PySem.W.dataLt_pair (OrR.al x.1 y.1) (OrR.al x.2 y.2)
    have e1 := EqR.eq x.1 y.1
    have e2 := EqR.eq x.2 y.2
    have o1 := OrR.ok x.1 y.1
    have o2 := OrR.ok x.2 y.2
    rw [e1, e2, o1, o2] at h1
    simp only [decide_eq_true_eq] at h1
    rw [← h1]
    simp only [rp, Rp.rp, toPy, toPyL]
/-- x < y, x <= y -/
def ltG [OrR α] (x y : α) : Bool := OrR.lt x y
def leG [OrR α] (x y : α) : Bool := !OrR.lt y x
theorem toPy_inj [EqR α] [OrR α] {x y : α} (h : toPy (rp x) = toPy (rp y)) : x = y := by
  have e := EqR.eq x y
  rw [h] at e
  have e2 := PySem.W.eqv_refl_alike _ (OrR.al y y)
  rw [e2] at e
  exact of_decide_eq_true e.symm
end
/-! #### its rules -/
section
variable {X : Cx}
def rLtD (K : PySem.W.Frag) (b : Bool) (sw : Bool) : R2 := fun x y H Q => ∃ d e, Dp K H x d ∧ Dp K H y e ∧ PySem.W.alike d e = true ∧ d ≠ .none ∧ d.depth ≤ 64 ∧ Q (.bl (b != (if sw then PySem.W.dataLt e d else PySem.W.dataLt d e))) H
theorem depth_room {A : Around} {d e : PyData} (hu : A.units + 64 < cLine) (h : d.depth ≤ 64) : A.units + min d.depth e.depth < cLine := by
  have : min d.depth e.depth ≤ d.depth := Nat.min_le_left _ _
  omega
variable (K : PySem.W.Frag)
theorem op_ltD (hu : X.A.units + 64 < cLine) (hK : X.K = K := by rfl) : OpR X (compareOp .Lt) (rLtD K false false) := by
  subst hK
  intro pins s σ H x y v u Q I rx ry h
  obtain ⟨d, e, hd, he, ha, hn, hz, q⟩ := h
  obtain ⟨as, r1⟩ := Dp.reads I d x v hd rx
  obtain ⟨bs, r2⟩ := Dp.reads I e y u he ry
  exact PySem.W.lt_data r1 r2 ha hn (depth_room hu hz) ⟨.bl _, H, I, by simp; rfl, q⟩
theorem op_gtD (hu : X.A.units + 64 < cLine) (hK : X.K = K := by rfl) : OpR X (compareOp .Gt) (rLtD K false true) := by
  subst hK
  intro pins s σ H x y v u Q I rx ry h
  obtain ⟨d, e, hd, he, ha, hn, hz, q⟩ := h
  obtain ⟨as, r1⟩ := Dp.reads I d x v hd rx
  obtain ⟨bs, r2⟩ := Dp.reads I e y u he ry
  exact PySem.W.gt_data r1 r2 ha hn (depth_room hu hz) ⟨.bl _, H, I, by simp; rfl, q⟩
theorem op_leD (hu : X.A.units + 64 < cLine) (hK : X.K = K := by rfl) : OpR X (compareOp .LtE) (rLtD K true true) := by
  subst hK
  intro pins s σ H x y v u Q I rx ry h
  obtain ⟨d, e, hd, he, ha, hn, hz, q⟩ := h
  obtain ⟨as, r1⟩ := Dp.reads I d x v hd rx
  obtain ⟨bs, r2⟩ := Dp.reads I e y u he ry
  exact PySem.W.le_data r1 r2 ha hn (depth_room hu hz) ⟨.bl _, H, I, by simp; rfl, q⟩
theorem op_geD (hu : X.A.units + 64 < cLine) (hK : X.K = K := by rfl) : OpR X (compareOp .GtE) (rLtD K true false) := by
  subst hK
  intro pins s σ H x y v u Q I rx ry h
  obtain ⟨d, e, hd, he, ha, hn, hz, q⟩ := h
  obtain ⟨as, r1⟩ := Dp.reads I d x v hd rx
  obtain ⟨bs, r2⟩ := Dp.reads I e y u he ry
  exact PySem.W.ge_data r1 r2 ha hn (depth_room hu hz) ⟨.bl _, H, I, by simp; rfl, q⟩
end
/-! #### as judgements -/
section
variable {K : PySem.W.Frag} {ta tb : TE} {ρ : En} {m m1 m2 : Md}
variable {α : Type} [Rp α] [DecidableEq α] [OrR α]
theorem ev_ordB {b sw : Bool} {ra rb : Option (List α)} (ha : EvB K ta ρ m1 ra) (hb : EvB K tb ρ m2 rb) (hz : EqR.dep (List α) ≤ 64) :
    EvE K (tOp (rLtD K b sw) ta tb) ρ .new (ra.bind fun x => rb.bind fun y => some (b != (if sw then ltG y x else ltG x y))) := fun Ht C0 C H σ I z e Q q => by
  obtain ⟨x, ex, e⟩ := some_bind e
  obtain ⟨y, ey, e⟩ := some_bind e
  cases e
  refine ha Ht C0 C H σ I x ex _ fun a vs C1 H1 x1 h1 r1 => ?_
  refine hb Ht C0 C1 H1 σ (I.to x1) y ey _ fun c us C2 H2 x2 h2 r2 => ?_
  have d1 : Dp K H2 (.ref a) (toPy (rp x)) := by
    refine rep_dp _ _ ?_
    simp only [rp, Rp.rp, Rep]
    exact ⟨a, vs, rfl, x2.h _ _ h1, r1.mono ((part_mono x2.c).trans (part_le.trans x2.s))⟩
  have d2 : Dp K H2 (.ref c) (toPy (rp y)) := by
    refine rep_dp _ _ ?_
    simp only [rp, Rp.rp, Rep]
    exact ⟨c, us, rfl, h2, r2.mono (part_le.trans x2.s)⟩
  refine ⟨_, _, d1, d2, OrR.al x y, OrR.nn x, Nat.le_trans (EqR.lay x).2 hz, ?_⟩
  rw [OrR.ok, OrR.ok]
  exact q _ C2 H2 (x1.trans x2) .ofBl
theorem ev_ltL {ra rb : Option (List α)} (ha : EvB K ta ρ m1 ra) (hb : EvB K tb ρ m2 rb) (hz : EqR.dep (List α) ≤ 64 := by decide) : EvE K (tOp (rLtD K false false) ta tb) ρ .new (ra.bind fun x => rb.bind fun y => some (ltG x y)) :=
  (ev_ordB ha hb hz).res (by cases ra <;> cases rb <;> simp)
theorem ev_gtL {ra rb : Option (List α)} (ha : EvB K ta ρ m1 ra) (hb : EvB K tb ρ m2 rb) (hz : EqR.dep (List α) ≤ 64 := by decide) : EvE K (tOp (rLtD K false true) ta tb) ρ .new (ra.bind fun x => rb.bind fun y => some (ltG y x)) :=
  (ev_ordB ha hb hz).res (by cases ra <;> cases rb <;> simp)
theorem ev_leL {ra rb : Option (List α)} (ha : EvB K ta ρ m1 ra) (hb : EvB K tb ρ m2 rb) (hz : EqR.dep (List α) ≤ 64 := by decide) : EvE K (tOp (rLtD K true true) ta tb) ρ .new (ra.bind fun x => rb.bind fun y => some (leG x y)) :=
  (ev_ordB ha hb hz).res (by cases ra <;> cases rb <;> simp [leG, ltG])
theorem ev_geL {ra rb : Option (List α)} (ha : EvB K ta ρ m1 ra) (hb : EvB K tb ρ m2 rb) (hz : EqR.dep (List α) ≤ 64 := by decide) : EvE K (tOp (rLtD K true false) ta tb) ρ .new (ra.bind fun x => rb.bind fun y => some (leG y x)) :=
  (ev_ordB ha hb hz).res (by cases ra <;> cases rb <;> simp [leG, ltG])
/-! ### the least, the greatest of a list of data -/
def minG : List α → Option α
  | [] => none
  | x :: xs => some (xs.foldl (fun a y => if ltG y a then y else a) x)
def maxG : List α → Option α
  | [] => none
  | x :: xs => some (xs.foldl (fun a y => if ltG a y then y else a) x)
theorem minD_eq (x : α) (xs : List α) : minD (toPy (rp x)) (toPyL (xs.map rp)) = toPy (rp (xs.foldl (fun a y => if ltG y a then y else a) x)) := by
  unfold minD
  induction xs generalizing x with
  | nil => simp [toPyL]
  | cons y xs ih =>
    simp only [List.map_cons, toPyL, List.foldl_cons]
    rw [OrR.ok]
    show List.foldl _ (if ltG y x = true then toPy (rp y) else toPy (rp x)) _ = _
    split
    · exact ih y
    · exact ih x
theorem maxD_eq (x : α) (xs : List α) : maxD (toPy (rp x)) (toPyL (xs.map rp)) = toPy (rp (xs.foldl (fun a y => if ltG a y then y else a) x)) := by
  unfold maxD
  induction xs generalizing x with
  | nil => simp [toPyL]
  | cons y xs ih =>
    simp only [List.map_cons, toPyL, List.foldl_cons]
    rw [OrR.ok]
    show List.foldl _ (if ltG x y = true then toPy (rp y) else toPy (rp x)) _ = _
    split
    · exact ih y
    · exact ih x
end
theorem fold_mem {α : Type} {c : α → α → Bool} : ∀ {xs : List α} {x : α}, xs.foldl (fun a y => if c y a then y else a) x ∈ x :: xs
  | [], x => by simp
  | y :: xs, x => by
    rw [List.foldl_cons]
    have h := fold_mem (c := c) (xs := xs) (x := if c y x = true then y else x)
    rcases List.mem_cons.mp h with h | h
    · rw [h]
      split
      · exact List.mem_cons_of_mem _ List.mem_cons_self
      · exact List.mem_cons_self
    · exact List.mem_cons_of_mem _ (List.mem_cons_of_mem _ h)
section
variable {X : Cx} (K : PySem.W.Frag)
def rPick (K : PySem.W.Frag) (f : PyData → List PyData → PyData) : List V → Hp → VK → Prop := fun xs H Q => ∃ a vs d ds, xs = [V.ref a] ∧ SqL K H a vs ∧ DpAll K H vs (d :: ds) ∧ AlikeAll (d :: ds) ∧ PyData.depthAll (d :: ds) ≤ 62 ∧ ∀ (i : Nat) v, vs[i]? = some v → (d :: ds)[i]? = some (f d ds) → Q v H
theorem pick_core {pins : List (Addr × Obj)} {s : Shared} {σ : St} {H : Hp} {f : PyData → List PyData → PyData} {vs : List V} {d : PyData} {ds : List PyData} {its : List Value} (I : Inv X pins σ H s) (rv : Vals vs its) (hd : DpAll X.K H vs (d :: ds)) (hA : AlikeAll (d :: ds)) (hf : f d ds ∈ d :: ds)
    {i : Nat} {u : Value} {h' : Heap} {bs : List Addr} (hu : its[i]? = some u) (hr : Reads h' u (f d ds) bs) (hk : ∀ b o, s.heap.get? b = some o → h'.get? b = some o) : ∃ v, vs[i]? = some v ∧ RelV v u ∧ (d :: ds)[i]? = some (f d ds) := by
  obtain ⟨as, ra⟩ := Dp.readsAll I _ _ _ hd rv
  obtain ⟨hi, rfl⟩ := List.getElem?_eq_some_iff.mp hu
  have hl : vs.length = its.length := rv.length
  have hiv : i < vs.length := by omega
  obtain ⟨u', e', ru⟩ := rv.get (List.getElem?_eq_getElem hiv)
  rw [List.getElem?_eq_getElem hi] at e'
  cases e'
  refine ⟨_, List.getElem?_eq_getElem hiv, ru, ?_⟩
  obtain ⟨cs, r2, h3, h4, _⟩ := readsAll_at ra i its[i] (List.getElem?_eq_getElem hi)
  have hk2 := reads_keeps hk r2
  have := PySem.W.alike_unique _ _ _ _ _ (hA.1 _ h4 _ hf) hk2 hr
  rw [List.getD_eq_getElem?_getD, List.getElem?_eq_getElem h3, Option.getD_some] at this
  rw [List.getElem?_eq_getElem h3, this]
theorem cr_minD (hc : X.calm = true) (hu : X.A.units + 64 < cLine) (hK : X.K = K := by rfl) : CallR X (.builtin "min") (rPick K minD) := by
  subst hK
  intro pins s σ H xs us Q I r h
  obtain ⟨a, vs, d, ds, rfl, hs, hd, hA, hz, q⟩ := h
  obtain ⟨its, rv, hl, _⟩ := I.list hs
  rw [Vals.ref1 r]
  obtain ⟨as, ra⟩ := Dp.readsAll I _ _ _ hd rv
  refine min_list_data (I.ok.hd hc) hl.isList (by simpa using ra) hA (by omega) fun i v h' tk bs hv hr hk => ?_
  obtain ⟨v', e1, e2, e3⟩ := pick_core I rv hd hA fold_mem (i := i) (u := v) (by simpa using hv) hr hk
  exact ⟨v', H, I.kept hk, e2, q i v' e1 e3⟩
theorem cr_maxD (hc : X.calm = true) (hu : X.A.units + 64 < cLine) (hK : X.K = K := by rfl) : CallR X (.builtin "max") (rPick K maxD) := by
  subst hK
  intro pins s σ H xs us Q I r h
  obtain ⟨a, vs, d, ds, rfl, hs, hd, hA, hz, q⟩ := h
  obtain ⟨its, rv, hl, _⟩ := I.list hs
  rw [Vals.ref1 r]
  obtain ⟨as, ra⟩ := Dp.readsAll I _ _ _ hd rv
  refine max_list_data (I.ok.hd hc) hl.isList (by simpa using ra) hA (by omega) fun i v h' tk bs hv hr hk => ?_
  obtain ⟨v', e1, e2, e3⟩ := pick_core I rv hd hA (fold_mem (c := fun y a => PySem.W.dataLt a y)) (i := i) (u := v) (by simpa using hv) hr hk
  exact ⟨v', H, I.kept hk, e2, q i v' e1 e3⟩
end
section
variable {K : PySem.W.Frag} {ta tb : TE} {ρ : En} {m m1 m2 : Md}
variable {α : Type} [Rp α] [DecidableEq α] [OrR α]
theorem al_list (l : List α) : AlikeAll (toPyL (l.map rp)) := by
  rw [toPyL_map, List.map_map]
  refine ⟨fun x hx y hy => ?_, fun x hx => ?_⟩
  · obtain ⟨a, _, rfl⟩ := List.mem_map.mp hx
    obtain ⟨b, _, rfl⟩ := List.mem_map.mp hy
    exact OrR.al a b
  · obtain ⟨a, _, rfl⟩ := List.mem_map.mp hx
    exact OrR.nn a
theorem ev_pick {f : PyData → List PyData → PyData} {g : α → List α → α} {ra : Option (List α)} (ha : EvB K ta ρ m ra) (hz : EqR.dep α ≤ 62) (hf : ∀ x xs, f (toPy (rp x)) (toPyL (List.map rp xs)) = toPy (rp (g x xs))) (hm : ∀ x xs, g x xs ∈ x :: xs) :
    EvE K (tCB (rPick K f) (tCons ta tNil)) ρ m (ra.bind fun l => match l with | [] => none | x :: xs => some (g x xs)) := fun Ht C0 C H σ I z e Q q => by
  obtain ⟨l, el, e⟩ := some_bind e
  cases l with
  | nil => cases e
  | cons x xs =>
    cases e
    refine ha Ht C0 C H σ I _ el _ fun a vs C1 H1 x1 h1 r1 => ?_
    have hd : DpAll K H1 vs (toPyL ((x :: xs).map rp)) := rep_dpL _ _ (r1.mono (part_le.trans x1.s))
    simp only [List.map_cons, toPyL] at hd
    have hA := al_list (x :: xs)
    simp only [List.map_cons, toPyL] at hA
    have hD := (layAll (x :: xs)).2
    simp only [List.map_cons, toPyL] at hD
    refine ⟨a, vs, _, _, rfl, .of h1, hd, hA, by omega, fun i v hv hi => ?_⟩
    rw [hf] at hi
    have hi2 : (toPyL ((x :: xs).map rp))[i]? = some (toPy (rp (g x xs))) := by simp only [List.map_cons, toPyL]; exact hi
    rw [toPyL_map, List.map_map, List.getElem?_map] at hi2
    obtain ⟨y, ey, e3⟩ := some_map hi2
    have eg : y = g x xs := toPy_inj e3
    obtain ⟨d, ed, rd⟩ := r1.at hv
    rw [rps, List.getElem?_map, ey] at ed
    cases ed
    rw [eg] at rd
    exact q v C1 H1 x1 rd
theorem ev_minG {ra : Option (List α)} (ha : EvB K ta ρ m ra) (hz : EqR.dep α ≤ 62 := by decide) : EvE K (tCB (rPick K minD) (tCons ta tNil)) ρ m (ra.bind minG) :=
  (ev_pick ha hz minD_eq fun _ _ => fold_mem).res (by cases ra with | none => rfl | some l => cases l <;> rfl)
theorem ev_maxG {ra : Option (List α)} (ha : EvB K ta ρ m ra) (hz : EqR.dep α ≤ 62 := by decide) : EvE K (tCB (rPick K maxD) (tCons ta tNil)) ρ m (ra.bind maxG) :=
  (ev_pick ha hz maxD_eq fun _ _ => fold_mem (c := fun y a => ltG a y)).res (by cases ra with | none => rfl | some l => cases l <;> rfl)
end
/-! ### sorted, of data -/
def rSortB (K : PySem.W.Frag) (β : Type) (enc : β → PyData) (val : β → V) : List V → Hp → VK → Prop := fun xs H Q => ∃ (a : Addr) (bs : List β), xs = [V.ref a] ∧ SqL K H a (bs.map val) ∧ DpAll K H (bs.map val) (bs.map enc) ∧ AllAlike (bs.map enc) ∧ Sortable (bs.map enc) ∧ (∀ b ∈ bs, (enc b).depth ≤ 60) ∧
  ∀ p, H p = none → Q (.ref p) (upd H p (.lst ((bs.mergeSort (dataLe false enc)).map val)))
theorem each_rel {β : Type} {val : β → V} : ∀ {bs : List β} {us : List Value}, Vals (bs.map val) us → EachIs (fun v b => RelV (val b) v) us bs
  | [], us, r => by cases r; exact .nil
  | b :: bs, us, r => by cases r with | cons h t => exact .cons h (each_rel t)
theorem rel_each {β : Type} {val : β → V} : ∀ {bs : List β} {us : List Value}, EachIs (fun v b => RelV (val b) v) us bs → Vals (bs.map val) us
  | [], us, r => by cases r; exact .nil
  | b :: bs, us, r => by cases r with | cons h t => exact .cons h (rel_each t)
section
variable {X : Cx} (K : PySem.W.Frag)
theorem cr_sortedB {β : Type} {enc : β → PyData} {val : β → V} (hu : X.A.units + 64 < cLine) (hK : X.K = K := by rfl) : CallR X (.builtin "sorted") (rSortB K β enc val) := by
  subst hK
  intro pins s σ H xs us Q I r h
  obtain ⟨a, bs, rfl, hs, hd, hA, hS, hz, q⟩ := h
  obtain ⟨its, rv, hl, hlen⟩ := I.list hs
  rw [Vals.ref1 r]
  obtain ⟨as, ra⟩ := Dp.readsAll I _ _ _ hd rv
  have hn : its.length = bs.length := by rw [← rv.length, List.length_map]
  rw [List.length_map] at hlen
  refine sorted_data (R := fun v b => RelV (val b) v) (by simpa using hl.isList) (each_rel rv) (readsAll_each enc ra) hA hS hlen (fun b hb => by have := hz b hb; omega) fun out ho he => ?_
  obtain ⟨ep, he'⟩ := PyProof.Rows.sortedAll_at s.heap its out.toArray
  have rr := rel_each he
  have hl2 : ((bs.mergeSort (dataLe false enc)).map val).length ≤ sizeLine := by
    rw [List.length_map, List.length_mergeSort]
    exact hlen
  exact ⟨.ref _, upd H (s.heap.objs.size + 1) (.lst ((bs.mergeSort (dataLe false enc)).map val)), I.laid (t' := s.toks) (fun _ _ => PyProof.Rows.sortedAll_old) (Nat.le_succ _) ⟨hl2, out, ep, rr, he'⟩, rfl, q _ (I.hok.fresh (Nat.le_succ _))⟩
end
theorem room65 {k : Nat} {A : Around} (r : Room k A) : A.units + 65 < cLine := by have := r.un; omega
section
variable {X : Cx} (K : PySem.W.Frag)
theorem op_inDK (hu : X.A.units + 65 < cLine) (hK : X.K = K := by rfl) : OpR X (compareOp .In) (rInD K) := hK ▸ op_inD hu
theorem op_notInDK (hu : X.A.units + 65 < cLine) (hK : X.K = K := by rfl) : OpR X (compareOp .NotIn) (rNotInD K) := hK ▸ op_notInD hu
end
section
variable {K : PySem.W.Frag} {ta tb : TE} {ρ : En} {m m1 m2 : Md}
variable {α : Type} [Rp α] [DecidableEq α]
theorem any_mem [EqR α] (x : α) : ∀ l : List α, (toPyL (l.map rp)).any (fun z => PyData.eqv z (toPy (rp x))) = decide (x ∈ l)
  | [] => by simp [toPyL]
  | y :: l => by
    simp only [List.map_cons, toPyL, List.any_cons]
    rw [any_mem x l, EqR.eq]
    by_cases h1 : y = x
    · simp [h1]
    · by_cases h2 : x ∈ l <;> simp [h1, h2, Ne.symm h1, eq_comm]
theorem shaped_of [EqR α] (x : α) (h : EqR.dep α ≤ 64) : SeqAt.shaped (toPy (rp x)) = true := by
  unfold SeqAt.shaped
  obtain ⟨h1, h2⟩ := EqR.lay x
  rw [h1, decide_eq_true (Nat.le_trans h2 h)]
  rfl
theorem ev_inG [EqR α] {ra : Option α} {rb : Option (List α)} (ha : EvE K ta ρ m1 ra) (hb : EvB K tb ρ m2 rb) (hz : EqR.dep (List α) ≤ 64 := by decide) : EvE K (tOp (rInD K) ta tb) ρ .new (ra.bind fun x => rb.bind fun y => some (decide (x ∈ y))) := fun Ht C0 C H σ I z e Q q => by
  obtain ⟨x, ex, e⟩ := some_bind e
  obtain ⟨y, ey, e⟩ := some_bind e
  cases e
  refine ha Ht C0 C H σ I x ex _ fun v C1 H1 x1 r1 => ?_
  refine hb Ht C0 C1 H1 σ (I.to x1) y ey _ fun c us C2 H2 x2 h2 r2 => ?_
  have d1 : Dp K H2 v (toPy (rp x)) := rep_dp _ _ (r1.mono ((part_mono x2.c).trans (part_le.trans x2.s)))
  have d2 : Dp K H2 (.ref c) (toPy (rp y)) := by
    refine rep_dp _ _ ?_
    simp only [rp, Rp.rp, Rep]
    exact ⟨c, us, rfl, h2, r2.mono (part_le.trans x2.s)⟩
  have s2 := shaped_of y hz
  have e2 : toPy (rp y) = .list (toPyL (y.map rp)) := by simp only [rp, Rp.rp, toPy]
  have hz1 : EqR.dep α ≤ 64 := Nat.le_trans (Nat.le_succ _) hz
  rw [e2] at d2 s2
  refine ⟨_, _, d1, d2, shaped_of x hz1, s2, ?_⟩
  rw [any_mem]
  exact q _ C2 H2 (x1.trans x2) .ofBl
theorem ev_ninG [EqR α] {ra : Option α} {rb : Option (List α)} (ha : EvE K ta ρ m1 ra) (hb : EvB K tb ρ m2 rb) (hz : EqR.dep (List α) ≤ 64 := by decide) : EvE K (tOp (rNotInD K) ta tb) ρ .new (ra.bind fun x => rb.bind fun y => some (decide (x ∉ y))) := fun Ht C0 C H σ I z e Q q => by
  obtain ⟨x, ex, e⟩ := some_bind e
  obtain ⟨y, ey, e⟩ := some_bind e
  cases e
  refine ha Ht C0 C H σ I x ex _ fun v C1 H1 x1 r1 => ?_
  refine hb Ht C0 C1 H1 σ (I.to x1) y ey _ fun c us C2 H2 x2 h2 r2 => ?_
  have d1 : Dp K H2 v (toPy (rp x)) := rep_dp _ _ (r1.mono ((part_mono x2.c).trans (part_le.trans x2.s)))
  have d2 : Dp K H2 (.ref c) (toPy (rp y)) := by
    refine rep_dp _ _ ?_
    simp only [rp, Rp.rp, Rep]
    exact ⟨c, us, rfl, h2, r2.mono (part_le.trans x2.s)⟩
  have s2 := shaped_of y hz
  have e2 : toPy (rp y) = .list (toPyL (y.map rp)) := by simp only [rp, Rp.rp, toPy]
  have hz1 : EqR.dep α ≤ 64 := Nat.le_trans (Nat.le_succ _) hz
  rw [e2] at d2 s2
  refine ⟨_, _, d1, d2, shaped_of x hz1, s2, ?_⟩
  rw [any_mem]
  have e3 : (!decide (x ∈ y)) = decide (x ∉ y) := by by_cases h : x ∈ y <;> simp [h]
  rw [e3]
  exact q _ C2 H2 (x1.trans x2) .ofBl
variable [OrR α]
def sortG (xs : List α) : List α := xs.mergeSort leG
def encG (b : V × α) : PyData := toPy (rp b.2)
theorem repL_zip {H : Hp} : ∀ {xs : List α} {vs : List V}, RepL K H (xs.map rp) vs → (vs.zip xs).map (·.1) = vs ∧ (vs.zip xs).map (·.2) = xs ∧ ∀ b ∈ vs.zip xs, Rep K H (rp b.2) b.1
  | [], vs, r => by
    rw [List.map_nil] at r
    rw [r.nil_iff]
    exact ⟨rfl, rfl, fun b h => by cases h⟩
  | x :: xs, vs, r => by
    rw [List.map_cons] at r
    obtain ⟨v, us, rfl, h1, h2⟩ := r.uncons
    obtain ⟨e1, e2, e3⟩ := repL_zip h2
    refine ⟨by simp only [List.zip_cons_cons, List.map_cons, e1], by simp only [List.zip_cons_cons, List.map_cons, e2], fun b h => ?_⟩
    rcases List.mem_cons.mp h with h | h
    · rw [h]
      exact h1
    · exact e3 b h
theorem zip_repL {H : Hp} : ∀ {bs : List (V × α)}, (∀ b ∈ bs, Rep K H (rp b.2) b.1) → RepL K H ((bs.map (·.2)).map rp) (bs.map (·.1))
  | [], _ => .nil
  | b :: bs, h => .cons (h b List.mem_cons_self) (zip_repL fun c hc => h c (List.mem_cons_of_mem _ hc))
theorem ev_sortG {ra : Option (List α)} (ha : EvB K ta ρ m ra) (hS : ∀ l : List α, Sortable (l.map fun a => toPy (rp a))) (hz : EqR.dep α ≤ 60 := by decide) : EvL K (tCB (rSortB K (V × α) encG (fun b => b.1)) (tCons ta tNil)) ρ m (ra.bind fun x => some (sortG x)) := fun Ht C0 C H σ I z e Q q => by
  obtain ⟨x, ex, e⟩ := some_bind e
  cases e
  refine ha Ht C0 C H σ I x ex _ fun a vs C1 H1 x1 h1 r1 => ?_
  obtain ⟨e1, e2, e3⟩ := repL_zip r1
  have hd : DpAll K H1 vs (toPyL (x.map rp)) := rep_dpL _ _ (r1.mono (part_le.trans x1.s))
  have ee : (vs.zip x).map encG = toPyL (x.map rp) := by
    rw [toPyL_map, List.map_map, ← e2, List.map_map, e2]
    rfl
  have hA := al_list x
  refine ⟨a, vs.zip x, rfl, by rw [e1]; exact .of h1, by rw [e1, ee]; exact hd, ?_, ?_, fun b _ => Nat.le_trans (EqR.lay b.2).2 hz, fun p hp => ?_⟩
  · rw [ee]
    exact fun d h d' h' => hA.1 d h d' h'
  · rw [ee, toPyL_map, List.map_map]
    exact hS x
  · have hs : ((vs.zip x).mergeSort (dataLe false encG)).map (·.2) = sortG x := by
      unfold sortG
      rw [List.map_mergeSort (s := leG), e2]
      intro b _ c _
      rw [dataLe_eq]
      show (!dataLt (encG c) (encG b)) = leG b.2 c.2
      unfold encG leG
      rw [OrR.ok]
    have hr : RepL K (part m Ht C1) ((sortG x).map rp) (((vs.zip x).mergeSort (dataLe false encG)).map (·.1)) := by
      rw [← hs]
      exact zip_repL fun b hb => e3 b ((List.mergeSort_perm _ _).mem_iff.mp hb)
    exact new_list x1 hp hr q
end
theorem sortableL {α : Type} [Rp α] (l : List (List α)) : Sortable (l.map fun a => toPy (rp a)) := .inr fun d hd => by
  obtain ⟨a, _, rfl⟩ := List.mem_map.mp hd
  simp only [rp, Rp.rp, toPy]
  exact ⟨by simp, by simp⟩
theorem sortableP {α β : Type} [Rp α] [Rp β] (l : List (α × β)) : Sortable (l.map fun a => toPy (rp a)) := .inl fun d hd => by
  obtain ⟨a, _, rfl⟩ := List.mem_map.mp hd
  simp only [rp, Rp.rp, toPy, toPyL]
  exact ⟨_, _, rfl⟩
end L2.DL

namespace L2.DL
open PySem PySem.Spec PyProof.Rows PySem.W
/-! ### min of two data -/
section
variable {prog : Program} {w : World} {A : Around} {E : Value → Shared → Prop} {s : Shared}
theorem min_two_data {a b : Value} {x y : PyData} {as bs : List Addr} {Q : Value → Shared → Prop} (hh : A.handled = none)
    (r1 : Reads s.heap a x as) (r2 : Reads s.heap b y bs) (ha : AlikeAll [x, y]) (hu : A.units + 1 + PyData.depthAll [x, y] < cLine)
    (h : ∀ (i : Nat) v h' tk cs, [a, b][i]? = some v → Reads h' v (minD x [y]) cs → (∀ c o, s.heap.get? c = some o → h'.get? c = some o) → Q v { s with heap := h', toks := tk }) :
    wpAny (model prog w) A (call (.builtin "min") [a, b]) Q E s := by
  refine call_function_tree F.kind_min F.plain_min F.entry_min
    (F.args_min2 _ _) ?_
  refine wpAny_bind (wpAny_of_eq
    (show Builtin.Builtins.bindParams "min" ["key", "default"] 0 ⟨[], []⟩
      = pure [none, none] from rfl) ?_)
  show wpAny _ A.in1
    (newTuple [a, b] >>= _) _ _ s
  refine wpAny_bind (wpAny_newObj_type ?_)
  have ht : (s.heap.push { cls := .type "tuple", data := .seq #[a, b] }).IsTuple s.heap.objs.size #[a, b] := ⟨_, Heap.get?_push_size _ rfl, rfl, _, rfl⟩
  have hkeep : ∀ c o, s.heap.get? c = some o → (s.heap.push { cls := .type "tuple", data := .seq #[a, b] }).get? c = some o := fun c o e => Heap.get?_push_of_some _ e
  refine wpAny_bind (iter_tupleW (A := A.in1) (s := { s with heap := s.heap.push { cls := .type "tuple", data := .seq #[a, b] } }) hh ht fun s₂ e W st hfp hw hk => ?_)
  refine wpAny_bind (wpAny_newObj_type ?_)
  have hSf : s₂.heap.objs.size ∉ [_, _] := fun hm => Nat.lt_irrefl _
    (hfp _ hm)
  have k1 := Reads.keeps hkeep r1
  have k2 := Reads.keeps hkeep r2
  have hr : ReadsAll (s.heap.push { cls := .type "tuple", data := .seq #[a, b] }) (#[a, b] : Array Value).toList [x, y] _ := ReadsAll.cons k1 (ReadsAll.cons k2 ReadsAll.nil)
  have hname : (toString "min" ++ toString ".loop" : String)
      = "min.loop" := by decide
  rw [hname]
  refine wpAny_pure ⟨plainId_quiet F.plain_min_loop _,
    codeAny_min_loop_firstH W _ hw _ (cmpIn_lt (s := { s with heap := s.heap.push { cls := .type "tuple", data := .seq #[a, b] } }) (A := A.in1) hr ha (by show A.units + 1 + _ < _; exact hu)) s₂.heap.objs.size hSf (fresh_in hk) _ (by show 0 < 2; decide)
      (fun b o e => Heap.get?_push_of_some _ (hk b o e)) (W.frame 0 s₂ _ s₂.toks st (Nat.le_refl _) fun b _ o e => Heap.get?_push_of_some _ e) (Heap.get?_push_size _ rfl) fun v s' hP hm => ?_⟩
  have m := Moved.drop_new (tk := s₂.toks) hm (Nat.le_refl _)
  obtain ⟨h', tk, rfl, hk'⟩ := moved_old e rfl m
  obtain ⟨cs, r, _, _, _⟩ := readsAll_atA hr _ v hP
  have e2 : [x, y].getD (argBest (fun i j => dataLt ([x, y].getD i PyData.none) ([x, y].getD j PyData.none)) 1) PyData.none = [y].foldl (fun a z => if dataLt z a = true then z else a) x := (argBest_fold dataLt PyData.none x [y] 1 (Nat.le_refl _)).2
  rw [← Array.getElem?_toList] at hP
  exact h _ v h' tk cs hP (reads_keeps hk' (by unfold minD; rw [← e2]; exact r)) fun c o e => hk' c o (hkeep c o e)
end
section
variable {X : Cx} (K : PySem.W.Frag)
def rMin2D (K : PySem.W.Frag) : List V → Hp → VK → Prop := fun xs H Q => ∃ v u d e, xs = [v, u] ∧ Dp K H v d ∧ Dp K H u e ∧ AlikeAll [d, e] ∧ PyData.depthAll [d, e] ≤ 62 ∧ ∀ (i : Nat) z, [v, u][i]? = some z → [d, e][i]? = some (minD d [e]) → Q z H
theorem cr_min2D (hc : X.calm = true) (hu : X.A.units + 64 < cLine) (hK : X.K = K := by rfl) : CallR X (.builtin "min") (rMin2D K) := by
  subst hK
  intro pins s σ H xs us Q I r h
  obtain ⟨v, u, d, e, rfl, hd, he, hA, hz, q⟩ := h
  obtain ⟨a, b, rfl, ra, rb⟩ := vals2 r
  obtain ⟨as, r1⟩ := Dp.reads I d v a hd ra
  obtain ⟨bs, r2⟩ := Dp.reads I e u b he rb
  refine min_two_data (I.ok.hd hc) r1 r2 hA (by omega) fun i w h' tk cs hv hr hk => ?_
  obtain ⟨v', e1, e2, e3⟩ := pick_core I (vs := [v, u]) (its := [a, b]) (.cons ra (.cons rb .nil)) (.cons hd (.cons he .nil)) hA (fold_mem (xs := [e]) (c := fun y a => dataLt y a)) hv hr hk
  exact ⟨v', H, I.kept hk, e2, q i v' e1 e3⟩
end
theorem kPE {X : Cx} {e : Expr} (K : PySem.W.Frag) (f : PySem.W.Frag → TE) (h : PE X e (f X.K)) (hK : X.K = K := by rfl) : PE X e (f K) := hK ▸ h
section
variable {K : PySem.W.Frag} {ta tb : TE} {ρ : En} {m m1 m2 : Md}
variable {α : Type} [Rp α] [DecidableEq α] [OrR α]
def min2G (x y : α) : α := if ltG y x then y else x
theorem ev_min2G {ra rb : Option α} (ha : EvE K ta ρ m ra) (hb : EvE K tb ρ m rb) (hz : EqR.dep α ≤ 62 := by decide) :
    EvE K (tCB (rMin2D K) (tCons ta (tCons tb tNil))) ρ m (ra.bind fun x => rb.bind fun y => some (min2G x y)) := fun Ht C0 C H σ I z e Q q => by
  obtain ⟨x, ex, e⟩ := some_bind e
  obtain ⟨y, ey, e⟩ := some_bind e
  cases e
  refine ha Ht C0 C H σ I x ex _ fun v C1 H1 x1 r1 => ?_
  refine hb Ht C0 C1 H1 σ (I.to x1) y ey _ fun u C2 H2 x2 r2 => ?_
  have k1 := r1.mono (part_mono (m := m) (Ht := Ht) x2.c)
  have d1 : Dp K H2 v (toPy (rp x)) := rep_dp _ _ (k1.mono (part_le.trans x2.s))
  have d2 : Dp K H2 u (toPy (rp y)) := rep_dp _ _ (r2.mono (part_le.trans x2.s))
  have hA := al_list [x, y]
  simp only [List.map_cons, List.map_nil, toPyL] at hA
  have hD := (layAll [x, y]).2
  simp only [List.map_cons, List.map_nil, toPyL] at hD
  have hm := minD_eq x [y]
  simp only [List.map_cons, List.map_nil, toPyL, List.foldl_cons, List.foldl_nil] at hm
  refine ⟨v, u, _, _, rfl, d1, d2, hA, by omega, fun i w hw hi => ?_⟩
  rw [hm] at hi
  have fin : Rep K (part m Ht C2) (rp (min2G x y)) w := by
    match i, hw, hi with
    | 0, hw, hi =>
      simp only [List.getElem?_cons_zero, Option.some.injEq] at hw hi
      have eg := toPy_inj hi
      rw [← hw]
      show Rep K _ (rp (if ltG y x = true then y else x)) v
      rw [← eg]
      exact k1
    | 1, hw, hi =>
      simp only [List.getElem?_cons_succ, List.getElem?_cons_zero, Option.some.injEq] at hw hi
      have eg := toPy_inj hi
      rw [← hw]
      show Rep K _ (rp (if ltG y x = true then y else x)) u
      rw [← eg]
      exact r2
    | i + 2, hw, hi => simp at hw
  exact q w C2 H2 (x1.trans x2) fin
end
section
variable {K : PySem.W.Frag} {ta tb : TE} {ρ : En} {m m1 m2 : Md}
/-- xs.count(k) of ints -/
theorem ev_countI {ra : Option (List Int)} {rb : Option Int} (ha : EvB K ta ρ m1 ra) (hb : EvE K tb ρ m2 rb) :
    EvE K (tBM K "list" (rCntI K) ta (tCons tb tNil)) ρ .new (ra.bind fun x => rb.bind fun k => some (x.count k : Int)) := fun Ht C0 C H σ I z e Q q => by
  obtain ⟨x, ex, e⟩ := some_bind e
  obtain ⟨k, ek, e⟩ := some_bind e
  cases e
  refine ha Ht C0 C H σ I x ex _ fun a vs C1 H1 x1 h1 r1 => ?_
  refine ⟨.inl ⟨rfl, _, .of h1⟩, ?_⟩
  refine hb Ht C0 C1 H1 σ (I.to x1) k ek _ fun u C2 H2 x2 r2 => ?_
  have h2 := x2.h _ _ h1
  rw [r1.ints_eq] at h2
  rw [r2.int_]
  exact ⟨a, x, k, rfl, rfl, .of h2, q _ C2 H2 (x1.trans x2) .ofInt⟩
end
end L2.DL

namespace L2.DL
open PySem PySem.Spec PyProof.Rows
/-! ### list(range(..)) -/
@[irreducible] def listRg (a b : Int) : Option (List Int) := if -(2 ^ 62) ≤ a ∧ a < 2 ^ 62 ∧ -(2 ^ 62) ≤ b ∧ b < 2 ^ 62 ∧ (b - a).toNat ≤ 2 ^ 24 then some (rangeL a b) else none
theorem listRg_def (a b : Int) : listRg a b = if -(2 ^ 62) ≤ a ∧ a < 2 ^ 62 ∧ -(2 ^ 62) ≤ b ∧ b < 2 ^ 62 ∧ (b - a).toNat ≤ 2 ^ 24 then some (rangeL a b) else none := by unfold listRg; rfl
section
variable {K : PySem.W.Frag} {ta tb : TE} {ρ : En} {m m1 m2 : Md}
theorem rgV_rangeL (a b : Int) : rgV a b = (rangeL a b).map V.int := by
  unfold rgV rangeL
  rw [List.map_map]
  rfl
theorem ev_listRg1 {ra : Option Int} (ha : EvE K ta ρ m1 ra) : EvL K (tLstRg (tRg1 ta)) ρ .new (ra.bind fun n => listRg 0 n) := fun Ht C0 C H σ I z e Q q => by
  obtain ⟨n, en, e⟩ := some_bind e
  rw [listRg_def] at e
  obtain ⟨hb, rfl⟩ := some_if e
  refine ha Ht C0 C H σ I n en _ fun v C1 H1 x1 r1 => ⟨n, r1.int_, hb, fun p hp => ?_⟩
  rw [rgV_rangeL]
  exact new_list x1 hp (RepL.ints _) q
theorem ev_listRg2 {ra rb : Option Int} (ha : EvE K ta ρ m1 ra) (hb : EvE K tb ρ m2 rb) : EvL K (tLstRg (tRg2 ta tb)) ρ .new (ra.bind fun l => rb.bind fun n => listRg l n) := fun Ht C0 C H σ I z e Q q => by
  obtain ⟨l, el, e⟩ := some_bind e
  obtain ⟨n, en, e⟩ := some_bind e
  rw [listRg_def] at e
  obtain ⟨hbd, rfl⟩ := some_if e
  refine ha Ht C0 C H σ I l el _ fun v C1 H1 x1 r1 => ?_
  refine hb Ht C0 C1 H1 σ (I.to x1) n en _ fun u C2 H2 x2 r2 => ⟨l, n, r1.int_, r2.int_, hbd, fun p hp => ?_⟩
  rw [rgV_rangeL]
  exact new_list (x1.trans x2) hp (RepL.ints _) q
end
/-! ### reversed(xs), walked -/
section
variable {K : PySem.W.Frag} {ta tb : TE} {ρ : En} {m m1 m2 : Md}
variable {α : Type} [Rp α]
theorem ei_rev {ra : Option (List α)} (ha : EvE K ta ρ m ra) : EvI K (RT.iRevA K ta) ρ m (ra.map List.reverse) := fun Ht C0 C H σ I xs ex R q => by
  obtain ⟨l, el, rfl⟩ := some_map ex
  refine ha Ht C0 C H σ I l el _ fun v C1 H1 x1 r1 => ?_
  obtain ⟨a, vs, rfl, e, r⟩ := rep_lst r1
  have ec : C1 a = some (.lst vs) := part_le _ _ e
  have hl : vs.length = l.length := by rw [r.length, List.length_map]
  refine ⟨a, vs, rfl, .inl ⟨.of (x1.s _ _ ec), q _ C1 H1 x1 ⟨fun i C2 H2 d ed hc hs _ => ?_, fun C2 H2 hc hs => ?_⟩⟩⟩
  · have hi : i < l.length := by
      have := (List.getElem?_eq_some_iff.mp ed).1
      rwa [List.length_map, List.length_reverse] at this
    have ed2 : (rps l)[vs.length - 1 - i]? = some d := by
      rw [rps, List.map_reverse, List.getElem?_reverse (by rw [List.length_map]; exact hi), List.length_map] at ed
      rw [hl]
      exact ed
    obtain ⟨u, eu, ru⟩ := r.get ed2
    have s2 : SqL K H2 a vs := .of (hs _ _ (hc _ _ ec))
    refine ⟨⟨by omega, vs, u, s2, eu⟩, fun x H' y => ?_⟩
    obtain ⟨rfl, y⟩ := y
    have e2 := y vs s2
    rw [eu] at e2
    cases e2
    exact ⟨C2, .refl hs, ru.mono (part_mono hc)⟩
  · show vs.length ≤ _
    rw [List.length_map, List.length_reverse]
    omega
end
theorem pi_revAK {X : Cx} (K : PySem.W.Frag) {tg e : Expr} {te : TE} {p pos : Pos} (hg : Gl X "reversed") (hm : X.mg "reversed" = none) (he : PE X e te)
    (hs : starEach [e] X.env = (false, eval e X.env) :: starEach [] X.env := by rfl) (hK : X.K = K := by rfl) : PI X tg (.Call (.Name "reversed" p) [e] [] pos) (RT.iRevA K te) := hK ▸ RT.pi_revA hg hm he hs
/-! ### in a tuple of ints -/
section
variable {K : PySem.W.Frag} {ta tb : TE} {ρ : En} {m m1 m2 : Md}
theorem ev_inT {ra : Option Int} {rb : Option (TupL Int)} (ha : EvE K ta ρ m1 ra) (hb : EvE K tb ρ m2 rb) : EvE K (tOp (rIn K false) ta tb) ρ .new (ra.bind fun x => rb.bind fun xs => some (decide (x ∈ xs.l))) := fun Ht C0 C H σ I z e Q q => by
  obtain ⟨x, ex, e⟩ := some_bind e
  obtain ⟨y, ey, e⟩ := some_bind e
  cases e
  refine ha Ht C0 C H σ I x ex _ fun v C1 H1 x1 r1 => ?_
  refine hb Ht C0 C1 H1 σ (I.to x1) y ey _ fun u C2 H2 x2 r2 => ?_
  obtain ⟨c, us, rfl, h2, h3⟩ := rep_tupL r2
  rw [r1.int_]
  have h4 := x2.s _ _ (part_le _ _ h2)
  rw [h3.ints_eq] at h4
  refine ⟨c, _, rfl, .inr (.of h4), rfl, flat_ints y.l, ?_⟩
  rw [inV_ints]
  exact q _ C2 H2 (x1.trans x2) .ofBl
end
/-! ### len(set(xs)), xs a list of ints -/
def met (ns : List Int) : List Int := ns.foldl step_dedup []
theorem getD_range : ∀ ns : List Int, (List.range ns.length).map (fun i => ns.getD i 0) = ns := fun ns => by
  refine List.ext_getElem (by simp) fun i h1 h2 => ?_
  simp [h2]
theorem met_eq (ns : List Int) : firstMet (fun i => ns.getD i 0) ns.length = met ns := by
  unfold firstMet met
  rw [getD_range]
def tLenSet (K : PySem.W.Frag) (ta : TE) : TE := fun σ H Q => ta σ H fun x H1 => ∃ (l : Addr) (ns : List Int), x = .ref l ∧ SqL K H1 l (ns.map V.int) ∧ ns.length ≤ 4000 ∧ Q (.int ((met ns).length : Nat)) H1
theorem pe_lenSet {X : Cx} (K : PySem.W.Frag) {a : Expr} {ta : TE} {p p2 q pos : Pos} (hg : Gl X "len") (hm : X.mg "len" = none) (hg2 : Gl X "set") (hm2 : X.mg "set" = none) (ha : PE X a ta) (hc : X.calm = true := by rfl)
    (na : starEach [a] X.env = (false, eval a X.env) :: starEach [] X.env := by rfl) (hK : X.K = K := by rfl) :
    PE X (.Call (.Name "len" p) [.Call (.Name "set" p2) [a] [] q] [] pos) (tLenSet K ta) := by
  subst hK
  refine ⟨fun pins st σ H Q J hq0 => Call_ (ld_blt J hg hm boot_len (callWith_builtin1 (args_cons
    (Call_ (ld_blt J hg2 hm2 boot_set (callWith_type1 (args_cons (thn (ha.run pins st σ H _ J hq0) fun v st1 ⟨x, H1, J1, rel, hq⟩ => args_nil ?_) na) na rfl))) rfl) rfl rfl))⟩
  obtain ⟨l, ns, rfl, hs, hl, fin⟩ := hq
  cases rel
  obtain ⟨its, rv, pl, hz⟩ := J1.list hs
  have hn : its.toArray.size = ns.length := by
    rw [List.size_toArray, ← rv.length, List.length_map]
  refine call_set_list (J1.ok.hd hc) pl.isList
    (by simpa using ints_of_vals rv) (by rw [hn]; unfold scanBound; omega) fun hp tk hS hk => args_nil ?_
  rw [hn, met_eq] at hS
  have hle : (met ns).length ≤ ns.length := by
    rw [← met_eq]
    exact firstMet_length_le _ _
  obtain ⟨ob, es, ep, tb, h1, h2, h3, _, _, _, h4, h5⟩ := hS
  have J2 : Inv X pins σ H1 { st1 with heap := hp, toks := tk } := J1.kept
    fun b o e => hk b o (Heap.lt_size e) e
  exact call_len_set h1 h2 h3 h4 (by rw [h5]; omega)
    ⟨.int (met ns).length, H1, J2.tok _, ⟨_, by rw [h5]⟩, fin⟩
section
variable {K : PySem.W.Frag} {ta tb : TE} {ρ : En} {m m1 m2 : Md}
def lenSet (xs : List Int) : Option Int := if xs.length ≤ 4000 then some ((met xs).length : Nat) else none
theorem ev_lenSet {ra : Option (List Int)} (ha : EvB K ta ρ m ra) : EvE K (tLenSet K ta) ρ .new (ra.bind lenSet) := fun Ht C0 C H σ I z e Q q => by
  obtain ⟨x, ex, e⟩ := some_bind e
  unfold lenSet at e
  obtain ⟨hl, rfl⟩ := some_if e
  refine ha Ht C0 C H σ I x ex _ fun a vs C1 H1 x1 h1 r1 => ?_
  rw [r1.ints_eq] at h1
  exact ⟨a, x, rfl, .of h1, hl, q _ C1 H1 x1 .ofInt⟩
end
/-! ### xs.index(k), ints -/
def ixOf (k : Int) : List Int → Option Nat
  | [] => none
  | x :: xs => if x = k then some 0 else (ixOf k xs).map (· + 1)
theorem ixOf_spec {k : Int} : ∀ {xs : List Int} {j : Nat}, ixOf k xs = some j → xs[j]? = some k ∧ ∀ m : Nat, m < j → xs[m]? ≠ some k
  | [], j, h => by cases h
  | x :: xs, j, h => by
    unfold ixOf at h
    split at h
    · rename_i e
      cases h
      exact ⟨by rw [List.getElem?_cons_zero, e], fun m hm => by omega⟩
    · rename_i ne
      obtain ⟨i, e, rfl⟩ := Option.map_eq_some_iff.mp h
      obtain ⟨h1, h2⟩ := ixOf_spec e
      refine ⟨by rw [List.getElem?_cons_succ]; exact h1, fun m hm => ?_⟩
      cases m with
      | zero =>
        rw [List.getElem?_cons_zero]
        exact fun z => ne (Option.some.inj z)
      | succ m =>
        rw [List.getElem?_cons_succ]
        exact h2 m (by omega)
def indexI (xs : List Int) (k : Int) : Option Int := (ixOf k xs).map fun j : Nat => (j : Int)
section
variable {K : PySem.W.Frag} {ta tb : TE} {ρ : En} {m m1 m2 : Md}
theorem ev_indexI {ra : Option (List Int)} {rb : Option Int} (ha : EvB K ta ρ m1 ra) (hb : EvE K tb ρ m2 rb) :
    EvE K (tBM K "list" (rIndex K) ta (tCons tb tNil)) ρ .new (ra.bind fun x => rb.bind fun k => indexI x k) := fun Ht C0 C H σ I z e Q q => by
  obtain ⟨x, ex, e⟩ := some_bind e
  obtain ⟨k, ek, e⟩ := some_bind e
  unfold indexI at e
  obtain ⟨j, ej, rfl⟩ := some_map e
  obtain ⟨k1, k2⟩ := ixOf_spec ej
  refine ha Ht C0 C H σ I x ex _ fun a vs C1 H1 x1 h1 r1 => ?_
  refine ⟨.inl ⟨rfl, _, .of h1⟩, ?_⟩
  refine hb Ht C0 C1 H1 σ (I.to x1) k ek _ fun u C2 H2 x2 r2 => ?_
  have h2 := x2.h _ _ h1
  rw [r1.ints_eq] at h2
  rw [r2.int_]
  refine ⟨a, _, _, j, .int k, rfl, rfl, .of h2, rfl, flat_ints x, by rw [List.getElem?_map, k1]; rfl, ?_, fun i z hi hz => ?_, q _ C2 H2 (x1.trans x2) .ofInt⟩
  · simp [eqV]
  · rw [List.getElem?_map] at hz
    obtain ⟨y, ey, rfl⟩ := some_map hz
    have := k2 i hi
    have hne : y ≠ k := fun q => this (by rw [ey, q])
    simp [eqV, hne]
end
end L2.DL

/-! DL12: islands: an answer that is read, then changed, then forgotten -/
namespace L2.DL
open PySem PySem.Spec PyProof.Rows
theorem inA_in {A : Addr → Bool} {C : Hp} {a : Addr} {o : HO} (h : inA A C a = some o) : A a = true ∧ C a = some o := by
  unfold inA at h
  split at h
  · exact ⟨by assumption, h⟩
  · cases h
/-- into the island's block -/
inductive SlotIn (A : Addr → Bool) : Slot → Slot → Prop
  | un {s : Slot} : SlotIn A s .un
  | dat {m : Md} {d : Dt} : SlotIn A (.dat m d) (.dat (.out A) d)
  | sc {m m' : Md} {α : Type} [Rp α] [Scal α] {x : α} : SlotIn A (.dat m (rp x)) (.dat m' (rp x))
/-- out of it -/
inductive SlotEx (A : Addr → Bool) : Slot → Slot → Prop
  | un {s : Slot} : SlotEx A s .un
  | out {d : Dt} : SlotEx A (.dat (.out A) d) (.dat .old d)
  | new {d : Dt} : SlotEx A (.dat .new d) (.dat .new d)
  | sc {m m' : Md} {α : Type} [Rp α] [Scal α] {x : α} : SlotEx A (.dat m (rp x)) (.dat m' (rp x))
  | own {l : List Dt} : SlotEx A (.own .new l) (.own .new l)
inductive EnvZ (R : Slot → Slot → Prop) : En → En → Prop
  | nil : EnvZ R [] []
  | cons {s s' : Slot} {ρ ρ' : En} : R s s' → EnvZ R ρ ρ' → EnvZ R (s :: ρ) (s' :: ρ')
theorem EnvZ.at {R : Slot → Slot → Prop} : ∀ {ρ ρ' : En} {i : Nat} {s' : Slot}, EnvZ R ρ ρ' → ρ'[i]? = some s' → ∃ s, ρ[i]? = some s ∧ R s s'
  | _, _, i, s', .nil, e => by simp at e
  | _, _, 0, s', .cons h t, e => by
    simp at e
    subst e
    exact ⟨_, rfl, h⟩
  | _, _, i + 1, s', .cons h t, e => by
    obtain ⟨s, e1, e2⟩ := t.at (i := i) (s' := s') (by simpa using e)
    exact ⟨s, by simpa using e1, e2⟩
theorem EnvZ.len {R : Slot → Slot → Prop} : ∀ {ρ ρ' : En}, EnvZ R ρ ρ' → ρ.length = ρ'.length
  | _, _, .nil => rfl
  | _, _, .cons h t => by rw [List.length_cons, List.length_cons, t.len]
section
variable {K : PySem.W.Frag} {ρ ρ1 : En} {m : Md} {α R S : Type} [Rp α] [Rp R] {A : Addr → Bool}
theorem ev_isl {i : Nat} {x : α} (h : ρ[i]? = some (.isl A (rp x)) := by rfl) : EvE K (tVar i) ρ .old (some x) := fun Ht C0 C H σ I y e Q q => by
  cases e
  obtain ⟨v, e1, r⟩ := I.ok i _ h
  exact ⟨v, e1, q v C H I.same (r.mono inA_le)⟩
/-- a statement changes nothing but the island, and the names vs -/
def EvM (K : PySem.W.Frag) (t : TS) (ρ : En) (A : Addr → Bool) (vs : List Nat) (o : Option Unit) : Prop :=
  ∀ (Ht C0 C H : Hp) (σ : St), EnvI K Ht C0 C H σ ρ → o = some () → ∀ D : Ends, (∀ C1 H1 H' σ', Ext C H C1 H1 → (∀ a, A a = false → H' a = H1 a) → σ'.length = σ.length → (∀ j, j ∉ vs → σ'[j]? = σ[j]?) → D.nx σ' H') → t D σ H
theorem er_isl {A0 : Type} {ds : A0 → List Dt} {g : A0 → Option α} {ra : Option A0} {ta : TA} {E0 : XK} {i : Nat} {T1 M T2 : TS} {vs : List Nat} {ρ1 : (Addr → Bool) → En} {E : (Addr → Bool) → α → S → En} {ρ3 : α → S → En}
    {o : α → Option (Fl S Unit R)} {om : α → S → Option Unit} {f : α → S → Option R}
    (h : EvA K ds ta ρ ra) (hw : ∀ A, EnvZ (SlotIn A) ρ (ρ1 A)) (h1 : ∀ A x, EvF K T1 ((ρ1 A).set i (.isl A (rp x))) (E A x) (fun _ : Unit => []) m (o x)) (h2 : ∀ A x s, EvM K M (E A x s) A vs (om x s))
    (hx : ∀ A x s, EnvZ (SlotEx A) (E A x s) (ρ3 x s)) (hv : ∀ x s, (vs.all fun j => match (ρ3 x s)[j]? with | some .un => true | none => true | _ => false) = true) (h3 : ∀ x s, EvR K T2 (ρ3 x s) m (f x s)) :
    EvR K (tSeq (tAsg (tCall (spA K ds g .new) [] E0 ta) (gName i)) (tSeq T1 (tSeq M T2))) ρ m ((ra.bind g).bind fun x => Fl.ret (o x) fun s => (om x s).bind fun _ => f x s) := fun Ht C0 C H σ I r e D q => by
  obtain ⟨z, ez, e⟩ := some_bind e
  obtain ⟨x0, ex0, ez⟩ := some_bind ez
  refine h Ht C0 C H σ I x0 ex0 _ fun us Ca Ha xa ra' => ?_
  rw [List.append_nil]
  refine ⟨Ca, x0, z, xa.s, ra', ez, fun u Cb Hb xb ru => ?_⟩
  have Ia := I.to xa
  have mem : ∀ a : Addr, ((Ha a).isNone && (Cb a).isSome) = true ↔ Ha a = none ∧ Cb a ≠ none := fun a => by
    rw [Bool.and_eq_true]
    constructor
    · rintro ⟨a1, a2⟩
      refine ⟨by simpa using a1, fun z => ?_⟩
      rw [z] at a2
      cases a2
    · rintro ⟨a1, a2⟩
      refine ⟨by rw [a1]; rfl, ?_⟩
      obtain ⟨o, ho⟩ := some_of a2
      rw [ho]
      rfl
  generalize hA : (fun a : Addr => (Ha a).isNone && (Cb a).isSome) = A at *
  have mem : ∀ a : Addr, A a = true ↔ Ha a = none ∧ Cb a ≠ none := fun a => by rw [← hA]; exact mem a
  have memF : ∀ a : Addr, Ha a ≠ none → A a = false := fun a z => by
    cases hh : A a with
    | false => rfl
    | true => exact absurd ((mem a).mp hh).1 z
  -- the block's start
  have J : EnvI K Hb Cb Cb Hb (σ.set i (some u)) ((ρ1 A).set i (.isl A (rp z))) := by
    refine ⟨.refl xb.s, by rw [List.length_set, List.length_set, Ia.len, (hw A).len], fun j s ej => ?_, fun j k a mj lj mk lk n e1 e2 e3 e4 => ?_⟩
    · rcases get_set ej with ⟨rfl, rfl⟩ | ⟨n, ej⟩
      · have hj : j < (ρ1 A).length := by
          have := (List.getElem?_eq_some_iff.mp ej).1
          rwa [List.length_set] at this
        refine ⟨u, by rw [List.getElem?_set_self (by rw [Ia.len, (hw A).len]; exact hj)], ru.mono fun a o' ha => ?_⟩
        simp only [part] at ha
        split at ha
        · rename_i hn
          unfold inA
          rw [if_pos ((mem a).mpr ⟨by simpa using hn, by rw [ha]; simp⟩)]
          exact ha
        · cases ha
      · rw [List.getElem?_set_ne (Ne.symm n)]
        obtain ⟨s0, e0, w0⟩ := (hw A).at ej
        have ok0 := Ia.ok j s0 e0
        cases w0 with
        | un => trivial
        | dat =>
          obtain ⟨v, e1, r1⟩ := ok0
          refine ⟨v, e1, r1.mono fun a o' ha => ?_⟩
          have hca := part_le _ _ ha
          have hb := xb.c _ _ hca
          have hf := memF a (by rw [xa.s _ _ hca]; simp)
          simp only [part, hf, Bool.false_and, Bool.false_eq_true, if_false]
          exact hb
        | sc =>
          obtain ⟨v, e1, r1⟩ := ok0
          exact ⟨v, e1, Scal.ok K _ _ _ v r1⟩
    · rcases get_set e1 with ⟨_, q1⟩ | ⟨n1, e1⟩
      · cases q1
      · obtain ⟨s0, e0, w0⟩ := (hw A).at e1
        cases w0
  have X0 : Ext C0 Ht Cb Hb := (I.ext.trans xa).trans xb
  have inB : ∀ a : Addr, A a = true → Hb a ≠ none := fun a z => by
    obtain ⟨o', ho⟩ := some_of ((mem a).mp z).2
    rw [xb.s _ _ ho]
    simp
  unfold Fl.ret at e
  obtain ⟨w, ew, e⟩ := some_bind e
  show T1 { D with nx := tSeq M T2 D } (σ.set i (some u)) Hb
  refine h1 A z Hb Cb Cb Hb _ J w ew _ ?_
  cases w with
  | bk s => cases e
  | ct s => cases e
  | rt r' =>
    cases e
    exact fun v C' H' y rv => q v C' H' (X0.trans y) (rv.mono (part_ht X0.h))
  | nx s =>
    obtain ⟨_, eo, e⟩ := some_bind e
    intro C2 H2 σ2 I2 s2
    show M { D with nx := T2 D } σ2 H2
    refine h2 A z s Hb Cb C2 H2 σ2 I2 eo _ fun C1 H1 H' σ' x1 hh hl hj => h3 z s Ht C0 (fun a => if A a = true then none else C1 a) H' σ' ?_ r e D q
    have X1 : Ext C0 Ht C1 H1 := (X0.trans I2.ext).trans x1
    have I3 := I2.to x1
    have c3 : ∀ {a : Addr}, A a = false → (if A a = true then none else C1 a) = C1 a := fun {a} z => by rw [z]; rfl
    have nv : ∀ (j : Nat) (s' : Slot), (ρ3 z s)[j]? = some s' → s' = .un ∨ σ'[j]? = σ2[j]? := fun j s' ej => by
      by_cases hjv : j ∈ vs
      · have := List.all_eq_true.mp (hv z s) j hjv
        rw [ej] at this
        cases s' with
        | un => exact .inl rfl
        | dat m d => cases this
        | own m l => cases this
        | isl A d => cases this
        | err a' dd' fs' => cases this
      · exact .inr (hj j hjv)
    refine ⟨⟨fun a o' ha => ?_, fun a o' ha => ?_, fun a o' ha => ?_, fun a a1 a2 => ?_⟩, by rw [hl, I2.len, (hx A z s).len], fun j s' ej => ?_, fun j k a mj lj mk lk n e1 e2 e3 e4 => ?_⟩
    · have hf := memF a (by rw [xa.s _ _ (xa.c _ _ (I.ext.c _ _ ha))]; simp)
      exact (c3 hf).trans (X1.c _ _ ha)
    · have hf := memF a (by rw [xa.h _ _ (I.ext.h _ _ ha)]; simp)
      rw [hh a hf]
      exact X1.h _ _ ha
    · cases hf : A a with
      | true => rw [hf] at ha; cases ha
      | false =>
        rw [hf] at ha
        rw [hh a hf]
        exact X1.s _ _ ha
    · split
      · rfl
      · exact X1.f a a1 a2
    · rcases nv j s' ej with rfl | es
      · trivial
      · rw [es]
        obtain ⟨s0, e0, w0⟩ := (hx A z s).at ej
        have ok0 := I3.ok j s0 e0
        cases w0 with
        | un => trivial
        | out =>
          obtain ⟨v, e1, r1⟩ := ok0
          refine ⟨v, e1, r1.mono fun a o' ha => ?_⟩
          have hf : A a = false := by
            cases hf : A a with
            | false => rfl
            | true =>
              obtain ⟨o2, ho2⟩ := some_of (inB a hf)
              simp only [part, hf, ho2, Option.isSome_some, Bool.and_self, if_true] at ha
              cases ha
          exact (c3 hf).trans (part_le _ _ ha)
        | new =>
          obtain ⟨v, e1, r1⟩ := ok0
          refine ⟨v, e1, r1.mono fun a o' ha => ?_⟩
          simp only [part] at ha
          split at ha
          · rename_i hn
            have hn : Hb a = none := by simpa using hn
            have hf : A a = false := by
              cases hf : A a with
              | false => rfl
              | true => exact absurd hn (inB a hf)
            exact part_at ((c3 hf).trans ha) (free_of X0.h hn)
          · cases ha
        | sc =>
          obtain ⟨v, e1, r1⟩ := ok0
          exact ⟨v, e1, Scal.ok K _ _ _ v r1⟩
        | own =>
          obtain ⟨b, vs', e1, b1, b2, b3, b4⟩ := ok0
          have hf : A b = false := by
            cases hf : A b with
            | false => rfl
            | true => exact absurd b1 (inB b hf)
          refine ⟨b, vs', e1, free_of X0.h b1, (c3 hf).trans b2, by rw [hh b hf]; exact b3, b4.mono fun a o' ha => ?_⟩
          simp only [part] at ha
          split at ha
          · rename_i hn
            have hn : Hb a = none := by simpa using hn
            have hf : A a = false := by
              cases hf : A a with
              | false => rfl
              | true => exact absurd hn (inB a hf)
            exact part_at ((c3 hf).trans ha) (free_of X0.h hn)
          · cases ha
    · rcases nv j _ e1 with q1 | q1
      · cases q1
      · rcases nv k _ e2 with q2 | q2
        · cases q2
        · obtain ⟨t1, f1, w1⟩ := (hx A z s).at e1
          obtain ⟨t2, f2, w2⟩ := (hx A z s).at e2
          cases w1
          cases w2
          rw [q1] at e3
          rw [q2] at e4
          exact I2.sep j k a _ _ _ _ n f1 f2 e3 e4
theorem er_islP {A0 : Type} {ds : A0 → List Dt} {g : A0 → Option α} {x0 : A0} {ta : TA} {E0 : XK} {i : Nat} {T1 M T2 : TS} {vs : List Nat} {ρ1 : (Addr → Bool) → En} {E : (Addr → Bool) → α → S → En} {ρ3 : α → S → En}
    {o : α → Option (Fl S Unit R)} {om : α → S → Option Unit} {f : α → S → Option R}
    (h : EvA K ds ta ρ (some x0)) (hw : ∀ A, EnvZ (SlotIn A) ρ (ρ1 A)) (h1 : ∀ A x, EvF K T1 ((ρ1 A).set i (.isl A (rp x))) (E A x) (fun _ : Unit => []) m (o x)) (h2 : ∀ A x s, EvM K M (E A x s) A vs (om x s))
    (hx : ∀ A x s, EnvZ (SlotEx A) (E A x s) (ρ3 x s)) (hv : ∀ x s, (vs.all fun j => match (ρ3 x s)[j]? with | some .un => true | none => true | _ => false) = true) (h3 : ∀ x s, EvR K T2 (ρ3 x s) m (f x s)) :
    EvR K (tSeq (tAsg (tCall (spA K ds g .new) [] E0 ta) (gName i)) (tSeq T1 (tSeq M T2))) ρ m ((g x0).bind fun x => Fl.ret (o x) fun s => (om x s).bind fun _ => f x s) :=
  (er_isl h hw h1 h2 hx hv h3).res (by rw [Option.bind_some])
/-- arguments that are there -/
theorem ea_consP {a1 A' : Type} [Rp a1] {ds' : A' → List Dt} {x : a1} {y : A'} {te : TE} {t : TA} {m1 : Md} (h1 : EvE K te ρ m1 (some x)) (h2 : EvA K ds' t ρ (some y)) : EvA K (fun x : a1 × A' => rp x.1 :: ds' x.2) (tCons te t) ρ (some (x, y)) := ea_cons h1 h2
/-! ### the changes -/
theorem em_nx : EvM K tNext ρ A [] (some ()) := fun Ht C0 C H σ I e D q => q C H H σ I.same (fun _ _ => rfl) rfl fun _ _ => rfl
theorem em_if {c : TT} {t u : TS} {vs : List Nat} {rc : Option Bool} {o1 o2 : Option Unit} (hc : EvT K c ρ rc) (h1 : EvM K t ρ A vs o1) (h2 : EvM K u ρ A vs o2) : EvM K (tIfS c t u) ρ A vs (rc.bind fun b => if b = true then o1 else o2) := fun Ht C0 C H σ I e D q => by
  obtain ⟨b, eb, e⟩ := some_bind e
  refine hc Ht C0 C H σ I b eb _ fun C' H' x => ?_
  cases b with
  | true => rw [if_pos rfl] at e; exact iteT (h1 Ht C0 C' H' σ (I.to x) e D fun C1 H1 H2 σ' x1 => q C1 H1 H2 σ' (x.trans x1))
  | false => rw [if_neg Bool.false_ne_true] at e; exact iteF (h2 Ht C0 C' H' σ (I.to x) e D fun C1 H1 H2 σ' x1 => q C1 H1 H2 σ' (x.trans x1))
theorem EvM.res {t : TS} {vs : List Nat} {o o' : Option Unit} (h : EvM K t ρ A vs o) (e : o' = o) : EvM K t ρ A vs o' := e ▸ h
theorem ints_no_ref {H : Hp} : ∀ {xs : List Int} {vs : List V} {b : Addr}, RepL K H (rps xs) vs → V.ref b ∉ vs
  | [], vs, b, h => by rw [h.nil_iff]; simp
  | x :: xs, vs, b, h => by
    obtain ⟨v, r, rfl, h1, h2⟩ := h.uncons
    rw [h1.int_]
    intro hm
    rcases List.mem_cons.mp hm with q | q
    · cases q
    · exact ints_no_ref h2 q
/-- told[0].append(c), told a pair whose first item is a list -/
theorem em_app0T {i : Nat} {γ : Type} [Rp γ] {x : List Int × γ} {c : Int} (h : ρ[i]? = some (.isl A (rp x)) := by rfl) :
    EvM K (tDrop (tBM K "list" rAppend (tOp (rIxT K) (tVar i) (tC (.int 0))) (tCons (tC (.int c)) tNil))) ρ A [] ((lim (x.1 ++ [c])).map fun _ => ()) := fun Ht C0 C H σ I e D q => by
  obtain ⟨y, ey, _⟩ := some_map e
  obtain ⟨hz, _⟩ := of_lim ey
  obtain ⟨v, e1, r⟩ := I.ok i _ h
  obtain ⟨a, u, w, rfl, h1, r1, r2⟩ := rep_pair r
  obtain ⟨b, vs, rfl, h2, r3⟩ := rep_lst r1
  obtain ⟨ab, hb⟩ := inA_in h2
  have hbH := I.sub _ _ hb
  refine ⟨.ref a, e1, a, [.ref b, w], 0, .ref b, rfl, rfl, .of (I.sub _ _ (inA_le _ _ h1)), rfl, .inl ⟨rfl, _, .of hbH⟩, b, vs, .int c, rfl, rfl, hbH, ?_, ?_⟩
  · rw [List.length_append, List.length_singleton] at hz
    rw [r3.length, List.length_map]
    omega
  · exact q C H _ σ I.same (fun a' ha' => upd_ne (fun z => by rw [z, ab] at ha'; cases ha')) rfl fun _ _ => rfl
/-- told[0].append(c), told a list of lists -/
theorem em_app0L {i : Nat} {x : List (List Int)} {c : Int} (h : ρ[i]? = some (.isl A (rp x)) := by rfl) :
    EvM K (tDrop (tBM K "list" rAppend (tOp (rIxL K) (tVar i) (tC (.int 0))) (tCons (tC (.int c)) tNil))) ρ A [] ((atI x 0).bind fun y => (lim (y ++ [c])).map fun _ => ()) := fun Ht C0 C H σ I e D q => by
  obtain ⟨y, ey, e⟩ := some_bind e
  obtain ⟨_, ez, _⟩ := some_map e
  obtain ⟨hz, _⟩ := of_lim ez
  obtain ⟨v, e1, r⟩ := I.ok i _ h
  obtain ⟨a, us, rfl, h1, r1⟩ := rep_lst r
  obtain ⟨w, ew, rw'⟩ := atI_rep r1 ey
  obtain ⟨b, vs, rfl, h2, r3⟩ := rep_lst rw'
  obtain ⟨ab, hb⟩ := inA_in h2
  have hbH := I.sub _ _ hb
  refine ⟨.ref a, e1, a, us, 0, .ref b, rfl, rfl, .of (I.sub _ _ (inA_le _ _ h1)), ew, .inl ⟨rfl, _, .of hbH⟩, b, vs, .int c, rfl, rfl, hbH, ?_, ?_⟩
  · rw [List.length_append, List.length_singleton] at hz
    rw [r3.length, List.length_map]
    omega
  · exact q C H _ σ I.same (fun a' ha' => upd_ne (fun z => by rw [z, ab] at ha'; cases ha')) rfl fun _ _ => rfl
/-- told[0].append(c); told.pop() -/
theorem em_app0_pop {i : Nat} {x : List (List Int)} {c : Int} (h : ρ[i]? = some (.isl A (rp x)) := by rfl) :
    EvM K (tSeq (tDrop (tBM K "list" rAppend (tOp (rIxL K) (tVar i) (tC (.int 0))) (tCons (tC (.int c)) tNil))) (tDrop (tBM0 K "list" rPop (tVar i)))) ρ A [] ((atI x 0).bind fun y => (lim (y ++ [c])).map fun _ => ()) := fun Ht C0 C H σ I e D q => by
  obtain ⟨y, ey, e⟩ := some_bind e
  obtain ⟨_, ez, _⟩ := some_map e
  obtain ⟨hz, _⟩ := of_lim ez
  obtain ⟨v, e1, r⟩ := I.ok i _ h
  obtain ⟨a, us, rfl, h1, r1⟩ := rep_lst r
  obtain ⟨w, ew, rw'⟩ := atI_rep r1 ey
  obtain ⟨b, vs, rfl, h2, r3⟩ := rep_lst rw'
  obtain ⟨ab, hb⟩ := inA_in h2
  obtain ⟨aa, ha⟩ := inA_in h1
  have hbH := I.sub _ _ hb
  have haH := I.sub _ _ ha
  have hmem : V.ref b ∈ us := by
    unfold atI at ew
    obtain ⟨j, _, ew⟩ := some_bind ew
    exact List.mem_of_getElem? ew
  have nab : a ≠ b := fun z => by
    subst z
    rw [ha] at hb
    cases hb
    exact ints_no_ref r3 hmem
  have hlen : us.length ≠ 0 := fun z => by
    rw [List.length_eq_zero_iff.mp z] at hmem
    cases hmem
  have hlast : us[us.length - 1]? = some (us[us.length - 1]'(by omega)) := List.getElem?_eq_getElem (by omega)
  have haU : upd H b (.lst (vs ++ [.int c])) a = some (.lst us) := by rw [upd_ne nab]; exact haH
  refine ⟨.ref a, e1, a, us, 0, .ref b, rfl, rfl, .of haH, ew, .inl ⟨rfl, _, .of hbH⟩, b, vs, .int c, rfl, rfl, hbH, ?_, .ref a, e1, .inl ⟨rfl, _, .of haU⟩, a, us, _, rfl, rfl, haU, hlast, ?_⟩
  · rw [List.length_append, List.length_singleton] at hz
    rw [r3.length, List.length_map]
    omega
  · refine q C H _ σ I.same (fun a' ha' => ?_) rfl fun _ _ => rfl
    rw [upd_ne (fun z => by rw [z, aa] at ha'; cases ha'), upd_ne (fun z => by rw [z, ab] at ha'; cases ha')]
/-- for item in told: item.append(c); then told.append([d]) -/
theorem em_each {i j : Nat} {x : List (List Int)} {d : Int} {tv : TE} (hc : ∃ c : Int, ∀ σ H Q, Q (.int c) H → tv σ H Q) (h : ρ[i]? = some (.isl A (rp x)) := by rfl) (hij : i ≠ j := by decide) (hjl : Nat.ble (j + 1) ρ.length = true := by rfl) :
    EvM K (tSeq (tFor (iList K (tVar i)) (gName j) (tDrop (tBM K "list" rAppend (tVar j) (tCons tv tNil)))) (tDrop (tBM K "list" rAppend (tVar i) (tCons (tLst (tCons (tC (.int d)) tNil)) tNil)))) ρ A [j]
      (if (x.all (fun y => decide (y.length + x.length ≤ 16777216)) && decide (x.length < 16777216)) = true then some () else none) := fun Ht C0 C H σ I e D q => by
  obtain ⟨hz, _⟩ := some_if e
  obtain ⟨c, hc⟩ := hc
  rw [Bool.and_eq_true, decide_eq_true_eq] at hz
  obtain ⟨z1, z2⟩ := hz
  have hs : sizeLine = 16777216 := sizeLine_eq
  obtain ⟨v, e1, r⟩ := I.ok i _ h
  obtain ⟨a, us, rfl, h1, r1⟩ := rep_lst r
  obtain ⟨aa, ha⟩ := inA_in h1
  have haH := I.sub _ _ ha
  have hul : us.length = x.length := by rw [r1.length, List.length_map]
  have hjl2 : j < σ.length := by rw [I.len]; exact Nat.le_of_ble_eq_true hjl
  have items : ∀ (k : Nat) (w : V), us[k]? = some w → ∃ b ws, w = .ref b ∧ A b = true ∧ b ≠ a ∧ H b = some (.lst ws) ∧ ws.length + x.length ≤ 16777216 + 0 := fun k w ew => by
    obtain ⟨dd, ed, rd⟩ := r1.at ew
    rw [rps, List.getElem?_map] at ed
    obtain ⟨y, ey, rfl⟩ := some_map ed
    obtain ⟨b, ws, rfl, h2, r3⟩ := rep_lst rd
    obtain ⟨ab, hb⟩ := inA_in h2
    refine ⟨b, ws, rfl, ab, fun z => ?_, I.sub _ _ hb, ?_⟩
    · subst z
      rw [ha] at hb
      cases hb
      exact ints_no_ref r3 (List.mem_of_getElem? ew)
    · have := of_decide_eq_true (List.all_eq_true.mp z1 y (List.mem_of_getElem? ey))
      rw [r3.length, List.length_map]
      exact this
  refine ⟨.ref a, e1, a, rfl, ⟨us, .of haH⟩, ?_⟩
  refine ⟨fun k n σ' Hc => n = us.length - k ∧ k ≤ us.length ∧ (∀ a', A a' = false → Hc a' = H a') ∧ (∀ a', H a' ≠ none → Hc a' ≠ none) ∧ Hc a = some (.lst us) ∧ (∀ (l : Nat) (w : V), us[l]? = some w → ∃ b ws, w = .ref b ∧ A b = true ∧ b ≠ a ∧ Hc b = some (.lst ws) ∧ ws.length + x.length ≤ 16777216 + k) ∧ σ'.length = σ.length ∧ (∀ l, l ∉ [j] → σ'[l]? = σ[l]?),
    ⟨us.length, rfl, Nat.zero_le _, fun _ _ => rfl, fun _ z => z, haH, items, rfl, fun _ _ => rfl⟩, ?_⟩
  rintro k n σ' Hc ⟨rfl, hk, c1, c0, c2, c3, c4, c5⟩
  by_cases hlt : k < us.length
  · refine .inr ⟨⟨us, us[k], .of c2, List.getElem?_eq_getElem hlt⟩, fun σ2 H2 => k + 1 ≤ us.length ∧ (∀ a', A a' = false → H2 a' = H a') ∧ (∀ a', H a' ≠ none → H2 a' ≠ none) ∧ H2 a = some (.lst us) ∧ (∀ (l : Nat) (w : V), us[l]? = some w → ∃ b ws, w = .ref b ∧ A b = true ∧ b ≠ a ∧ H2 b = some (.lst ws) ∧ ws.length + x.length ≤ 16777216 + (k + 1)) ∧ σ2.length = σ.length ∧ (∀ l, l ∉ [j] → σ2[l]? = σ[l]?), fun σ2 H2 h => ⟨us.length - (k + 1), by omega, rfl, h⟩, fun w H2 hy => ?_⟩
    obtain ⟨rfl, hy⟩ := hy
    have ew := hy us (.of c2)
    obtain ⟨b, ws, rfl, ab, nba, hb, hwl⟩ := c3 k w ew
    refine ⟨.ref b, List.getElem?_set_self (by omega), .inl ⟨rfl, _, .of hb⟩, hc _ _ _ ?_⟩
    refine ⟨b, ws, .int c, rfl, rfl, hb, by omega, ?_⟩
    refine ⟨hlt, fun a' ha' => ?_, fun a' ha' => ?_, ?_, fun l w hw => ?_, by rw [List.length_set]; exact c4, fun l hl => ?_⟩
    · rw [upd_ne (fun z => by rw [z, ab] at ha'; cases ha')]
      exact c1 a' ha'
    · by_cases z : a' = b
      · subst z
        rw [upd_same]
        simp
      · rw [upd_ne z]
        exact c0 a' ha'
    · rw [upd_ne (Ne.symm nba)]
      exact c2
    · obtain ⟨b2, ws2, rfl, ab2, nb2, hb2, hl2⟩ := c3 l w hw
      by_cases z : b2 = b
      · subst z
        rw [hb] at hb2
        cases hb2
        exact ⟨b2, ws ++ [.int c], rfl, ab, nba, upd_same, by rw [List.length_append, List.length_singleton]; omega⟩
      · exact ⟨b2, ws2, rfl, ab2, nb2, by rw [upd_ne z]; exact hb2, by omega⟩
    · rw [List.getElem?_set_ne (fun z => hl (by rw [z]; exact List.mem_singleton_self _))]
      exact c5 l hl
  · have hke : k = us.length := by omega
    subst hke
    refine .inl ⟨⟨us, .of c2, Nat.le_refl _⟩, ?_⟩
    have ei : σ'[i]? = some (some (.ref a)) := by rw [c5 i (fun z => hij (List.mem_singleton.mp z))]; exact e1
    refine ⟨.ref a, ei, .inl ⟨rfl, _, .of c2⟩, (by show 1 ≤ sizeLine; omega), fun p hp => ?_⟩
    have hHp : H p = none := by
      cases hh : H p with
      | none => rfl
      | some o => exact absurd hp (c0 p (by rw [hh]; simp))
    have npa : a ≠ p := fun z => by rw [← z, c2] at hp; cases hp
    have c6 : upd Hc p (.lst [.int d]) a = some (.lst us) := by rw [upd_ne npa]; exact c2
    refine ⟨a, us, .ref p, rfl, rfl, c6, by omega, ?_⟩
    refine q C (upd H p (.lst [.int d])) _ σ' ⟨.refl _, same_upd hHp, I.sub.trans (same_upd hHp), fun _ _ z => z⟩ (fun a' ha' => ?_) c4 c5
    rw [upd_ne (fun z => by rw [z, aa] at ha'; cases ha')]
    by_cases z : a' = p
    · subst z
      rw [upd_same, upd_same]
    · rw [upd_ne z, upd_ne z]
      exact c1 a' ha'
/-! the statements' grouping -/
theorem er_grp {a t u w : TS} {o : Option R} (h : EvR K (tSeq a (tSeq (tSeq t u) w)) ρ m o) : EvR K (tSeq a (tSeq t (tSeq u w))) ρ m o := h
theorem er_grpM {a t u v w : TS} {o : Option R} (h : EvR K (tSeq a (tSeq t (tSeq (tSeq u v) w))) ρ m o) : EvR K (tSeq a (tSeq t (tSeq u (tSeq v w)))) ρ m o := h
end
section
variable {K : PySem.W.Frag} {ta tb : TE} {ρ : En} {m m1 m2 : Md} {α : Type} [Rp α] [DecidableEq α]
/-- in, for lists of data -/
def inG (x : α) (l : List α) : Bool := decide (x ∈ l)
theorem ev_inG' [EqR α] {ra : Option α} {rb : Option (List α)} (ha : EvE K ta ρ m1 ra) (hb : EvB K tb ρ m2 rb) (hz : EqR.dep (List α) ≤ 64 := by decide) : EvE K (tOp (rInD K) ta tb) ρ .new (ra.bind fun x => rb.bind fun y => some (inG x y)) := ev_inG ha hb hz
theorem ev_ninG' [EqR α] {ra : Option α} {rb : Option (List α)} (ha : EvE K ta ρ m1 ra) (hb : EvB K tb ρ m2 rb) (hz : EqR.dep (List α) ≤ 64 := by decide) : EvE K (tOp (rNotInD K) ta tb) ρ .new (ra.bind fun x => rb.bind fun y => some (!inG x y)) :=
  (ev_ninG ha hb hz).res (by
    cases ra <;> cases rb <;> simp [inG])
end
section
variable {K : PySem.W.Frag} {ta tb : TE} {ρ : En} {m m1 m2 : Md} {α β γ : Type} [Rp α] [Rp β] [Rp γ]
/-- len of a pair, of three -/
theorem ev_len2 {ra : Option (α × β)} (ha : EvE K ta ρ m ra) : EvE K (tCB (rLen K) (tCons ta tNil)) ρ .new (ra.bind fun _ => some (2 : Int)) := fun Ht C0 C H σ I z e Q q => by
  obtain ⟨x, ex, e⟩ := some_bind e
  cases e
  refine ha Ht C0 C H σ I x ex _ fun v C1 H1 x1 r1 => ?_
  obtain ⟨a, u, w, rfl, h1, _, _⟩ := rep_pair r1
  exact ⟨a, [u, w], rfl, .inr (.of (x1.s _ _ (part_le _ _ h1))), q _ C1 H1 x1 .ofInt⟩
theorem ev_len3 {ra : Option (T3 α β γ)} (ha : EvE K ta ρ m ra) : EvE K (tCB (rLen K) (tCons ta tNil)) ρ .new (ra.bind fun _ => some (3 : Int)) := fun Ht C0 C H σ I z e Q q => by
  obtain ⟨x, ex, e⟩ := some_bind e
  cases e
  refine ha Ht C0 C H σ I x ex _ fun v C1 H1 x1 r1 => ?_
  obtain ⟨a, u, w, y, rfl, h1, _, _, _⟩ := rep_t3 r1
  exact ⟨a, [u, w, y], rfl, .inr (.of (x1.s _ _ (part_le _ _ h1))), q _ C1 H1 x1 .ofInt⟩
end
end L2.DL

/-! DL13: sorted(set(xs)), xs a list of ints, any number of them -/
namespace L2.DL
open PySem PySem.Spec PyProof.Rows
/-- the set that is made empty -/
abbrev set0 (w : World) : Obj := { cls := .type "set", dict := none, data := .set #[] 0 (.fresh 0 0 (!w.params.followText "set-order")) }
section
variable {P : Program} {w : World} {A : Around} {E : Value → Shared → Prop} {s : Shared}
/-- what set(l) leaves -/
def Left (w : World) (s : Shared) (ns : List Int) (h' : Heap) (c : Nat) : Prop := SetR w h' s.heap.objs.size (fun j => decide (j ∈ ns)) c ∧ ∀ b o, s.heap.get? b = some o → h'.get? b = some o
theorem set_of_list {l : Addr} {its : Array Value} (ns : List Int) {Q : Value → Shared → Prop} (hh : A.handled = none) (hl : s.heap.IsList l its) (hi : IntsAre its.toList ns) (hb : ns.length + 1 < scanBound)
    (h : ∀ (h' : Heap) (tk c : Nat), Left w s ns h' c → Q (.ref s.heap.objs.size) { s with heap := h', toks := tk }) : wpAny (model P w) A (call (.type "set") [.ref l]) Q E s := by
  have hsz : its.size = ns.length := (Array.length_toList (xs := its)).symm.trans (IntsAre.length hi)
  have kk := F.called_set
  obtain ⟨c0, tl0, m0⟩ := kk.mro
  have k1 := kk.made
  have k2 := kk.sub
  have k3 := kk.notType
  have k4 := kk.canCreate
  have k5 := F.typeCall_set_1 (.ref l)
  refine wpAny_call (codeAny_of_tree ?_)
  show wpAny _ _ (callAny (.type "set") _) _ _ _
  refine wpAny_pure ⟨Code.quiet_builtin _ (by decide +kernel), codeAny_builtin F.entry_type_call ?_⟩
  rw [Around.under_plain (weight_type_call_type "set" [.ref l] []) rfl]
  repeat (any_goals (first | assumption | wp_step))
  refine codeAny_mono (code_set_led1 (.ref l) (E := E) (Q₁ := fun v t => v = .ref s.heap.objs.size ∧ t = { s with heap := s.heap.push (set0 w) }) ⟨rfl, rfl⟩) fun r t hr => ?_
  cases r with
  | error e => exact hr
  | ok f1 =>
    cases f1 with
    | ret v =>
      obtain ⟨rfl, rfl⟩ := hr
      have at0 : (s.heap.push (set0 w)).get? s.heap.objs.size = some (set0 w) := Heap.get?_push_size _ rfl
      have ty0 : Shared.TypeIs { s with heap := s.heap.push (set0 w) } (.ref s.heap.objs.size) "set" := ⟨_, at0, rfl⟩
      have k6 := kk.init.lookup
      have k7 := kk.init.bind (.ref s.heap.objs.size)
      repeat (any_goals (first | assumption | wp_step))
      refine codeAny_mono (codeAny_call_builtin (R := wants (fun v t => v = .none ∧ ∃ h' tk c, t = { s with heap := h', toks := tk } ∧ Left w s ns h' c) E) kk.init.plain F.entry_set_init (check_set_init_1 ty0 ?_)) fun r2 t2 hr2 => ?_
      · obtain ⟨o, ho, hc, n0, hd⟩ := hl
        obtain ⟨oc, od, oda, osl⟩ := o
        simp only at hc hd
        subst hc; subst hd
        have ho1 : (s.heap.push (set0 w)).get? l = some ⟨.type "list", od, .seq its n0, osl⟩ := Heap.get?_push_of_some _ ho
        have hl1 : (s.heap.push (set0 w)).IsList l its := ⟨_, ho1, rfl, n0, rfl⟩
        have q1 := F.sub_list_set
        have q2 := F.sub_list_frozenset
        have q3 : (Value.type "list" == Value.type "dict") = false := by decide
        unfold Builtin.«set.__init__» noKeywords Builtin.Frozenset.updateFrom
        generalize hG : pyIter = G
        wp_walk
        subst hG
        refine wpAny_pyIter_list hl1 (wpAny_bind (wpAny_runValue ?_))
        have ls : l < s.heap.objs.size := Heap.lt_size ho
        have hz : (s.heap.push (set0 w)).objs.size = s.heap.objs.size + 1 := Heap.size_push ..
        have nI : l ≠ (s.heap.push (set0 w)).objs.size := by rw [hz]; exact Nat.ne_of_lt (Nat.lt_succ_of_lt ls)
        have nS : s.heap.objs.size ∉ [(s.heap.push (set0 w)).objs.size, l] := by
          rw [hz]
          intro m
          rcases List.mem_cons.mp m with z | z
          · exact Nat.ne_of_lt (Nat.lt_succ_self _) z
          · exact Nat.ne_of_gt ls (List.mem_singleton.mp z)
        have hv : ∀ (i : Nat) (v : Value), its[i]? = some v → ∃ k t, ns[i]? = some k ∧ v = .int k t := fun i v e => by
          have il : i < ns.length := hsz ▸ (Array.getElem?_eq_some_iff.mp e).1
          obtain ⟨t, et⟩ := PyProof.Rows.IntsAre.int_at hi i v ((Array.getElem?_toList ..).trans e)
          refine ⟨ns[i], t, List.getElem?_eq_getElem il, ?_⟩
          rw [et, List.getD_eq_getElem?_getD, List.getElem?_eq_getElem il, Option.getD_some]
        have W := (Walks.list (prog := P) (w := w) (A := A.in1.in1.in1) (by simp [hh]) _ l nI its).toS
        refine set_update_ints W s.heap.objs.size nS ns hsz hb hv its.size 0 _ (by omega) (Nat.zero_le _) ⟨⟨_, Heap.get?_push_size _ rfl, rfl, rfl⟩, hl1.push _⟩ ⟨0, Nat.le_refl 0, setR_new_at (Heap.get?_push_of_some _ at0)⟩ fun t3 c3 mv _ R3 => ?_
        obtain ⟨h', g', d', tk', os'⟩ := t3
        have e1 : g' = s.gens := mv.gens
        have e2 : d' = s.drawn := mv.drawn
        have e3 : os' = s.os := mv.os
        subst e1; subst e2; subst e3
        show wpAny _ _ _ _ _ _
        refine wpAny_pure ?_
        show wpAny _ _ (ret Value.none) _ _ _
        refine wpAny_pure ⟨rfl, h', tk', c3, rfl, R3, fun b o e => mv.heap b o (fun m => ?_) (Heap.get?_push_of_some _ (Heap.get?_push_of_some _ e))⟩
        have bl : b < s.heap.objs.size := Heap.lt_size e
        rcases List.mem_cons.mp m with z | z
        · exact Nat.ne_of_lt bl z
        · have z2 := List.mem_singleton.mp z
          rw [hz] at z2
          exact Nat.ne_of_lt (Nat.lt_succ_of_lt bl) z2
      · cases r2 with
        | error e => exact hr2
        | ok f2 =>
          cases f2 with
          | ret v =>
            obtain ⟨rfl, h', tk, c, rfl, hL⟩ := hr2
            repeat (any_goals (first | assumption | wp_step))
            exact h _ _ _ hL
          | _ => exact hr2.elim
    | _ => exact hr.elim
/-- sorted of that set, however many its members -/
theorem sorted_of_set {a : Addr} {S : Int → Bool} {n : Nat} {Q : Value → Shared → Prop} (R : SetR w s.heap a S n) (hh : A.handled = none) (hz : n ≤ sizeLine)
    (hQ : ∀ s' p (out : Array Value) (c : Nat) (ns : List Int), (∀ b o, s.heap.get? b = some o → s'.heap.get? b = some o) → s'.gens = s.gens → s'.os = s.os → s.heap.objs.size ≤ p →
      s'.heap.get? p = some (seqObj "list" out c) → IntsAre out.toList ns → ns.Pairwise (· < ·) → (∀ k, k ∈ ns ↔ S k = true) → ns.length = n → Q (.ref p) s') :
    wpAny (model P w) A (call (.builtin "sorted") [.ref a]) Q E s := by
  obtain ⟨o, es, ep, t, ho, hx, hd, hg, nd, hm, hb, hf, hn, hr, hl⟩ := R
  refine Calls.call_function_entry kind_sorted plain_sorted entry_sorted (args_sorted1 _) ?_
  unfold Builtin.«sorted»
  refine wpAny_bind (m := checkCount "sorted" 1 1 _) (wpAny_pure (wpAny_bind (collect_set (A := A.in1) hh ⟨o, ho, hx.1, hd⟩ hf hb hr hl fun s1 vs k1 z1 g1 o1 pm => ?_)))
  have vl : vs.length = n := by rw [pm.length_eq, List.length_map, Array.length_toList]; exact hn
  have vi : IntsAre vs (vs.map Builtin.Re.reRawOf) := ints_of vs fun v hv => by
    obtain ⟨e, he, q⟩ := List.mem_map.mp (pm.mem_iff.mp hv)
    obtain ⟨k, tk, e1, _⟩ := hg e he
    exact ⟨k, tk, q ▸ e1⟩
  have pk : (vs.map Builtin.Re.reRawOf).Perm (es.toList.map keyOf) := by
    have q := pm.map Builtin.Re.reRawOf
    rwa [List.map_map] at q
  refine wpAny_bind (wpAny_newList ?_ (by rw [vl]; exact hz))
  have hL : (s1.heap.push (seqObj "list" vs.toArray 0)).get? s1.heap.objs.size = some (seqObj "list" vs.toArray 0) := Heap.get?_push_size _ rfl
  refine wpAny_bind (wpAny_holding (wpAny_call_entry slot_list_sort ⟨_, hL, rfl⟩ entry_list_sort (SrtO.list_sort_ord SrtO.swo_int hL (by rw [vl]; exact hz) (fun h2 => SrtO.ints_sortable vi h2) fun out a1 a2 => ⟨_, rfl, ?_⟩) (args_list_sort _)))
  obtain ⟨b1, b2, b3⟩ := SrtO.ints_out vi a1 a2
  obtain ⟨c, hc⟩ := sortedHeap_at (vs := vs) (out := out.toArray) hL
  have pn := b2.trans pk
  refine wpAny_pure ⟨_, rfl, hQ _ s1.heap.objs.size out.toArray c (out.map SrtO.iv) (fun b u e => ?_) g1 o1 z1 hc (by simpa using b1) (lt_of_le_nodup _ b3 (pn.nodup_iff.mpr nd)) (fun k => by rw [pn.mem_iff, ← hm k]) ?_⟩
  · have q := k1 b u e
    have lt := Heap.lt_size q
    show (sortedHeap (s1.heap.push (seqObj "list" vs.toArray 0)) s1.heap.objs.size vs out.toArray).get? b = some u
    rw [sortedHeap_old (Nat.ne_of_lt lt) (by rw [size_push']; exact Nat.lt_succ_of_lt lt)]
    exact Heap.get?_push_of_some _ q
  · rw [pn.length_eq, List.length_map, Array.length_toList]; exact hn
end
/-! ### by data -/
def tSortSet (K : PySem.W.Frag) (ta : TE) : TE := fun σ H Q => ta σ H fun x H1 => ∃ (l : Addr) (ns : List Int), x = .ref l ∧ SqL K H1 l (ns.map V.int) ∧ ns.length ≤ 4000 ∧
  ∀ (ms : List Int) (p : Addr), ms.Pairwise (· < ·) → (∀ k, k ∈ ms ↔ k ∈ ns) → H1 p = none → Q (.ref p) (upd H1 p (.lst (ms.map V.int)))
theorem pe_sortSet {X : Cx} (K : PySem.W.Frag) {a : Expr} {ta : TE} {p p2 q pos : Pos} (hg : Gl X "sorted") (hm : X.mg "sorted" = none) (hg2 : Gl X "set") (hm2 : X.mg "set" = none) (ha : PE X a ta) (hc : X.calm = true := by rfl)
    (na : starEach [a] X.env = (false, eval a X.env) :: starEach [] X.env := by rfl) (hK : X.K = K := by rfl) :
    PE X (.Call (.Name "sorted" p) [.Call (.Name "set" p2) [a] [] q] [] pos) (tSortSet K ta) := by
  subst hK
  refine ⟨fun pins st σ H Q J hq0 => Call_ (ld_blt J hg hm boot_sorted (callWith_builtin1 (args_cons
    (Call_ (ld_blt J hg2 hm2 boot_set (callWith_type1 (args_cons (thn (ha.run pins st σ H _ J hq0) fun v st1 ⟨x, H1, J1, rel, hq⟩ => args_nil ?_) na) na rfl))) rfl) rfl rfl))⟩
  obtain ⟨l, ns, rfl, hs, hl, fin⟩ := hq
  cases rel
  obtain ⟨its, rv, pl, hz⟩ := J1.list hs
  refine set_of_list ns (J1.ok.hd hc) pl.isList (by simpa using ints_of_vals rv) (by unfold scanBound; omega) fun hp tk c hL => args_nil ?_
  obtain ⟨hS, hk⟩ := hL
  have J2 : Inv X _ σ H1 { st1 with heap := hp, toks := tk } := J1.kept hk
  have hcl : c ≤ sizeLine := by
    obtain ⟨o, es, ep, t, _, _, _, _, nd, hm3, _, _, hn, _⟩ := id hS
    rw [← hn]
    have h1 : (es.toList.map keyOf).length ≤ ns.length := by
      have : ∀ (a b : List Int), a.Nodup → (∀ x ∈ a, x ∈ b) → a.length ≤ b.length := fun a => by
        induction a with
        | nil => intro b _ _; exact Nat.zero_le _
        | cons x a ih =>
          intro b h1 h2
          obtain ⟨n1, n2⟩ := List.nodup_cons.mp h1
          have hx := h2 x List.mem_cons_self
          have := ih (b.erase x) n2 fun y hy => (List.mem_erase_of_ne fun e => n1 (by rw [← e]; exact hy)).mpr (h2 y (List.mem_cons_of_mem _ hy))
          rw [List.length_erase_of_mem hx] at this
          have : 0 < b.length := List.length_pos_of_mem hx
          rw [List.length_cons]
          omega
      exact this _ _ nd fun x hx => by
        have := (hm3 x).mpr hx
        exact of_decide_eq_true this
    rw [List.length_map, Array.length_toList] at h1
    rw [sizeLine_eq]
    omega
  refine sorted_of_set hS (J2.ok.hd hc) hcl fun s' r out c2 ms k2 g2 o2 z2 hr hi hp2 hm3 hn => ?_
  have hlen : (ms.map V.int).length ≤ sizeLine := by rw [List.length_map, hn]; exact hcl
  have hfr : H1 r = none := J2.hok.fresh z2
  have J3 : Inv X _ σ (upd H1 r (.lst (ms.map V.int))) { ({ st1 with heap := hp, toks := tk } : Shared) with heap := s'.heap, gens := s'.gens, drawn := s'.drawn, toks := s'.toks } :=
    J2.call (ch := []) (Un.laid k2 z2 hfr) (J2.hok.laid k2 z2 ⟨hlen, out.toList, c2, vals_of_ints hi, hr⟩) (by rw [g2]; exact J2.bare) (fun _ z => nomatch z)
  have es : s' = { ({ st1 with heap := hp, toks := tk } : Shared) with heap := s'.heap, gens := s'.gens, drawn := s'.drawn, toks := s'.toks } := by
    obtain ⟨a1, a2, a3, a4, a5⟩ := s'
    cases o2
    rfl
  rw [es]
  exact ⟨.ref r, _, J3, rfl, fin ms r hp2 (fun k => by rw [hm3, decide_eq_true_eq]) hfr⟩
/-- sorted, each once -/
def sortS (xs : List Int) : List Int := sortI (met xs)
def sortSetL (xs : List Int) : Option (List Int) := if xs.length ≤ 4000 then some (sortS xs) else none
/-! unlike numbers -/
theorem step_mem {σ : List Int} {v k : Int} : k ∈ step_dedup σ v ↔ k ∈ σ ∨ k = v := by
  unfold step_dedup
  split
  · rename_i h
    obtain ⟨y, hy, e⟩ := List.any_eq_true.mp h
    have := eq_of_beq e
    subst this
    exact ⟨.inl, fun h => h.elim id fun h => h ▸ hy⟩
  · rw [List.mem_append, List.mem_singleton]
theorem step_nd {σ : List Int} {v : Int} (h : σ.Nodup) : (step_dedup σ v).Nodup := by
  unfold step_dedup
  split
  · exact h
  · rename_i q
    rw [List.nodup_append]
    refine ⟨h, by simp, fun a ha b hb e => q ?_⟩
    rw [List.mem_singleton.mp hb] at e
    exact List.any_eq_true.mpr ⟨a, ha, by rw [e]; exact beq_self_eq_true v⟩
theorem met_from : ∀ (l σ : List Int), σ.Nodup → (l.foldl step_dedup σ).Nodup ∧ ∀ k, k ∈ l.foldl step_dedup σ ↔ k ∈ σ ∨ k ∈ l
  | [], σ, h => ⟨h, fun k => by simp⟩
  | x :: l, σ, h => by
    obtain ⟨h1, h2⟩ := met_from l (step_dedup σ x) (step_nd h)
    refine ⟨h1, fun k => ?_⟩
    rw [List.foldl_cons, h2, step_mem, List.mem_cons, or_assoc]
theorem met_spec (l : List Int) : (met l).Nodup ∧ ∀ k, k ∈ met l ↔ k ∈ l := by
  obtain ⟨h1, h2⟩ := met_from l [] List.nodup_nil
  exact ⟨h1, fun k => by rw [met, h2]; simp⟩
theorem sortS_eq {xs ms : List Int} (h1 : ms.Pairwise (· < ·)) (h2 : ∀ k, k ∈ ms ↔ k ∈ xs) : ms = sortS xs := by
  obtain ⟨m1, m2⟩ := met_spec xs
  refine sortI_uniq ((List.perm_ext_iff_of_nodup (h1.imp fun h => by omega) m1).mpr fun k => by rw [h2, m2]) (h1.imp fun h => by omega)
theorem sortS_spec (xs : List Int) : (sortS xs).Pairwise (· < ·) ∧ ∀ k, k ∈ sortS xs ↔ k ∈ xs := by
  obtain ⟨m1, m2⟩ := met_spec xs
  have p := sortI_perm (met xs)
  refine ⟨?_, fun k => by rw [← m2]; exact p.mem_iff⟩
  have h := (sortI_pw (met xs)).and (p.nodup_iff.mpr m1)
  exact h.imp fun ⟨a, b⟩ => by omega
section
variable {K : PySem.W.Frag} {ta : TE} {ρ : En} {m : Md} {α : Type} [Rp α]
theorem ev_sortSetL {ra : Option (List Int)} (ha : EvB K ta ρ m ra) : EvL K (tSortSet K ta) ρ .new (ra.bind sortSetL) := fun Ht C0 C H σ I z e Q q => by
  obtain ⟨x, ex, e⟩ := some_bind e
  unfold sortSetL at e
  obtain ⟨hl, rfl⟩ := some_if e
  refine ha Ht C0 C H σ I x ex _ fun a vs C1 H1 x1 h1 r1 => ?_
  rw [r1.ints_eq] at h1
  refine ⟨a, x, rfl, .of h1, hl, fun ms p hp hm hf => ?_⟩
  refine new_list x1 hf ?_ q
  rw [← sortS_eq hp hm]
  have : ∀ (H : Hp) (l : List Int), RepL K H (rps l) (l.map V.int) := fun H l => by
    induction l with
    | nil => exact .nil
    | cons y l ih => exact .cons .ofInt ih
  exact this _ ms
/-- a list in which no none is left -/
theorem EvB.all {r : Option (List (Option α))} (h : EvB K ta ρ m r) : EvB K ta ρ m (r.bind fun l => mapO (fun x => x) l) := fun Ht C0 C H σ I xs e Q q => by
  obtain ⟨l, el, e⟩ := some_bind e
  refine h Ht C0 C H σ I l el Q fun a vs C' H' x h1 r1 => q a vs C' H' x h1 ?_
  have : ∀ (l : List (Option α)) (xs : List α), mapO (fun x => x) l = some xs → rps l = rps xs := fun l => by
    induction l with
    | nil => intro xs e; cases e; rfl
    | cons y l ih =>
      intro xs e
      obtain ⟨z, ez, e⟩ := some_bind e
      obtain ⟨zs, es, e⟩ := some_bind e
      cases e
      have hy : y = some z := ez
      rw [hy]
      show rp (some z) :: rps l = rp z :: rps zs
      rw [ih zs es]
      rfl
  rw [← this l xs e]
  exact r1
variable {β γ δ ε : Type} [Rp β] [Rp γ] [Rp δ] [Rp ε]
def fstU (z : (α × β) ⊕ (T4 α γ δ ε)) : α := match z with | .inl p => p.1 | .inr p => p.p
/-- the first item of one of two kinds of tuples -/
theorem ev_fstU {ra : Option ((α × β) ⊕ (T4 α γ δ ε))} (ha : EvE K ta ρ m ra) : EvE K (tOp (rIxT K) ta (tC (.int 0))) ρ m (ra.map fstU) := fun Ht C0 C H σ I z e Q q => by
  obtain ⟨x, ex, rfl⟩ := some_map e
  refine ha Ht C0 C H σ I x ex _ fun v C1 H1 x1 r1 => ?_
  cases x with
  | inl p =>
    obtain ⟨a, u, w, rfl, h1, h2, _⟩ := rep_pair (p := p) r1
    exact ⟨a, [u, w], 0, u, rfl, rfl, .of (x1.s _ _ (part_le _ _ h1)), rfl, q u C1 H1 x1 h2⟩
  | inr p =>
    obtain ⟨a, u, w, y, z, rfl, h1, h2, _, _, _⟩ := rep_t4 (p := p) r1
    exact ⟨a, [u, w, y, z], 0, u, rfl, rfl, .of (x1.s _ _ (part_le _ _ h1)), rfl, q u C1 H1 x1 h2⟩
end
end L2.DL

/-! DL14: repr(x) of a list or a tuple. A def that shows is promised only where no object is being shown (A.guards = some []):
FnOkG, with okG, pe_callG, walk_ofG in place of the library's Fun.ok, pe_call, walk_of (their proofs, turned to the one premise more). -/
namespace L2.DL
open PySem PySem.Spec PyProof.Rows
structure FnOkG (P : Program) (w : World) (K : PySem.W.Frag) (mg : Str → Option Value) (base : Heap) (k : Nat) (f : Addr) (fd : FuncData) (ps : List Str) (sp : Sp) : Prop where
  len : ∀ vs H Q E, sp vs H Q E → vs.length = ps.length
  run : ∀ (A : Around) (outer : List Env) (s : Shared) (H : Hp) (args : Args) (us : List Value) (vs : List V) (Q : VK) (E : XK), A.guards = some [] → Room k A → Env0 P w K mg base A outer s H → BindsTo s fd args (ps.zip us) → Vals vs us → sp vs H Q E →
    codeAny (model P w) A (.call (.ref f) args) (CR CX0 outer P w H s Q E) s
theorem okG {P : Program} {w : World} {K : PySem.W.Frag} {mg : Str → Option Value} {base : Heap} {x qual : Str} {st : Stmt} {f : Addr} {fd : FuncData} {N ps : List Str} {k : Nat} {sp : Sp} (F : Fun K x qual st f fd) (S : FnScope N ps (defScope st)) (len : ∀ vs H Q E, sp vs H Q E → vs.length = ps.length)
    (hbody : ∀ (cdv : Value) (A : Around) (outer : List Env) (s : Shared) (H : Hp) (vs : List V) (Q : VK) (E : XK), A.guards = some [] → Room k (A.deeper (envOfC qual (defScope st) s.heap.objs.size f cdv)) → sp vs H Q E →
      ∃ t, PSs (cxOf CX0 P w K mg base N qual (defScope st) f cdv A outer s H E).nox (defBody st) t ∧ t { nx := fun _ H' => Q .non H', rt := Q } (start N vs) H) : FnOkG P w K mg base (k + 1) f fd ps sp := by
  obtain ⟨oc, od, kV, doc, pm, an, cdv, ct, osl, rfl, lk, hcd⟩ := F.ex
  refine ⟨len, fun A outer s H args us vs Q E hG hr e0 hb r hsp => ?_⟩
  have hl := len _ _ _ _ hsp
  have KX : K.In s.heap := e0.mod.kin.keeps fun b o e => (e0.bs b o e).1
  have hkind : ∀ y ∈ ps.zip us, (defScope st).names.lookup y.1 = some .local ∨ ((defScope st).names.lookup y.1 = some .cell ∧ ((cellsFrom (s.heap.objs.size + 1) (defScope st).names []).lookup y.1).isSome = true) := fun ⟨n, v⟩ hy =>
    (S.par n (List.of_mem_zip hy).1).imp id fun q => ⟨q, PySem.W.cellsFrom_some _ _ _ (.inl q)⟩
  refine codeAny_call_function hr.depth (KX _ _ lk) rfl S.co S.gen rfl (PySem.W.codeRec_of KX hcd) (hb _ _ _ _ ?_)
  refine wpAny_newFunctionEnv_cells S.kind hkind fun env he s1 x => ?_
  subst he
  refine ⟨(e0.mod.nolimit.keeps fun b o e => (e0.bs b o e).1).keeps x.toInCall.keep, codeAny_func ?_⟩
  obtain ⟨t, ht0, hq⟩ := hbody cdv A outer s H vs Q E hG (hr.deeper _) hsp
  have ht := ht0.nox
  refine wpAny_mono (ht.run [] s1 (start N vs) H _ (inv_start S hr.hd e0 hl r x) hq) (fun fl s' hs => ?_) fun e s' hs => hs
  cases fl with
  | ret u =>
    obtain ⟨v, σ', H', J, rv, q⟩ := hs
    exact ⟨v, H', J.os, J.bare, J.base, J.hok, rv, q⟩
  | next =>
    obtain ⟨σ', H', J, q⟩ := hs
    exact ⟨V.non, H', J.os, J.bare, J.base, J.hok, rfl, q⟩
  | brk =>
    obtain ⟨_, _, _, q⟩ := hs
    exact q.elim
  | cont =>
    obtain ⟨_, _, _, q⟩ := hs
    exact q.elim
section
variable {X : Cx} {k : Nat} {f : Addr} {fd : FuncData} {ps : List Str} {sp : Sp} {dvs : List V} {ds : List Value} {E : XK} {x : Str} {p pos : Pos} {e : Expr} {es : List Expr} {t : TA}
theorem pe_callG (F : FnOkG X.prog X.w X.K X.mg X.base k f fd ps sp) (hG : X.A.guards = some []) (hr : Room k X.A) (hg : Gl X x) (hm : X.mg x = some (.ref f)) (hk : PySem.W.keepIn X.K (.ref f) = true) (hb : Binds X.K fd ps ds) (hd : Vals dvs ds) (hx : Passes CX0 X E)
    (ha : PA X (e :: es) t) (hdb : (x == ("__debug__" : Str)) = false := by decide) (he : starEach (e :: es) X.env = (false, eval e X.env) :: starEach es X.env := by rfl) (hpl : (backTo pos (starEach es X.env)).any (·.1) = false := by rfl) :
    PE X (.Call (.Name x p) (e :: es) [] pos) (tCall sp dvs E t) := by
  refine ⟨fun pins s σ H Q I h => wpAny_Call_Name_kw (ld_glob I hg hm ?_ hdb)⟩
  refine PySem.W.callWith_K (h₀ := X.base) I.ok.mod.kin hk (thn (ha.run pos pins s σ H _ I h) fun us s1 ⟨vs, H1, I1, r, q⟩ => ⟨I1.kIn, ?_⟩) he hpl
  have r2 : Vals (vs ++ dvs) (us ++ ds) := r.append hd
  have hl : (us ++ ds).length = ps.length := by rw [← r2.length]; exact F.len _ _ _ _ q
  refine wpAny_call (codeAny_mono (F.run X.A X.stack s1 H1 ⟨us, []⟩ (us ++ ds) (vs ++ dvs) Q E hG hr I1.env0 (hb s1 us I1.kIn hl) r2 q) fun r s' hq => ?_)
  cases r with
  | error e => exact hx pins σ H1 s1 e s' I1 hq
  | ok fl =>
    cases fl with
    | ret u => exact I1.after hq
    | next => exact False.elim hq
    | brk => exact False.elim hq
    | cont => exact False.elim hq
end
/-! ### repr -/
/-- what repr shows of data -/
def reprD (x : Dt) : Option Str := if (toPy x).showable = true ∧ (toPy x).hasDict = false ∧ (toPy x).depth ≤ 60 ∧ (toPy x).shown.length ≤ sizeLine then some (toPy x).shown else none
def rRepr (K : PySem.W.Frag) : List V → Hp → VK → Prop := fun xs H Q => ∃ a d, xs = [.ref a] ∧ Dp K H (.ref a) d ∧ d.showable = true ∧ d.hasDict = false ∧ d.depth ≤ 60 ∧ d.shown.length ≤ sizeLine ∧ Q (.str d.shown) H
theorem call_reprG {X : Cx} (hG : X.A.guards = some []) (hu : X.A.units + 64 < cLine) : CallR X (.builtin "repr") (rRepr X.K) := by
  intro pins s σ H xs us Q I r h
  obtain ⟨a, d, rfl, hd, h1, h2, h3, h4, q⟩ := h
  obtain rfl := Vals.ref1 r
  obtain ⟨as, r1⟩ := Dp.reads I d (.ref a) (.ref a) hd rfl
  exact repr_of_reads' r1 h1 (PyData.noDict_hsm h2) hG (by omega) (fun _ _ e => e) (fun h' u tk hk => ⟨.str d.shown, H, I.kept hk, ⟨u, rfl⟩, q⟩) h4
section
variable {K : PySem.W.Frag} {ta : TE} {ρ : En} {m : Md} {α : Type} [Rp α]
theorem ev_reprB {ra : Option (List α)} (ha : EvB K ta ρ m ra) : EvE K (tCB (rRepr K) (tCons ta tNil)) ρ .new (ra.bind fun x => reprD (rp x)) := fun Ht C0 C H σ I z e Q q => by
  obtain ⟨x, ex, e⟩ := some_bind e
  unfold reprD at e
  obtain ⟨⟨k1, k2, k3, k4⟩, rfl⟩ := some_if e
  refine ha Ht C0 C H σ I x ex _ fun a vs C1 H1 x1 h1 r1 => ?_
  have d1 : Dp K H1 (.ref a) (toPy (rp x)) := by
    refine rep_dp _ _ ?_
    simp only [rp, Rp.rp, Rep]
    exact ⟨a, vs, rfl, h1, r1.mono (part_le.trans x1.s)⟩
  exact ⟨a, _, rfl, d1, k1, k2, k3, k4, q _ C1 H1 x1 .ofStr⟩
end
/-! ### the end: where the claim's caller calls, nothing is being shown -/
theorem law_callG {P : Program} {w : World} {K : PySem.W.Frag} {mg mb : Str → Option Value} {k : Nat} {fa a : Addr} {fd : FuncData} {x : Str} {sp : Sp} {s₁ : Shared} {vs : List Value} {ns : List Int}
    (KX : K.In s₁.heap) (hns : s₁.heap.Ns mainGlobals mg) (hb : s₁.heap.Ns builtinsNs mb) (hbb : ∀ x : Str, x ≠ "__name__" → mb x = bootBuiltins x) (hlim : s₁.heap.NoLimit) (hg : s₁.gens = #[])
    (ha : s₁.heap.get? a = some { cls := .type "list", data := .seq vs.toArray }) (hi : IntsAre vs ns) (hl : ns.length ≤ sizeLine) (hr : Room k callerA)
    (F : ∀ base : Heap, K.In base → base.Ns mainGlobals mg → FnOkG P w K mg base k fa fd [x] sp) (hbind : ∀ (s : Shared) (u : Value), BindsTo s fd ⟨[u], []⟩ [(x, u)])
    (hsp : ∀ H : Hp, Only H → SqL K H a (ns.map V.int) → sp [.ref a] H (fun v _ => v = .bl true) fun _ _ _ => False) :
    codeAny (model P w) callerA (.call (.ref fa) ⟨[.ref a], []⟩) (fun r s' => r = .ok (.ret (.bool true)) ∧ OldK s₁.heap s'.heap ∧ s'.os = s₁.os ∧ AllBare s'.gens) s₁ := by
  have rv := vals_ints hi
  have lenV := hi.length
  have core : ∀ H : Hp, Only H → SqL K H a (ns.map V.int) → HOk P w H s₁.heap → (∀ b, H b ≠ none → b = a ∧ K.lookup a = none) →
      codeAny (model P w) callerA (.call (.ref fa) ⟨[.ref a], []⟩) (fun r s' => r = .ok (.ret (.bool true)) ∧ OldK s₁.heap s'.heap ∧ s'.os = s₁.os ∧ AllBare s'.gens) s₁ := by
    intro H hO hS hok hA
    have free : ∀ b, b ≠ a → H b = none := fun b n => Classical.byContradiction fun z => n (hA b z).1
    have keep : ∀ {b : Addr} {o : Obj}, s₁.heap.get? b = some o → b ≠ a → (hidT s₁.heap H).get? b = some o := fun e n => hidT_get e (free _ n)
    have nsK : ∀ {b : Addr} {m : Str → Option Value}, s₁.heap.Ns b m → (hidT s₁.heap H).Ns b m := fun {b m} ⟨o, es, ep, e, d, r⟩ => ⟨o, es, ep, keep e (fun z => by
      rw [z, ha] at e
      cases e
      cases (show Data.seq vs.toArray _ = Data.dict es ep from d)), d, r⟩
    have hKb : K.In (hidT s₁.heap H) := fun b o e => by
      by_cases n : H b = none
      · exact hidT_get (KX b o e) n
      · obtain ⟨rfl, z⟩ := hA b n
        rw [z] at e
        cases e
    have hM : Mod K mg (hidT s₁.heap H) := ⟨hKb, nsK hns, ⟨mb, nsK hb, hbb⟩, let ⟨mc, h1, h2⟩ := hlim; ⟨mc, nsK h1, h2⟩⟩
    have no : ∀ {b : Addr}, b ∉ frs ([] : List Env) := fun z => nomatch (show _ ∈ ([] : List Addr) from z)
    have e0 : Env0 P w K mg (hidT s₁.heap H) callerA [] s₁ H := ⟨rfl, hM, fun b o e => of_hidT e, Nat.le_of_eq (hidT_size _ _), trivial, fun b hb => (no hb).elim, hok, .of_eq hg⟩
    refine codeAny_mono ((F _ hKb (nsK hns)).run callerA [] s₁ H ⟨[.ref a], []⟩ [.ref a] [.ref a] _ _ rfl hr e0 (hbind s₁ (.ref a)) (.cons rfl .nil) (hsp H hO hS)) fun r s' h => ?_
    cases r with
    | error e => exact False.elim h
    | ok fl =>
      cases fl with
      | next => exact False.elim h
      | brk => exact False.elim h
      | cont => exact False.elim h
      | ret u =>
        obtain ⟨v, H', os, bare, un, hok', r', q⟩ := h
        subst q
        obtain rfl : u = Value.bool true := r'
        refine ⟨rfl, OldK.of_keep fun b o e => ?_, os, bare⟩
        rcases hO b with z | ⟨ob, xs, z⟩
        · exact un.keep b o e z no (fun z => nomatch z)
        · obtain ⟨e1, _⟩ := hok b _ z
          obtain ⟨e2, _⟩ := hok' b _ (un.frzs b ob _ z)
          rw [e] at e1
          cases e1
          exact e2
  cases hk : K.lookup a with
  | some o =>
    have e := KX a o hk
    rw [ha] at e
    cases e
    exact core (fun _ => none) (fun _ => .inl rfl) (.inr ⟨_, vs.toArray, _, hk, rfl, rfl, rfl, by rw [List.size_toArray, lenV]; exact hl, by simpa using rv⟩) (fun b u z => nomatch z) fun b z => absurd rfl z
  | none =>
    refine core (fun b => if b = a then some (.frz { cls := .type "list", data := .seq vs.toArray } (.lst (ns.map V.int))) else none) (fun b => ?_) (.inl (.inr ⟨{ cls := .type "list", data := .seq vs.toArray }, if_pos rfl⟩)) (fun b u z => ?_) fun b z => ⟨Classical.byContradiction fun n => z (if_neg n), hk⟩
    · by_cases n : b = a
      · exact .inr ⟨_, _, if_pos n⟩
      · exact .inl (if_neg n)
    · by_cases n : b = a
      · subst n
        cases (if_pos rfl).symm.trans z
        exact ⟨ha, by rw [List.length_map]; exact hl, vs, _, rv, ha⟩
      · cases (if_neg n).symm.trans z
theorem walk_ofG {l : PySem.W.OpenLaw} {n k : Nat} {q : Program} {loose : List Str} {XP : (Str → Option Value) → Heap → Prop} {YP : World → Heap → Prop} {d : DefRec} {K : Params → PySem.W.Frag} {sp : World → Sp} {x : Str}
    (hn : l.most = some n) (hn2 : n ≤ sizeLine) (hdf : d.params.defaults = []) (hr : Room k callerA)
    (hY : ∀ (w : World) (h : Heap), YP w h → (K w.params).In h)
    (F : ∀ (w : World) (mg : Str → Option Value) (fa : Addr) (h : Heap), (K w.params).In h → h.Ns mainGlobals mg → mg d.name = some (.ref fa) →
      ∃ fd : FuncData, (∀ (s : Shared) (u : Value), BindsTo s fd ⟨[u], []⟩ [(x, u)]) ∧
        ∀ base : Heap, (K w.params).In base → base.Ns mainGlobals mg → FnOkG l.prog w (K w.params) mg base k fa fd [x] (sp w))
    (hsp : ∀ (w : World) (H : Hp) (a : Addr) (ns : List Int), ns.length ≤ n → Only H → SqL (K w.params) H a (ns.map V.int) → sp w [.ref a] H (fun v _ => v = .bl true) fun _ _ _ => False) :
    PySem.W.WalkO q loose XP YP l.row.toRowW d [] (fun f vs => PySem.call f vs) := by
  refine Att.attach_call hn hdf fun w s₀ s₁ mg mb fa o pm cd doc a vs ns G Y ho hd hcd hmg hobj hints hlen hg => ?_
  have KX := hY w _ Y
  obtain ⟨fd, hb, hF⟩ := F w mg fa _ KX G.T.g hmg
  exact law_callG KX G.T.g G.T.b G.T.builtins G.T.nolimit hg hobj hints (Nat.le_trans hlen hn2) hr hF hb fun H hO hS => hsp w H a ns hlen hO hS
end L2.DL

/-! DL15: data of any kind, read as what a test has shown it to be -/
namespace L2.DL
open PySem PySem.Spec PyProof.Rows
class Un (α : Type) [Rp α] where
  rd : Dt → Option α
  ok : ∀ d x, rd d = some x → d = rp x
abbrev un {α : Type} [Rp α] [Un α] : Dt → Option α := Un.rd
instance : Un Dt := ⟨some, fun d x e => by cases e; rfl⟩
instance : Un Int := ⟨fun d => match d with | .int i => some i | _ => none, fun d x e => by
  cases d <;> simp at e
  subst e
  rfl⟩
def unL {α : Type} (f : Dt → Option α) : List Dt → Option (List α)
  | [] => some []
  | d :: l => (f d).bind fun x => (unL f l).bind fun xs => some (x :: xs)
theorem unL_ok {α : Type} [Rp α] {f : Dt → Option α} (h : ∀ d x, f d = some x → d = rp x) : ∀ {l : List Dt} {xs : List α}, unL f l = some xs → l = xs.map rp
  | [], xs, e => by cases e; rfl
  | d :: l, xs, e => by
    unfold unL at e
    obtain ⟨x, ex, e⟩ := some_bind e
    obtain ⟨ys, ey, e⟩ := some_bind e
    cases e
    rw [h d x ex, unL_ok h ey]
    rfl
instance {α : Type} [Rp α] [Un α] : Un (List α) := ⟨fun d => match d with | .lst l => unL un l | _ => none, fun d x e => by
  cases d with
  | lst l =>
    have e : unL un l = some x := e
    rw [unL_ok Un.ok e]
    rfl
  | _ => cases e⟩
section
variable {K : PySem.W.Frag} {ta : TE} {ρ : En} {m : Md} {α : Type} [Rp α] [Un α]
theorem ev_unD {r : Option Dt} (h : EvE K ta ρ m r) : EvE K ta ρ m (r.bind (un : Dt → Option α)) := fun Ht C0 C H σ I x e Q q => by
  obtain ⟨d, ed, e⟩ := some_bind e
  have hd := Un.ok d x e
  refine h Ht C0 C H σ I d ed Q fun v C' H' z rv => q v C' H' z ?_
  rw [← hd]
  exact rv
omit [Un α] in
theorem ev_tupX {t : TA} {n : Nat} {r : Option (List α)} (h : EvXs K t ρ m n r) (hn : n ≤ 1000 := by decide) : EvE K (tTup t) ρ m (r.map TupL.mk) := fun Ht C0 C H σ I z e Q q => by
  obtain ⟨xs, e2, rfl⟩ := some_map e
  refine h.1 Ht C0 C H σ I (rps xs) (by rw [e2]; rfl) _ fun vs C1 H1 x1 r1 => ⟨?_, fun p hp => ?_⟩
  · rw [r1.length, List.length_map, h.2 xs e2]
    exact Nat.le_trans hn (by decide)
  · refine q (.ref p) (upd C1 p (.tup vs)) _ (new_clean x1 hp) ?_
    simp only [rp, Rp.rp, Rep]
    exact ⟨p, vs, rfl, part_at upd_same (free_of (I.ext.h.trans x1.h) hp), r1.mono (part_mono (same_upd (free_of x1.s hp)))⟩
omit [Un α] in
theorem rp_lst (l : List α) : rp (l.map fun z => (rp z : Dt)) = rp l := by
  show Dt.lst ((l.map fun z => (rp z : Dt)).map rp) = Dt.lst (l.map rp)
  rw [List.map_map]
  rfl
end
section
variable {K : PySem.W.Frag} {ta : TE} {ρ : En} {m : Md}
/-- str(i) -/
def strI (i : Int) : Option Str := if i.natAbs.log2 < 1920 then some (toString i : String) else none
theorem ev_strI {ra : Option Int} (ha : EvE K ta ρ m ra) : EvE K (tCB (fun xs H Q => ∃ i : Int, xs = [.int i] ∧ i.natAbs.log2 < 1920 ∧ Q (.str (toString i : String)) H) (tCons ta tNil)) ρ .new (ra.bind strI) := fun Ht C0 C H σ I z e Q q => by
  obtain ⟨x, ex, e⟩ := some_bind e
  unfold strI at e
  obtain ⟨h1, rfl⟩ := some_if e
  refine ha Ht C0 C H σ I x ex _ fun v C1 H1 x1 r1 => ?_
  simp only [rp, Rp.rp, Rep] at r1
  subst r1
  exact ⟨x, rfl, h1, q _ C1 H1 x1 .ofStr⟩
end
end L2.DL

/-! DL16: texts -/
namespace L2
open PySem PySem.Spec PyProof.Rows
/-! ### a text backward -/
def revS (z : Str) : Str := ⟨(TL.tl z).reverse.toArray⟩
theorem picked_rev (z : Str) : (PySem.Builtin.Str.strSliceIndices none none (-1) z.length).filterMap (z.cps[·]?) = (TL.tl z).reverse := by
  have e : PySem.Builtin.Str.strSliceIndices none none (-1) z.length = PySem.sliceRange ((z.length : Int) - 1) (-1) (-1) := rfl
  rw [e, PySem.W.krv_sliceRange, PySem.W.krv_range, List.filterMap_reverse]
  have h := PySem.W.krv_all z.cps
  rw [show z.length = z.cps.size from rfl, h]
def tRevS (te : TE) : TE := fun σ H Q => te σ H fun x H1 => ∃ z, x = .str z ∧ z.length ≤ sizeLine ∧ Q (.str (revS z)) H1
theorem pe_revS {X : Cx} {e : Expr} {te : TE} {k : Nat} {p1 p2 p3 pos : Pos} (he : PE X e te) : PE X (.Subscript e (.Slice none none (some (.UnaryOp .USub (.Constant (.int 1) k p1) p2)) p3) pos) (tRevS te) := by
  refine ⟨fun pins s σ H Q I h => ?_⟩
  refine Subscript_ (thn (he.run pins s σ H _ I h) fun v s1 ⟨x, H1, I1, r1, q1⟩ => ?_)
  obtain ⟨z, ex, hz, q⟩ := q1
  subst ex
  obtain ⟨t, rfl⟩ := r1
  have hst : PO X (some (.UnaryOp .USub (.Constant (.int 1) k p1) p2)) (tPart (tUn (rU fun i => .int (-i)) (tC (.int 1)))) := po_some (pe_un un_neg pe_int)
  refine wpAny_Slice (thn (po_none.run pins s1 σ H1 (fun o H2 => o = none ∧ H2 = H1) I1 ⟨rfl, rfl⟩) fun vl s2 ⟨l, H2, I2, pl, el, e2⟩ => ?_)
  subst el e2
  refine thn (po_none.run pins s2 σ H2 (fun o H3 => o = none ∧ H3 = H2) I2 ⟨rfl, rfl⟩) fun vu s3 ⟨u, H3, I3, pu, eu, e3⟩ => ?_
  subst eu e3
  refine thn (hst.run pins s3 σ H3 (fun o H4 => o = some (-1) ∧ H4 = H3) I3 ⟨1, rfl, -1, rfl, rfl, rfl⟩) fun vs s4 ⟨o, H4, I4, ps, eo, e4⟩ => ?_
  subst eo e4
  cases pl
  cases pu
  cases ps with
  | int _ wt =>
    have I5 : Inv X pins σ H4 { s4 with heap := s4.heap.push { cls := .type "slice", data := .fields #[.none, .none, .int (-1) wt] } } := I4.kept (t' := s4.toks) fun b ob q => Heap.get?_push_of_some _ q
    show wpAny (model X.prog X.w) X.A (subscriptTail e (.Slice none none (some (.UnaryOp .USub (.Constant (.int 1) k p1) p2)) p3) (.str z t) (.ref s4.heap.objs.size)) (EP X pins σ Q) X.xe { s4 with heap := s4.heap.push { cls := .type "slice", data := .fields #[.none, .none, .int (-1) wt] } }
    refine tail_any (ops := [.str z t, .ref s4.heap.objs.size]) (typeIs_str _ z t) (PySem.F.slot_str_getitem.lookup) ?_ (by with_unfolding_all rfl)
    refine PySem.wpAny_getItem_str_slice (l := none) (u := none) (st := some (-1, wt)) ⟨_, Heap.get?_push_size _ rfl, rfl, rfl⟩ rfl ?_
    have e1 : (PySem.slicePicked z none none (some (-1, wt))).filterMap (z.cps[·]?) = (TL.tl z).reverse := picked_rev z
    show Made.post (.str ⟨((PySem.slicePicked z none none (some (-1, wt))).filterMap (z.cps[·]?)).toArray⟩) _ _
    rw [e1]
    refine ⟨?_, .str _, H4, I5.tok _, ⟨_, rfl⟩, q⟩
    show (TL.tl z).reverse.toArray.size ≤ sizeLine
    rw [List.size_toArray, List.length_reverse, ← TL.len_tl]
    exact hz
end L2
namespace L2.DL
open PySem PySem.Spec PyProof.Rows
section
variable {K : PySem.W.Frag} {ta tb : TE} {ρ : En} {m m1 m2 : Md}
/-! ### texts by data -/
@[irreducible] def lenS (z : Str) : Option Int := if z.length ≤ 16777216 then some (z.length : Int) else none
@[irreducible] def atS (z : Str) (i : Int) : Option Str := if z.length ≤ 16777216 then (atI (TL.tl z) i).map fun c => (⟨#[c]⟩ : Str) else none
@[irreducible] def cutSP (z : Str) (lo hi : Option Int) : Option Str := if z.length ≤ 16777216 then some (cutS z lo hi) else none
@[irreducible] def revSP (z : Str) : Option Str := if z.length ≤ 16777216 then some (revS z) else none
@[irreducible] def addS (x y : Str) : Option Str := if x.length + y.length ≤ 16777216 then some (x ++ y) else none
@[irreducible] def upS (x : Str) : Option Str := if x.length ≤ 5592405 then some (Txt.upper x) else none
@[irreducible] def joinS (x : Str) (ys : List Str) : Option Str := if (ys.map (·.length)).sum + ys.length * x.length ≤ 16777216 then some (Txt.join x ys) else none
theorem lenS_def (z : Str) : lenS z = if z.length ≤ 16777216 then some (z.length : Int) else none := by unfold lenS; rfl
theorem atS_def (z : Str) (i : Int) : atS z i = if z.length ≤ 16777216 then (atI (TL.tl z) i).map fun c => (⟨#[c]⟩ : Str) else none := by unfold atS; rfl
theorem cutSP_def (z : Str) (lo hi : Option Int) : cutSP z lo hi = if z.length ≤ 16777216 then some (cutS z lo hi) else none := by unfold cutSP; rfl
theorem revSP_def (z : Str) : revSP z = if z.length ≤ 16777216 then some (revS z) else none := by unfold revSP; rfl
theorem addS_def (x y : Str) : addS x y = if x.length + y.length ≤ 16777216 then some (x ++ y) else none := by unfold addS; rfl
theorem upS_def (x : Str) : upS x = if x.length ≤ 5592405 then some (Txt.upper x) else none := by unfold upS; rfl
theorem joinS_def (x : Str) (ys : List Str) : joinS x ys = if (ys.map (·.length)).sum + ys.length * x.length ≤ 16777216 then some (Txt.join x ys) else none := by unfold joinS; rfl
theorem ev_lenS {ra : Option Str} (ha : EvE K ta ρ m1 ra) : EvE K (tCB (fun xs H Q => ∃ z, xs = [.str z] ∧ z.length ≤ sizeLine ∧ Q (.int z.length) H) (tCons ta tNil)) ρ .new (ra.bind fun x => lenS x) := fun Ht C0 C H σ I z e Q q => by
  obtain ⟨x, ex, e⟩ := some_bind e
  rw [lenS_def] at e
  obtain ⟨h, rfl⟩ := some_if e
  refine ha Ht C0 C H σ I x ex _ fun v C1 H1 x1 r1 => ?_
  rw [r1.str_]
  exact ⟨x, rfl, by rw [sizeLine_eq]; exact h, q _ C1 H1 x1 .ofInt⟩
theorem ev_ixS {ra : Option Str} {rb : Option Int} (ha : EvE K ta ρ m1 ra) (hb : EvE K tb ρ m2 rb) : EvE K (tOp rIxS ta tb) ρ .new (ra.bind fun x => rb.bind fun i => atS x i) :=
  ev_two ha hb fun Ht C H x y z v u Q s e r1 r2 q => by
    rw [atS_def] at e
    by_cases h : x.length ≤ 16777216
    · rw [if_pos h] at e
      obtain ⟨c, ec, rfl⟩ := some_map e
      rw [r1.str_, r2.int_]
      exact ⟨x, y, c, rfl, rfl, by rw [sizeLine_eq]; exact h, ec, q _ C H (.refl s) .ofStr⟩
    · rw [if_neg h] at e
      cases e
theorem ev_slT {tl th : TO} {ra : Option Str} {rl rh : Option (Option Int)} (ha : EvE K ta ρ m1 ra) (hl : EvO K tl ρ rl) (hh : EvO K th ρ rh) : EvE K (tSl rSlS ta tl th) ρ .new (ra.bind fun x => rl.bind fun lo => rh.bind fun hi => cutSP x lo hi) := fun Ht C0 C H σ I z e Q q => by
  obtain ⟨x, ex, e⟩ := some_bind e
  obtain ⟨lo, el, e⟩ := some_bind e
  obtain ⟨hi, eh, e⟩ := some_bind e
  rw [cutSP_def] at e
  obtain ⟨h, rfl⟩ := some_if e
  refine ha Ht C0 C H σ I x ex _ fun v C1 H1 x1 r1 => ?_
  refine hl Ht C0 C1 H1 σ (I.to x1) lo el _ fun C2 H2 x2 => ?_
  refine hh Ht C0 C2 H2 σ ((I.to x1).to x2) hi eh _ fun C3 H3 x3 => ?_
  rw [r1.str_]
  exact ⟨x, rfl, by rw [sizeLine_eq]; exact h, q _ C3 H3 ((x1.trans x2).trans x3) .ofStr⟩
theorem ev_revS {ra : Option Str} (ha : EvE K ta ρ m1 ra) : EvE K (tRevS ta) ρ .new (ra.bind fun x => revSP x) := fun Ht C0 C H σ I z e Q q => by
  obtain ⟨x, ex, e⟩ := some_bind e
  rw [revSP_def] at e
  obtain ⟨h, rfl⟩ := some_if e
  refine ha Ht C0 C H σ I x ex _ fun v C1 H1 x1 r1 => ?_
  rw [r1.str_]
  exact ⟨x, rfl, by rw [sizeLine_eq]; exact h, q _ C1 H1 x1 .ofStr⟩
theorem ev_addS {ra rb : Option Str} (ha : EvE K ta ρ m1 ra) (hb : EvE K tb ρ m2 rb) : EvE K (tOp (fun x y H Q => ∃ i j, x = .str i ∧ y = .str j ∧ i.length + j.length ≤ sizeLine ∧ Q (.str (i ++ j)) H) ta tb) ρ .new (ra.bind fun x => rb.bind fun y => addS x y) :=
  ev_two ha hb fun Ht C H x y z v u Q s e r1 r2 q => by
    rw [addS_def] at e
    obtain ⟨h, rfl⟩ := some_if e
    rw [r1.str_, r2.str_]
    exact ⟨x, y, rfl, rfl, by rw [sizeLine_eq]; exact h, q _ C H (.refl s) .ofStr⟩
theorem ev_upS {ra : Option Str} (ha : EvE K ta ρ m1 ra) : EvE K (tM0 (fun x xs H Q => ∃ a, x = .str a ∧ xs = [] ∧ a.length ≤ 5592405 ∧ Q (.str (Txt.upper a)) H) ta) ρ .new (ra.bind fun x => upS x) := fun Ht C0 C H σ I z e Q q => by
  obtain ⟨x, ex, e⟩ := some_bind e
  rw [upS_def] at e
  obtain ⟨h, rfl⟩ := some_if e
  refine ha Ht C0 C H σ I x ex _ fun v C1 H1 x1 r1 => ?_
  rw [r1.str_]
  exact ⟨⟨x, rfl⟩, x, rfl, rfl, h, q _ C1 H1 x1 .ofStr⟩
theorem RepL.strs_eq {H : Hp} : ∀ {ns : List Str} {vs : List V}, RepL K H (rps ns) vs → vs = ns.map V.str
  | [], vs, h => h.nil_iff
  | n :: ns, vs, h => by
    obtain ⟨v, r, rfl, h1, h2⟩ := h.uncons
    rw [h1.str_, h2.strs_eq]
    rfl
theorem ev_joinS {ra : Option Str} {rb : Option (List Str)} (ha : EvE K ta ρ m1 ra) (hb : EvB K tb ρ m2 rb) : EvE K (tM1 (fun x xs H Q => ∃ a p, ∃ ys : List Str, x = .str a ∧ xs = [.ref p] ∧ (SqL K H p (ys.map V.str) ∨ SqT K H p (ys.map V.str)) ∧
      (ys.map (·.length)).sum + ys.length * a.length ≤ 16777216 ∧ Q (.str (Txt.join a ys)) H) ta tb) ρ .new (ra.bind fun x => rb.bind fun y => joinS x y) := fun Ht C0 C H σ I z e Q q => by
  obtain ⟨x, ex, e⟩ := some_bind e
  obtain ⟨y, ey, e⟩ := some_bind e
  rw [joinS_def] at e
  obtain ⟨h, rfl⟩ := some_if e
  refine ha Ht C0 C H σ I x ex _ fun v C1 H1 x1 r1 => ?_
  rw [r1.str_]
  refine ⟨⟨x, rfl⟩, hb Ht C0 C1 H1 σ (I.to x1) y ey _ fun a vs C2 H2 x2 h2 r2 => ?_⟩
  rw [r2.strs_eq] at h2
  exact ⟨x, a, y, rfl, rfl, .inl (.of h2), h, q _ C2 H2 (x1.trans x2) .ofStr⟩
/-- repr of a tuple -/
theorem ev_reprT {α : Type} [Rp α] {ra : Option α} (ha : EvE K ta ρ m ra) (ht : ∀ x : α, ∃ l, rp x = .tup l) : EvE K (tCB (rRepr K) (tCons ta tNil)) ρ .new (ra.bind fun x => reprD (rp x)) := fun Ht C0 C H σ I z e Q q => by
  obtain ⟨x, ex, e⟩ := some_bind e
  unfold reprD at e
  obtain ⟨⟨k1, k2, k3, k4⟩, rfl⟩ := some_if e
  refine ha Ht C0 C H σ I x ex _ fun v C1 H1 x1 r1 => ?_
  have d1 : Dp K H1 v (toPy (rp x)) := rep_dp _ _ (r1.mono (part_le.trans x1.s))
  obtain ⟨l, el⟩ := ht x
  have r2 := r1
  rw [el] at r2
  simp only [Rep] at r2
  obtain ⟨a, vs, rfl, _, _⟩ := r2
  exact ⟨a, _, rfl, d1, k1, k2, k3, k4, q _ C1 H1 x1 .ofStr⟩
/-- a text that the module holds -/
theorem ev_gs {s : Str} : EvE K (tC (.str s)) ρ .new (some s) := ev_str
end
end L2.DL
namespace L2.DL
open PySem PySem.Spec PyProof.Rows
instance {α β : Type} [Rp α] [Rp β] [Un α] [Un β] : Un (α × β) := ⟨fun d => match d with | .tup [a, b] => (un a).bind fun x => (un b).map fun y => (x, y) | _ => none, fun d x e => by
  cases d with
  | tup l =>
    cases l with
    | nil => cases e
    | cons a l =>
      cases l with
      | nil => cases e
      | cons b l =>
        cases l with
        | cons _ _ => cases e
        | nil =>
          have e : ((un a : Option α).bind fun x => (un b : Option β).map fun y => (x, y)) = some x := e
          obtain ⟨u, eu, e⟩ := some_bind e
          obtain ⟨v, ev, rfl⟩ := some_map e
          rw [Un.ok _ _ eu, Un.ok _ _ ev]
          rfl
  | _ => cases e⟩
instance : Un Str := ⟨fun d => match d with | .str i => some i | _ => none, fun d x e => by
  cases d <;> simp at e
  subst e
  rfl⟩
instance : Un Bool := ⟨fun d => match d with | .bl i => some i | _ => none, fun d x e => by
  cases d <;> simp at e
  subst e
  rfl⟩
end L2.DL

/-! DL17: texts cut into words, written numbers, signs, times -/
namespace L2
open PySem PySem.Spec PyProof.Rows
/-! ### a text times a number -/
def timesS (z : Str) (k : Int) : Str := ⟨(List.replicate k.toNat (TL.tl z)).flatten.toArray⟩
theorem fold_cat : ∀ (l : List (Array Nat)) (a : Array Nat), (l.foldl (· ++ ·) a).toList = a.toList ++ (l.map Array.toList).flatten
  | [], a => by simp
  | x :: l, a => by
    rw [List.foldl_cons, fold_cat l (a ++ x)]
    simp
theorem timesS_fold (z : Str) (n : Nat) : (⟨(List.replicate n z.cps).foldl (· ++ ·) #[]⟩ : Str) = ⟨(List.replicate n (TL.tl z)).flatten.toArray⟩ := by
  refine TL.ext_tl ?_
  show ((List.replicate n z.cps).foldl (· ++ ·) #[]).toList = (List.replicate n (TL.tl z)).flatten
  rw [fold_cat, List.map_replicate]
  rfl
theorem op_repS {X : Cx} : OpR X (binaryOp .Mult) (fun x y H Q => ∃ z k, x = .str z ∧ y = .int k ∧ k.natAbs ≤ 16777216 ∧ z.length * k.toNat ≤ sizeLine ∧ Q (.str (timesS z k)) H) := by
  intro pins s σ H x y v u Q I rx ry h
  obtain ⟨z, k, rfl, rfl, hk, hz, q⟩ := h
  obtain ⟨t, rfl⟩ := rx
  obtain ⟨t', rfl⟩ := ry
  have hz2 : z.length * k.toNat ≤ 16777216 := by rw [← sizeLine_eq]; exact hz
  refine PySem.P.mul_str ?_ (fun h1 _ => ?_) (fun _ _ => short24 hz2) ?_
  · rw [decide_eq_false (by omega), decide_eq_false (by omega)]; rfl
  · have hl : (z.length : Int) ≤ 16777216 := by
      have : 1 ≤ k.toNat := by omega
      have := Nat.mul_le_mul_left z.length this
      omega
    have h2 : (16777216 : Int) ≤ (2 ^ 63 - 1) / k := by
      refine (Int.le_ediv_iff_mul_le (by omega)).mpr ?_
      have : (16777216 : Int) * k ≤ 16777216 * 16777216 := Int.mul_le_mul_of_nonneg_left (by omega) (by omega)
      omega
    omega
  · by_cases h1 : k < 1
    · rw [if_pos h1]
      have e0 : timesS z k = Str.empty := by
        rw [timesS, show k.toNat = 0 by omega]
        rfl
      rw [e0] at q
      exact ⟨by decide, .str Str.empty, H, I.tok _, ⟨_, rfl⟩, q⟩
    · rw [if_neg h1]
      by_cases h2 : (k == 1 || z.length == 0) = true
      · rw [if_pos h2]
        refine ⟨.str (timesS z k), H, I, ⟨t, ?_⟩, q⟩
        have : timesS z k = z := by
          refine TL.ext_tl ?_
          show (List.replicate k.toNat (TL.tl z)).flatten = TL.tl z
          rcases (Bool.or_eq_true _ _).mp h2 with e | e
          · rw [eq_of_beq e]; simp
          · have e2 : (TL.tl z).length = 0 := by rw [← TL.len_tl]; exact eq_of_beq e
            rw [List.eq_nil_of_length_eq_zero e2]
            simp
        rw [this]
      · rw [if_neg h2, timesS_fold]
        refine ⟨?_, .str (timesS z k), H, I.tok _, ⟨_, rfl⟩, q⟩
        show (List.replicate k.toNat (TL.tl z)).flatten.toArray.size ≤ sizeLine
        rw [List.size_toArray, List.length_flatten, List.map_replicate, ← TL.len_tl, List.sum_replicate_nat, Nat.mul_comm]
        exact hz
/-! ### a text in a list: behind it a token is out -/
theorem pa_strT {X : Cx} {c : Str} {j : Nat} {cp : Pos} {es : List Expr} {ta : TA} (hr : PAT X es ta)
    (hs : starEach (.Constant (.str c) j cp :: es) X.env = (false, eval (.Constant (.str c) j cp) X.env) :: starEach es X.env := by rfl) : PA X (.Constant (.str c) j cp :: es) (tCons (tC (.str c)) ta) := by
  refine ⟨fun pos pins s σ H Q I h => ?_⟩
  rw [hs]
  show wpAny _ _ (spliced ((false, eval (.Constant (.str c) j cp) X.env) :: backTo pos (starEach es X.env))) _ _ s
  refine Calls.spliced_cons (Calls.Constant_str ?_)
  exact thn (hr pos pins { s with toks := s.toks + 1 } σ H _ (by show 1 ≤ s.toks + 1; omega) (I.tok _) h) fun us s2 ⟨xs, H2, I2, r2, q2⟩ => ⟨.str c :: xs, H2, I2, .cons (show RelV (.str c) _ from ⟨_, rfl⟩) r2, q2⟩
end L2
namespace L2.DL
open PySem PySem.Spec PyProof.Rows
section
variable {K : PySem.W.Frag} {ta tb : TE} {ρ : En} {m m1 m2 : Md}
@[irreducible] def splitS (x y : Str) : Option (List Str) := if y.length ≠ 0 ∧ x.length + 2 ≤ 16777216 then some (Txt.split x y) else none
@[irreducible] def intS (x : Str) : Option Int := if x.length ≤ 640 then intText? x else none
@[irreducible] def inS (x y : Str) : Option Bool := match TL.tl x with | [c] => some (decide (c ∈ TL.tl y)) | _ => none
@[irreducible] def repSP (x : Str) (k : Int) : Option Str := if k.natAbs ≤ 16777216 ∧ x.length * k.toNat ≤ 16777216 then some (timesS x k) else none
@[irreducible] def replS (x y z : Str) : Option Str := if x.length + (x.length + 1) * z.length ≤ 16777216 then some (Txt.replace x y z) else none
def signs (x : Str) : List Str := (TL.tl x).map fun c => (⟨#[c]⟩ : Str)
theorem splitS_def (x y : Str) : splitS x y = if y.length ≠ 0 ∧ x.length + 2 ≤ 16777216 then some (Txt.split x y) else none := by unfold splitS; rfl
theorem intS_def (x : Str) : intS x = if x.length ≤ 640 then intText? x else none := by unfold intS; rfl
theorem inS_def (x y : Str) : inS x y = match TL.tl x with | [c] => some (decide (c ∈ TL.tl y)) | _ => none := by unfold inS; rfl
theorem repSP_def (x : Str) (k : Int) : repSP x k = if k.natAbs ≤ 16777216 ∧ x.length * k.toNat ≤ 16777216 then some (timesS x k) else none := by unfold repSP; rfl
theorem replS_def (x y z : Str) : replS x y z = if x.length + (x.length + 1) * z.length ≤ 16777216 then some (Txt.replace x y z) else none := by unfold replS; rfl
theorem ev_splitS {ra rb : Option Str} (ha : EvE K ta ρ m1 ra) (hb : EvE K tb ρ m2 rb) : EvL K (tM1 (fun x xs H Q => ∃ a b, x = .str a ∧ xs = [.str b] ∧ (b.length == 0) = false ∧ a.length + 2 ≤ sizeLine ∧ rNewStrs (Txt.split a b) H Q) ta tb) ρ .new (ra.bind fun x => rb.bind fun y => splitS x y) := fun Ht C0 C H σ I z e Q q => by
  obtain ⟨x, ex, e⟩ := some_bind e
  obtain ⟨y, ey, e⟩ := some_bind e
  rw [splitS_def] at e
  obtain ⟨⟨h1, h2⟩, rfl⟩ := some_if e
  refine ha Ht C0 C H σ I x ex _ fun v C1 H1 x1 r1 => ?_
  rw [r1.str_]
  refine ⟨⟨x, rfl⟩, hb Ht C0 C1 H1 σ (I.to x1) y ey _ fun u C2 H2 x2 r2 => ?_⟩
  rw [r2.str_]
  refine ⟨x, y, rfl, rfl, by simpa using h1, by rw [sizeLine_eq]; exact h2, fun p hf => ?_⟩
  refine new_list (x1.trans x2) hf ?_ q
  have : ∀ (H : Hp) (l : List Str), RepL K H (rps l) (l.map V.str) := fun H l => by
    induction l with
    | nil => exact .nil
    | cons y l ih => exact .cons .ofStr ih
  exact this _ _
theorem ev_intS {ra : Option Str} (ha : EvE K ta ρ m1 ra) : EvE K (tCB (fun xs H Q => ∃ a n, xs = [.str a] ∧ PySem.intText? a = some n ∧ a.length ≤ 640 ∧ Q (.int n) H) (tCons ta tNil)) ρ .new (ra.bind fun x => intS x) := fun Ht C0 C H σ I z e Q q => by
  obtain ⟨x, ex, e⟩ := some_bind e
  rw [intS_def] at e
  by_cases h : x.length ≤ 640
  · rw [if_pos h] at e
    refine ha Ht C0 C H σ I x ex _ fun v C1 H1 x1 r1 => ?_
    rw [r1.str_]
    exact ⟨x, z, rfl, e, h, q _ C1 H1 x1 .ofInt⟩
  · rw [if_neg h] at e
    cases e
theorem ev_inS {ra rb : Option Str} (ha : EvE K ta ρ m1 ra) (hb : EvE K tb ρ m2 rb) : EvE K (tOp (fun x y H Q => ∃ (c : Nat) (z : Str), x = .str ⟨#[c]⟩ ∧ y = .str z ∧ Q (.bl (decide (c ∈ z.cps.toList))) H) ta tb) ρ .new (ra.bind fun x => rb.bind fun y => inS x y) :=
  ev_two ha hb fun Ht C H x y z v u Q s e r1 r2 q => by
    rw [inS_def] at e
    split at e
    · rename_i c hc
      cases e
      rw [r1.str_, r2.str_]
      exact ⟨c, y, by rw [← TL.mk_tl x, hc], rfl, q _ C H (.refl s) .ofBl⟩
    · cases e
theorem ev_ninS {ra rb : Option Str} (ha : EvE K ta ρ m1 ra) (hb : EvE K tb ρ m2 rb) : EvE K (tOp (fun x y H Q => ∃ (c : Nat) (z : Str), x = .str ⟨#[c]⟩ ∧ y = .str z ∧ Q (.bl (!decide (c ∈ z.cps.toList))) H) ta tb) ρ .new (ra.bind fun x => rb.bind fun y => (inS x y).map fun b => !b) :=
  ev_two ha hb fun Ht C H x y z v u Q s e r1 r2 q => by
    rw [inS_def] at e
    split at e
    · rename_i c hc
      cases e
      rw [r1.str_, r2.str_]
      exact ⟨c, y, by rw [← TL.mk_tl x, hc], rfl, q _ C H (.refl s) .ofBl⟩
    · cases e
theorem ev_repS {ra : Option Str} {rb : Option Int} (ha : EvE K ta ρ m1 ra) (hb : EvE K tb ρ m2 rb) : EvE K (tOp (fun x y H Q => ∃ z k, x = .str z ∧ y = .int k ∧ k.natAbs ≤ 16777216 ∧ z.length * k.toNat ≤ sizeLine ∧ Q (.str (timesS z k)) H) ta tb) ρ .new (ra.bind fun x => rb.bind fun y => repSP x y) :=
  ev_two ha hb fun Ht C H x y z v u Q s e r1 r2 q => by
    rw [repSP_def] at e
    obtain ⟨⟨h1, h2⟩, rfl⟩ := some_if e
    rw [r1.str_, r2.int_]
    exact ⟨x, y, rfl, rfl, h1, by rw [sizeLine_eq]; exact h2, q _ C H (.refl s) .ofStr⟩
theorem ev_replS {ra : Option Str} {y z : Str} (ha : EvE K ta ρ m1 ra) : EvE K (CwR.tReplC ta y z) ρ .new (ra.bind fun x => replS x y z) := fun Ht C0 C H σ I o e Q q => by
  obtain ⟨x, ex, e⟩ := some_bind e
  rw [replS_def] at e
  obtain ⟨h, rfl⟩ := some_if e
  refine ha Ht C0 C H σ I x ex _ fun v C1 H1 x1 r1 => ?_
  rw [r1.str_]
  exact ⟨x, rfl, h, q _ C1 H1 x1 .ofStr⟩
/-- the signs of a text, one after the other -/
theorem ei_str {ra : Option Str} (ha : EvE K ta ρ m1 ra) : EvI K (iStr ta) ρ .new (ra.map signs) := fun Ht C0 C H σ I xs ex R q => by
  obtain ⟨x, e, rfl⟩ := some_map ex
  refine ha Ht C0 C H σ I x e _ fun v C1 H1 x1 r1 => ?_
  rw [r1.str_]
  refine ⟨x, rfl, q _ C1 H1 x1 ⟨fun i C2 H2 d ed hc hs _ => ?_, fun C2 H2 hc hs => ?_⟩⟩
  · have hl : i < (rps (signs x)).length := (List.getElem?_eq_some_iff.mp ed).1
    have hl2 : i < x.cps.size := by simpa [rps, signs] using hl
    refine ⟨hl2, fun v H' y => ?_⟩
    obtain ⟨rfl, c, hc2, rfl⟩ := y
    refine ⟨C2, .refl hs, ?_⟩
    rw [rps, signs, List.map_map, List.getElem?_map] at ed
    have e3 : (TL.tl x)[i]? = some c := by
      show x.cps.toList[i]? = some c
      rw [Array.getElem?_toList]
      exact hc2
    rw [e3] at ed
    cases ed
    exact .ofStr
  · show x.cps.size ≤ _
    simp [rps, signs]
/-- repr of a list or a tuple -/
def reprQ (d : Dt) : Option Str := match d with | .lst _ => reprD d | .tup _ => reprD d | _ => none
theorem ev_reprQ {ra : Option Dt} (ha : EvE K ta ρ m ra) : EvE K (tCB (rRepr K) (tCons ta tNil)) ρ .new (ra.bind reprQ) := fun Ht C0 C H σ I z e Q q => by
  obtain ⟨x, ex, e⟩ := some_bind e
  have e2 : reprD x = some z := by
    unfold reprQ at e
    split at e
    · exact e
    · exact e
    · cases e
  unfold reprD at e2
  obtain ⟨⟨k1, k2, k3, k4⟩, rfl⟩ := some_if e2
  refine ha Ht C0 C H σ I x ex _ fun v C1 H1 x1 r1 => ?_
  have d1 : Dp K H1 v (toPy x) := rep_dp _ _ (r1.mono (part_le.trans x1.s))
  have hv : ∃ a, v = .ref a := by
    have r2 : Rep K (part m Ht C1) x v := r1
    cases x with
    | lst l => simp only [Rep] at r2; obtain ⟨a, vs, rfl, _⟩ := r2; exact ⟨a, rfl⟩
    | tup l => simp only [Rep] at r2; obtain ⟨a, vs, rfl, _⟩ := r2; exact ⟨a, rfl⟩
    | _ => cases e
  obtain ⟨a, rfl⟩ := hv
  exact ⟨a, _, rfl, d1, k1, k2, k3, k4, q _ C1 H1 x1 .ofStr⟩
end
end L2.DL

/-! DLX1: own error classes whose __init__ says super().__init__(text) and keeps one field, or none. -/
namespace PySem
namespace OwnX
open PySem.W PySem.Calls PyProof.Rows PySem.HandSPX
/-! ### the text of __init__ -/
def iA (fld : Str) (p1 p2 : Pos) : Arguments := { posonlyargs := [], args := [{ arg := "self", annotation := none, pos := p1 }, { arg := fld, annotation := none, pos := p2 }], vararg := none, kwonlyargs := [], kw_defaults := [], kwarg := none, defaults := [] }
def iE (txt : Str) (q1 q2 q3 q4 q5 q6 : Pos) (k : Nat) : Stmt := .Expr (.Call (.Attribute (.Call (.Name "super" q1) [] [] q2) "__init__" q3) [.Constant (.str txt) k q4] [] q5) q6
def iB (txt fld : Str) (q1 q2 q3 q4 q5 q6 r1 r2 r3 r4 : Pos) (k : Nat) : List Stmt := [iE txt q1 q2 q3 q4 q5 q6 k, .Assign [.Attribute (.Name "self" r1) fld r2] (.Name fld r3) r4]
def iS (fld : Str) : Scope := { kind := .function, names := [(PySem.Str.ofString "self", .local), (fld, .local), (PySem.Str.ofString "__class__", .free), (PySem.Str.ofString "super", .globalImplicit)], isGenerator := false, isCoroutine := false, more := [] }
def iA0 (p1 : Pos) : Arguments := { posonlyargs := [], args := [{ arg := "self", annotation := none, pos := p1 }], vararg := none, kwonlyargs := [], kw_defaults := [], kwarg := none, defaults := [] }
def iB0 (txt : Str) (q1 q2 q3 q4 q5 q6 : Pos) (k : Nat) : List Stmt := [iE txt q1 q2 q3 q4 q5 q6 k]
def iS0 : Scope := { kind := .function, names := [(PySem.Str.ofString "self", .local), (PySem.Str.ofString "__class__", .free), (PySem.Str.ofString "super", .globalImplicit)], isGenerator := false, isCoroutine := false, more := [] }
/-- what the written part says of an own error class at C, whose __init__ stands at fI -/
structure ClsTxt (P : Program) (K : Frag) (C fI : Addr) : Prop where
  cls : ∃ nm q N bs bm sn sub ab col dd k0 k1 k2 k3 k5, K.lookup C = some (excClassObj nm q C N bs bm true sn sub ab col dd k0 k1 k2 k3 k5 "ValueError.__new__") ∧ refsVE bm = true
  sa : findIn K (.ref C) "__setattr__" = some (some (.builtin "object.__setattr__"))
  ga : findIn K (.ref C) "__getattribute__" = some (some (.builtin "BaseException.__getattribute__"))
  gg : findIn K (.ref C) "__getattr__" = some none
  iC : findIn K (.ref C) "__init__" = some (some (.ref fI))
  tI : typeIn K (.ref fI) = some (.type "function")
  kC : keepIn K (.ref C) = true
  exC : subIn K (.ref C) (.type "BaseException") = some true
  veC : subIn K (.ref C) (.type "ValueError") = some true
  tyC : typeIn K (.ref C) = some (.type "type")
  hdC : hasDictIn K C = true
  sup : ks_superIn K C C "__init__" = some (some (.builtin "ValueError.__init__"))
  own : mroIn K C (.ref C) = some true
  any : nsIn K cStatics "thirdparty.any" = some none
  nsu : nsIn K mainGlobals "super" = some none
  top : (P.main.scope.names.lookup ("super" : Str)).isSome = false
/-- the function of __init__ -/
def FnTxt (P : Program) (K : Frag) (C fI : Addr) (q : Str) (params : Arguments) (body : List Stmt) (scope : Scope) : Prop :=
  ∃ (oc : Value) (od : Option Addr) (dV kV doc pm : Value) (an : Option Addr) (cda cc : Addr) (ct : Value) (osl : Array (Option Value)) (ccl cl : Value) (cdd cld : Option Addr) (ccs csl : Array (Option Value)) (vs : Array Value) (file : Str) (tf : Tok),
    K.lookup fI = some ⟨oc, od, .func (ksFn "__init__" q params body scope dV kV doc pm an (.ref cda) ct cc), osl⟩ ∧ dV = .none ∧ kV = .none ∧ codeIn K (.ref cda) q = true ∧ K.lookup cda = some ⟨ccl, cdd, .fields vs, ccs⟩ ∧ vs[2]? = some (.str file tf) ∧ ((P.main.file : Str) == file) = true ∧
    K.lookup cc = some ⟨cl, cld, .cell (some (.ref C)), csl⟩
theorem one_size (v : Value) : [v].length ≤ sizeLine := by
  rw [sizeLine_eq]
  exact (by decide : 1 ≤ 16777216)
section
variable {prog : Program} {w : World} {A : Around} {E : Value → Shared → Prop} {R : Result → Shared → Prop} {s : Shared} {K : Frag} {mg : Str → Option Value} {C fI : Addr}
theorem ldC {M : Model} {s : Shared} {env : Env} {m : Str → Option Value} {x : Str} {pos : Pos} {v : Value} {Q : Value → Shared → Prop} {A : Around} {E : Value → Shared → Prop} (hn : s.heap.Ns env.locals m) (hv : m x = some v) (h : Q v s)
    (hk : env.scope.kind = .function) (hl : env.kindOf x = some .local) (hd : (x == ("__debug__" : Str)) = false) :
    wpAny M A (eval (.Name x pos) env) Q E s := wpAny_Name (wpAny_loadName_local hk hl hn hv h) hd
theorem call_form (env : Env) (q1 q2 q3 q4 q5 : Pos) (k : Nat) (txt : Str) (hp : (q3.endLine == q5.line) = true) : eval (.Call (.Attribute (.Call (.Name "super" q1) [] [] q2) "__init__" q3) [.Constant (.str txt) k q4] [] q5) env = (do
      let ov ← attributeBase (.Call (.Name "super" q1) [] [] q2) "__init__" env (eval (.Call (.Name "super" q1) [] [] q2) env)
      standAt q3.atName
      let (f, first) ← holding [ov] (getMethod ov "__init__" (do return (← importBound (.Call (.Name "super" q1) [] [] q2) env).getD true))
      callWith q5 f first (backTo q5 (starEach [.Constant (.str txt) k q4] env)) []) := by
  rw [eval]
  unfold methodCall calleeOf methodCallPos
  rw [hp, Bool.or_true]
  rfl
/-- super().__init__(text) -/
theorem super_step (T : ClsTxt prog K C fI) {scope : Scope} {q : Str} {L cda cc x t0 : Addr} {params : Arguments} {body body' : List Stmt} {m : Str → Option Value} {dV kV doc pm ct oc ccl cl : Value} {an od cdd cld : Option Addr} {osl ccs csl : Array (Option Value)} {vs : Array Value} {file : Str} {tf : Tok} {ar : Arg}
    {txt : Str} {q1 q2 q3 q4 q5 q6 : Pos} {k : Nat} {Q : Flow → Shared → Prop} (hpos : (q3.endLine == q5.line) = true) (X : K.In s.heap) (G : s.heap.Ns mainGlobals mg) (Bt : ∃ mb, s.heap.Ns builtinsNs mb ∧ ∀ x : Str, x ≠ "__name__" → mb x = bootBuiltins x)
    (ho : K.lookup fI = some ⟨oc, od, .func (ksFn "__init__" q params body' scope dV kV doc pm an (.ref cda) ct cc), osl⟩) (hco : K.lookup cda = some ⟨ccl, cdd, .fields vs, ccs⟩) (hvs : vs[2]? = some (.str file tf)) (hfi : ((prog.main.file : Str) == file) = true)
    (hce : K.lookup cc = some ⟨cl, cld, .cell (some (.ref C)), csl⟩) (hn : s.heap.Ns L m) (hself : m "self" = some (.ref x)) (hp : (params.posonlyargs ++ params.args).head? = some ar) (har : ar.arg = "self")
    (hk : scope.kind = .function) (k1 : scope.names.lookup ("super" : Str) = some .globalImplicit) (k2 : scope.names.lookup ("__class__" : Str) = some .free) (k3 : scope.names.lookup ("self" : Str) = some .local)
    (hx : s.heap.get? x = some (excO C t0))
    (h : ∀ h' t1 tk, (∀ b o, b ≠ x → s.heap.get? b = some o → h'.get? b = some o) → h'.get? x = some (excO C t1) → Q .next { s with heap := h', toks := tk }) :
    PySem.wpAt (model prog w) A (.func body (ksEnv q scope L fI (.ref cda) cc)) (exec (iE txt q1 q2 q3 q4 q5 q6 k) (ksEnv q scope L fI (.ref cda) cc)) Q E s := by
  obtain ⟨nm, qq, N, bs, bm, sn, sub, ab, col, dd, m0, m1, m2, m3, m5, hC, hbm⟩ := T.cls
  have hcl : clsIn K C = some { name := nm, bases := bs, mro := .ref C :: bm, ns := N, qualname := qq, hasDict := true, slotNames := sn, subclasses := sub, abstract := ab, collection := col, hasDel := false } := by unfold clsIn; rw [hC] <;> rfl
  have IA : InstAt s.heap x (excO C t0) C none := ⟨hx, rfl, rfl, trivial⟩
  unfold iE
  have hi : interactive (ksEnv q scope L fI (.ref cda) cc) = false := by
    unfold interactive
    show (scope.kind == _ && _) = false
    rw [hk]
    rfl
  refine ks_wpAt_Expr_any (ks_wpAt_MethodCall ?_ (call_form _ q1 q2 q3 q4 q5 k txt hpos)) hi
  obtain ⟨hh, g, d, t, os⟩ := s
  refine ks_wpAt_super_base (env := ksEnv q scope L fI (.ref cda) cc) k1 k2 (by decide) rfl (X _ _ ho) rfl hp rfl (X _ _ hco) rfl hvs hfi T.top ?_
  obtain ⟨mb, hb, hb2⟩ := Bt
  refine ks_loadName_global hk k1 (loadGlobal_builtin (env := ksEnv q scope L fI (.ref cda) cc) G (mg_none_of X G T.nsu) hb ((hb2 _ (by decide +kernel)).trans (by first | rfl | kernel_rfl | boot_by_name)) ⟨rfl, ?_⟩)
  refine wpAny_loadName_free hk k2 rfl ⟨_, X _ _ hce, rfl⟩ ?_
  rw [har]
  refine wpAny_loadName_local hk k3 hn hself ?_
  refine ks_wpAny_isType_cls (X _ _ hC) rfl ⟨rfl, ?_⟩
  refine ks_wpAny_call_super (X _ _ hC) rfl IA.at_ IA.cls (fun c e => ?_) (looks_mroIn X T.own) (fun h1 e1 k1' => ?_)
  · cases e
  have X1 : K.In h1 := fun b o q => k1' b o (X b o q)
  have IA1 : InstAt h1 x (excO C t0) C none := ⟨k1' _ _ hx, rfl, rfl, trivial⟩
  have hm : ks_superIn K C C "__init__" = some (some (.builtin "ValueError.__init__")) := T.sup
  unfold ks_superIn at hm
  rw [hcl] at hm
  refine kxs_getMethod kxs_ValueError e1 (looks_opaque X1 T.any) (l₀ := .ref C :: bm) ?_ rfl X1 hm (IA1.type.andThen (looks_subIn X1 T.veC)) (ks_ne X1 IA1 hcl) (by decide) ?_
  · exact fun A Q E s k q => wpAny_bind ((looks_clsIn X1 hcl) A _ E s k (wpAny_pure q))
  have hu : (h1.push (kxs_mw "ValueError.__init__" x)).get? h1.objs.size = some (kxs_mw "ValueError.__init__" x) := Heap.get?_push_at rfl rfl
  have hx2 : (h1.push (kxs_mw "ValueError.__init__" x)).get? x = some (excO C t0) := Heap.get?_push_of_some _ (k1' _ _ hx)
  have hC2 : (h1.push (kxs_mw "ValueError.__init__" x)).get? C = _ := Heap.get?_push_of_some _ (X1 _ _ hC)
  have FB := PySem.F.excBase_ValueError
  refine kxs_callWith (i := "ValueError.__init__") (x := x) (by rfl) ?_
  show wpAny _ _ (evalArgs (.ref h1.objs.size) true [(false, eval (.Constant (.str txt) k q4) (ksEnv q scope L fI (.ref cda) cc))] []) _ _ _
  refine evalArgs_plain (Calls.spliced_cons (wpAny_Constant_str (Calls.spliced_nil ⟨hu, ?_⟩)))
  refine wpAny_call (codeAny_of_tree ?_)
  show wpAny _ A.in1 (callAny (.ref h1.objs.size) ⟨[.str txt _], []⟩) _ _ _
  simp only [callAny]
  refine wpAny_bind (wpAny_load hu ?_)
  simp only [kxs_mw, show (Value.type "method-wrapper" == Value.type "method" || Value.type "method-wrapper" == Value.type "builtin_function_or_method" || Value.type "method-wrapper" == Value.type "method-wrapper") = true by decide, if_true]
  refine KFB.if_so (by decide) ?_
  refine wpAny_bind (check_bound_init FB.toExcCallFacts hC2 hx2 rfl ?_)
  refine wpAny_bind (wpAny_pure (wpAny_pure ?_))
  refine ⟨plainId_quiet FB.init.plain _, codeAny_builtin FB.initEntry ?_⟩
  refine exc_init_tree (cls := .ref C) (t0 := t0) (dv := none) (c2 := .none) (c3 := .none) (b4 := .bool false) hx2 (one_size _) fun h' kp ex tu => ?_
  exact h h' _ _ (fun b o hb e => kp b o hb (Heap.get?_push_of_some _ (k1' _ _ e))) ex

/-- an own error class with one field -/
structure OwnTxt (P : Program) (K : Frag) (mg : Str → Option Value) (name fld : Str) (C fI : Addr) : Prop extends ClsTxt P K C fI where
  gC : mg name = some (.ref C)
  noN : findIn K (.ref C) fld = some none
  ne1 : ("self" == fld) = false
  ne2 : (fld == ("__debug__" : Str)) = false
  s1 : (iS fld).names.lookup ("super" : Str) = some .globalImplicit
  s2 : (iS fld).names.lookup ("__class__" : Str) = some .free
  s3 : (iS fld).names.lookup fld = some .local
  fn : ∃ (q txt : Str) (k : Nat) (p1 p2 q1 q2 q3 q4 q5 q6 r1 r2 r3 r4 : Pos), FnTxt P K C fI q (iA fld p1 p2) (iB txt fld q1 q2 q3 q4 q5 q6 r1 r2 r3 r4 k) (iS fld) ∧ (q3.endLine == q5.line) = true ∧
    ∀ (dV kV doc pm : Value) (an : Option Addr) (cd : Value) (cc : Addr) (ct : Value), dV = .none → kV = .none → ∀ a b : Value, bindArgs (ksFn "__init__" q (iA fld p1 p2) (iB txt fld q1 q2 q3 q4 q5 q6 r1 r2 r3 r4 k) (iS fld) dV kV doc pm an cd ct cc) ⟨[a, b], []⟩ = pure [(("self" : Str), a), (fld, b)]
/-- what __init__ leaves of a fresh exception at x -/
structure InitEnd (h h' : Heap) (x C dx t1 : Addr) (fld : Str) (v : Value) : Prop where
  keep : ∀ b o, b ≠ x → h.get? b = some o → h'.get? b = some o
  obj : h'.get? x = some { cls := .ref C, dict := some dx, data := .fields #[.ref t1, .none, .none, .none, .bool false, .none] }
  dbig : h.objs.size ≤ dx
  dne : dx ≠ x
  ns : h'.Ns1 dx (fun y => if y = fld then some v else none)
theorem own_init {name fld : Str} (T : OwnTxt prog K mg name fld C fI) {x t0 : Addr} {v : Value} (X : K.In s.heap) (G : s.heap.Ns mainGlobals mg) (Bt : ∃ mb, s.heap.Ns builtinsNs mb ∧ ∀ x : Str, x ≠ "__name__" → mb x = bootBuiltins x) (hlim : s.heap.NoLimit) (hx : s.heap.get? x = some (excO C t0)) (hnx : K.lookup x = none) (hroom : A.depth < recursionLimit)
    (hq : ∀ h' tk dx t1, InitEnd s.heap h' x C dx t1 fld v → R (.ok (.ret .none)) { s with heap := h', toks := tk }) :
    codeAny (model prog w) A (.call (.ref fI) ⟨[.ref x, v], []⟩) R s := by
  obtain ⟨q, txt, k, p1, p2, q1, q2, q3, q4, q5, q6, r1, r2, r3, r4, ⟨oc, od, dV, kV, doc, pm, an, cda, cc, ct, osl, ccl, cl, cdd, cld, ccs, csl, vs, file, tf, ho, eD, eK, hcd, hco, hvs, hfi, hce⟩, hpos, hbd⟩ := T.fn
  obtain ⟨nm, qq, N, bs, bm, sn, sub, ab, col, dd, m0, m1, m2, m3, m5, hC, hbm⟩ := T.cls
  have hcl : clsIn K C = some { name := nm, bases := bs, mro := .ref C :: bm, ns := N, qualname := qq, hasDict := true, slotNames := sn, subclasses := sub, abstract := ab, collection := col, hasDel := false } := by unfold clsIn; rw [hC] <;> rfl
  refine ks_codeAny_call_defAt (fd := ksFn "__init__" q (iA fld p1 p2) (iB txt fld q1 q2 q3 q4 q5 q6 r1 r2 r3 r4 k) (iS fld) dV kV doc pm an (.ref cda) ct cc) (binds := [("self", .ref x), (fld, v)]) hroom (X _ _ ho) rfl hlim (codeRec_of X hcd) rfl (BindsTo.of_eq (hbd _ _ _ _ _ _ _ _ eD eK _ _)) ?_ ?_ (fun h₁ hns hk => ?_) rfl rfl rfl
  · intro y hy
    simp only [iS, List.mem_cons, List.not_mem_nil, or_false] at hy
    rcases hy with rfl | rfl | rfl | rfl <;> exact fun z => nomatch z
  · intro y hy
    simp only [List.mem_cons, List.not_mem_nil, or_false] at hy
    rcases hy with rfl | rfl
    · rfl
    · exact T.s3
  have hself : (fun y => List.lookup y (List.reverse [(("self" : Str), Value.ref x), (fld, v)])) "self" = some (.ref x) := by
    show List.lookup ("self" : Str) [(fld, v), ("self", Value.ref x)] = _
    simp only [List.lookup]
    rw [show ((PySem.Str.ofString "self") == fld) = false from T.ne1]
    rfl
  have hfld : (fun y => List.lookup y (List.reverse [(("self" : Str), Value.ref x), (fld, v)])) fld = some v := by
    show List.lookup fld [(fld, v), ("self", Value.ref x)] = _
    simp [List.lookup]
  refine ks_wpAt_execs_cons ?_
  obtain ⟨mb, hb, hb2⟩ := Bt
  refine super_step T.toClsTxt hpos (X.keeps hk) (G.keeps hk) ⟨mb, hb.keeps hk, hb2⟩ ho hco hvs hfi hce hns hself rfl rfl rfl T.s1 T.s2 rfl (hk _ _ hx) fun h2 t1 tk2 k2 hx2 => ?_
  have Lx : s.heap.objs.size ≠ x := Nat.ne_of_gt (Heap.lt_size hx)
  have xL : ∀ {b : Addr} {o : Obj}, h₁.get? b = some o → b ≠ x → h2.get? b = some o := fun e n => k2 _ _ n e
  have hns2 : h2.Ns s.heap.objs.size (fun y => List.lookup y (List.reverse [(("self" : Str), Value.ref x), (fld, v)])) := by
    obtain ⟨oL, es, ep, hL, r⟩ := hns
    exact ⟨oL, es, ep, k2 _ _ Lx hL, r⟩
  have X2 : K.In h2 := fun b o e => k2 b o (fun z => by rw [z, hnx] at e; cases e) (hk b o (X b o e))
  refine PySem.wpAt_of_wpAny ?_
  show wpAny _ _ (execs [.Assign [.Attribute (.Name "self" r1) fld r2] (.Name fld r3) r4] _) _ _ _
  refine wpAny_execs_cons (plainObj_wpAny_Assign_Attribute ?_)
  refine ldC (v := v) hns2 hfld (ldC (v := .ref x) hns2 hself ?_ rfl rfl (by decide)) rfl T.s3 T.ne2
  refine set_plain X2 (ox := excO C t1) (od := none) ⟨hx2, rfl, rfl, trivial⟩ T.sa ?_
  refine exc_osa X2 hx2 hcl (show refsVE (.ref C :: bm) = true from hbm) rfl T.noN (fun h₃ tk₃ dx k₃ dn dne hx₃ hn₃ => ?_)
  have z : s.heap.objs.size < h2.objs.size := hns2.lt
  exact wpAny_execs_nil (hq h₃ tk₃ dx t1 ⟨fun b o hb e => k₃ b o hb (k2 b o hb (hk b o e)), hx₃, Nat.le_of_lt (Nat.lt_of_lt_of_le z dn), dne, hn₃⟩)

/-- a made one -/
structure OwnMade (h h' : Heap) (e C d : Addr) (fld : Str) (v : Value) : Prop where
  keep : ∀ b o, h.get? b = some o → h'.get? b = some o
  new : h.objs.size ≤ e
  obj : ∃ oe vs, h'.get? e = some oe ∧ oe.cls = .ref C ∧ oe.dict = some d ∧ oe.data = .fields vs ∧ vs[1]? = some .none
  dbig : h.objs.size ≤ d
  dne : d ≠ e
  ns : h'.Ns1 d (fun y => if y = fld then some v else none)
theorem fresh_key {h : Heap} (X : K.In h) : K.lookup (h.objs.size + 1) = none := by
  cases e : K.lookup (h.objs.size + 1) with
  | none => rfl
  | some o =>
    have z : h.get? (h.objs.size + 1) = some o := X _ _ e
    exact absurd (Nat.lt_of_succ_lt (Heap.lt_size z)) (Nat.lt_irrefl _)
theorem own_made {name fld : Str} (T : OwnTxt prog K mg name fld C fI) {v : Value} (X : K.In s.heap) (G : s.heap.Ns mainGlobals mg) (Bt : ∃ mb, s.heap.Ns builtinsNs mb ∧ ∀ x : Str, x ≠ "__name__" → mb x = bootBuiltins x) (hlim : s.heap.NoLimit) (hroom : A.depth + 1 < recursionLimit)
    (hq : ∀ h' tk e d, OwnMade s.heap h' e C d fld v → R (.ok (.ret (.ref e))) { s with heap := h', toks := tk }) :
    codeAny (model prog w) A (.call (.ref C) ⟨[v], []⟩) R s := by
  obtain ⟨nm, q, N, bs, bm, sn, sub, ab, col, dd, k0, k1, k2, k3, k5, hC, hbm⟩ := T.cls
  obtain ⟨hp, g, dr, tk, os⟩ := s
  have k : ∀ b o, hp.get? b = some o → ((hp.push (kdv_tup [v])).push (excO C hp.objs.size)).get? b = some o := fun b o e => Heap.get?_push_of_some _ (Heap.get?_push_of_some _ e)
  have hget : ((hp.push (kdv_tup [v])).push (excO C hp.objs.size)).get? (hp.objs.size + 1) = some (excO C hp.objs.size) := by heap_get
  obtain ⟨mb, hb, hb2⟩ := Bt
  refine call_own F.excBase_ValueError (fun X => refsVE_contains X bm hbm) (X _ _ hC) (looks_findIn X T.iC) (fun self => bind_fn X self T.tI) (one_size v) ?_
  refine own_init (s := ⟨(hp.push (kdv_tup [v])).push (excO C hp.objs.size), g, dr, tk, os⟩) T (X.keeps k) (G.keeps k) ⟨mb, hb.keeps k, hb2⟩ (hlim.keeps k) hget (fresh_key X) ?_ fun h' tk' dx t1 ⟨k', hx, dn, dne, hns⟩ => ?_
  · show A.depth + 1 < recursionLimit
    exact hroom
  · have old : ∀ b o, hp.get? b = some o → h'.get? b = some o := fun b o e => k' b o (Nat.ne_of_lt (Nat.lt_succ_of_lt (Heap.lt_size e))) (k b o e)
    have z : hp.objs.size + 1 + 1 ≤ dx := by
      first
        | (simpa only [Heap.size_push] using dn)
        | exact dn
        | (have q := dn; rw [Heap.size_push, Heap.size_push] at q; exact q)
    exact ⟨rfl, hq h' tk' (hp.objs.size + 1) dx ⟨old, Nat.le_succ _, ⟨_, _, hx, rfl, rfl, rfl, rfl⟩, Nat.le_trans (Nat.le_trans (Nat.le_succ _) (Nat.le_succ _)) z, dne, hns⟩⟩
/-- an own error class without a field -/
structure OwnTxt0 (P : Program) (K : Frag) (mg : Str → Option Value) (name : Str) (C fI : Addr) : Prop extends ClsTxt P K C fI where
  gC : mg name = some (.ref C)
  fn : ∃ (q txt : Str) (k : Nat) (p1 q1 q2 q3 q4 q5 q6 : Pos), FnTxt P K C fI q (iA0 p1) (iB0 txt q1 q2 q3 q4 q5 q6 k) iS0 ∧ (q3.endLine == q5.line) = true ∧
    ∀ (dV kV doc pm : Value) (an : Option Addr) (cd : Value) (cc : Addr) (ct : Value), dV = .none → kV = .none → ∀ a : Value, bindArgs (ksFn "__init__" q (iA0 p1) (iB0 txt q1 q2 q3 q4 q5 q6 k) iS0 dV kV doc pm an cd ct cc) ⟨[a], []⟩ = pure [(("self" : Str), a)]
theorem own_init0 {name : Str} (T : OwnTxt0 prog K mg name C fI) {x t0 : Addr} (X : K.In s.heap) (G : s.heap.Ns mainGlobals mg) (Bt : ∃ mb, s.heap.Ns builtinsNs mb ∧ ∀ x : Str, x ≠ "__name__" → mb x = bootBuiltins x) (hlim : s.heap.NoLimit) (hx : s.heap.get? x = some (excO C t0)) (hroom : A.depth < recursionLimit)
    (hq : ∀ h' tk t1, (∀ b o, b ≠ x → s.heap.get? b = some o → h'.get? b = some o) → h'.get? x = some (excO C t1) → R (.ok (.ret .none)) { s with heap := h', toks := tk }) :
    codeAny (model prog w) A (.call (.ref fI) ⟨[.ref x], []⟩) R s := by
  obtain ⟨q, txt, k, p1, q1, q2, q3, q4, q5, q6, ⟨oc, od, dV, kV, doc, pm, an, cda, cc, ct, osl, ccl, cl, cdd, cld, ccs, csl, vs, file, tf, ho, eD, eK, hcd, hco, hvs, hfi, hce⟩, hpos, hbd⟩ := T.fn
  refine ks_codeAny_call_defAt (fd := ksFn "__init__" q (iA0 p1) (iB0 txt q1 q2 q3 q4 q5 q6 k) iS0 dV kV doc pm an (.ref cda) ct cc) (binds := [("self", .ref x)]) hroom (X _ _ ho) rfl hlim (codeRec_of X hcd) rfl (BindsTo.of_eq (hbd _ _ _ _ _ _ _ _ eD eK _)) ?_ ?_ (fun h₁ hns hk => ?_) rfl rfl rfl
  · intro y hy
    simp only [iS0, List.mem_cons, List.not_mem_nil, or_false] at hy
    rcases hy with rfl | rfl | rfl <;> exact fun z => nomatch z
  · intro y hy
    simp only [List.mem_cons, List.not_mem_nil, or_false] at hy
    rcases hy with rfl
    rfl
  refine ks_wpAt_execs_cons ?_
  obtain ⟨mb, hb, hb2⟩ := Bt
  refine super_step T.toClsTxt hpos (X.keeps hk) (G.keeps hk) ⟨mb, hb.keeps hk, hb2⟩ ho hco hvs hfi hce hns rfl rfl rfl rfl rfl rfl rfl (hk _ _ hx) fun h2 t1 tk2 k2 hx2 => ?_
  refine PySem.wpAt_of_wpAny (wpAny_execs_nil (hq h2 tk2 t1 (fun b o hb e => k2 b o hb (hk b o e)) hx2))
structure OwnMade0 (h h' : Heap) (e C : Addr) : Prop where
  keep : ∀ b o, h.get? b = some o → h'.get? b = some o
  new : h.objs.size ≤ e
  obj : ∃ oe vs, h'.get? e = some oe ∧ oe.cls = .ref C ∧ oe.dict = none ∧ oe.data = .fields vs ∧ vs[1]? = some .none
theorem own_made0 {name : Str} (T : OwnTxt0 prog K mg name C fI) (X : K.In s.heap) (G : s.heap.Ns mainGlobals mg) (Bt : ∃ mb, s.heap.Ns builtinsNs mb ∧ ∀ x : Str, x ≠ "__name__" → mb x = bootBuiltins x) (hlim : s.heap.NoLimit) (hroom : A.depth + 1 < recursionLimit)
    (hq : ∀ h' tk e, OwnMade0 s.heap h' e C → R (.ok (.ret (.ref e))) { s with heap := h', toks := tk }) :
    codeAny (model prog w) A (.call (.ref C) ⟨[], []⟩) R s := by
  obtain ⟨nm, q, N, bs, bm, sn, sub, ab, col, dd, k0, k1, k2, k3, k5, hC, hbm⟩ := T.cls
  obtain ⟨hp, g, dr, tk, os⟩ := s
  have k : ∀ b o, hp.get? b = some o → ((hp.push (kdv_tup [])).push (excO C hp.objs.size)).get? b = some o := fun b o e => Heap.get?_push_of_some _ (Heap.get?_push_of_some _ e)
  have hget : ((hp.push (kdv_tup [])).push (excO C hp.objs.size)).get? (hp.objs.size + 1) = some (excO C hp.objs.size) := by heap_get
  obtain ⟨mb, hb, hb2⟩ := Bt
  refine call_own F.excBase_ValueError (fun X => refsVE_contains X bm hbm) (X _ _ hC) (looks_findIn X T.iC) (fun self => bind_fn X self T.tI) (Nat.zero_le _) ?_
  refine own_init0 (s := ⟨(hp.push (kdv_tup [])).push (excO C hp.objs.size), g, dr, tk, os⟩) T (X.keeps k) (G.keeps k) ⟨mb, hb.keeps k, hb2⟩ (hlim.keeps k) hget ?_ fun h' tk' t1 k' hx => ?_
  · show A.depth + 1 < recursionLimit
    exact hroom
  · have old : ∀ b o, hp.get? b = some o → h'.get? b = some o := fun b o e => k' b o (Nat.ne_of_lt (Nat.lt_succ_of_lt (Heap.lt_size e))) (k b o e)
    exact ⟨rfl, hq h' tk' (hp.objs.size + 1) ⟨old, Nat.le_succ _, ⟨_, _, hx, rfl, rfl, rfl, rfl⟩⟩⟩
end
end OwnX
end PySem

/-! DLX2: rules over the hand layer: an own error is made, raised, its field read, its class asked. -/
namespace PySem.W
open PySem PySem.Spec PySem.Calls PyProof.Rows
section
variable {prog : Program} {w : World} {A : Around} {E : Value → Shared → Prop} {s : Shared} {K : Frag} {x D : Addr} {ox : Obj} {odx : Option Obj}
theorem findObj_dataD {C : Addr} {name : Str} {a g : Value} (hc : (clsIn K C).isSome = true) (ha : findIn K (.ref C) name = some (some a)) (hg : specialIn K a "__get__" = some (some g)) (ht : takesIn K a = some true) : findObj K C odx name = some (.bind g a) := by
  obtain ⟨cd, hcd⟩ := Option.isSome_iff_exists.mp hc
  unfold findObj
  rw [hcd, Option.bind_some, ha, Option.bind_some]
  simp [hg, ht]
theorem kin_classD {Q : Option Value → Shared → Prop} (hga : findIn K (.ref D) "__getattribute__" = some (some (.builtin "BaseException.__getattribute__"))) (hgt : findIn K (.ref D) "__getattr__" = some none) (hsub : subIn K (.ref D) (.type "BaseException") = some true)
    (hdct : hasDictIn K D = true) (ha : findIn K (.ref D) "__class__" = some (some (.builtin "object.__class__")))
    (hn : specialIn K (.builtin "object.__class__") "__get__" = some (some (.builtin "getset_descriptor.__get__"))) (htk : takesIn K (.builtin "object.__class__") = some true) (hm : mroIn K D (.type "object") = some true)
    (X : K.In s.heap) (I : InstAt s.heap x ox D odx) (h : Q (some (.ref D)) { s with toks := s.toks + 1 }) : wpAny (model prog w) A (getAttr? (.ref x) "__class__") Q E s := by
  have hf : findObj K D odx "__class__" = some (.bind (.builtin "getset_descriptor.__get__") (.builtin "object.__class__")) := findObj_dataD (by obtain ⟨cd, hc, _⟩ := any_some hdct; rw [hc]; rfl) ha hn htk
  obtain ⟨hp, g, d, t, os⟩ := s
  have L0 := I.type (M := model prog w)
  have L1 := looks_findIn (M := model prog w) X hga
  have L2 := looks_findIn (M := model prog w) X hgt
  have L3 := looks_find (M := model prog w) X I hf
  have sub : Looks (model prog w) hp (isInstance (.ref x) (.type "BaseException")) true := L0.andThen (looks_subIn X hsub)
  have hx0 : (false && onTheHeap (Value.builtin "BaseException.__getattribute__")) = false := rfl
  have hx2 : (Value.builtin "BaseException.__getattribute__" == Value.builtin "object.__getattribute__") = false := by decide +kernel
  have hx1 : (onTheHeap (Value.ref D) && Value.builtin "BaseException.__getattribute__" == Value.builtin "object.__getattribute__") = false := by rw [hx2]; rfl
  unfold getAttr? getAttrBy? getAttrBy
  refine wpAny_bind (wpAny_mkText (wpAny_bind (wpAny_attempt (wpAny_holding (wpAny_bind (L0.at (wpAny_bind (L1.at ?_))))))))
  show wpAny _ _ (if (onTheHeap (Value.ref D) && Value.builtin "BaseException.__getattribute__" == Value.builtin "object.__getattribute__") = true then _ else _) _ _ _
  rw [hx1, if_neg Bool.false_ne_true]
  unfold getAttrByItsOwn hookBefore
  refine wpAny_bind ?_
  rw [if_pos (show onTheHeap (Value.ref D) = true from rfl)]
  refine L2.at ?_
  refine wpAny_bind (wpAny_attempt (wpAny_holding ?_))
  unfold callGetattribute
  rw [hx0, if_neg Bool.false_ne_true]
  unfold boundAndCalled
  rw [PySem.F.excAttr_ValueError.ga.bind (.ref x)]
  refine wpAny_bind (wpAny_pure ?_)
  show wpAny _ _ (call (.builtin "BaseException.__getattribute__") [.ref x, .str "__class__" t]) _ _ _
  refine wpAny_call (codeAny_call_builtin PySem.F.excAttr_ValueError.ga.plain PySem.F.entry_bexc_ga ?_)
  refine @check_slot (model prog w) _ _ ⟨hp, g, d, t + 1, os⟩ "BaseException.__getattribute__" "BaseException" "__getattribute__" (.ref x) [.str "__class__" t] [] _ (by decide +kernel) (by decide +kernel) sub (PySem.F.args_bexc_ga (.ref x) (.str "__class__" t)) ?_
  unfold Builtin.«object.__getattribute__»
  refine wpAny_bind (wpAny_of_eq (a := ((Value.ref x : Value), [Value.str "__class__" t])) (by first | rfl | (simp only [slotArgs]; rfl)) ?_)
  refine wpAny_bind (wpAny_pure (wpAny_bind (L0.at (wpAny_bind (L3.at ?_)))))
  show wpAny _ _ (holding [Value.builtin "object.__class__"] (call (.builtin "getset_descriptor.__get__") [.builtin "object.__class__", .ref x, .ref D]) >>= ret) _ _ _
  refine wpAny_bind (wpAny_holding (wpAny_call (class_get (s := ⟨hp, g, d, t + 1, os⟩) (ox := ox) (od := odx) X I hm ?_)))
  refine wpAny_pure ?_
  show wpAny _ _ (handedOut (.ref D)) _ _ _
  rw [handedOut_of (v := .ref D) rfl]
  first
    | exact wpAny_pure (wpAny_pure h)
    | exact wpAny_pure h
    | exact wpAny_pure (wpAny_bind (wpAny_pure (wpAny_pure h)))
theorem kitx_excD (hga : findIn K (.ref D) "__getattribute__" = some (some (.builtin "BaseException.__getattribute__"))) (hgt : findIn K (.ref D) "__getattr__" = some none) (hsub : subIn K (.ref D) (.type "BaseException") = some true) (hdct : hasDictIn K D = true) (ha : findIn K (.ref D) "__class__" = some (some (.builtin "object.__class__")))
    (hn : specialIn K (.builtin "object.__class__") "__get__" = some (some (.builtin "getset_descriptor.__get__"))) (htk : takesIn K (.builtin "object.__class__") = some true) (hm : mroIn K D (.type "object") = some true) :
    KitX K (.ref x) (.ref D) (fun h => InstAt h x ox D odx) where
  ty := fun _ _ _ I => I.type
  it := fun _ _ X _ => by
    obtain ⟨cdD, hcD, _⟩ := any_some hdct
    unfold clsIn at hcD
    split at hcD
    · rename_i c' d' cd' sl' ho
      intro A' Q' E' s' k q
      unfold isType loadHead
      exact wpAny_bind (wpAny_loadPart (k _ _ (X _ _ ho)) (wpAny_pure q))
    · cases hcD
  ne := fun h tp dd its n sl X htp => by
    obtain ⟨cdD, hcD, _⟩ := any_some hdct
    refine Bool.eq_false_iff.mpr fun q => ?_
    have e : D = tp := Value.ref.inj (beq_iff_eq.mp q)
    subst e
    unfold clsIn at hcD
    split at hcD
    · rename_i c' d' cd' sl' ho
      have z := (X _ _ ho).symm.trans htp
      cases z
    · cases hcD
  ca := fun X I k => kin_classD hga hgt hsub hdct ha hn htk hm X I k
end
end PySem.W
namespace L2
open PySem PySem.Spec PyProof.Rows
section
variable {X : Cx} {C fI : Addr}
theorem relO_one {fld : Str} {v : V} {v' : Value} (r : RelV v v') (f : Str) : RelO (List.lookup f [(fld, v)]) (if f = fld then some v' else none) := by
  by_cases hw : f = fld
  · subst hw
    rw [if_pos rfl]
    have q : List.lookup f [(f, v)] = some v := by simp [List.lookup]
    rw [q]
    exact r
  · rw [if_neg hw]
    have qw : (f == fld) = false := by simpa using hw
    have q2 : List.lookup f [(fld, v)] = none := by simp [List.lookup, qw]
    rw [q2]
    trivial
/-- C(e) -/
def tMkF (C : Addr) (fld : Str) (ta : TA) : St → Hp → XK → Prop := fun σ H Q => ta σ H fun vs H1 => ∃ v, vs = [v] ∧ ∀ d, H1 d = none → Q (.ref C) (some d) (upd H1 d (.xd [(fld, v)]))
theorem pmk_own1 {name fld : Str} {a : Expr} {ta : TA} {p pos : Pos} {k : Nat} (T : PySem.OwnX.OwnTxt X.prog X.K X.mg name fld C fI) (hr : Room k X.A) (hk : 1 ≤ k) (ha : PA X [a] ta) (hg : Gl X name) (hdb : (name == ("__debug__" : Str)) = false := by decide)
    (he : starEach (a :: []) X.env = (false, eval a X.env) :: starEach [] X.env := by rfl) (hpl : (backTo pos (starEach [] X.env)).any (·.1) = false := by rfl) :
    PMk X (.Call (.Name name p) [a] [] pos) (tMkF C fld ta) := by
  intro pins s σ H Q I h
  refine wpAny_Call_Name_kw (ld_glob I hg T.gC ?_ hdb)
  refine PySem.W.callWith_K (h₀ := X.base) I.ok.mod.kin T.kC (thn (ha.run pos pins s σ H _ I h) fun us s1 hh => ?_) he hpl
  obtain ⟨vs, H1, I1, r1, v, ev, q1⟩ := hh
  subst ev
  refine ⟨I1.kIn, ?_⟩
  cases r1 with
  | cons rv rn =>
    rename_i v' us'
    cases rn
    show wpAny _ _ (call (.ref C) [v']) _ _ _
    have hlim := I1.nolimit
    have G := I1.ok.mod.glob.keeps I1.bk
    obtain ⟨mb, hb, hb2⟩ := I1.ok.mod.blt
    have hb := hb.keeps I1.bk
    obtain ⟨hp, g, dr, tk, os⟩ := s1
    refine wpAny_call (PySem.OwnX.own_made T I1.kIn G ⟨mb, hb, hb2⟩ hlim (by have := hr.dp; omega) fun h' tk' e d M => ?_)
    show MkP X pins σ Q (.ref e) ⟨h', g, dr, tk', os⟩
    obtain ⟨oe, fv, hoe, hc, hd, hdat, h1⟩ := M.obj
    have hns := M.ns
    obtain ⟨G', g1, g2⟩ := restrict h' fun b => decide (b ≠ e)
    have gk : ∀ b, b ≠ e → G'.get? b = h'.get? b := fun b hb => g1 b (decide_eq_true hb)
    have ge : G'.get? e = none := g2 e (by simp)
    have old : ∀ b o, hp.get? b = some o → G'.get? b = some o := fun b o q => (gk b (Nat.ne_of_lt (Nat.lt_of_lt_of_le (Heap.lt_size q) M.new))).trans (M.keep b o q)
    have ob : ObjOk X.prog X.w (upd H1 d (.xd [(fld, v)])) G' d (.xd [(fld, v)]) :=
      ⟨_, hns.at (fun o q => (gk d M.dne).trans q), fun f => relO_one rv f⟩
    have J : Inv X pins σ (upd H1 d (.xd [(fld, v)])) ⟨G', g, dr, tk', os⟩ := I1.laid (t' := tk') old M.dbig ob
    refine ⟨e, oe, fv, ⟨G', g, dr, tk', os⟩, _, .ref C, some d, rfl, J, fun b o q => ?_, ge, hoe, ⟨hc, hd⟩, hdat, h1, ?_, rfl, I1.bare, raises_own T.exC T.tyC, q1 d (I1.hok.fresh M.dbig)⟩
    · by_cases hb : b = e
      · have q' : G'.get? b = some o := q
        rw [hb, ge] at q'; cases q'
      · exact (gk b hb).symm.trans q
    · rw [upd_ne (Ne.symm M.dne)]
      exact I1.hok.fresh M.new
/-- C() -/
def tMkF0 (C : Addr) : St → Hp → XK → Prop := fun _ H Q => Q (.ref C) none H
theorem pmk_own0 {name : Str} {p pos : Pos} {k : Nat} (T : PySem.OwnX.OwnTxt0 X.prog X.K X.mg name C fI) (hr : Room k X.A) (hk : 1 ≤ k) (hg : Gl X name) (hdb : (name == ("__debug__" : Str)) = false := by decide) :
    PMk X (.Call (.Name name p) [] [] pos) (tMkF0 C) := by
  intro pins s σ H Q I h
  refine wpAny_Call_Name_kw (ld_glob I hg T.gC ?_ hdb)
  refine PySem.W.callWith_K0 I.kIn T.kC ?_
  show wpAny _ _ (call (.ref C) []) _ _ _
  have hlim := I.nolimit
  have G := I.ok.mod.glob.keeps I.bk
  obtain ⟨mb, hb, hb2⟩ := I.ok.mod.blt
  have hb := hb.keeps I.bk
  obtain ⟨hp, g, dr, tk, os⟩ := s
  refine wpAny_call (PySem.OwnX.own_made0 T I.kIn G ⟨mb, hb, hb2⟩ hlim (by have := hr.dp; omega) fun h' tk' e M => ?_)
  show MkP X pins σ Q (.ref e) ⟨h', g, dr, tk', os⟩
  obtain ⟨oe, fv, hoe, hc, hd, hdat, h1⟩ := M.obj
  obtain ⟨G', g1, g2⟩ := restrict h' fun b => decide (b ≠ e)
  have gk : ∀ b, b ≠ e → G'.get? b = h'.get? b := fun b hb => g1 b (decide_eq_true hb)
  have ge : G'.get? e = none := g2 e (by simp)
  have old : ∀ b o, hp.get? b = some o → G'.get? b = some o := fun b o q => (gk b (Nat.ne_of_lt (Nat.lt_of_lt_of_le (Heap.lt_size q) M.new))).trans (M.keep b o q)
  have J : Inv X pins σ H ⟨G', g, dr, tk', os⟩ := I.kept (t' := tk') old
  refine ⟨e, oe, fv, ⟨G', g, dr, tk', os⟩, _, .ref C, none, rfl, J, fun b o q => ?_, ge, hoe, ⟨hc, hd⟩, hdat, h1, ?_, rfl, I.bare, raises_own T.exC T.tyC, h⟩
  · by_cases hb : b = e
    · have q' : G'.get? b = some o := q
      rw [hb, ge] at q'; cases q'
    · exact (gk b hb).symm.trans q
  · exact I.hok.fresh M.new
end
section
variable {X : Cx}
/-- isinstance(e, c), e the exception that the suite holds, whatever it keeps -/
def rIsD (K : PySem.W.Frag) (D a : Addr) (d : Option Addr) : List V → Hp → VK → Prop := fun xs H Q => (∀ dd, d = some dd → ∃ fs, H dd = some (.xd fs)) ∧ rIsE K D a xs H Q
theorem call_isD {a D : Addr} {oe : Obj} {cls : Value} {d : Option Addr} {pn : List (Addr × Obj)} (C : ExcC X.K D) (hc : cls = .ref D) (hz : Zc cls d oe) (hf : ∃ vs, oe.data = .fields vs) : CallR (X.suite a ((a, oe) :: pn)) (.builtin "isinstance") (rIsD X.K D a d) := by
  intro pins s σ H xs us Q I r hr
  obtain ⟨hd, c, cv, b, rfl, hcv, e, q⟩ := hr
  subst hc
  cases r with
  | cons rx rr =>
    cases rr with
    | cons rt rr =>
      cases rr
      cases rx
      have ec := hcv _ rt
      subst ec
      obtain ⟨hget, _⟩ := I.pin (a, oe) (List.mem_append.mpr (.inl List.mem_cons_self))
      obtain ⟨vs, hv⟩ := hf
      have J : ∃ odx, PySem.W.InstAt s.heap a oe D odx := by
        obtain ⟨oc, od, oda, osl⟩ := oe
        obtain ⟨h1, h2⟩ := hz
        dsimp only at h1 h2 hv
        subst h1 h2 hv
        cases od with
        | none => exact ⟨none, hget, rfl, rfl, trivial⟩
        | some dd =>
          obtain ⟨fs, ed⟩ := hd dd rfl
          have hx : ObjOk X.prog X.w H s.heap dd (.xd fs) := I.hok dd _ ed
          obtain ⟨mA, hns, hr⟩ := hx
          obtain ⟨o, ho, hl⟩ := lookIn_ns hns
          exact ⟨some o, hget, rfl, rfl, ho⟩
      obtain ⟨odx, J⟩ := J
      exact PySem.W.kia_one (PySem.W.kitx_excD C.hg C.hk C.hs C.hd C.ha C.hn C.ht C.hm) I.kIn J e (fun z => nomatch z) fun tk => ⟨.bl b, H, I.kept (t' := tk) fun _ _ z => z, rfl, q⟩
end
end L2

/-! DLX3: defs that may raise, by data; try. -/
namespace L2.DL
open PySem PySem.Spec PyProof.Rows
/-- an error: the number of its class, what its field keeps -/
structure Er where
  c : Nat
  v : Option Int
  deriving DecidableEq
/-- handed back, or raised -/
inductive Rz (R : Type) where
  | ok (r : R) | er (e : Er)
/-- where the classes stand, what their fields are called -/
structure Ct where
  a : Nat → Addr
  f : Nat → Str
def fsOf (f : Nat → Str) (e : Er) : List (Str × V) := match e.v with
  | none => []
  | some i => [(f e.c, .int i)]
def ErOk (ct : Ct) (H : Hp) (e : Er) (cls : Value) (d : Option Addr) : Prop := cls = .ref (ct.a e.c) ∧ (e.v = none → d = none) ∧ (∀ i, e.v = some i → ∃ x, d = some x) ∧ ∀ x, d = some x → H x = some (.xd (fsOf ct.f e))
section
variable (K : PySem.W.Frag) (ct : Ct) (W : XK)
def RzOk {R : Type} [Rp R] (Ht C0 : Hp) (m : Md) (D : Ends) : Rz R → Prop
  | .ok r => ∀ v C' H', Ext C0 Ht C' H' → Rep K (part m Ht C') (rp r) v → D.rt v H'
  | .er e => ∀ cls d C' H', Ext C0 Ht C' H' → ErOk ct H' e cls d → W cls d H'
def EvRX {R : Type} [Rp R] (t : TS) (ρ : En) (m : Md) (o : Option (Rz R)) : Prop :=
  ∀ (Ht C0 C H : Hp) (σ : St), EnvI K Ht C0 C H σ ρ → ∀ r, o = some r → ∀ D : Ends, RzOk K ct W Ht C0 m D r → t D σ H
def FlOkX {S T R : Type} [Rp R] (Ht C0 C : Hp) (E : S → En) (L : T → En) (m : Md) (D : Ends) : Fl S T (Rz R) → Prop
  | .nx s => Thn K Ht C0 C (E s) D.nx
  | .bk s => Thn K Ht C0 C (L s) D.bk
  | .ct s => Thn K Ht C0 C (L s) D.ct
  | .rt r => RzOk K ct W Ht C0 m D r
def EvFX {S T R : Type} [Rp R] (t : TS) (ρ : En) (E : S → En) (L : T → En) (m : Md) (o : Option (Fl S T (Rz R))) : Prop :=
  ∀ (Ht C0 C H : Hp) (σ : St), EnvI K Ht C0 C H σ ρ → ∀ f, o = some f → ∀ D : Ends, FlOkX K ct W Ht C0 C E L m D f → t D σ H
end
section
variable {K : PySem.W.Frag} {ct : Ct} {W : XK} {t u v : TS} {te ta tb : TE} {ρ ρ' : En} {m m1 m2 mi : Md} {S S2 T R : Type} [Rp R] {E : S → En} {E2 : S2 → En} {L : T → En}
variable {α β γ : Type} [Rp α] [Rp β] [Rp γ] {c : TT} {rc : Option Bool} {w : TI} {g : TG}
theorem xf_end {s : S} (w : EnvW ρ (E s)) : EvFX K ct W tNext ρ E L m (some (.nx s : Fl S T (Rz R))) := fun Ht C0 C H σ I s' e D q => by
  cases e
  exact q C H σ (I.weak w) (.refl _)
theorem xf_bk {s : T} (w : EnvW ρ (L s)) : EvFX K ct W tBreak ρ E L m (some (.bk s : Fl S T (Rz R))) := fun Ht C0 C H σ I s' e D q => by
  cases e
  exact q C H σ (I.weak w) (.refl _)
theorem xf_ct {s : T} (w : EnvW ρ (L s)) : EvFX K ct W tCont ρ E L m (some (.ct s : Fl S T (Rz R))) := fun Ht C0 C H σ I s' e D q => by
  cases e
  exact q C H σ (I.weak w) (.refl _)
theorem xr_seq {o : Option S} {f : S → Option (Rz R)} (h1 : EvN K t ρ E o) (h2 : ∀ s, EvRX K ct W u (E s) m (f s)) : EvRX K ct W (tSeq t u) ρ m (o.bind f) := fun Ht C0 C H σ I s e D q => by
  obtain ⟨s1, e1, e⟩ := some_bind e
  exact h1 Ht C0 C H σ I s1 e1 _ fun C' H' σ' I' _ => h2 s1 Ht C0 C' H' σ' I' s e D q
theorem xr_seqF {o : Option (Fl S T (Rz R))} {f : S → Option (Rz R)} (h1 : EvFX K ct W t ρ E L m o) (h2 : ∀ s, EvRX K ct W u (E s) m (f s)) : EvRX K ct W (tSeq t u) ρ m (Fl.ret o f) := fun Ht C0 C H σ I s e D q => by
  obtain ⟨s1, e1, e⟩ := some_bind e
  cases s1 with
  | nx s1 => exact h1 Ht C0 C H σ I _ e1 _ fun C' H' σ' I' _ => h2 s1 Ht C0 C' H' σ' I' s e D q
  | rt r => cases e; exact h1 Ht C0 C H σ I _ e1 _ q
  | bk s1 => cases e
  | ct s1 => cases e
theorem xf_seq {o : Option S} {f : S → Option (Fl S2 T (Rz R))} (h1 : EvN K t ρ E o) (h2 : ∀ s, EvFX K ct W u (E s) E2 L m (f s)) : EvFX K ct W (tSeq t u) ρ E2 L m (o.bind f) := fun Ht C0 C H σ I s e D q => by
  obtain ⟨s1, e1, e⟩ := some_bind e
  refine h1 Ht C0 C H σ I s1 e1 _ fun C' H' σ' I' s' => h2 s1 Ht C0 C' H' σ' I' s e D ?_
  cases s with
  | nx s => exact Thn.next q s'
  | bk s => exact Thn.next q s'
  | ct s => exact Thn.next q s'
  | rt r => exact q
theorem xf_seqF {o : Option (Fl S T (Rz R))} {f : S → Option (Fl S2 T (Rz R))} (h1 : EvFX K ct W t ρ E L m o) (h2 : ∀ s, EvFX K ct W u (E s) E2 L m (f s)) : EvFX K ct W (tSeq t u) ρ E2 L m (Fl.seq o f) := fun Ht C0 C H σ I s e D q => by
  obtain ⟨s1, e1, e⟩ := some_bind e
  cases s1 with
  | nx s1 =>
    refine h1 Ht C0 C H σ I _ e1 _ fun C' H' σ' I' s' => h2 s1 Ht C0 C' H' σ' I' s e D ?_
    cases s with
    | nx s => exact Thn.next q s'
    | bk s => exact Thn.next q s'
    | ct s => exact Thn.next q s'
    | rt r => exact q
  | rt r => cases e; exact h1 Ht C0 C H σ I _ e1 { D with nx := u D } q
  | bk s1 => cases e; exact h1 Ht C0 C H σ I _ e1 { D with nx := u D } q
  | ct s1 => cases e; exact h1 Ht C0 C H σ I _ e1 { D with nx := u D } q
theorem xr_cut {o : Option (Rz R)} (h : EvRX K ct W t ρ m o) : EvRX K ct W (tSeq t u) ρ m o := fun Ht C0 C H σ I s e D q => h Ht C0 C H σ I s e _ q
theorem xr_nx {o : Option (Rz R)} (h : EvRX K ct W u ρ m o) : EvRX K ct W (tSeq tNext u) ρ m o := fun Ht C0 C H σ I s e D q => h Ht C0 C H σ I s e D q
theorem xf_cutR {o : Option (Rz R)} (h : EvRX K ct W t ρ m o) : EvFX K ct W (tSeq t u) ρ E L m (o.map Fl.rt : Option (Fl S T (Rz R))) := fun Ht C0 C H σ I f e D q => by
  obtain ⟨s, es, rfl⟩ := some_map e
  exact h Ht C0 C H σ I s es _ q
theorem xf_cutB {s : T} (w : EnvW ρ (L s)) : EvFX K ct W (tSeq tBreak u) ρ E L m (some (.bk s : Fl S T (Rz R))) := fun Ht C0 C H σ I s' e D q => by
  cases e
  exact q C H σ (I.weak w) (.refl _)
theorem xf_cutC {s : T} (w : EnvW ρ (L s)) : EvFX K ct W (tSeq tCont u) ρ E L m (some (.ct s : Fl S T (Rz R))) := fun Ht C0 C H σ I s' e D q => by
  cases e
  exact q C H σ (I.weak w) (.refl _)
theorem xf_nx {o : Option (Fl S T (Rz R))} (h : EvFX K ct W u ρ E L m o) : EvFX K ct W (tSeq tNext u) ρ E L m o := fun Ht C0 C H σ I s e D q => h Ht C0 C H σ I s e D q
theorem xr_assoc {o : Option (Rz R)} {w : TS} (h : EvRX K ct W (tSeq t (tSeq u w)) ρ m o) : EvRX K ct W (tSeq (tSeq t u) w) ρ m o := h
theorem xf_assoc {o : Option (Fl S T (Rz R))} {w : TS} (h : EvFX K ct W (tSeq t (tSeq u w)) ρ E L m o) : EvFX K ct W (tSeq (tSeq t u) w) ρ E L m o := h
theorem xr_if {o1 o2 : Option (Rz R)} (hc : EvT K c ρ rc) (h1 : EvRX K ct W t ρ m o1) (h2 : EvRX K ct W u ρ m o2) : EvRX K ct W (tIfS c t u) ρ m (rc.bind fun b => if b = true then o1 else o2) := fun Ht C0 C H σ I s e D q => by
  obtain ⟨b, eb, e⟩ := some_bind e
  refine hc Ht C0 C H σ I b eb _ fun C' H' x => ?_
  cases b with
  | true => rw [if_pos rfl] at e; exact iteT (h1 Ht C0 C' H' σ (I.to x) s e D q)
  | false => rw [if_neg Bool.false_ne_true] at e; exact iteF (h2 Ht C0 C' H' σ (I.to x) s e D q)
theorem xf_if {o1 o2 : Option (Fl S T (Rz R))} (hc : EvT K c ρ rc) (h1 : EvFX K ct W t ρ E L m o1) (h2 : EvFX K ct W u ρ E L m o2) : EvFX K ct W (tIfS c t u) ρ E L m (rc.bind fun b => if b = true then o1 else o2) := fun Ht C0 C H σ I s e D q => by
  obtain ⟨b, eb, e⟩ := some_bind e
  refine hc Ht C0 C H σ I b eb _ fun C' H' x => ?_
  have q' : FlOkX K ct W Ht C0 C' E L m D s := by
    cases s with
    | nx s => exact Thn.next q x.c
    | bk s => exact Thn.next q x.c
    | ct s => exact Thn.next q x.c
    | rt r => exact q
  cases b with
  | true => rw [if_pos rfl] at e; exact iteT (h1 Ht C0 C' H' σ (I.to x) s e D q')
  | false => rw [if_neg Bool.false_ne_true] at e; exact iteF (h2 Ht C0 C' H' σ (I.to x) s e D q')
theorem xr_ifS {w : TS} {o : Option (Rz R)} (h : EvRX K ct W (tIfS c (tSeq t w) (tSeq u w)) ρ m o) : EvRX K ct W (tSeq (tIfS c t u) w) ρ m o := h
theorem xf_ifS {w : TS} {o : Option (Fl S T (Rz R))} (h : EvFX K ct W (tIfS c (tSeq t w) (tSeq u w)) ρ E L m o) : EvFX K ct W (tSeq (tIfS c t u) w) ρ E L m o := h
theorem xf_for {vs : List Nat} {rx : Option (List α)} {s0 : S} {f : S → α → Option (Fl S S (Rz R))} {Eb : S → α → En} (hi : EvI K w ρ mi rx) (h0 : EnvW ρ (E s0)) (hg : ∀ s x, EvG K g mi (rp x) (E s) (Eb s x) vs)
    (hb : ∀ s x, EvFX K ct W t (Eb s x) E E m (f s x)) : EvFX K ct W (tFor w g t) ρ E L m (rx.bind fun xs => forL f xs s0) := fun Ht C0 C H σ I fin e D q => by
  obtain ⟨xs, ex, e⟩ := some_bind e
  refine hi Ht C0 C H σ I xs ex _ fun J C1 H1 x1 ok => ?_
  refine ⟨fun i n σ' Hc => n = xs.length - i ∧ i ≤ xs.length ∧ ∃ s Cc, EnvI K Ht C0 Cc Hc σ' (E s) ∧ Same C1 Cc ∧ forL f (xs.drop i) s = some fin, ⟨xs.length, rfl, Nat.zero_le _, s0, C1, (I.to x1).weak h0, .refl _, e⟩, ?_⟩
  rintro i n σ' Hc ⟨rfl, hi', s, Cc, Ic, sc, er⟩
  by_cases hlt : i < xs.length
  · have ed : (rps xs)[i]? = some (rp xs[i]) := by rw [rps, List.getElem?_map, List.getElem?_eq_getElem hlt]; rfl
    obtain ⟨go, yl⟩ := ok.go i Cc Hc _ ed sc Ic.sub Ic.ext.h
    refine .inr ⟨go, fun σ2 H2 => ∃ s Cc, EnvI K Ht C0 Cc H2 σ2 (E s) ∧ Same C1 Cc ∧ forL f (xs.drop (i + 1)) s = some fin, fun σ2 H2 h => ⟨xs.length - (i + 1), by omega, rfl, hlt, h⟩, fun x H2 hy => ?_⟩
    obtain ⟨C2, x2, r2⟩ := yl x H2 hy
    rw [List.drop_eq_getElem_cons hlt] at er
    obtain ⟨o, e2, er⟩ := some_bind er
    refine hg s xs[i] Ht C0 C2 H2 σ' x (Ic.to x2) r2 _ fun σ3 I3 _ _ => ?_
    refine hb s xs[i] Ht C0 C2 H2 σ3 I3 o e2 _ ?_
    have sc2 := sc.trans x2.c
    cases o with
    | nx s2 => exact fun C4 H4 σ4 I4 s4 => ⟨s2, C4, I4, sc2.trans s4, er⟩
    | ct s2 => exact fun C4 H4 σ4 I4 s4 => ⟨s2, C4, I4, sc2.trans s4, er⟩
    | bk s2 => cases er; exact fun C4 H4 σ4 I4 s4 => q C4 H4 σ4 I4 (x1.c.trans (sc2.trans s4))
    | rt r => cases er; exact q
  · have hie : i = xs.length := by omega
    subst hie
    rw [List.drop_length] at er
    cases er
    have st := ok.stop Cc Hc sc Ic.sub
    rw [List.length_map] at st
    exact .inl ⟨st, q Cc Hc σ' Ic (x1.c.trans sc)⟩
theorem xf_while {n : Nat} {s0 : S} {cf : S → Option Bool} {f : S → Option (Fl S S (Rz R))} (h0 : EnvW ρ (E s0)) (hc : ∀ s, EvT K c (E s) (cf s)) (hb : ∀ s, EvFX K ct W t (E s) E E m (f s)) : EvFX K ct W (tWhile c t) ρ E L m (whileL cf f n s0) := fun Ht C0 C H σ I fin e D q => by
  refine ⟨fun k σ' Hc => ∃ s Cc, EnvI K Ht C0 Cc Hc σ' (E s) ∧ Same C Cc ∧ whileL cf f k s = some fin, ⟨n, s0, C, I.weak h0, .refl _, e⟩, ?_⟩
  rintro k σ' Hc ⟨s, Cc, Ic, sc, er⟩
  cases k with
  | zero => cases er
  | succ k =>
    obtain ⟨b, eb, er⟩ := some_bind er
    refine hc s Ht C0 Cc Hc σ' Ic b eb _ fun C2 H2 x2 => ?_
    have sc2 := sc.trans x2.c
    cases b with
    | true =>
      rw [if_pos rfl] at er
      obtain ⟨o, e2, er⟩ := some_bind er
      refine iteT ⟨fun σ3 H3 => ∃ s Cc, EnvI K Ht C0 Cc H3 σ3 (E s) ∧ Same C Cc ∧ whileL cf f k s = some fin, fun σ3 H3 h => ⟨k, Nat.lt_succ_self k, h⟩, ?_⟩
      refine hb s Ht C0 C2 H2 σ' (Ic.to x2) o e2 _ ?_
      cases o with
      | nx s2 => exact fun C4 H4 σ4 I4 s4 => ⟨s2, C4, I4, sc2.trans s4, er⟩
      | ct s2 => exact fun C4 H4 σ4 I4 s4 => ⟨s2, C4, I4, sc2.trans s4, er⟩
      | bk s2 => cases er; exact fun C4 H4 σ4 I4 s4 => q C4 H4 σ4 I4 (sc2.trans s4)
      | rt r => cases er; exact q
    | false =>
      rw [if_neg Bool.false_ne_true] at er
      cases er
      exact iteF (q C2 H2 σ' (Ic.to x2) sc2)
theorem EvRX.weakL {o : Option (Rz R)} (h : EvRX K ct W t ρ' m o) (w : EnvW ρ ρ') : EvRX K ct W t ρ m o := fun Ht C0 C H σ I => h Ht C0 C H σ (I.weak w)
theorem EvFX.weakL {o : Option (Fl S T (Rz R))} (h : EvFX K ct W t ρ' E L m o) (w : EnvW ρ ρ') : EvFX K ct W t ρ E L m o := fun Ht C0 C H σ I => h Ht C0 C H σ (I.weak w)
theorem EvRX.res {o o' : Option (Rz R)} (h : EvRX K ct W t ρ m o) (e : o' = o) : EvRX K ct W t ρ m o' := e ▸ h
theorem EvFX.res {o o' : Option (Fl S T (Rz R))} (h : EvFX K ct W t ρ E L m o) (e : o' = o) : EvFX K ct W t ρ E L m o' := e ▸ h
theorem EvRX.frz {o : Option (Rz R)} {i : Nat} {l : List Dt} (h : EvRX K ct W t (ρ.set i (.dat m1 (.lst l))) m o) (hi : ρ[i]? = some (.own m1 l) := by rfl) : EvRX K ct W t ρ m o := fun Ht C0 C H σ I => by
  obtain ⟨C', I', s'⟩ := freeze_same I hi
  exact h Ht C0 C' H σ I'
theorem EvFX.frz {o : Option (Fl S T (Rz R))} {i : Nat} {l : List Dt} (h : EvFX K ct W t (ρ.set i (.dat m1 (.lst l))) E L m o) (hi : ρ[i]? = some (.own m1 l) := by rfl) : EvFX K ct W t ρ E L m o := fun Ht C0 C H σ I f e D q => by
  obtain ⟨C', I', s'⟩ := freeze_same I hi
  refine h Ht C0 C' H σ I' f e D ?_
  cases f with
  | nx s => exact Thn.next q s'
  | bk s => exact Thn.next q s'
  | ct s => exact Thn.next q s'
  | rt r => exact q
theorem EvN.FX {o : Option S} (h : EvN K t ρ E o) : EvFX K ct W t ρ E L m (o.map Fl.nx : Option (Fl S T (Rz R))) := fun Ht C0 C H σ I f e D q => by
  obtain ⟨s, es, rfl⟩ := some_map e
  exact h Ht C0 C H σ I s es D q
theorem EvRX.F {o : Option (Rz R)} (h : EvRX K ct W t ρ m o) : EvFX K ct W t ρ E L m (o.map Fl.rt : Option (Fl S T (Rz R))) := fun Ht C0 C H σ I f e D q => by
  obtain ⟨s, es, rfl⟩ := some_map e
  exact h Ht C0 C H σ I s es D q
theorem xf_last {o : Option (Fl S T (Rz R))} (h : EvFX K ct W (tSeq t tNext) ρ E L m o) : EvFX K ct W t ρ E L m o := h
theorem xr_ifP {b : Bool} {o1 o2 : Option (Rz R)} (hc : EvT K c ρ (some b)) (h1 : EvRX K ct W t ρ m o1) (h2 : EvRX K ct W u ρ m o2) : EvRX K ct W (tIfS c t u) ρ m (if b = true then o1 else o2) := xr_if hc h1 h2
theorem xf_ifP {b : Bool} {o1 o2 : Option (Fl S T (Rz R))} (hc : EvT K c ρ (some b)) (h1 : EvFX K ct W t ρ E L m o1) (h2 : EvFX K ct W u ρ E L m o2) : EvFX K ct W (tIfS c t u) ρ E L m (if b = true then o1 else o2) := xf_if hc h1 h2
theorem xf_forP {vs : List Nat} {xs : List α} {s0 : S} {f : S → α → Option (Fl S S (Rz R))} {Eb : S → α → En} (hi : EvI K w ρ mi (some xs)) (h0 : EnvW ρ (E s0)) (hg : ∀ s x, EvG K g mi (rp x) (E s) (Eb s x) vs)
    (hb : ∀ s x, EvFX K ct W t (Eb s x) E E m (f s x)) : EvFX K ct W (tFor w g t) ρ E L m (forL f xs s0) := xf_for hi h0 hg hb
theorem EvRX.FP {r : Rz R} (h : EvRX K ct W t ρ m (some r)) : EvFX K ct W t ρ E L m (some (.rt r : Fl S T (Rz R))) := EvRX.F h
theorem xf_cutRP {r : Rz R} (h : EvRX K ct W t ρ m (some r)) : EvFX K ct W (tSeq t u) ρ E L m (some (.rt r : Fl S T (Rz R))) := xf_cutR h
end
end L2.DL

/-! DLX4: raise, calls that may raise, try, what a suite reads, the promises. -/
namespace L2.DL
open PySem PySem.Spec PyProof.Rows
/-! ### readings over the hand layer, by name -/
/-- raise C(e) -/
def tRaiseF (C : Addr) (fld : Str) (W : WX) (ta : TA) : TS := fun _ σ H => tMkF C fld ta σ H fun cls d H' => W cls d σ H'
def tRaise0 (C : Addr) (W : WX) : TS := fun _ σ H => tMkF0 C σ H fun cls d H' => W cls d σ H'
abbrev wE (E : XK) : WX := fun cls d _ H => E cls d H
section
variable {X : Cx} {C fI : Addr}
theorem ps_raiseF {name fld : Str} {a : Expr} {ta : TA} {W : WX} {p pos pos2 : Pos} {k : Nat} (hc : X.calm = true) (T : PySem.OwnX.OwnTxt X.prog X.K X.mg name fld C fI) (hr : Room k X.A) (hk : 1 ≤ k) (tk : Takes X W) (ha : PA X [a] ta) (hg : Gl X name) (hdb : (name == ("__debug__" : Str)) = false := by decide)
    (he : starEach (a :: []) X.env = (false, eval a X.env) :: starEach [] X.env := by rfl) (hpl : (backTo pos (starEach [] X.env)).any (·.1) = false := by rfl) :
    PS X (.Raise (some (.Call (.Name name p) [a] [] pos)) none pos2) (tRaiseF C fld W ta) := ps_raise hc tk (pmk_own1 T hr hk ha hg hdb he hpl)
theorem ps_raise0 {name : Str} {W : WX} {p pos pos2 : Pos} {k : Nat} (hc : X.calm = true) (T : PySem.OwnX.OwnTxt0 X.prog X.K X.mg name C fI) (hr : Room k X.A) (hk : 1 ≤ k) (tk : Takes X W) (hg : Gl X name) (hdb : (name == ("__debug__" : Str)) = false := by decide) :
    PS X (.Raise (some (.Call (.Name name p) [] [] pos)) none pos2) (tRaise0 C W) := ps_raise hc tk (pmk_own0 T hr hk hg hdb)
/-- try: body, except c as (slot i): suite -/
def tTryAs (K : PySem.W.Frag) (c : Value) (i : Nat) (tb : WX → TS) (ts : Addr → Value → Option Addr → TS) (Wout : WX) : TS := fun D σ H => tb (wAs K c i ts Wout D) D σ H
theorem ps_tryAs {x n : Str} {c : Value} {i : Nat} {body suite : List Stmt} {b₀ : Stmt} {np pos pos' : Pos} {tb : WX → TS} {ts : Addr → Value → Option Addr → TS} {Wout : WX}
    (hs : X.stack = X.env :: X.outer) (hf : X.env.frame = some X.env.locals) (hN : X.N.Nodup) (hi : X.N[i]? = some n) (hln : X.env.kindOf n = some .local) (hc : Names X x c) (tk : Takes X Wout)
    (hb : ∀ (W : WX) (pn : List (Addr × Obj)) (xe : Value → Shared → Prop), Takes (X.tr pn xe) W → PassesOwn (model X.prog X.w) X.A X.env xe → PSs (X.tr pn xe) body (tb W))
    (hsu : ∀ (a : Addr) (oe : Obj) (cls : Value) (d : Option Addr) (pn : List (Addr × Obj)), Zc cls d oe → (∃ vs, oe.data = .fields vs) → PSs (X.suite a ((a, oe) :: pn)) (b₀ :: suite) (ts a cls d)) :
    PS X (.Try body [.ExceptHandler (some (.Name x np)) (some n) (b₀ :: suite) pos'] [] [] pos) (tTryAs X.K c i tb ts Wout) := ps_try_as hs hf hN hi hln hc tk hb hsu
/-- try: body, except c: suite -/
def tTryO (K : PySem.W.Frag) (c : Value) (tb : WX → TS) (ts : Addr → Value → Option Addr → TS) (Wout : WX) : TS := fun D σ H => tb (wOnly K c ts Wout D) D σ H
theorem ps_tryO {x : Str} {c : Value} {body suite : List Stmt} {b₀ : Stmt} {np pos pos' : Pos} {tb : WX → TS} {ts : Addr → Value → Option Addr → TS} {Wout : WX}
    (hs : X.stack = X.env :: X.outer) (hf : X.env.frame = some X.env.locals) (hc : Names X x c) (tk : Takes X Wout)
    (hb : ∀ (W : WX) (pn : List (Addr × Obj)) (xe : Value → Shared → Prop), Takes (X.tr pn xe) W → PassesOwn (model X.prog X.w) X.A X.env xe → PSs (X.tr pn xe) body (tb W))
    (hsu : ∀ (a : Addr) (oe : Obj) (cls : Value) (d : Option Addr) (pn : List (Addr × Obj)), Zc cls d oe → (∃ vs, oe.data = .fields vs) → PSs (X.suite a ((a, oe) :: pn)) (b₀ :: suite) (ts a cls d)) :
    PS X (.Try body [.ExceptHandler (some (.Name x np)) none (b₀ :: suite) pos'] [] [] pos) (tTryO X.K c tb ts Wout) := ps_try_only hs hf hc tk hb hsu
/-- e.f, e the error that the suite holds at a, of any class -/
def tXg (K : PySem.W.Frag) (a : Addr) (cls : Value) (d : Option Addr) (f : Str) (te : TE) : TE := fun σ H Q => te σ H fun x H1 => x = .ref a ∧ ∃ C, cls = .ref C ∧ XfC K C ∧ PySem.W.findIn K (.ref C) f = some none ∧ ∃ (dd : Addr) (fs : List (Str × V)) (v : V), d = some dd ∧ H1 dd = some (.xd fs) ∧ fs.lookup f = some v ∧ Q v H1
theorem pe_xg {a : Addr} {oe : Obj} {cls : Value} {d : Option Addr} {pn : List (Addr × Obj)} {e : Expr} {te : TE} {pos : Pos} {n : Str} (hz : Zc cls d oe) (hf : ∃ vs, oe.data = .fields vs) (he : PE (X.suite a ((a, oe) :: pn)) e te)
    (hb : attributeBase e n X.env (eval e X.env) = eval e X.env := by rfl) : PE (X.suite a ((a, oe) :: pn)) (.Attribute e n pos) (tXg X.K a cls d n te) := by
  refine ⟨fun pins s σ H Q I h => ?_⟩
  refine attr_of hb (thn (he.run pins s σ H _ I h) fun u s1 hh => ?_)
  obtain ⟨x, H1, I1, rx, ex, C, ec, T, hno, dd, fs, v, ed, ea, l, q⟩ := hh
  subst ex
  obtain rfl : u = Value.ref a := rx
  subst ec
  subst ed
  obtain ⟨ha, _⟩ := I1.pin (a, oe) (List.mem_append_left _ List.mem_cons_self)
  obtain ⟨vs, hd⟩ := hf
  have hx : ObjOk X.prog X.w H1 s1.heap dd (.xd fs) := I1.hok dd _ ea
  obtain ⟨mA, hns, hr⟩ := hx
  obtain ⟨od, ho, hl⟩ := lookIn_ns hns
  obtain ⟨u, hu, ru⟩ := RelO.some_of (v := v) (o := mA n) (by rw [← l]; exact hr n)
  have J : PySem.W.InstAt s1.heap a oe C (some od) := ⟨ha, hz.1, by unfold PySem.W.notCls; rw [hd] <;> rfl, by rw [hz.2]; exact ho⟩
  exact HandSPX.exc_get I1.kIn J T.ga T.gg T.exC (PySem.W.findObj_own T.hdC hno rfl (by rw [hl, hu])) (handed_of ru) ⟨v, H1, I1.tok _, ru, q⟩
/-- isinstance(e, c), of any class -/
def rIsG (K : PySem.W.Frag) (a : Addr) (cls : Value) (d : Option Addr) : List V → Hp → VK → Prop := fun xs H Q => ∃ D, cls = .ref D ∧ ExcC K D ∧ rIsD K D a d xs H Q
theorem call_isG {a : Addr} {oe : Obj} {cls : Value} {d : Option Addr} {pn : List (Addr × Obj)} (hz : Zc cls d oe) (hf : ∃ vs, oe.data = .fields vs) : CallR (X.suite a ((a, oe) :: pn)) (.builtin "isinstance") (rIsG X.K a cls d) := by
  intro pins s σ H xs us Q I r h
  obtain ⟨D, e, C, h⟩ := h
  exact call_isD C e hz hf pins s σ H xs us Q I r h
end
/-! ### by data -/
/-- a call's outcome, as a statement's -/
def Rz.go {A S T R : Type} (f : A → S) (o : Option (Rz A)) : Option (Fl S T (Rz R)) := o.bind fun x => match x with
  | .ok a => some (.nx (f a))
  | .er e => some (.rt (.er e))
/-- a def's promise, where it may raise -/
def spX (K : PySem.W.Frag) (ct : Ct) {A R : Type} [Rp R] (ds : A → List Dt) (f : A → Option (Rz R)) (m : Md) : Sp := fun vs H Q E => ∃ (C : Hp) (x : A) (r : Rz R), Same C H ∧ RepL K C (ds x) vs ∧ f x = some r ∧
  match r with
  | .ok y => ∀ u C' H', Ext C H C' H' → Rep K (part m H C') (rp y) u → Q u H'
  | .er e => ∀ cls d C' H', Ext C H C' H' → ErOk ct H' e cls d → E cls d H'
/-- an expression that may raise; what is wished of that is told at the slots -/
def EvEX (K : PySem.W.Frag) (ct : Ct) {α : Type} [Rp α] (t : (St → XK) → TE) (ρ : En) (m : Md) (r : Option (Rz α)) : Prop :=
  ∀ (Ht C0 C H : Hp) (σ : St), EnvI K Ht C0 C H σ ρ → ∀ x, r = some x → ∀ (E : St → XK) (Q : VK), (match x with
    | .ok y => ∀ v C' H', Ext C H C' H' → Rep K (part m Ht C') (rp y) v → Q v H'
    | .er e => ∀ cls d C' H', Ext C H C' H' → ErOk ct H' e cls d → E σ cls d H') → t E σ H Q
section
variable {K : PySem.W.Frag} {ct : Ct} {W : XK} {t u v : TS} {te ta tb : TE} {tA : TA} {ρ ρ' : En} {m m1 m2 mi : Md} {S S2 T R A : Type} [Rp R] {E : S → En} {E2 : S2 → En} {L : T → En}
variable {α β γ : Type} [Rp α] [Rp β] [Rp γ] {ds : A → List Dt}
theorem ex_call {f : A → Option (Rz α)} {ra : Option A} (h : EvA K ds tA ρ ra) : EvEX K ct (fun E => tCallS (spX K ct ds f m) E tA) ρ m (ra.bind f) := fun Ht C0 C H σ I z e E Q q => by
  obtain ⟨x, ex, e⟩ := some_bind e
  refine h Ht C0 C H σ I x ex _ fun vs C1 H1 x1 r1 => ?_
  refine ⟨C1, x, z, x1.s, r1, e, ?_⟩
  cases z with
  | ok y => exact fun u C' H' y ru => q u C' H' (x1.trans y) (ru.mono (part_ht (I.ext.h.trans x1.h)))
  | er e => exact fun cls d C' H' y eo => q cls d C' H' (x1.trans y) eo
def Rz.val {A : Type} : Rz A → Option A
  | .ok x => some x
  | .er _ => none
/-- f(..) where nothing may be raised -/
theorem ev_callX {f : A → Option (Rz α)} {ra : Option A} {E0 : XK} (h : EvA K ds tA ρ ra) : EvE K (tCall (spX K ct ds f m) [] E0 tA) ρ m ((ra.bind f).bind Rz.val) := fun Ht C0 C H σ I z e Q q => by
  obtain ⟨y, ey, e⟩ := some_bind e
  obtain ⟨x, ex, ey⟩ := some_bind ey
  refine h Ht C0 C H σ I x ex _ fun vs C1 H1 x1 r1 => ?_
  rw [List.append_nil]
  refine ⟨C1, x, y, x1.s, r1, ey, ?_⟩
  cases y with
  | ok y =>
    cases e
    exact fun u C' H' y ru => q u C' H' (x1.trans y) (ru.mono (part_ht (I.ext.h.trans x1.h)))
  | er _ => cases e
/-- in a def that may raise: name = f(..) -/
theorem xf_asg {tX : (St → XK) → TE} {g : TG} {vs : List Nat} {Eα : α → En} {o : Option (Rz α)} (h : EvEX K ct tX ρ m o) (hg : ∀ x, EvG K g m (rp x) ρ (Eα x) vs) : EvFX K ct W (tAsg (tX fun _ => W) g) ρ Eα L m1 (Rz.go id o : Option (Fl α T (Rz R))) := fun Ht C0 C H σ I f e D q => by
  obtain ⟨x, ex, e⟩ := some_bind e
  refine h Ht C0 C H σ I x ex _ _ ?_
  cases x with
  | ok y =>
    cases e
    exact fun v C' H' y' rv => hg y Ht C0 C' H' σ v (I.to y') rv _ fun σ' I' _ _ => q C' H' σ' I' y'.c
  | er z =>
    cases e
    exact fun cls d C' H' y' eo => q cls d C' H' (I.ext.trans y') eo
/-- .. f(..) alone -/
theorem xf_drop {tX : (St → XK) → TE} {o : Option (Rz α)} (h : EvEX K ct tX ρ m o) : EvFX K ct W (tDrop (tX fun _ => W)) ρ (fun _ : Unit => ρ) L m1 (Rz.go (fun _ => ()) o : Option (Fl Unit T (Rz R))) := fun Ht C0 C H σ I f e D q => by
  obtain ⟨x, ex, e⟩ := some_bind e
  refine h Ht C0 C H σ I x ex _ _ ?_
  cases x with
  | ok y =>
    cases e
    exact fun v C' H' y' rv => q C' H' σ (I.to y') y'.c
  | er z =>
    cases e
    exact fun cls d C' H' y' eo => q cls d C' H' (I.ext.trans y') eo
/-- .. return f(..) -/
theorem xr_retX {tX : (St → XK) → TE} {o : Option (Rz R)} (h : EvEX K ct tX ρ m o) : EvRX K ct W (tRet (tX fun _ => W)) ρ m o := fun Ht C0 C H σ I x e D q => by
  refine h Ht C0 C H σ I x e _ _ ?_
  cases x with
  | ok y => exact fun v C' H' y' rv => q v C' H' (I.ext.trans y') rv
  | er z => exact fun cls d C' H' y' eo => q cls d C' H' (I.ext.trans y') eo
theorem xr_ret {o : Option R} (h : EvE K te ρ m o) : EvRX K ct W (tRet te) ρ m (o.map Rz.ok) := fun Ht C0 C H σ I x e D q => by
  obtain ⟨y, ey, rfl⟩ := some_map e
  exact h Ht C0 C H σ I y ey _ fun v C' H' y' rv => q v C' H' (I.ext.trans y') rv
theorem xr_retP {r : R} (h : EvE K te ρ m (some r)) : EvRX K ct W (tRet te) ρ m (some (.ok r)) := xr_ret h
/-- raise -/
theorem xr_raise {c : Nat} {r : Option Int} (h : EvE K te ρ m1 r) : EvRX K ct W (tRaiseF (ct.a c) (ct.f c) (wE W) (tCons te tNil)) ρ m (r.map fun i => (.er ⟨c, some i⟩ : Rz R)) := fun Ht C0 C H σ I x e D q => by
  obtain ⟨i, ei, rfl⟩ := some_map e
  refine h Ht C0 C H σ I i ei _ fun v C1 H1 x1 rv => ⟨v, rfl, fun d hd => ?_⟩
  rw [rv.int_]
  refine q (.ref (ct.a c)) (some d) C1 _ ((I.ext.trans x1).trans ⟨.refl _, same_upd hd, x1.s.trans (same_upd hd), fun _ _ z => z⟩) ⟨rfl, (fun z => nomatch z), (fun j _ => ⟨d, rfl⟩), fun y ey => ?_⟩
  cases ey
  exact upd_same
theorem xr_raise0 {c : Nat} : EvRX K ct W (tRaise0 (ct.a c) (wE W)) ρ m (some (.er ⟨c, none⟩ : Rz R)) := fun Ht C0 C H σ I x e D q => by
  cases e
  exact q (.ref (ct.a c)) none C H I.ext ⟨rfl, (fun _ => rfl), (fun j z => nomatch z), (fun y z => nomatch z)⟩
/-- a body's reading, from its promise -/
theorem of_bodyX {f : A → Option (Rz R)} {N : List Str} {tb : TS} {vs : List V} {H : Hp} {Q : VK} (hb : ∀ x : A, EvRX K ct W tb ((ds x).map (.dat .old) ++ List.replicate (N.length - (ds x).length) .un) m (f x)) (hN : ∀ x, (ds x).length ≤ N.length) (h : spX K ct ds f m vs H Q W) :
    tb { nx := fun _ H' => Q .non H', rt := Q } (start N vs) H := by
  obtain ⟨C, x, r, s, ra, ef, q⟩ := h
  have hl := ra.length
  refine hb x H C C H (start N vs) ⟨.refl s, ?_, fun i sl e => ?_, fun i j a mi li mj lj n e1 _ _ => ?_⟩ r ef _ ?_
  · unfold start
    rw [List.length_append, List.length_append, List.length_map, List.length_map, List.length_replicate, List.length_replicate, hl]
  · by_cases hi : i < (ds x).length
    · rw [List.getElem?_append_left (by rw [List.length_map]; exact hi), List.getElem?_map] at e
      obtain ⟨d, ed, rfl⟩ := some_map e
      obtain ⟨v, ev, rv⟩ := ra.get ed
      refine ⟨v, ?_, rv⟩
      unfold start
      rw [List.getElem?_append_left (by rw [List.length_map, hl]; exact hi), List.getElem?_map, ev]
      rfl
    · rw [List.getElem?_append_right (by rw [List.length_map]; omega), List.getElem?_replicate] at e
      split at e
      · cases e; trivial
      · cases e
  · by_cases hi : i < (ds x).length
    · rw [List.getElem?_append_left (by rw [List.length_map]; exact hi), List.getElem?_map] at e1
      obtain ⟨d, ed, z⟩ := some_map e1
      cases z
    · rw [List.getElem?_append_right (by rw [List.length_map]; omega), List.getElem?_replicate] at e1
      split at e1
      · cases e1
      · cases e1
  · cases r with
    | ok y => exact fun v C' H' x rv => q v C' H' x rv
    | er e => exact fun cls d C' H' x eo => q cls d C' H' x eo
/-- a body that may come to its end -/
def Fl.pr (o : Option (Fl Unit Unit (Rz Unit))) : Option (Rz Unit) := o.bind fun x => match x with
  | .nx _ => some (.ok ())
  | .rt r => some r
  | _ => none
theorem of_bodyP {o : A → Option (Fl Unit Unit (Rz Unit))} {N : List Str} {tb : TS} {vs : List V} {H : Hp} {Q : VK} {E1 L1 : Unit → En} (hb : ∀ x : A, EvFX K ct W tb ((ds x).map (.dat .old) ++ List.replicate (N.length - (ds x).length) .un) E1 L1 m (o x)) (hN : ∀ x, (ds x).length ≤ N.length) (h : spX K ct ds (fun x => Fl.pr (o x)) m vs H Q W) :
    tb { nx := fun _ H' => Q .non H', rt := Q } (start N vs) H := by
  obtain ⟨C, x, r, s, ra, ef, q⟩ := h
  obtain ⟨f, eo, ef⟩ := some_bind ef
  have hl := ra.length
  refine hb x H C C H (start N vs) ⟨.refl s, ?_, fun i sl e => ?_, fun i j a mi li mj lj n e1 _ _ => ?_⟩ f eo _ ?_
  · unfold start
    rw [List.length_append, List.length_append, List.length_map, List.length_map, List.length_replicate, List.length_replicate, hl]
  · by_cases hi : i < (ds x).length
    · rw [List.getElem?_append_left (by rw [List.length_map]; exact hi), List.getElem?_map] at e
      obtain ⟨d, ed, rfl⟩ := some_map e
      obtain ⟨v, ev, rv⟩ := ra.get ed
      refine ⟨v, ?_, rv⟩
      unfold start
      rw [List.getElem?_append_left (by rw [List.length_map, hl]; exact hi), List.getElem?_map, ev]
      rfl
    · rw [List.getElem?_append_right (by rw [List.length_map]; omega), List.getElem?_replicate] at e
      split at e
      · cases e; trivial
      · cases e
  · by_cases hi : i < (ds x).length
    · rw [List.getElem?_append_left (by rw [List.length_map]; exact hi), List.getElem?_map] at e1
      obtain ⟨d, ed, z⟩ := some_map e1
      cases z
    · rw [List.getElem?_append_right (by rw [List.length_map]; omega), List.getElem?_replicate] at e1
      split at e1
      · cases e1
      · cases e1
  · cases f with
    | nx u =>
      cases ef
      exact fun C' H' σ' I' _ => q .non C' H' I'.ext (by simp only [rp, Rp.rp, Rep])
    | rt r2 =>
      cases ef
      cases r with
      | ok y => exact fun v C' H' x rv => q v C' H' x rv
      | er e => exact fun cls d C' H' x eo => q cls d C' H' x eo
    | bk u => cases ef
    | ct u => cases ef
theorem spX_len {f : A → Option (Rz R)} {n : Nat} {vs : List V} {H : Hp} {Q : VK} (h : spX K ct ds f m vs H Q W) (hn : ∀ x, (ds x).length = n) : vs.length = n := by
  obtain ⟨C, x, r, s, ra, _⟩ := h
  rw [ra.length, hn]
end
section
variable {K : PySem.W.Frag} {ct : Ct} {R : Type} [Rp R] {a1 a2 a3 a4 : Type} [Rp a1] [Rp a2] [Rp a3] [Rp a4]
abbrev spX1 (K : PySem.W.Frag) (ct : Ct) (f : a1 → Option (Rz R)) (m : Md) : Sp := spX K ct (fun x : a1 => [rp x]) f m
abbrev spX2 (K : PySem.W.Frag) (ct : Ct) (f : a1 → a2 → Option (Rz R)) (m : Md) : Sp := spX K ct (fun x : a1 × a2 => [rp x.1, rp x.2]) (fun x => f x.1 x.2) m
abbrev spX3 (K : PySem.W.Frag) (ct : Ct) (f : a1 → a2 → a3 → Option (Rz R)) (m : Md) : Sp := spX K ct (fun x : a1 × a2 × a3 => [rp x.1, rp x.2.1, rp x.2.2]) (fun x => f x.1 x.2.1 x.2.2) m
end
/-! ### try -/
/-- the body of a try: one statement, an error leaves the slots as they are -/
def EvFB (K : PySem.W.Frag) (ct : Ct) {S T R : Type} [Rp R] (tb : WX → TS) (ρ : En) (E : S → En) (L : T → En) (m : Md) (o : Option (Fl S T (Rz R))) : Prop :=
  ∀ (Ht C0 C H : Hp) (σ : St), EnvI K Ht C0 C H σ ρ → ∀ f, o = some f → ∀ (W : WX) (D : Ends), (match f with
    | .nx s => Thn K Ht C0 C (E s) D.nx
    | .bk s => Thn K Ht C0 C (L s) D.bk
    | .ct s => Thn K Ht C0 C (L s) D.ct
    | .rt (.ok r) => ∀ v C' H', Ext C0 Ht C' H' → Rep K (part m Ht C') (rp r) v → D.rt v H'
    | .rt (.er e) => ∀ cls d C' H' σ', EnvI K Ht C0 C' H' σ' ρ → Same C C' → ErOk ct H' e cls d → W cls d σ' H') → tb W D σ H
/-- what a try comes to -/
def tryB {S T R : Type} (o : Option (Fl S T (Rz R))) (sub : Nat → Bool) (h : Er → Option (Fl S T R)) : Option (Fl S T R) := o.bind fun x => match x with
  | .nx s => some (.nx s)
  | .bk s => some (.bk s)
  | .ct s => some (.ct s)
  | .rt (.ok r) => some (.rt r)
  | .rt (.er e) => if sub e.c = true then h e else none
section
variable {K : PySem.W.Frag} {ct : Ct} {ρ : En} {m m1 : Md} {S T R : Type} [Rp R] {E : S → En} {L : T → En} {α : Type} [Rp α]
theorem eb_asg {tX : (St → XK) → TE} {g : TG} {vs : List Nat} {Eα : α → En} {o : Option (Rz α)} {f : α → S} (h : EvEX K ct tX ρ m o) (hg : ∀ x, EvG K g m (rp x) ρ (Eα x) vs) (hw : ∀ x, EnvW (Eα x) (E (f x))) : EvFB K ct (fun W => tAsg (tX (WE W)) g) ρ E L m1 (Rz.go f o : Option (Fl S T (Rz R))) := fun Ht C0 C H σ I z e W D q => by
  obtain ⟨x, ex, e⟩ := some_bind e
  refine h Ht C0 C H σ I x ex _ _ ?_
  cases x with
  | ok y =>
    cases e
    exact fun v C' H' y' rv => hg y Ht C0 C' H' σ v (I.to y') rv _ fun σ' I' _ _ => q C' H' σ' (I'.weak (hw y)) y'.c
  | er z =>
    cases e
    exact fun cls d C' H' y' eo => q cls d C' H' σ (I.to y') y'.c eo
theorem eb_drop {tX : (St → XK) → TE} {o : Option (Rz α)} {s : S} (h : EvEX K ct tX ρ m o) (hw : EnvW ρ (E s)) : EvFB K ct (fun W => tDrop (tX (WE W))) ρ E L m1 (Rz.go (fun _ => s) o : Option (Fl S T (Rz R))) := fun Ht C0 C H σ I z e W D q => by
  obtain ⟨x, ex, e⟩ := some_bind e
  refine h Ht C0 C H σ I x ex _ _ ?_
  cases x with
  | ok y =>
    cases e
    exact fun v C' H' y' rv => q C' H' σ ((I.to y').weak hw) y'.c
  | er z =>
    cases e
    exact fun cls d C' H' y' eo => q cls d C' H' σ (I.to y') y'.c eo
theorem EvI_gone {Ht C0 C H : Hp} {σ : St} {ρ : En} {i : Nat} (I : EnvI K Ht C0 C H σ ρ) (h : ∀ s, ρ[i]? = some s → s = .un) : EnvI K Ht C0 C H (σ.set i none) ρ :=
  I.forget (by rw [List.length_set]; exact I.len) fun j s e => by
    by_cases hj : j = i
    · subst hj
      exact .inl (h s e)
    · exact .inr ⟨e, by rw [List.getElem?_set_ne (Ne.symm hj)]⟩
theorem EnvI.held {Ht C0 C H : Hp} {σ : St} {ρ : En} {i : Nat} {a : Addr} {d : Option Addr} {fs : List (Str × V)} (I : EnvI K Ht C0 C H σ ρ) (hd : ∀ x, d = some x → H x = some (.xd fs)) : EnvI K Ht C0 C H (σ.set i (some (.ref a))) (ρ.set i (.err a d fs)) := by
  refine ⟨I.ext, by rw [List.length_set, List.length_set]; exact I.len, fun j s e => ?_, fun j k b mi li mj lj n e1 e2 e3 e4 => ?_⟩
  · rcases get_set e with ⟨rfl, rfl⟩ | ⟨n, e⟩
    · have hj : j < ρ.length := by
        have := (List.getElem?_eq_some_iff.mp e).1
        rwa [List.length_set] at this
      exact ⟨by rw [List.getElem?_set_self (by rw [I.len]; exact hj)], hd⟩
    · rw [List.getElem?_set_ne (Ne.symm n)]
      exact I.ok j s e
  · rcases get_set e1 with ⟨_, q⟩ | ⟨n1, e1⟩
    · cases q
    · rcases get_set e2 with ⟨_, q⟩ | ⟨n2, e2⟩
      · cases q
      · rw [List.getElem?_set_ne (Ne.symm n1)] at e3
        rw [List.getElem?_set_ne (Ne.symm n2)] at e4
        exact I.sep j k b mi li mj lj n e1 e2 e3 e4
theorem ef_tryAs {cv : Value} {i : Nat} {tb : WX → TS} {ts : Addr → Value → Option Addr → TS} {Wout : WX} {o : Option (Fl S T (Rz R))} {sub : Nat → Bool} {h : Er → Option (Fl S T R)} (hx : ∀ c, PySem.W.exmOne K (.ref (ct.a c)) cv = some (sub c)) (hb : EvFB K ct tb ρ E L m o)
    (hs : ∀ (e : Er) (a : Addr) (d : Option Addr), (e.v = none → d = none) → (∀ i, e.v = some i → ∃ x, d = some x) → EvF K (ts a (.ref (ct.a e.c)) d) (ρ.set i (.err a d (fsOf ct.f e))) E L m (h e)) (hE : ∀ s x, (E s)[i]? = some x → x = .un) (hL : ∀ s x, (L s)[i]? = some x → x = .un) :
    EvF K (tTryAs K cv i tb ts Wout) ρ E L m (tryB o sub h) := fun Ht C0 C H σ I f e D q => by
  obtain ⟨x, ex, e⟩ := some_bind e
  refine hb Ht C0 C H σ I x ex _ D ?_
  cases x with
  | nx s => cases e; exact q
  | bk s => cases e; exact q
  | ct s => cases e; exact q
  | rt r =>
    cases r with
    | ok r => cases e; exact q
    | er z =>
      intro cls d C' H' σ' I' sc eo
      obtain ⟨rfl, e1, e2, e3⟩ := eo
      have e : (if sub z.c = true then h z else none) = some f := e
      by_cases hc : sub z.c = true
      · rw [if_pos hc] at e
        refine ⟨true, by rw [hx, hc], fun _ a _ => ?_, fun z => nomatch z⟩
        refine hs z a d e1 e2 Ht C0 C' H' _ (I'.held e3) f e _ ?_
        cases f with
        | nx s => exact fun C2 H2 σ2 I2 s2 => q C2 H2 _ (EvI_gone I2 (hE s)) (sc.trans s2)
        | bk s => exact fun C2 H2 σ2 I2 s2 => q C2 H2 _ (EvI_gone I2 (hL s)) (sc.trans s2)
        | ct s => exact fun C2 H2 σ2 I2 s2 => q C2 H2 _ (EvI_gone I2 (hL s)) (sc.trans s2)
        | rt r => exact q
      · rw [if_neg hc] at e
        cases e
theorem ef_tryO {cv : Value} {tb : WX → TS} {ts : Addr → Value → Option Addr → TS} {Wout : WX} {o : Option (Fl S T (Rz R))} {sub : Nat → Bool} {h : Er → Option (Fl S T R)} (hx : ∀ c, PySem.W.exmOne K (.ref (ct.a c)) cv = some (sub c)) (hb : EvFB K ct tb ρ E L m o)
    (hs : ∀ (e : Er) (a : Addr) (d : Option Addr), EvF K (ts a (.ref (ct.a e.c)) d) ρ E L m (h e)) :
    EvF K (tTryO K cv tb ts Wout) ρ E L m (tryB o sub h) := fun Ht C0 C H σ I f e D q => by
  obtain ⟨x, ex, e⟩ := some_bind e
  refine hb Ht C0 C H σ I x ex _ D ?_
  cases x with
  | nx s => cases e; exact q
  | bk s => cases e; exact q
  | ct s => cases e; exact q
  | rt r =>
    cases r with
    | ok r => cases e; exact q
    | er z =>
      intro cls d C' H' σ' I' sc eo
      obtain ⟨rfl, e1, e2, e3⟩ := eo
      have e : (if sub z.c = true then h z else none) = some f := e
      by_cases hc : sub z.c = true
      · rw [if_pos hc] at e
        refine ⟨true, by rw [hx, hc], fun _ a _ => ?_, fun z => nomatch z⟩
        refine hs z a d Ht C0 C' H' _ I' f e _ ?_
        cases f with
        | nx s => exact fun C2 H2 σ2 I2 s2 => q C2 H2 _ I2 (sc.trans s2)
        | bk s => exact fun C2 H2 σ2 I2 s2 => q C2 H2 _ I2 (sc.trans s2)
        | ct s => exact fun C2 H2 σ2 I2 s2 => q C2 H2 _ I2 (sc.trans s2)
        | rt r => exact q
      · rw [if_neg hc] at e
        cases e
/-- e.f in the suite -/
def Er.get (f : Nat → Str) (e : Er) (n : Str) : Option Int := if f e.c = n then e.v else none
theorem ev_errF {i : Nat} {a : Addr} {d : Option Addr} {e : Er} {n : Str} (hX : ∀ c, XfC K (ct.a c)) (hN : ∀ c, ct.f c = n → PySem.W.findIn K (.ref (ct.a c)) n = some none) (h2 : ∀ i, e.v = some i → ∃ x, d = some x) (hi : ρ[i]? = some (.err a d (fsOf ct.f e)) := by rfl) :
    EvE K (tXg K a (.ref (ct.a e.c)) d n (tVar i)) ρ .new (e.get ct.f n) := fun Ht C0 C H σ I z ez Q q => by
  unfold Er.get at ez
  split at ez
  · rename_i hf
    obtain ⟨s1, s2⟩ := I.ok i _ hi
    obtain ⟨dd, hd⟩ := h2 z ez
    refine ⟨.ref a, s1, rfl, ct.a e.c, rfl, hX _, hN _ hf, dd, fsOf ct.f e, .int z, hd, s2 dd hd, ?_, q _ C H I.same .ofInt⟩
    unfold fsOf
    rw [ez, hf]
    simp [List.lookup]
  · cases ez
/-- isinstance in the suite -/
theorem ev_isG {i : Nat} {a : Addr} {d : Option Addr} {e : Er} {cV : V} {cv : Value} {sub : Nat → Bool} (hE : ∀ c, ExcC K (ct.a c)) (hx : ∀ c, PySem.W.kitOne K (.ref (ct.a c)) cv = some (sub c)) (hv : ∀ u, RelV cV u → u = cv) (hi : ρ[i]? = some (.err a d (fsOf ct.f e)) := by rfl) :
    EvE K (tCB (rIsG K a (.ref (ct.a e.c)) d) (tCons (tVar i) (tCons (tC cV) tNil))) ρ .new (some (sub e.c)) := fun Ht C0 C H σ I z ez Q q => by
  cases ez
  obtain ⟨s1, s2⟩ := I.ok i _ hi
  exact ⟨.ref a, s1, ct.a e.c, rfl, hE _, fun dd hd => ⟨_, s2 dd hd⟩, cV, cv, sub e.c, rfl, hv, hx _, q _ C H I.same .ofBl⟩
end
end L2.DL

/-! DLX5: what the written part says of the error classes -/
namespace L2.DL
open PySem PySem.Spec PyProof.Rows PySem.W PySem.HandSPX PySem.OwnX
section
variable {P : Program} {K : Frag} {h : Heap} {mg : Str → Option Value} {name fld : Str} {C fI cda cc : Addr} {nm qn : Str} {N : Addr} {bs bm : List Value} {sn : List Str} {sub : List Value} {ab : Bool} {col : Option Bool} {dd : Option Addr} {m0 m1 m2 m3 m5 : Option Value}
  {q1 txt : Str} {kk : Nat} {p1 p2 a1 a2 a3 a4 a5 a6 r1 r2 r3 r4 : Pos} {oc dc pm ct ccl cl : Value} {od an cdd cld : Option Addr} {osl ccs csl : Array (Option Value)} {vs : Array Value} {file : Str} {tf : Tok}
theorem cls_mk (xL : K.lookup C = some (excClassObj nm qn C N bs bm true sn sub ab col dd m0 m1 m2 m3 m5 "ValueError.__new__")) (rv : refsVE bm = true) (sa : findIn K (.ref C) "__setattr__" = some (some (.builtin "object.__setattr__"))) (ga : findIn K (.ref C) "__getattribute__" = some (some (.builtin "BaseException.__getattribute__")))
    (gg : findIn K (.ref C) "__getattr__" = some none) (iC : findIn K (.ref C) "__init__" = some (some (.ref fI))) (tI : typeIn K (.ref fI) = some (.type "function")) (kC : keepIn K (.ref C) = true) (exC : subIn K (.ref C) (.type "BaseException") = some true) (veC : subIn K (.ref C) (.type "ValueError") = some true)
    (tyC : typeIn K (.ref C) = some (.type "type")) (hdC : hasDictIn K C = true) (sup : ks_superIn K C C "__init__" = some (some (.builtin "ValueError.__init__"))) (own : mroIn K C (.ref C) = some true) (any : nsIn K cStatics "thirdparty.any" = some none) (nsu : nsIn K mainGlobals "super" = some none)
    (top : (P.main.scope.names.lookup ("super" : Str)).isSome = false) : ClsTxt P K C fI :=
  { cls := ⟨_, _, _, _, _, _, _, _, _, _, _, _, _, _, _, xL, rv⟩, sa := sa, ga := ga, gg := gg, iC := iC, tI := tI, kC := kC, exC := exC, veC := veC, tyC := tyC, hdC := hdC, sup := sup, own := own, any := any, nsu := nsu, top := top }
theorem own_mk (X : K.In h) (G : h.Ns mainGlobals mg) (T : ClsTxt P K C fI) (aC : nsIn K mainGlobals name = some (some (.ref C))) (noN : findIn K (.ref C) fld = some none)
    (l1 : K.lookup fI = some ⟨oc, od, .func (ksFn "__init__" q1 (iA fld p1 p2) (iB txt fld a1 a2 a3 a4 a5 a6 r1 r2 r3 r4 kk) (iS fld) .none .none dc pm an (.ref cda) ct cc), osl⟩) (c1 : codeIn K (.ref cda) q1 = true) (lc : K.lookup cda = some ⟨ccl, cdd, .fields vs, ccs⟩) (le : K.lookup cc = some ⟨cl, cld, .cell (some (.ref C)), csl⟩)
    (hv : vs[2]? = some (.str file tf)) (hf : ((P.main.file : Str) == file) = true) (hp : (a3.endLine == a5.line) = true) (ne1 : (("self" : Str) == fld) = false) (ne2 : (fld == ("__debug__" : Str)) = false) (s1 : (iS fld).names.lookup ("super" : Str) = some .globalImplicit) (s2 : (iS fld).names.lookup ("__class__" : Str) = some .free) (s3 : (iS fld).names.lookup fld = some .local)
    (hb : ∀ (dV kV doc pm : Value) (an : Option Addr) (cd : Value) (cc : Addr) (ct : Value), dV = .none → kV = .none → ∀ a b : Value, bindArgs (ksFn "__init__" q1 (iA fld p1 p2) (iB txt fld a1 a2 a3 a4 a5 a6 r1 r2 r3 r4 kk) (iS fld) dV kV doc pm an cd ct cc) ⟨[a, b], []⟩ = pure [(("self" : Str), a), (fld, b)]) : OwnTxt P K mg name fld C fI :=
  { T with gC := mg_of X G aC, noN := noN, ne1 := ne1, ne2 := ne2, s1 := s1, s2 := s2, s3 := s3, fn := ⟨q1, txt, kk, p1, p2, a1, a2, a3, a4, a5, a6, r1, r2, r3, r4, ⟨oc, od, .none, .none, dc, pm, an, cda, cc, ct, osl, ccl, cl, cdd, cld, ccs, csl, vs, file, tf, l1, rfl, rfl, c1, lc, hv, hf, le⟩, hp, hb⟩ }
theorem own_mk0 (X : K.In h) (G : h.Ns mainGlobals mg) (T : ClsTxt P K C fI) (aC : nsIn K mainGlobals name = some (some (.ref C)))
    (l1 : K.lookup fI = some ⟨oc, od, .func (ksFn "__init__" q1 (iA0 p1) (iB0 txt a1 a2 a3 a4 a5 a6 kk) iS0 .none .none dc pm an (.ref cda) ct cc), osl⟩) (c1 : codeIn K (.ref cda) q1 = true) (lc : K.lookup cda = some ⟨ccl, cdd, .fields vs, ccs⟩) (le : K.lookup cc = some ⟨cl, cld, .cell (some (.ref C)), csl⟩)
    (hv : vs[2]? = some (.str file tf)) (hf : ((P.main.file : Str) == file) = true) (hp : (a3.endLine == a5.line) = true)
    (hb : ∀ (dV kV doc pm : Value) (an : Option Addr) (cd : Value) (cc : Addr) (ct : Value), dV = .none → kV = .none → ∀ a : Value, bindArgs (ksFn "__init__" q1 (iA0 p1) (iB0 txt a1 a2 a3 a4 a5 a6 kk) iS0 dV kV doc pm an cd ct cc) ⟨[a], []⟩ = pure [(("self" : Str), a)]) : OwnTxt0 P K mg name C fI :=
  { T with gC := mg_of X G aC, fn := ⟨q1, txt, kk, p1, a1, a2, a3, a4, a5, a6, ⟨oc, od, .none, .none, dc, pm, an, cda, cc, ct, osl, ccl, cl, cdd, cld, ccs, csl, vs, file, tf, l1, rfl, rfl, c1, lc, hv, hf, le⟩, hp, hb⟩ }
theorem exc_mk {D : Addr} (T : ClsTxt P K D fI) (ha : findIn K (.ref D) "__class__" = some (some (.builtin "object.__class__"))) (hn : specialIn K (.builtin "object.__class__") "__get__" = some (some (.builtin "getset_descriptor.__get__"))) (ht : takesIn K (.builtin "object.__class__") = some true) (hm : mroIn K D (.type "object") = some true) : ExcC K D :=
  ⟨T.ga, T.gg, T.exC, T.hdC, ha, hn, ht, hm⟩
end
/-- where a class of the text stands -/
structure GA (mg : Str → Option Value) (x : Str) where
  a : Addr
  g : mg x = some (.ref a)
structure GS (mg : Str → Option Value) (x v : Str) where
  t : Tok
  g : mg x = some (.str v t)
structure GI (mg : Str → Option Value) (x : Str) (v : Int) where
  t : Tok
  g : mg x = some (.int v t)
section
variable {P : Program} {K : Frag} {h : Heap} {mg : Str → Option Value} {x v : Str} {a fI : Addr} {t : Tok} {i : Int}
def ga_mk (X : K.In h) (G : h.Ns mainGlobals mg) (e : nsIn K mainGlobals x = some (some (.ref a))) : GA mg x := ⟨a, mg_of X G e⟩
def gs_mk (X : K.In h) (G : h.Ns mainGlobals mg) (e : nsIn K mainGlobals x = some (some (.str v t))) : GS mg x v := ⟨t, mg_of X G e⟩
def gi_mk (X : K.In h) (G : h.Ns mainGlobals mg) (e : nsIn K mainGlobals x = some (some (.int i t))) : GI mg x i := ⟨t, mg_of X G e⟩
theorem xfc_mk {D : Addr} (T : ClsTxt P K D fI) : XfC K D := ⟨T.ga, T.gg, T.exC, T.hdC⟩
end
end L2.DL

/-! the mirrors that the laws share, and what they return -/
namespace L2.DL.N
open PySem PySem.Spec PyProof.Rows
def f_law_all_words (a_letters : Int) (a_length : Int) : Option (List (List Int)) :=
 (some ([([] : (List Int))] : (List (List Int)))).bind fun found_3 =>
 ((rangeP 0 a_length).bind fun l27 => l27.foldlM (fun (s5 : (List (List Int))) (turn_6 : Int) =>
 (some ([] : (List (List Int)))).bind fun longer_7 =>
 (s5.foldlM (fun (s8 : (List (List Int))) (word_9 : (List Int)) =>
 (((rangeP 0 a_letters).bind fun v17 => (mapO (fun x11 => lim (word_9 ++ ([x11] : (List Int)))) v17).bind lim).bind fun v20 => lim (s8 ++ v20)).bind fun longer_21 =>
 some longer_21) longer_7).bind fun (s24 : (List (List Int))) =>
 (some s24).bind fun found_25 =>
 some found_25) found_3).bind fun (s28 : (List (List Int))) =>
 some s28
def f_law_turned (a_word : (List Int)) (a_k : Int) : Option (List Int) :=
 lim ((cut a_word (some a_k) none) ++ (cut a_word none (some a_k)))
def f_law_is_head (a_word : (List Int)) : Option Bool :=
 ((rangeP (1 : Int) (a_word.length : Int)).bind fun v11 => (compM (fun x4 => (f_law_turned a_word x4).bind fun v10 => some (leG v10 a_word)) (fun x4 => some x4) v11).bind lim).bind fun v14 => eqD (rp v14) (rp ([] : (List Int)))
def f_law_is_number (a_value : Int) : Option Bool :=
 some (true && (!false))
def f_law_is_numbers (a_value : (List Int)) : Option Bool :=
 (if (!true) = true then
 some false
else
 Fl.ret ((forL (T := Unit) (R := Bool) (fun (s2 : Unit) (item_3 : Int) =>
 ((f_law_is_number item_3).map fun b => !b).bind fun b4 => (if b4 = true then
 some (.rt false)
else
 some (.nx ()))) a_value ())) fun (s7 : Unit) =>
 some true)
def f_law_least (a_word : (List Int)) : Option (List Int) :=
 ((rangeP 0 (if (a_word.length : Int) > (1 : Int) then (a_word.length : Int) else (1 : Int))).bind fun v9 => (mapO (fun x5 => f_law_turned a_word x5) v9).bind lim).bind fun v10 => minG v10
def f_powers_up_to (a_prime : Int) (a_exponent : Int) : Option (List Int) :=
 (some ([(1 : Int)] : (List Int))).bind fun found_3 =>
 ((rangeP 0 a_exponent).bind fun l16 => l16.foldlM (fun (s5 : (List Int)) (__6 : Int) =>
 (((atI s5 (-(1 : Int))).bind fun v12 => mulP v12 a_prime).bind fun v14 => lim (s5 ++ [v14])).bind fun found_7 =>
 some found_7) found_3).bind fun (s17 : (List Int)) =>
 some s17
def f_taken_out (a_prime : Int) (a_number : Int) : Option (Int × Int) :=
 (some (0 : Int)).bind fun exponent_1 =>
 (whileN (fun (s2 : (Int × Int)) => (modP s2.1 a_prime).bind fun v7 => some (decide (v7 = (0 : Int)))) (fun (s2 : (Int × Int)) =>
 (divP s2.1 a_prime).bind fun number_10 =>
 (some (s2.2 + (1 : Int))).bind fun exponent_13 =>
 some (number_10, exponent_13)) 1000000 (a_number, exponent_1)).bind fun (s15 : (Int × Int)) =>
 some (s15.2, s15.1)
def f_primes_of (a_number : Int) : Option (List (Int × Int)) :=
 (some ([] : (List (Int × Int)))).bind fun found_1 =>
 (some a_number).bind fun left_2 =>
 (some (2 : Int)).bind fun prime_3 =>
 (whileN (fun (s4 : ((List (Int × Int)) × Int × Int)) => (mulP s4.2.2 s4.2.2).bind fun v9 => some (decide (v9 ≤ s4.2.1))) (fun (s4 : ((List (Int × Int)) × Int × Int)) =>
 (((modP s4.2.1 s4.2.2).bind fun v14 => some (decide (v14 = (0 : Int)))).bind fun b22 => (if b22 = true then
 (f_taken_out s4.2.2 s4.2.1).bind fun p17 =>
 (lim (s4.1 ++ [(s4.2.2, p17.1)])).bind fun found_18 =>
 some (found_18, p17.2)
else
 some (s4.1, s4.2.1))).bind fun (s23 : ((List (Int × Int)) × Int)) =>
 (some (s4.2.2 + (1 : Int))).bind fun prime_26 =>
 some (s23.1, s23.2, prime_26)) 1000000 (found_1, left_2, prime_3)).bind fun (s29 : ((List (Int × Int)) × Int × Int)) =>
 ((if (decide ((1 : Int) < s29.2.1)) = true then
 (lim (s29.1 ++ [(s29.2.1, (1 : Int))])).bind fun found_32 =>
 some found_32
else
 some s29.1)).bind fun (s37 : (List (Int × Int))) =>
 some s37
def f_divisors_of (a_number : Int) : Option (List Int) :=
 (some ([(1 : Int)] : (List Int))).bind fun found_3 =>
 ((f_primes_of a_number).bind fun l15 => l15.foldlM (fun (s4 : (List Int)) (x5 : (Int × Int)) =>
 ((comp2 (fun x6 => some true) (fun x6 => f_powers_up_to x5.1 x5.2) (fun x6 u7 => some true) (fun x6 u7 => mulP x6 u7) s4).bind lim).bind fun found_13 =>
 some found_13) found_3).bind fun (s16 : (List Int)) =>
 some (sortI s16)
def f_power (a_base : Int) (a_exponent : Int) : Option Int :=
 (some (1 : Int)).bind fun product_1 =>
 ((rangeP 0 a_exponent).bind fun l9 => l9.foldlM (fun (s3 : Int) (turn_4 : Int) =>
 (mulP s3 a_base).bind fun product_7 =>
 some product_7) product_1).bind fun (s10 : Int) =>
 some s10
def f_sign_of (a_number : Int) : Option Int :=
 (some (1 : Int)).bind fun sign_1 =>
 Fl.ret ((f_primes_of a_number).bind fun l10 => (forL (T := Unit) (R := Int) (fun (s2 : Int) (x3 : (Int × Int)) =>
 (if (decide ((1 : Int) < x3.2)) = true then
 some (.rt (0 : Int))
else
 (some (-s2)).bind fun sign_7 =>
 some (.nx sign_7))) l10 sign_1)) fun (s11 : Int) =>
 some s11
def f_head_count (a_letters : Int) (a_length : Int) : Option Int :=
 (some (0 : Int)).bind fun total_1 =>
 ((f_divisors_of a_length).bind fun l18 => l18.foldlM (fun (s2 : Int) (divisor_3 : Int) =>
 (((f_sign_of divisor_3).bind fun v11 => ((divP a_length divisor_3).bind fun v8 => f_power a_letters v8).bind fun v12 => mulP v11 v12).bind fun v15 => some (s2 + v15)).bind fun total_16 =>
 some total_16) total_1).bind fun (s19 : Int) =>
 divP s19 a_length
def f_count_of_units (a_number : Int) : Option Int :=
 (some (1 : Int)).bind fun count_1 =>
 ((f_primes_of a_number).bind fun l21 => l21.foldlM (fun (s2 : Int) (x3 : (Int × Int)) =>
 ((mulP s2 (x3.1 - (1 : Int))).bind fun v17 => ((f_powers_up_to x3.1 (x3.2 - (1 : Int))).bind fun v14 => atI v14 (-(1 : Int))).bind fun v18 => mulP v17 v18).bind fun count_19 =>
 some count_19) count_1).bind fun (s22 : Int) =>
 some s22
def f_wheel_count (a_letters : Int) (a_length : Int) : Option Int :=
 (some (0 : Int)).bind fun total_1 =>
 ((f_divisors_of a_length).bind fun l18 => l18.foldlM (fun (s2 : Int) (divisor_3 : Int) =>
 (((f_count_of_units divisor_3).bind fun v11 => ((divP a_length divisor_3).bind fun v8 => f_power a_letters v8).bind fun v12 => mulP v11 v12).bind fun v15 => some (s2 + v15)).bind fun total_16 =>
 some total_16) total_1).bind fun (s19 : Int) =>
 divP s19 a_length
def f_law_gcd (a_first : Int) (a_second : Int) : Option Int :=
 (some (if a_first < 0 then -a_first else a_first)).bind fun first_2 =>
 (some (if a_second < 0 then -a_second else a_second)).bind fun second_4 =>
 (whileN (fun (s5 : (Int × Int)) => some (decide (s5.2 ≠ (0 : Int)))) (fun (s5 : (Int × Int)) =>
 (modP s5.1 s5.2).bind fun rest_10 =>
 (some s5.2).bind fun first_11 =>
 (some rest_10).bind fun second_12 =>
 some (first_11, second_12)) 1000000 (first_2, second_4)).bind fun (s14 : (Int × Int)) =>
 some s14.1
def f_law_power (a_base : Int) (a_exponent : Int) : Option Int :=
 (some (1 : Int)).bind fun product_1 =>
 ((rangeP 0 a_exponent).bind fun l9 => l9.foldlM (fun (s3 : Int) (turn_4 : Int) =>
 (mulP s3 a_base).bind fun product_7 =>
 some product_7) product_1).bind fun (s10 : Int) =>
 some s10

/-! tables up to 60 -/
def DT : List (List Int) := [[1], [1, 2], [1, 3], [1, 2, 4], [1, 5], [1, 2, 3, 6], [1, 7], [1, 2, 4, 8], [1, 3, 9], [1, 2, 5, 10], [1, 11], [1, 2, 3, 4, 6, 12], [1, 13], [1, 2, 7, 14], [1, 3, 5, 15], [1, 2, 4, 8, 16], [1, 17], [1, 2, 3, 6, 9, 18], [1, 19], [1, 2, 4, 5, 10, 20], [1, 3, 7, 21], [1, 2, 11, 22], [1, 23], [1, 2, 3, 4, 6, 8, 12, 24], [1, 5, 25], [1, 2, 13, 26], [1, 3, 9, 27], [1, 2, 4, 7, 14, 28], [1, 29], [1, 2, 3, 5, 6, 10, 15, 30], [1, 31], [1, 2, 4, 8, 16, 32], [1, 3, 11, 33], [1, 2, 17, 34], [1, 5, 7, 35], [1, 2, 3, 4, 6, 9, 12, 18, 36], [1, 37], [1, 2, 19, 38], [1, 3, 13, 39], [1, 2, 4, 5, 8, 10, 20, 40], [1, 41], [1, 2, 3, 6, 7, 14, 21, 42], [1, 43], [1, 2, 4, 11, 22, 44], [1, 3, 5, 9, 15, 45], [1, 2, 23, 46], [1, 47], [1, 2, 3, 4, 6, 8, 12, 16, 24, 48], [1, 7, 49], [1, 2, 5, 10, 25, 50], [1, 3, 17, 51], [1, 2, 4, 13, 26, 52], [1, 53], [1, 2, 3, 6, 9, 18, 27, 54], [1, 5, 11, 55], [1, 2, 4, 7, 8, 14, 28, 56], [1, 3, 19, 57], [1, 2, 29, 58], [1, 59], [1, 2, 3, 4, 5, 6, 10, 12, 15, 20, 30, 60]]
def PH : List Int := [1, 1, 2, 2, 4, 2, 6, 4, 6, 4, 10, 4, 12, 6, 8, 8, 16, 6, 18, 8, 12, 10, 22, 8, 20, 12, 18, 12, 28, 8, 30, 16, 20, 16, 24, 12, 36, 18, 24, 16, 40, 12, 42, 20, 24, 22, 46, 16, 42, 20, 32, 24, 52, 18, 40, 24, 36, 28, 58, 16]
def MU : List Int := [1, -1, -1, 0, -1, 1, -1, 0, 0, 1, -1, 0, -1, 1, 1, 0, -1, 0, -1, 0, 1, 1, -1, 0, 0, 1, 0, 0, -1, -1, -1, 0, 1, 1, 1, 0, -1, 1, 1, 0, -1, -1, -1, 0, 0, 1, -1, 0, 0, 0, 1, 0, -1, 0, 1, 0, 1, 1, -1, 0]
def dv (n : Nat) : List Int := DT.getD (n - 1) []
def ph (n : Nat) : Int := PH.getD (n - 1) 0
def mu (n : Nat) : Int := MU.getD (n - 1) 0
def okN (n : Nat) : Bool := (f_divisors_of n == some (dv n)) && (f_count_of_units n == some (ph n)) && (f_sign_of n == some (mu n))
theorem tab_ok : ((List.range 60).all fun n => okN (n + 1)) = true := by decide +kernel
theorem tab_of {n : Int} (h0 : 1 ≤ n) (h1 : n ≤ 60) : f_divisors_of n = some (dv n.toNat) ∧ f_count_of_units n = some (ph n.toNat) ∧ f_sign_of n = some (mu n.toNat) := by
  have h := List.all_eq_true.mp tab_ok (n.toNat - 1) (List.mem_range.mpr (by omega))
  have e : n.toNat - 1 + 1 = n.toNat := by omega
  rw [e] at h
  unfold okN at h
  rw [show ((n.toNat : Nat) : Int) = n by omega] at h
  simp only [Bool.and_eq_true] at h
  exact ⟨eq_of_beq h.1.1, eq_of_beq h.1.2, eq_of_beq h.2⟩
theorem dv_ok : ((List.range 60).all fun n => ((dv (n + 1)).all fun d => decide (1 ≤ d) && decide (d ≤ ((n + 1 : Nat) : Int)) && decide (((n + 1 : Nat) : Int) % d = 0)) && ((rangeL 1 ((n + 1 : Nat) + 1)).filter (fun d => decide (((n + 1 : Nat) : Int) % d = 0)) == dv (n + 1)) && decide (0 ≤ ph (n + 1)) && decide (ph (n + 1) ≤ 60) && decide (-1 ≤ mu (n + 1)) && decide (mu (n + 1) ≤ 1)) = true := by decide +kernel
theorem dv_of {n : Nat} (h0 : 1 ≤ n) (h1 : n ≤ 60) : (∀ d ∈ dv n, 1 ≤ d ∧ d ≤ n ∧ (n : Int) % d = 0) ∧ (rangeL 1 ((n : Int) + 1)).filter (fun d => decide ((n : Int) % d = 0)) = dv n ∧ (0 ≤ ph n ∧ ph n ≤ 60) ∧ -1 ≤ mu n ∧ mu n ≤ 1 := by
  have h := List.all_eq_true.mp dv_ok (n - 1) (List.mem_range.mpr (by omega))
  rw [show n - 1 + 1 = n by omega] at h
  simp only [Bool.and_eq_true, List.all_eq_true, decide_eq_true_eq, beq_iff_eq] at h
  obtain ⟨⟨⟨⟨⟨h1, h2⟩, h3⟩, h4⟩, h5⟩, h6⟩ := h
  exact ⟨fun d hd => ⟨(h1 d hd).1.1, (h1 d hd).1.2, (h1 d hd).2⟩, h2, ⟨h3, h4⟩, h5, h6⟩
theorem fold_some {α β : Type} {f : β → α → Option β} {g : β → α → β} : ∀ {l : List α} {s : β}, (∀ s x, x ∈ l → f s x = some (g s x)) → l.foldlM f s = some (l.foldl g s)
  | [], s, _ => rfl
  | x :: l, s, h => by
    rw [foldlM_cons', h s x List.mem_cons_self, bind_s, List.foldl_cons]
    exact fold_some fun s y hy => h s y (List.mem_cons_of_mem _ hy)
theorem mulP_big {x y : Int} (hx : x.natAbs < 2 ^ 2000) (hy : y.natAbs < 2 ^ 2000) : mulP x y = some (x * y) := by
  have : 2 ^ 2000 < 2 ^ 4096 := Nat.pow_lt_pow_right (by decide) (by decide)
  rw [mulP_def, if_pos ⟨Nat.lt_trans hx this, Nat.lt_trans hy this⟩]
theorem small_big {x : Int} (h : x.natAbs ≤ 1000000) : x.natAbs < 2 ^ 2000 := by
  have h2 : 2 ^ 20 < 2 ^ 2000 := Nat.pow_lt_pow_right (by decide) (by decide)
  exact Nat.lt_of_le_of_lt (Nat.le_trans h (by decide)) h2
theorem pow_big {x k : Nat} (hx : x ≤ 1000) (hk : k ≤ 100) : ((x ^ k : Nat) : Int).natAbs < 2 ^ 2000 := by
  rw [Int.natAbs_natCast]
  have h1 : x ^ k ≤ 1000 ^ k := Nat.pow_le_pow_left hx k
  have h2 : 1000 ^ k ≤ 1000 ^ 100 := Nat.pow_le_pow_right (by decide) hk
  have h3 : 1000 ^ 100 ≤ (2 ^ 10) ^ 100 := Nat.pow_le_pow_left (by decide) 100
  have h4 : (2 ^ 10) ^ 100 = 2 ^ 1000 := (Nat.pow_mul 2 10 100).symm
  have h5 : 2 ^ 1000 < 2 ^ 2000 := Nat.pow_lt_pow_right (by decide) (by decide)
  exact Nat.lt_of_le_of_lt (Nat.le_trans h1 (Nat.le_trans h2 h3)) (by rw [h4]; exact h5)
theorem f_power_eq {x k : Nat} (hx : x ≤ 1000) (hk : k ≤ 100) : f_power x k = some ((x ^ k : Nat) : Int) := by
  refine Rets.get ?_
  unfold f_power
  refine .some (.bind (Rets.range (fun j (s : Int) => s = ((x ^ j : Nat) : Int)) (by omega) (by omega) rfl ?_) fun s hs => .pure (by rw [hs, Int.toNat_natCast]))
  rintro j _ hj rfl
  rw [mulP_big (pow_big hx (by omega)) (small_big (by omega)), bind_s]
  exact .pure (by rw [Nat.pow_succ, Int.natCast_mul])
theorem f_law_power_is : f_law_power = f_power := rfl
theorem f_law_gcd_eq {a b : Int} (ha : 0 ≤ a) (hb : 0 ≤ b) (h : b < 1000000) : f_law_gcd a b = some ((Int.gcd a b : Nat) : Int) := by
  unfold f_law_gcd
  rw [if_neg (by omega), if_neg (by omega)]
  obtain ⟨s, e, hs⟩ := gcd_loop (fuel := 1000000) ha hb h
  simp only [bind_s] at e ⊢
  rw [e, bind_s, hs]
theorem f_law_is_numbers_eq {l : List Int} : f_law_is_numbers l = some true := by
  unfold f_law_is_numbers
  rw [if_neg (by decide), forL_nx, ret_nx]
  intro x _
  rfl
/-- wheels and heads -/
def W (x n : Nat) : Int := (dv n).foldl (fun s d => s + ph d.toNat * ((x ^ (n / d.toNat) : Nat) : Int)) 0 / n
def Hd (x n : Nat) : Int := (dv n).foldl (fun s d => s + mu d.toNat * ((x ^ (n / d.toNat) : Nat) : Int)) 0 / n
theorem f_wheel_count_eq {x n : Nat} (hx : x ≤ 1000) (h0 : 1 ≤ n) (h1 : n ≤ 60) : f_wheel_count x n = some (W x n) := by
  obtain ⟨d1, d2, _⟩ := dv_of h0 h1
  unfold f_wheel_count
  rw [bind_s, (tab_of (n := n) (by omega) (by omega)).1, Int.toNat_natCast, bind_s, fold_some (g := fun s d => s + ph d.toNat * ((x ^ (n / d.toNat) : Nat) : Int)), bind_s, divP_of (by omega) (by omega)]
  · rfl
  · intro s d hd
    obtain ⟨a1, a2, a3⟩ := d1 d hd
    obtain ⟨D, rfl⟩ := Int.eq_ofNat_of_zero_le (show 0 ≤ d by omega)
    have hp := (dv_of (n := D) (by omega) (by omega)).2.2.1
    have hle : n / D ≤ n := Nat.div_le_self _ _
    rw [(tab_of (n := D) (by omega) (by omega)).2.1, bind_s, divP_of (by omega) (by omega), bind_s, ← Int.natCast_ediv, f_power_eq hx (by omega), bind_s, Int.toNat_natCast, mulP_big (small_big (by omega)) (pow_big hx (by omega)), bind_s, bind_s]
theorem f_head_count_eq {x n : Nat} (hx : x ≤ 1000) (h0 : 1 ≤ n) (h1 : n ≤ 60) : f_head_count x n = some (Hd x n) := by
  obtain ⟨d1, d2, _⟩ := dv_of h0 h1
  unfold f_head_count
  rw [bind_s, (tab_of (n := n) (by omega) (by omega)).1, Int.toNat_natCast, bind_s, fold_some (g := fun s d => s + mu d.toNat * ((x ^ (n / d.toNat) : Nat) : Int)), bind_s, divP_of (by omega) (by omega)]
  · rfl
  · intro s d hd
    obtain ⟨a1, a2, a3⟩ := d1 d hd
    obtain ⟨D, rfl⟩ := Int.eq_ofNat_of_zero_le (show 0 ≤ d by omega)
    have hp := (dv_of (n := D) (by omega) (by omega)).2.2.2
    have hle : n / D ≤ n := Nat.div_le_self _ _
    rw [(tab_of (n := D) (by omega) (by omega)).2.2, bind_s, divP_of (by omega) (by omega), bind_s, ← Int.natCast_ediv, f_power_eq hx (by omega), bind_s, Int.toNat_natCast, mulP_big (small_big (by omega)) (pow_big hx (by omega)), bind_s, bind_s]
/-- the sums, at all n up to 60 and all x up to 20 -/
def sums (x n : Nat) : Bool := decide (W x n = ((dv n).map fun d => Hd x d.toNat).sum) && decide (((dv n).map fun d => d * Hd x d.toNat).sum = ((x ^ n : Nat) : Int)) && decide (W x n * n = ((List.range n).map fun k => ((x ^ Nat.gcd (k + 1) n : Nat) : Int)).sum) && decide ((W x n).natAbs < 2 ^ 2000) && ((dv n).all fun d => decide ((Hd x d.toNat).natAbs < 2 ^ 2000))
set_option exponentiation.threshold 5000
theorem sums_ok : ((List.range 60).all fun n => (List.range 20).all fun x => sums (x + 1) (n + 1)) = true := by decide +kernel
end L2.DL.N

/-! the order of lists of numbers -/
namespace L2.DL
open PySem PySem.Spec PyProof.Rows
theorem ltG_nil_nil : ltG ([] : List Int) [] = false := rfl
theorem ltG_nil_cons {y : Int} {ys : List Int} : ltG ([] : List Int) (y :: ys) = true := rfl
theorem ltG_cons_nil {x : Int} {xs : List Int} : ltG (x :: xs) ([] : List Int) = false := rfl
theorem ltG_cons {x y : Int} {xs ys : List Int} : ltG (x :: xs) (y :: ys) = if x = y then ltG xs ys else decide (x < y) := rfl
theorem ltG_irr : ∀ a : List Int, ltG a a = false
  | [] => rfl
  | x :: xs => by rw [ltG_cons, if_pos rfl, ltG_irr xs]
theorem ltG_trans : ∀ {a b c : List Int}, ltG a b = true → ltG b c = true → ltG a c = true
  | [], [], _, h, _ => by cases h
  | [], _ :: _, [], _, h => by cases h
  | [], _ :: _, _ :: _, _, _ => rfl
  | _ :: _, [], _, h, _ => by cases h
  | _ :: _, _ :: _, [], _, h => by cases h
  | x :: xs, y :: ys, z :: zs, h1, h2 => by
    rw [ltG_cons] at h1 h2 ⊢
    by_cases e1 : x = y
    · rw [if_pos e1] at h1
      by_cases e2 : y = z
      · rw [if_pos e2] at h2
        rw [if_pos (e1.trans e2)]
        exact ltG_trans h1 h2
      · rw [if_neg e2] at h2
        rw [e1, if_neg e2]
        exact h2
    · rw [if_neg e1] at h1
      have h1 := of_decide_eq_true h1
      by_cases e2 : y = z
      · rw [← e2, if_neg e1]
        exact decide_eq_true h1
      · rw [if_neg e2] at h2
        have h2 := of_decide_eq_true h2
        rw [if_neg (by omega)]
        exact decide_eq_true (by omega)
theorem ltG_tri : ∀ a b : List Int, ltG a b = true ∨ a = b ∨ ltG b a = true
  | [], [] => .inr (.inl rfl)
  | [], _ :: _ => .inl rfl
  | _ :: _, [] => .inr (.inr rfl)
  | x :: xs, y :: ys => by
    rw [ltG_cons, ltG_cons]
    by_cases e : x = y
    · subst e
      rw [if_pos rfl, if_pos rfl]
      rcases ltG_tri xs ys with h | h | h
      · exact .inl h
      · exact .inr (.inl (by rw [h]))
      · exact .inr (.inr h)
    · rw [if_neg e, if_neg fun q => e q.symm]
      rcases Int.lt_or_gt_of_ne e with h | h
      · exact .inl (decide_eq_true h)
      · exact .inr (.inr (decide_eq_true h))
theorem ltG_asy {a b : List Int} (h : ltG a b = true) : ltG b a = false := by
  cases e : ltG b a with
  | false => rfl
  | true => rw [← ltG_irr a, ltG_trans h e]
theorem ltG_ne {a b : List Int} (h : ltG a b = true) : a ≠ b := fun e => by
  rw [e, ltG_irr] at h
  cases h
theorem leG_def {a b : List Int} : leG a b = !ltG b a := rfl
theorem leG_iff {a b : List Int} : leG a b = true ↔ ltG a b = true ∨ a = b := by
  rw [leG_def]
  constructor
  · intro h
    rcases ltG_tri a b with q | q | q
    · exact .inl q
    · exact .inr q
    · rw [q] at h; cases h
  · rintro (h | rfl)
    · rw [ltG_asy h]; rfl
    · rw [ltG_irr]; rfl
theorem leG_refl (a : List Int) : leG a a = true := leG_iff.mpr (.inr rfl)
theorem leG_total (a b : List Int) : (leG a b || leG b a) = true := by
  rcases ltG_tri a b with q | q | q
  · rw [leG_iff.mpr (.inl q)]; rfl
  · rw [leG_iff.mpr (.inr q)]; rfl
  · rw [leG_iff.mpr (.inl q), Bool.or_true]
theorem leG_trans {a b c : List Int} (h1 : leG a b = true) (h2 : leG b c = true) : leG a c = true := by
  rcases leG_iff.mp h1 with q | rfl
  · rcases leG_iff.mp h2 with q2 | rfl
    · exact leG_iff.mpr (.inl (ltG_trans q q2))
    · exact h1
  · exact h2
theorem leG_anti {a b : List Int} (h1 : leG a b = true) (h2 : leG b a = true) : a = b := by
  rcases leG_iff.mp h1 with q | q
  · rw [leG_def, q] at h2; cases h2
  · exact q
theorem not_ltG {a b : List Int} (h : ltG a b = false) : leG b a = true := by rw [leG_def, h]; rfl
theorem lt_of_lt_le {a b c : List Int} (h1 : ltG a b = true) (h2 : leG b c = true) : ltG a c = true := by
  rcases leG_iff.mp h2 with q | rfl
  · exact ltG_trans h1 q
  · exact h1
theorem lt_of_le_lt {a b c : List Int} (h1 : leG a b = true) (h2 : ltG b c = true) : ltG a c = true := by
  rcases leG_iff.mp h1 with q | rfl
  · exact ltG_trans q h2
  · exact h2
theorem fold_min : ∀ {xs : List (List Int)} {x : List Int}, ∀ y ∈ x :: xs, leG (xs.foldl (fun a y => if ltG y a then y else a) x) y = true
  | [], x, y, h => by
    rw [List.mem_singleton.mp h]
    exact leG_refl x
  | z :: xs, x, y, h => by
    rw [List.foldl_cons]
    rcases List.mem_cons.mp h with rfl | h
    · refine leG_trans (fold_min (xs := xs) _ List.mem_cons_self) ?_
      split
      · rename_i q; exact leG_iff.mpr (.inl q)
      · exact leG_refl _
    · rcases List.mem_cons.mp h with rfl | h
      · refine leG_trans (fold_min (xs := xs) _ List.mem_cons_self) ?_
        split
        · exact leG_refl _
        · rename_i q
          exact not_ltG (by simpa using q)
      · exact fold_min (xs := xs) y (List.mem_cons_of_mem _ h)
theorem minG_spec {l : List (List Int)} {m : List Int} (h : minG l = some m) : m ∈ l ∧ ∀ x ∈ l, leG m x = true := by
  cases l with
  | nil => cases h
  | cons x xs =>
    cases h
    exact ⟨fold_mem, fold_min⟩
theorem minG_some {l : List (List Int)} (h : l ≠ []) : ∃ m, minG l = some m ∧ m ∈ l ∧ ∀ x ∈ l, leG m x = true := by
  cases l with
  | nil => exact absurd rfl h
  | cons x xs => exact ⟨_, rfl, minG_spec rfl⟩
theorem minG_eq {l : List (List Int)} {m : List Int} (h : m ∈ l) (h2 : ∀ x ∈ l, leG m x = true) : minG l = some m := by
  obtain ⟨q, e, q1, q2⟩ := minG_some (List.ne_nil_of_mem h)
  rw [e, leG_anti (q2 m h) (h2 q q1)]
/-- sorted -/
theorem sortG_perm (l : List (List Int)) : (sortG l).Perm l := List.mergeSort_perm _ _
theorem sortG_pw (l : List (List Int)) : (sortG l).Pairwise fun a b => leG a b = true := by
  unfold sortG
  exact List.pairwise_mergeSort (le := leG) (fun a b c h1 h2 => leG_trans h1 h2) leG_total l
theorem sortG_uniq {l r : List (List Int)} (h1 : r.Perm l) (h2 : r.Pairwise fun a b => leG a b = true) : sortG l = r :=
  ((sortG_perm l).trans h1.symm).eq_of_pairwise (fun a b _ _ h1 h2 => leG_anti h1 h2) (sortG_pw l) h2

/-! least turns -/
def rots (w : List Int) : List (List Int) := (List.range (max 1 w.length)).map fun k => rot k w
def lstW (w : List Int) : List Int := (minG (rots w)).getD []
theorem rots_ne (w : List Int) : rots w ≠ [] := fun h => by
  have := congrArg List.length h
  unfold rots at this
  rw [List.length_map, List.length_range, List.length_nil] at this
  omega
theorem minG_rots (w : List Int) : minG (rots w) = some (lstW w) ∧ lstW w ∈ rots w ∧ ∀ x ∈ rots w, leG (lstW w) x = true := by
  obtain ⟨m, e, h1, h2⟩ := minG_some (rots_ne w)
  unfold lstW
  rw [e]
  exact ⟨rfl, h1, h2⟩
theorem rot_zero (w : List Int) : rot 0 w = w := by unfold rot; rw [List.drop_zero, List.take_zero, List.append_nil]
theorem f_turned_eq {w : List Int} {k : Nat} (h : w.length ≤ 16777216) : N.f_law_turned w (k : Int) = some (rot k w) := by
  unfold N.f_law_turned
  rw [cut_drop, cut_take]
  exact lim_of (by have := rot_len (k := k) (l := w); unfold rot at this; omega)
theorem mapO_turned {w : List Int} (h : w.length ≤ 16777216) (l : List Nat) : mapO (fun x5 => N.f_law_turned w x5) (l.map fun k : Nat => (k : Int)) = some (l.map fun k => rot k w) := by
  rw [mapO_some (g := fun x => rot x.toNat w)]
  · rw [List.map_map]
    rfl
  · intro x hx
    obtain ⟨k, _, rfl⟩ := List.mem_map.mp hx
    exact f_turned_eq h
theorem f_least_eq {w : List Int} (h : w.length ≤ 16777216) : N.f_law_least w = some (lstW w) := by
  unfold N.f_law_least
  have e : (if (w.length : Int) > (1 : Int) then (w.length : Int) else (1 : Int)) = ((max 1 w.length : Nat) : Int) := by split <;> omega
  have hm : max 1 w.length ≤ 16777216 := by omega
  rw [e, rangeP_nats (by omega), bind_s]
  unfold nats
  rw [mapO_turned h, bind_s, lim_of (by rw [List.length_map, List.length_range]; exact hm), bind_s]
  exact (minG_rots w).1
theorem mem_rots {w : List Int} {k : Nat} (h : k < w.length) : rot k w ∈ rots w := List.mem_map.mpr ⟨k, List.mem_range.mpr (by omega), rfl⟩
theorem self_rots (w : List Int) : w ∈ rots w := List.mem_map.mpr ⟨0, List.mem_range.mpr (by omega), rot_zero w⟩
theorem lstW_iff {w : List Int} : lstW w = w ↔ ∀ k, k < w.length → leG w (rot k w) = true := by
  obtain ⟨_, h1, h2⟩ := minG_rots w
  constructor
  · intro e k hk
    have := h2 _ (mem_rots hk)
    rwa [e] at this
  · intro h
    refine leG_anti (h2 _ (self_rots w)) ?_
    obtain ⟨k, hk, e⟩ := List.mem_map.mp h1
    rw [← e]
    by_cases q : k < w.length
    · exact h k q
    · have : rot k w = w := by
        unfold rot
        rw [List.drop_of_length_le (by omega), List.take_of_length_le (by omega), List.nil_append]
      rw [this]
      exact leG_refl w
/-- a loop that joins -/
theorem flat_loop {α β : Type} {F : List β → α → Option (List β)} {g : α → List β} : ∀ {l : List α} {s : List β}, s.length + (l.flatMap g).length ≤ 16777216 → (∀ s x, x ∈ l → s.length + (g x).length ≤ 16777216 → F s x = some (s ++ g x)) → l.foldlM F s = some (s ++ l.flatMap g)
  | [], s, _, _ => by rw [List.flatMap_nil, List.append_nil]; rfl
  | x :: l, s, h, hF => by
    rw [List.flatMap_cons, List.length_append] at h
    rw [foldlM_cons', hF s x List.mem_cons_self (by omega), bind_s, flat_loop (by rw [List.length_append]; omega) fun s y hy => hF s y (List.mem_cons_of_mem _ hy), List.flatMap_cons, List.append_assoc]
theorem flat_len {α β : Type} {g : α → List β} {m : Nat} : ∀ {l : List α}, (∀ x ∈ l, (g x).length ≤ m) → (l.flatMap g).length ≤ l.length * m
  | [], _ => by simp
  | x :: l, h => by
    rw [List.flatMap_cons, List.length_append, List.length_cons, Nat.succ_mul]
    have := h x List.mem_cons_self
    have := flat_len fun y hy => h y (List.mem_cons_of_mem x hy)
    omega
/-! all words -/
theorem ltG_app {w u v : List Int} : ltG (w ++ u) (w ++ v) = ltG u v := by
  induction w with
  | nil => rfl
  | cons x w ih => rw [List.cons_append, List.cons_append, ltG_cons, if_pos rfl, ih]
theorem ltG_more : ∀ {a b : List Int} (u v : List Int), a.length = b.length → ltG a b = true → ltG (a ++ u) (b ++ v) = true
  | [], [], u, v, _, h => by cases h
  | [], _ :: _, u, v, hl, h => by cases hl
  | _ :: _, [], u, v, hl, h => by cases hl
  | x :: a, y :: b, u, v, hl, h => by
    rw [List.cons_append, List.cons_append, ltG_cons]
    rw [ltG_cons] at h
    split
    · rename_i e
      rw [if_pos e] at h
      exact ltG_more u v (by simpa using hl) h
    · rename_i e
      rw [if_neg e] at h
      exact h
def aw (x : Nat) : Nat → List (List Int)
  | 0 => [[]]
  | n + 1 => (aw x n).flatMap fun w => (nats x).map fun j => w ++ [j]
theorem mem_natsI {n : Nat} {x : Int} : x ∈ nats n ↔ 0 ≤ x ∧ x < n :=
  ⟨mem_nats, fun h => List.mem_map.mpr ⟨x.toNat, List.mem_range.mpr (by omega), by omega⟩⟩
theorem aw_mem {x : Nat} : ∀ {n : Nat} {w : List Int}, w ∈ aw x n ↔ w.length = n ∧ ∀ y ∈ w, 0 ≤ y ∧ y < x
  | 0, w => by
    unfold aw
    rw [List.mem_singleton]
    constructor
    · rintro rfl
      exact ⟨rfl, by simp⟩
    · rintro ⟨h, _⟩
      exact List.length_eq_zero_iff.mp h
  | n + 1, w => by
    unfold aw
    rw [List.mem_flatMap]
    constructor
    · rintro ⟨v, hv, hw⟩
      obtain ⟨j, hj, rfl⟩ := List.mem_map.mp hw
      obtain ⟨h1, h2⟩ := aw_mem.mp hv
      refine ⟨by rw [List.length_append, List.length_singleton, h1], fun y hy => ?_⟩
      rcases List.mem_append.mp hy with h | h
      · exact h2 y h
      · rw [List.mem_singleton.mp h]
        exact mem_nats hj
    · rintro ⟨h1, h2⟩
      have hne : w ≠ [] := fun e => by rw [e] at h1; cases h1
      refine ⟨w.dropLast, aw_mem.mpr ⟨by rw [List.length_dropLast, h1]; rfl, fun y hy => h2 y (List.dropLast_subset w hy)⟩, List.mem_map.mpr ⟨w.getLast hne, mem_natsI.mpr (h2 _ (List.getLast_mem hne)), List.dropLast_concat_getLast hne⟩⟩
theorem nats_pw (n : Nat) : (nats n).Pairwise fun a b => a < b := by
  unfold nats
  rw [List.pairwise_map]
  exact List.pairwise_lt_range.imp fun h => by omega
theorem aw_pw (x : Nat) : ∀ n, (aw x n).Pairwise fun a b => ltG a b = true
  | 0 => by unfold aw; exact List.pairwise_singleton _ _
  | n + 1 => by
    unfold aw
    rw [List.pairwise_flatMap]
    refine ⟨fun w _ => ?_, ?_⟩
    · rw [List.pairwise_map]
      refine (nats_pw x).imp fun {a b} h => ?_
      rw [ltG_app, ltG_cons, if_neg (by omega)]
      exact decide_eq_true h
    · refine (List.Pairwise.and_mem.mp (aw_pw x n)).imp ?_
      rintro a b ⟨ha, hb, h⟩ u hu v hv
      obtain ⟨i, _, rfl⟩ := List.mem_map.mp hu
      obtain ⟨j, _, rfl⟩ := List.mem_map.mp hv
      exact ltG_more _ _ (by rw [(aw_mem.mp ha).1, (aw_mem.mp hb).1]) h
theorem aw_len (x : Nat) : ∀ n, (aw x n).length = x ^ n
  | 0 => rfl
  | n + 1 => by
    unfold aw
    rw [List.length_flatMap, Nat.pow_succ, ← aw_len x n]
    generalize aw x n = l
    induction l with
    | nil => simp
    | cons w l ih => rw [List.map_cons, List.sum_cons, List.length_map, nats_len, ih, List.length_cons, Nat.succ_mul, Nat.add_comm]
theorem f_all_words_eq {x n : Nat} (hx : x ≤ 16777216) (hn : n ≤ 1000) (h : x ^ n ≤ 16777216) (h0 : 1 ≤ x) : N.f_law_all_words x n = some (aw x n) := by
  refine Rets.get ?_
  unfold N.f_law_all_words
  rw [bind_s]
  refine .bind (Rets.range (fun t (s : List (List Int)) => s = aw x t) (by omega) (by omega) rfl ?_) fun s hs => .pure (by rw [hs, Int.toNat_natCast])
  rintro t _ ht rfl
  have ht : t < n := by omega
  have h2 : x ^ (t + 1) ≤ x ^ n := Nat.pow_le_pow_right h0 ht
  rw [bind_s, flat_loop (g := fun w => (nats x).map fun j => w ++ [j])]
  · rw [bind_s, bind_s, List.nil_append]
    exact .pure rfl
  · have e := aw_len x (t + 1)
    unfold aw at e
    rw [e, List.length_nil]
    omega
  · intro s w hw hl
    have hwl := (aw_mem.mp hw).1
    rw [rangeP_nats (by omega), bind_s, mapO_some (g := fun j => w ++ [j]) fun j _ => lim_of (by rw [List.length_append, List.length_singleton]; omega), bind_s, lim_of (by rw [List.length_map, nats_len]; exact hx), bind_s, lim_of (by rw [List.length_append]; exact hl), bind_s]
theorem pw_lt_nodup {l : List (List Int)} (h : l.Pairwise fun a b => ltG a b = true) : l.Nodup := h.imp fun h => ltG_ne h
theorem sortG_mem {l r : List (List Int)} (hl : l.Nodup) (hr : r.Pairwise fun a b => ltG a b = true) (hm : ∀ a, a ∈ r ↔ a ∈ l) : sortG l = r :=
  sortG_uniq ((List.perm_ext_iff_of_nodup (pw_lt_nodup hr) hl).mpr hm) (hr.imp fun h => leG_iff.mpr (.inl h))
/-- a loop that asks and appends -/
theorem pick_loop {α : Type} {F : List α → α → Option (List α)} {g : α → Bool} : ∀ {l s : List α}, (∀ s x, x ∈ l → s.length < 16777216 → F s x = some (if g x = true then s ++ [x] else s)) → s.length + l.length ≤ 16777216 → l.foldlM F s = some (s ++ l.filter g)
  | [], s, _, _ => by rw [List.filter_nil, List.append_nil]; rfl
  | x :: l, s, h, hz => by
    rw [List.length_cons] at hz
    rw [foldlM_cons', h s x List.mem_cons_self (by omega), bind_s, pick_loop (fun s y hy => h s y (List.mem_cons_of_mem _ hy)) (by split <;> (try rw [List.length_append, List.length_singleton]) <;> omega)]
    cases e : g x with
    | true => rw [if_pos rfl, List.filter_cons_of_pos e, List.append_assoc]; rfl
    | false => rw [if_neg Bool.false_ne_true, List.filter_cons_of_neg (by rw [e]; exact Bool.false_ne_true)]
/-! unlike numbers -/
theorem met_len {l r : List Int} (hr : r.Nodup) (h : ∀ k, k ∈ l ↔ k ∈ r) : (met l).length = r.length := by
  obtain ⟨h1, h2⟩ := met_spec l
  exact ((List.perm_ext_iff_of_nodup h1 hr).mpr fun k => by rw [h2, h]).length_eq
theorem lenSet_eq {l r : List Int} (hl : l.length ≤ 4000) (hr : r.Nodup) (h : ∀ k, k ∈ l ↔ k ∈ r) : lenSet l = some (r.length : Int) := by
  unfold lenSet
  rw [if_pos hl, met_len hr h]
theorem append_loop' {α β : Type} {F : List β → α → Option (List β)} {h : α → β} : ∀ {l : List α} {s : List β}, s.length + l.length ≤ 16777216 → (∀ s x, x ∈ l → s.length < 16777216 → F s x = some (s ++ [h x])) → l.foldlM F s = some (s ++ l.map h)
  | [], s, _, _ => by rw [List.map_nil, List.append_nil]; rfl
  | x :: l, s, hz, hF => by
    rw [List.length_cons] at hz
    rw [foldlM_cons', hF s x List.mem_cons_self (by omega), bind_s, append_loop' (by rw [List.length_append, List.length_singleton]; omega) fun s y hy => hF s y (List.mem_cons_of_mem _ hy), List.map_cons, List.append_assoc]
    rfl
theorem inG_iff {α : Type} [DecidableEq α] {x : α} {l : List α} : inG x l = true ↔ x ∈ l := by
  unfold inG
  exact decide_eq_true_iff
end L2.DL

/-! heads and wheels: the mirrors that laws share, and what they return -/
namespace L2.DL.N
open PySem PySem.Spec PyProof.Rows
def f_turned (a_word : (List Int)) (a_places : Int) : Option (List Int) :=
 lim ((cut a_word (some a_places) none) ++ (cut a_word none (some a_places)))
def f_is_head (a_word : (List Int)) : Option Bool :=
 Fl.ret ((rangeP (1 : Int) (a_word.length : Int)).bind fun l13 => (forL (T := Unit) (R := Bool) (fun (s4 : Unit) (places_5 : Int) =>
 ((f_turned a_word places_5).bind fun v10 => some (leG v10 a_word)).bind fun b11 => (if b11 = true then
 some (.rt false)
else
 some (.nx ()))) l13 ())) fun (s14 : Unit) =>
 some true
def f_is_least_turned (a_word : (List Int)) : Option Bool :=
 Fl.ret ((rangeP (1 : Int) (a_word.length : Int)).bind fun l13 => (forL (T := Unit) (R := Bool) (fun (s4 : Unit) (places_5 : Int) =>
 ((f_turned a_word places_5).bind fun v10 => some (ltG v10 a_word)).bind fun b11 => (if b11 = true then
 some (.rt false)
else
 some (.nx ()))) l13 ())) fun (s14 : Unit) =>
 some true
def f_word_of (a_letters : Int) (a_length : Int) (a_number : Int) : Option (List Int) :=
 (repP ([(0 : Int)] : (List Int)) a_length).bind fun word_5 =>
 ((rangeP 0 a_length).bind fun l23 => l23.foldlM (fun (s7 : (Int × (List Int))) (at_8 : Int) =>
 ((modP s7.1 a_letters).bind fun v17 => setP s7.2 ((a_length - (1 : Int)) - at_8) v17).bind fun word_18 =>
 (divP s7.1 a_letters).bind fun number_21 =>
 some (number_21, word_18)) (a_number, word_5)).bind fun (s24 : (Int × (List Int))) =>
 some s24.2
def f_all_wheels (a_letters : Int) (a_length : Int) : Option (List (List Int)) :=
 (((f_power a_letters a_length).bind fun v4 => rangeP 0 v4).bind fun v10 => (mapO (fun x5 => f_word_of a_letters a_length x5) v10).bind lim).bind fun words_11 =>
 (compM (fun x12 => f_is_least_turned x12) (fun x12 => some x12) words_11).bind lim
def f_joined_words (a_words : (List (List Int))) : Option (List Int) :=
 (some ([] : (List Int))).bind fun found_1 =>
 (a_words.foldlM (fun (s2 : (List Int)) (word_3 : (List Int)) =>
 (lim (s2 ++ word_3)).bind fun found_6 =>
 some found_6) found_1).bind fun (s9 : (List Int)) =>
 some s9

theorem f_turned_is : f_turned = f_law_turned := rfl
def hd (w : List Int) : Bool := (List.range (w.length - 1)).all fun k => ltG w (rot (k + 1) w)
def ls (w : List Int) : Bool := (List.range (w.length - 1)).all fun k => leG w (rot (k + 1) w)
theorem hd_iff {w : List Int} : hd w = true ↔ ∀ k, 1 ≤ k → k < w.length → ltG w (rot k w) = true := by
  unfold hd
  rw [List.all_eq_true]
  constructor
  · intro h k h0 h1
    have := h (k - 1) (List.mem_range.mpr (by omega))
    rwa [show k - 1 + 1 = k by omega] at this
  · intro h k hk
    have := List.mem_range.mp hk
    exact h (k + 1) (by omega) (by omega)
theorem ls_iff {w : List Int} : ls w = true ↔ lstW w = w := by
  rw [lstW_iff]
  unfold ls
  rw [List.all_eq_true]
  constructor
  · intro h k h1
    rcases Nat.eq_zero_or_pos k with rfl | h0
    · rw [rot_zero]; exact leG_refl w
    · have := h (k - 1) (List.mem_range.mpr (by omega))
      rwa [show k - 1 + 1 = k by omega] at this
  · intro h k hk
    have := List.mem_range.mp hk
    exact h (k + 1) (by omega)
theorem hd_ls {w : List Int} (h : hd w = true) : ls w = true := by
  unfold hd at h
  unfold ls
  rw [List.all_eq_true] at h ⊢
  exact fun k hk => leG_iff.mpr (.inl (h k hk))
theorem range1 {n : Nat} (h : n ≤ 16777216) : rangeP 1 (n : Int) = some ((List.range (n - 1)).map fun k : Nat => ((k + 1 : Nat) : Int)) := by
  rw [rangeP_def, if_pos (by omega)]
  unfold rangeL
  rw [show ((n : Int) - 1).toNat = n - 1 by omega]
  exact congrArg some (List.map_congr_left fun k _ => by omega)
theorem not_le {a b : List Int} : (!leG a b) = ltG b a := by rw [leG_def, Bool.not_not]
theorem f_is_head_eq {w : List Int} (h : w.length ≤ 16777216) : f_is_head w = some (hd w) := by
  unfold f_is_head
  rw [f_turned_is, range1 h, bind_s, ask_loop' (g := fun x : Int => leG (rot x.toNat w) w)]
  · have e : ((List.range (w.length - 1)).map fun k : Nat => ((k + 1 : Nat) : Int)).any (fun x : Int => leG (rot x.toNat w) w) = !hd w := by
      unfold hd
      rw [List.any_map, List.all_eq_not_any_not, Bool.not_not]
      refine congrArg (fun f => List.any (List.range (w.length - 1)) f) (funext fun k => ?_)
      show leG (rot ((k + 1 : Nat) : Int).toNat w) w = !ltG w (rot (k + 1) w)
      rw [Int.toNat_natCast, leG_def]
    rw [e]
    cases hd w with
    | true => rw [not_t, if_ft, ret_nx]
    | false => rw [not_f, if_tt, ret_rt]
  · intro x hx
    obtain ⟨k, _, rfl⟩ := List.mem_map.mp hx
    rw [f_turned_eq h, bind_s, bind_s, Int.toNat_natCast]
theorem f_is_least_eq {w : List Int} (h : w.length ≤ 16777216) : f_is_least_turned w = some (ls w) := by
  unfold f_is_least_turned
  rw [f_turned_is, range1 h, bind_s, ask_loop' (g := fun x : Int => ltG (rot x.toNat w) w)]
  · have e : ((List.range (w.length - 1)).map fun k : Nat => ((k + 1 : Nat) : Int)).any (fun x : Int => ltG (rot x.toNat w) w) = !ls w := by
      unfold ls
      rw [List.any_map, List.all_eq_not_any_not, Bool.not_not]
      refine congrArg (fun f => List.any (List.range (w.length - 1)) f) (funext fun k => ?_)
      show ltG (rot ((k + 1 : Nat) : Int).toNat w) w = !leG w (rot (k + 1) w)
      rw [Int.toNat_natCast, not_le]
    rw [e]
    cases ls w with
    | true => rw [not_t, if_ft, ret_nx]
    | false => rw [not_f, if_tt, ret_rt]
  · intro x hx
    obtain ⟨k, _, rfl⟩ := List.mem_map.mp hx
    rw [f_turned_eq h, bind_s, bind_s, Int.toNat_natCast]
theorem f_law_is_head_eq {w : List Int} (h : w.length ≤ 16777216) : f_law_is_head w = some (hd w) := by
  unfold f_law_is_head
  rw [range1 h, bind_s, compM_some (q := fun x : Int => leG (rot x.toNat w) w) (g := fun x => x), bind_s, List.map_id', lim_of (Nat.le_trans (List.length_filter_le _ _) (by rw [List.length_map, List.length_range]; omega)), bind_s, eqD_ints]
  · congr 1
    unfold hd
    rw [Bool.eq_iff_iff, decide_eq_true_eq, List.filter_eq_nil_iff, List.all_eq_true]
    constructor
    · intro q k hk
      have := q _ (List.mem_map_of_mem (f := fun k : Nat => ((k + 1 : Nat) : Int)) hk)
      rw [Int.toNat_natCast, leG_def] at this
      simpa using this
    · intro q x hx
      obtain ⟨k, hk, rfl⟩ := List.mem_map.mp hx
      have := q k hk
      rw [Int.toNat_natCast, leG_def, this]
      decide
  · intro x hx
    obtain ⟨k, _, rfl⟩ := List.mem_map.mp hx
    rw [f_turned_eq h, bind_s, Int.toNat_natCast]
  · intro x _
    rfl
/-! the words by numbers -/
def dig (x : Nat) : Nat → Nat → List Int
  | 0, _ => []
  | n + 1, m => dig x n (m / x) ++ [((m % x : Nat) : Int)]
theorem dig_succ (x n m : Nat) : dig x (n + 1) m = dig x n (m / x) ++ [((m % x : Nat) : Int)] := rfl
theorem dig_len (x : Nat) : ∀ n m, (dig x n m).length = n
  | 0, _ => rfl
  | n + 1, m => by unfold dig; rw [List.length_append, dig_len x n, List.length_singleton]
theorem range_mul {β : Type} (x : Nat) (f : Nat → β) : ∀ N, (List.range (N * x)).map f = (List.range N).flatMap fun q => (List.range x).map fun r => f (q * x + r)
  | 0 => by rw [Nat.zero_mul]; rfl
  | N + 1 => by
    rw [Nat.succ_mul, List.range_add, List.map_append, range_mul x f N, List.range_succ, List.flatMap_append, List.map_map]
    congr 1
    rw [List.flatMap_cons, List.flatMap_nil, List.append_nil]
    rfl
theorem aw_dig {x : Nat} (h : 1 ≤ x) : ∀ n, aw x n = (List.range (x ^ n)).map (dig x n)
  | 0 => rfl
  | n + 1 => by
    rw [Nat.pow_succ, range_mul]
    unfold aw
    rw [aw_dig h n, List.flatMap_map]
    refine congrArg (fun f => List.flatMap f (List.range (x ^ n))) (funext fun q => ?_)
    unfold nats
    rw [List.map_map]
    refine List.map_congr_left fun r hr => ?_
    have hr := List.mem_range.mp hr
    show dig x n q ++ [((r : Nat) : Int)] = dig x n ((q * x + r) / x) ++ [(((q * x + r) % x : Nat) : Int)]
    rw [Nat.mul_comm q x, Nat.mul_add_div (by omega), Nat.div_eq_of_lt hr, Nat.add_zero, Nat.mul_add_mod, Nat.mod_eq_of_lt hr]
theorem set_rep {v : Int} {T : List Int} : ∀ k, (List.replicate (k + 1) (0 : Int) ++ T).set k v = List.replicate k 0 ++ v :: T
  | 0 => rfl
  | k + 1 => by
    rw [List.replicate_succ, List.cons_append, List.set_cons_succ, set_rep k, List.replicate_succ, List.cons_append]
theorem f_word_of_eq {x n m : Nat} (hx : 1 ≤ x) (hx2 : x ≤ 2 ^ 60) (hn : n ≤ 1000000) : f_word_of x n m = some (dig x n m) := by
  refine Rets.get ?_
  unfold f_word_of
  have e0 : repP ([(0 : Int)] : (List Int)) (n : Int) = some (List.replicate n 0) := by
    rw [repP_def, if_pos ⟨by omega, by omega, by rw [List.length_singleton]; omega⟩, Int.toNat_natCast]
    congr 1
    simp
  rw [e0, bind_s]
  refine .bind (Rets.range (fun t (s : Int × List Int) => ∃ (m' : Nat) (T : List Int), s.1 = (m' : Int) ∧ s.2 = List.replicate (n - t) 0 ++ T ∧ dig x n m = dig x (n - t) m' ++ T) (by omega) (by omega) ⟨m, [], rfl, by rw [Nat.sub_zero, List.append_nil], by rw [Nat.sub_zero, List.append_nil]⟩ ?_) ?_
  · rintro t ⟨_, _⟩ ht ⟨m', T, rfl, rfl, h⟩
    have ht : t < n := by omega
    obtain ⟨k, hk⟩ : ∃ k, n - t = k + 1 := ⟨n - t - 1, by omega⟩
    rw [hk] at h ⊢
    have e1 : setP (List.replicate (k + 1) (0 : Int) ++ T) (((n : Int) - (1 : Int)) - (t : Int)) (((m' : Int) % (x : Int))) = some (List.replicate k 0 ++ ((m' : Int) % (x : Int)) :: T) := by
      rw [show ((n : Int) - (1 : Int)) - (t : Int) = ((k : Nat) : Int) by omega]
      unfold setP ixN
      rw [if_pos (by omega), if_pos (by rw [List.length_append, List.length_replicate]; omega), map_s, Int.toNat_natCast, set_rep]
    simp only
    rw [modP_of (by omega), bind_s, e1, bind_s, divP_of (by omega) (by omega), bind_s]
    refine .pure ⟨m' / x, ((m' % x : Nat) : Int) :: T, by show (m' : Int) / (x : Int) = _; rw [Int.natCast_ediv], by
      show List.replicate k 0 ++ ((m' : Int) % (x : Int)) :: T = _
      rw [show n - (t + 1) = k by omega, Int.natCast_emod], ?_⟩
    rw [h, show n - (t + 1) = k by omega, dig_succ, List.append_assoc]
    rfl
  · rintro ⟨_, _⟩ ⟨m', T, rfl, rfl, h⟩
    refine .pure ?_
    rw [Int.toNat_natCast, Nat.sub_self] at h ⊢
    exact h.symm
theorem power_eq {x k : Nat} (hx : x ≤ 10000) (hk : k ≤ 100) : f_power x k = some ((x ^ k : Nat) : Int) := by
  have big : ∀ j, j ≤ 100 → ((x ^ j : Nat) : Int).natAbs < 2 ^ 2000 := fun j hj => by
    rw [Int.natAbs_natCast]
    have h1 : x ^ j ≤ 10000 ^ j := Nat.pow_le_pow_left hx j
    have h2 : 10000 ^ j ≤ 10000 ^ 100 := Nat.pow_le_pow_right (by decide) hj
    have h3 : 10000 ^ 100 ≤ (2 ^ 14) ^ 100 := Nat.pow_le_pow_left (by decide) 100
    have h4 : (2 ^ 14) ^ 100 = 2 ^ 1400 := (Nat.pow_mul 2 14 100).symm
    have h5 : 2 ^ 1400 < 2 ^ 2000 := Nat.pow_lt_pow_right (by decide) (by decide)
    exact Nat.lt_of_le_of_lt (Nat.le_trans h1 (Nat.le_trans h2 h3)) (by rw [h4]; exact h5)
  refine Rets.get ?_
  unfold f_power
  refine .some (.bind (Rets.range (fun j (s : Int) => s = ((x ^ j : Nat) : Int)) (by omega) (by omega) rfl ?_) fun s hs => .pure (by rw [hs, Int.toNat_natCast]))
  rintro j _ hj rfl
  rw [mulP_big (big j (by omega)) (small_big (by omega)), bind_s]
  exact .pure (by rw [Nat.pow_succ, Int.natCast_mul])
theorem filt_words {p : List Int → Option Bool} {q : List Int → Bool} {l : List (List Int)} (hl : l.length ≤ 16777216) (h : ∀ w ∈ l, p w = some (q w)) : (compM (fun x => p x) (fun x => some x) l).bind lim = some (l.filter q) := by
  rw [compM_some (q := q) (g := fun x => x) h fun _ _ => rfl, bind_s, List.map_id', lim_of (Nat.le_trans (List.length_filter_le _ _) hl)]
theorem f_all_wheels_eq {x n : Nat} (hx : 1 ≤ x) (hx2 : x ≤ 10000) (hn : n ≤ 100) (h : x ^ n ≤ 16777216) : f_all_wheels x n = some ((aw x n).filter ls) := by
  unfold f_all_wheels
  have e : (mapO (fun x5 => f_word_of (x : Int) (n : Int) x5) (nats (x ^ n))) = some (aw x n) := by
    rw [mapO_some (g := fun m => dig x n m.toNat)]
    · rw [aw_dig hx]
      unfold nats
      rw [List.map_map]
      rfl
    · intro m hm
      have hm := mem_nats hm
      obtain ⟨k, rfl⟩ := Int.eq_ofNat_of_zero_le hm.1
      rw [f_word_of_eq hx (by omega) (by omega), Int.toNat_natCast]
  rw [power_eq hx2 hn, bind_s, rangeP_nats (by omega), bind_s, e, bind_s, lim_of (by rw [aw_len]; exact h), bind_s]
  refine filt_words (by rw [aw_len]; exact h) fun w hw => f_is_least_eq ?_
  rw [(aw_mem.mp hw).1]
  omega
theorem f_joined_eq {l : List (List Int)} (h : l.flatten.length ≤ 16777216) : f_joined_words l = some l.flatten := by
  unfold f_joined_words
  have e : l.flatMap (fun w => w) = l.flatten := by rw [List.flatMap_def, List.map_id']
  rw [bind_s, flat_loop (g := fun w => w), bind_s, List.nil_append, e]
  · rw [e, List.length_nil]; omega
  · intro s w _ hl
    rw [lim_of (by rw [List.length_append]; exact hl), bind_s]
/-! ### by plain numbers, for the kernel -/
def cz (w : List Nat) : List Int := w.map fun k : Nat => (k : Int)
def ltN : List Nat → List Nat → Bool
  | [], [] => false
  | [], _ :: _ => true
  | _ :: _, [] => false
  | x :: xs, y :: ys => match Nat.beq x y with | true => ltN xs ys | false => Nat.blt x y
theorem blt_iff {x y : Nat} : Nat.blt x y = decide (x < y) := by
  unfold Nat.blt
  rw [Bool.eq_iff_iff, Nat.ble_eq, decide_eq_true_eq]
  exact Iff.rfl
theorem ltN_cons (x y : Nat) (xs ys : List Nat) : ltN (x :: xs) (y :: ys) = match Nat.beq x y with | true => ltN xs ys | false => Nat.blt x y := rfl
theorem ltN_cz : ∀ a b : List Nat, ltG (cz a) (cz b) = ltN a b
  | [], [] => rfl
  | [], _ :: _ => rfl
  | _ :: _, [] => rfl
  | x :: xs, y :: ys => by
    show ltG ((x : Int) :: cz xs) ((y : Int) :: cz ys) = _
    rw [ltG_cons, ltN_cz xs ys, ltN_cons]
    by_cases e : x = y
    · subst e
      rw [if_pos rfl, show Nat.beq x x = true from Nat.beq_refl x]
    · rw [if_neg (by omega), show Nat.beq x y = false from by
        cases h : Nat.beq x y with
        | false => rfl
        | true => exact absurd (Nat.eq_of_beq_eq_true h) e]
      show decide ((x : Int) < (y : Int)) = Nat.blt x y
      rw [blt_iff, decide_eq_decide]
      omega
def rotN (k : Nat) (l : List Nat) : List Nat := l.drop k ++ l.take k
theorem rotN_cz (k : Nat) (w : List Nat) : rot k (cz w) = cz (rotN k w) := by unfold rot rotN cz; rw [List.map_append, List.map_drop, List.map_take]
def hdN (w : List Nat) : Bool := (List.range (w.length - 1)).all fun k => ltN w (rotN (k + 1) w)
theorem cz_len (w : List Nat) : (cz w).length = w.length := by unfold cz; rw [List.length_map]
theorem hdN_cz (w : List Nat) : hd (cz w) = hdN w := by
  unfold hd hdN
  rw [cz_len]
  refine congrArg (fun f => List.all (List.range (w.length - 1)) f) (funext fun k => ?_)
  rw [rotN_cz, ltN_cz]
def lsN (w : List Nat) : Bool := (List.range (w.length - 1)).all fun k => !ltN (rotN (k + 1) w) w
theorem lsN_cz (w : List Nat) : ls (cz w) = lsN w := by
  unfold ls lsN
  rw [cz_len]
  refine congrArg (fun f => List.all (List.range (w.length - 1)) f) (funext fun k => ?_)
  rw [rotN_cz, leG_def, ltN_cz]
def awN (x : Nat) : Nat → List (List Nat)
  | 0 => [[]]
  | n + 1 => (awN x n).flatMap fun w => (List.range x).map fun j => w ++ [j]
theorem awN_cz (x : Nat) : ∀ n, aw x n = (awN x n).map cz
  | 0 => rfl
  | n + 1 => by
    unfold aw awN
    rw [awN_cz x n, List.flatMap_map, List.map_flatMap]
    refine congrArg (fun f => List.flatMap f (awN x n)) (funext fun w => ?_)
    unfold nats
    rw [List.map_map, List.map_map]
    refine List.map_congr_left fun j _ => ?_
    show cz w ++ [(j : Int)] = cz (w ++ [j])
    unfold cz
    rw [List.map_append]
    rfl
theorem filter_cz {p : List Int → Bool} {q : List Nat → Bool} (h : ∀ w, p (cz w) = q w) (l : List (List Nat)) : (l.map cz).filter p = (l.filter q).map cz := by
  rw [List.filter_map]
  congr 1
  exact List.filter_congr fun w _ => h w
def mergeN : Nat → List (List Nat) → List (List Nat) → List (List Nat)
  | 0, _, _ => []
  | f + 1, [], r => r
  | f + 1, l, [] => l
  | f + 1, a :: l, b :: r => match ltN b a with | true => b :: mergeN f (a :: l) r | false => a :: mergeN f l (b :: r)
def Asc (l : List (List Nat)) : Prop := l.Pairwise fun a b => leG (cz a) (cz b) = true
theorem mergeN_spec : ∀ (f : Nat) (l r : List (List Nat)), l.length + r.length < f → Asc l → Asc r → (mergeN f l r).Perm (l ++ r) ∧ Asc (mergeN f l r)
  | 0, l, r, h, _, _ => by omega
  | f + 1, [], r, _, _, hr => by unfold mergeN; exact ⟨.refl _, hr⟩
  | f + 1, a :: l, [], _, hl, _ => by unfold mergeN; exact ⟨by rw [List.append_nil], hl⟩
  | f + 1, a :: l, b :: r, h, hl, hr => by
    rw [List.length_cons, List.length_cons] at h
    obtain ⟨l1, l2⟩ := List.pairwise_cons.mp hl
    obtain ⟨r1, r2⟩ := List.pairwise_cons.mp hr
    unfold mergeN
    cases e : ltN b a with
    | true =>
      have hba : leG (cz b) (cz a) = true := leG_iff.mpr (.inl (by rw [ltN_cz]; exact e))
      obtain ⟨p, q⟩ := mergeN_spec f (a :: l) r (by rw [List.length_cons]; omega) hl r2
      refine ⟨(p.cons b).trans List.perm_middle.symm, List.pairwise_cons.mpr ⟨fun c hc => ?_, q⟩⟩
      rcases List.mem_append.mp (p.subset hc) with h' | h'
      · rcases List.mem_cons.mp h' with rfl | h'
        · exact hba
        · exact leG_trans hba (l1 c h')
      · exact r1 c h'
    | false =>
      have hab : leG (cz a) (cz b) = true := by rw [leG_def, ltN_cz, e]; rfl
      obtain ⟨p, q⟩ := mergeN_spec f l (b :: r) (by rw [List.length_cons]; omega) l2 hr
      refine ⟨p.cons a, List.pairwise_cons.mpr ⟨fun c hc => ?_, q⟩⟩
      rcases List.mem_append.mp (p.subset hc) with h' | h'
      · exact l1 c h'
      · rcases List.mem_cons.mp h' with rfl | h'
        · exact hab
        · exact leG_trans hab (r1 c h')
def mergeAll (L : List (List (List Nat))) (s : List (List Nat)) : List (List Nat) := L.foldl (fun s r => mergeN (s.length + r.length + 1) s r) s
theorem mergeAll_spec : ∀ (L : List (List (List Nat))) (s : List (List Nat)), Asc s → (∀ r ∈ L, Asc r) → (mergeAll L s).Perm (s ++ L.flatten) ∧ Asc (mergeAll L s)
  | [], s, hs, _ => ⟨by rw [List.flatten_nil, List.append_nil]; exact .refl _, hs⟩
  | r :: L, s, hs, hL => by
    obtain ⟨p, q⟩ := mergeN_spec (s.length + r.length + 1) s r (by omega) hs (hL r List.mem_cons_self)
    obtain ⟨p2, q2⟩ := mergeAll_spec L (mergeN (s.length + r.length + 1) s r) q fun y hy => hL y (List.mem_cons_of_mem _ hy)
    refine ⟨?_, q2⟩
    rw [List.flatten_cons, ← List.append_assoc]
    exact p2.trans (p.append_right _)
def dvN (n : Nat) : List Nat := (dv n).map Int.toNat
def headsN (x n : Nat) : List (List Nat) := mergeAll ((dvN n).map fun d => (awN x d).filter hdN) []
def heads (x n : Nat) : List (List Int) := (dvN n).flatMap fun d => (aw x d).filter hd
theorem awN_asc (x n : Nat) (q : List Nat → Bool) : Asc ((awN x n).filter q) := by
  have h := aw_pw x n
  rw [awN_cz, List.pairwise_map] at h
  exact (h.filter q).imp fun h => leG_iff.mpr (.inl h)
theorem heads_sort (x n : Nat) : sortG (heads x n) = (headsN x n).map cz := by
  obtain ⟨p, q⟩ := mergeAll_spec ((dvN n).map fun d => (awN x d).filter hdN) [] List.Pairwise.nil fun r hr => by
    obtain ⟨d, _, rfl⟩ := List.mem_map.mp hr
    exact awN_asc x d hdN
  refine sortG_uniq ?_ ?_
  · have e : heads x n = (((dvN n).map fun d => (awN x d).filter hdN).flatten).map cz := by
      unfold heads
      rw [List.map_flatten, List.map_map, List.flatMap_def]
      congr 1
      refine List.map_congr_left fun d _ => ?_
      rw [awN_cz, filter_cz hdN_cz]
      rfl
    rw [e]
    exact p.map cz
  · rw [List.pairwise_map]
    exact q
theorem awN_mem {x n : Nat} {w : List Nat} (h : w ∈ awN x n) : w.length = n ∧ ∀ y ∈ w, y < x := by
  have h2 : cz w ∈ aw x n := by rw [awN_cz]; exact List.mem_map_of_mem h
  obtain ⟨h3, h4⟩ := aw_mem.mp h2
  refine ⟨by rwa [cz_len] at h3, fun y hy => ?_⟩
  have := h4 _ (List.mem_map_of_mem (f := fun k : Nat => (k : Int)) hy)
  omega
theorem headsN_lt {x n : Nat} {w : List Nat} (h : w ∈ headsN x n) : ∀ y ∈ w, y < x := by
  obtain ⟨p, _⟩ := mergeAll_spec ((dvN n).map fun d => (awN x d).filter hdN) [] List.Pairwise.nil fun r hr => by
    obtain ⟨d, _, rfl⟩ := List.mem_map.mp hr
    exact awN_asc x d hdN
  have h2 := p.subset h
  rw [List.nil_append] at h2
  obtain ⟨r, hr, hw⟩ := List.mem_flatten.mp h2
  obtain ⟨d, _, rfl⟩ := List.mem_map.mp hr
  exact (awN_mem (List.mem_filter.mp hw).1).2
theorem perm_of_subset {α : Type} [DecidableEq α] : ∀ {l r : List α}, l.Nodup → (∀ x ∈ l, x ∈ r) → r.length ≤ l.length → l.Perm r
  | [], r, _, _, hl => by
    rw [List.length_eq_zero_iff.mp (Nat.le_zero.mp hl)]
  | x :: l, r, hn, hs, hl => by
    obtain ⟨n1, n2⟩ := List.nodup_cons.mp hn
    have hx := hs x List.mem_cons_self
    have p := List.perm_cons_erase hx
    refine ((perm_of_subset n2 (fun y hy => ?_) ?_).cons x).trans p.symm
    · exact (List.mem_erase_of_ne fun e => n1 (by rw [← e]; exact hy)).mpr (hs y (List.mem_cons_of_mem _ hy))
    · have := p.length_eq
      rw [List.length_cons] at this hl
      omega
/-! turns of turns -/
theorem rot_get {l : List Int} {k i : Nat} (hk : k ≤ l.length) (hi : i < l.length) : (rot k l)[i]'(by rw [rot_len]; exact hi) = l[(i + k) % l.length]'(Nat.mod_lt _ (by omega)) := by
  have h1 : (rot k l)[i]? = l[(i + k) % l.length]? := by
    unfold rot
    rcases Nat.lt_or_ge i (l.length - k) with h | h
    · rw [List.getElem?_append_left (by rw [List.length_drop]; exact h), List.getElem?_drop, Nat.mod_eq_of_lt (by omega), Nat.add_comm]
    · rw [List.getElem?_append_right (by rw [List.length_drop]; exact h), List.length_drop, List.getElem?_take, if_pos (by omega), Nat.mod_eq_sub_mod (by omega), Nat.mod_eq_of_lt (by omega)]
      congr 1
      omega
  rw [List.getElem?_eq_getElem (by rw [rot_len]; exact hi), List.getElem?_eq_getElem (Nat.mod_lt _ (by omega))] at h1
  exact Option.some.inj h1
theorem rot_rot {l : List Int} {j k : Nat} (hj : j ≤ l.length) (hk : k ≤ l.length) : rot k (rot j l) = rot ((j + k) % l.length) l := by
  refine List.ext_getElem (by rw [rot_len, rot_len, rot_len]) fun i h1 h2 => ?_
  rw [rot_len, rot_len] at h1
  have hm : (j + k) % l.length ≤ l.length := Nat.le_of_lt (Nat.mod_lt _ (by omega))
  rw [rot_get (by rw [rot_len]; exact hk) (by rw [rot_len]; exact h1), rot_get hj (by rw [rot_len]; exact Nat.mod_lt _ (by omega)), rot_get hm h1]
  congr 1
  rw [rot_len, Nat.mod_add_mod, Nat.add_mod_mod]
  congr 1
  omega
theorem rot_all {l : List Int} : rot l.length l = l := by unfold rot; rw [List.drop_length, List.take_length, List.nil_append]
theorem lst_is_rot (w : List Int) : ∃ k, k ≤ w.length ∧ lstW w = rot k w := by
  obtain ⟨_, h, _⟩ := minG_rots w
  obtain ⟨k, hk, e⟩ := List.mem_map.mp h
  have hk := List.mem_range.mp hk
  exact ⟨k, by omega, e.symm⟩
theorem lst_len (w : List Int) : (lstW w).length = w.length := by
  obtain ⟨k, _, e⟩ := lst_is_rot w
  rw [e, rot_len]
theorem lst_mem {w : List Int} {y : Int} (h : y ∈ lstW w) : y ∈ w := by
  obtain ⟨k, _, e⟩ := lst_is_rot w
  rw [e] at h
  exact rot_mem h
theorem lst_le {w : List Int} {k : Nat} (h : k ≤ w.length) : leG (lstW w) (rot k w) = true := by
  obtain ⟨_, _, h2⟩ := minG_rots w
  rcases Nat.lt_or_ge k w.length with h1 | h1
  · exact h2 _ (mem_rots h1)
  · have : k = w.length := by omega
    rw [this, rot_all]
    exact h2 _ (self_rots w)
theorem lst_rot {w : List Int} {k : Nat} (h : k ≤ w.length) : lstW (rot k w) = lstW w := by
  rcases Nat.eq_zero_or_pos w.length with h0 | h0
  · have e : w = [] := List.length_eq_zero_iff.mp h0
    subst e
    have : k = 0 := by simpa using h
    rw [this, rot_zero]
  · refine leG_anti ?_ ?_
    · obtain ⟨j, hj, e⟩ := lst_is_rot w
      -- rot j w is a turn of rot k w
      have h1 : rot j w = rot ((w.length - k + j) % w.length) (rot k w) := by
        have hm := Nat.mod_lt (w.length - k + j) h0
        rw [rot_rot h (by omega)]
        rcases Nat.lt_or_ge j w.length with q | q
        · congr 1
          rw [Nat.add_mod_mod, show k + (w.length - k + j) = j + w.length by omega, Nat.add_mod_right, Nat.mod_eq_of_lt q]
        · have : j = w.length := by omega
          subst this
          rw [rot_all, Nat.add_mod_mod, show k + (w.length - k + w.length) = w.length + w.length by omega, Nat.add_mod_right, Nat.mod_self, rot_zero]
      rw [e, h1]
      exact lst_le (by rw [rot_len]; exact Nat.le_of_lt (Nat.mod_lt _ h0))
    · obtain ⟨j, hj, e⟩ := lst_is_rot (rot k w)
      rw [rot_len] at hj
      rw [e, rot_rot h hj]
      exact lst_le (Nat.le_of_lt (Nat.mod_lt _ h0))
theorem ls_lst (w : List Int) : ls (lstW w) = true := by
  obtain ⟨k, hk, e⟩ := lst_is_rot w
  rw [ls_iff]
  conv => lhs; rw [e]
  exact lst_rot hk
end L2.DL.N

/-! words that are less than their ends: heads, and how a word is made of them -/
namespace L2.DL.N
open PySem PySem.Spec PyProof.Rows
/-- they differ at a place of both, the first one less -/
def Sl (a b : List Int) : Prop := ∃ i, i < a.length ∧ i < b.length ∧ (∀ j, j < i → a.getD j 0 = b.getD j 0) ∧ a.getD i 0 < b.getD i 0
/-- the first one is a beginning of the other -/
def Pre (a b : List Int) : Prop := a.length ≤ b.length ∧ ∀ j, j < a.length → a.getD j 0 = b.getD j 0
theorem getD_z {x : Int} {l : List Int} : (x :: l).getD 0 0 = x := rfl
theorem getD_s {x : Int} {l : List Int} {j : Nat} : (x :: l).getD (j + 1) 0 = l.getD j 0 := rfl
theorem ltG_first : ∀ {a b : List Int}, ltG a b = true ↔ Sl a b ∨ (a.length < b.length ∧ Pre a b)
  | [], [] => by
    constructor
    · intro h; cases h
    · rintro (⟨i, h, _⟩ | ⟨h, _⟩)
      · cases h
      · cases h
  | [], y :: ys => by
    constructor
    · intro _
      exact .inr ⟨by simp, by simp, fun j h => by cases h⟩
    · intro _; rfl
  | x :: xs, [] => by
    constructor
    · intro h; cases h
    · rintro (⟨i, _, h, _⟩ | ⟨h, _⟩)
      · cases h
      · cases h
  | x :: xs, y :: ys => by
    rw [ltG_cons]
    by_cases e : x = y
    · subst e
      rw [if_pos rfl, ltG_first (a := xs) (b := ys)]
      constructor
      · rintro (⟨i, h1, h2, h3, h4⟩ | ⟨h1, h2, h3⟩)
        · refine .inl ⟨i + 1, by simpa using h1, by simpa using h2, fun j hj => ?_, by rw [getD_s, getD_s]; exact h4⟩
          cases j with
          | zero => rfl
          | succ j => rw [getD_s, getD_s]; exact h3 j (by omega)
        · refine .inr ⟨by simpa using h1, by simpa using h2, fun j hj => ?_⟩
          cases j with
          | zero => rfl
          | succ j => rw [getD_s, getD_s]; exact h3 j (by simpa using hj)
      · rintro (⟨i, h1, h2, h3, h4⟩ | ⟨h1, h2, h3⟩)
        · cases i with
          | zero => rw [getD_z, getD_z] at h4; omega
          | succ i =>
            rw [getD_s, getD_s] at h4
            refine .inl ⟨i, by simpa using h1, by simpa using h2, fun j hj => ?_, h4⟩
            have := h3 (j + 1) (by omega)
            rwa [getD_s, getD_s] at this
        · refine .inr ⟨by simpa using h1, by simpa using h2, fun j hj => ?_⟩
          have := h3 (j + 1) (by simpa using hj)
          rwa [getD_s, getD_s] at this
    · rw [if_neg e, decide_eq_true_eq]
      constructor
      · intro h
        exact .inl ⟨0, by simp, by simp, fun j hj => absurd hj (Nat.not_lt_zero j), by rw [getD_z, getD_z]; exact h⟩
      · rintro (⟨i, h1, h2, h3, h4⟩ | ⟨h1, h2, h3⟩)
        · cases i with
          | zero => rw [getD_z, getD_z] at h4; exact h4
          | succ i =>
            have := h3 0 (by omega)
            rw [getD_z, getD_z] at this
            exact absurd this e
        · have := h3 0 (by simp)
          rw [getD_z, getD_z] at this
          exact absurd this e
theorem getD_left {a u : List Int} {j : Nat} (h : j < a.length) : (a ++ u).getD j 0 = a.getD j 0 := by
  rw [List.getD_eq_getElem?_getD, List.getElem?_append_left h, ← List.getD_eq_getElem?_getD]
theorem Sl.more {a b : List Int} (h : Sl a b) (u v : List Int) : Sl (a ++ u) (b ++ v) := by
  obtain ⟨i, h1, h2, h3, h4⟩ := h
  refine ⟨i, by rw [List.length_append]; omega, by rw [List.length_append]; omega, fun j hj => ?_, ?_⟩
  · rw [getD_left (by omega), getD_left (by omega)]
    exact h3 j hj
  · rw [getD_left h1, getD_left h2]
    exact h4
theorem Sl.lt {a b : List Int} (h : Sl a b) : ltG a b = true := ltG_first.mpr (.inl h)
theorem getD_drop {w : List Int} {k j : Nat} : (w.drop k).getD j 0 = w.getD (k + j) 0 := by
  rw [List.getD_eq_getElem?_getD, List.getElem?_drop, ← List.getD_eq_getElem?_getD]
theorem getD_take {w : List Int} {k j : Nat} (h : j < k) : (w.take k).getD j 0 = w.getD j 0 := by
  rw [List.getD_eq_getElem?_getD, List.getElem?_take, if_pos h, ← List.getD_eq_getElem?_getD]
theorem ext_getD {v w : List Int} (hl : v.length = w.length) (h : ∀ i, i < w.length → v.getD i 0 = w.getD i 0) : v = w := by
  refine List.ext_getElem hl fun i h1 h2 => ?_
  have := h i h2
  rwa [List.getD_eq_getElem?_getD, List.getElem?_eq_getElem h1, Option.getD_some, List.getD_eq_getElem?_getD, List.getElem?_eq_getElem h2, Option.getD_some] at this
theorem Pre.eq {a b : List Int} (h : Pre a b) : b = a ++ b.drop a.length := by
  obtain ⟨h1, h2⟩ := h
  have : b.take a.length = a := ext_getD (by rw [List.length_take]; omega) fun i hi => by rw [getD_take hi, h2 i hi]
  conv => lhs; rw [← List.take_append_drop a.length b, this]
theorem Pre.le {a b : List Int} (h : Pre a b) : leG a b = true := by
  rcases Nat.lt_or_ge a.length b.length with q | q
  · exact leG_iff.mpr (.inl (ltG_first.mpr (.inr ⟨q, h⟩)))
  · exact leG_iff.mpr (.inr (ext_getD (Nat.le_antisymm h.1 q) fun i hi => h.2 i (by omega)))
theorem pre_app (a u : List Int) : Pre a (a ++ u) := ⟨by rw [List.length_append]; omega, fun j hj => (getD_left hj).symm⟩
/-- less than each of its ends -/
def Ly (w : List Int) : Prop := w ≠ [] ∧ ∀ k, 1 ≤ k → k < w.length → ltG w (w.drop k) = true
theorem hd_Ly {w : List Int} (h0 : w ≠ []) : hd w = true ↔ Ly w := by
  rw [hd_iff]
  constructor
  · intro h
    refine ⟨h0, fun k k0 k1 => ?_⟩
    have hr := h k k0 k1
    rcases ltG_tri w (w.drop k) with q | q | q
    · exact q
    · have := congrArg List.length q
      rw [List.length_drop] at this
      omega
    · exfalso
      rcases ltG_first.mp q with s | ⟨_, p⟩
      · have h1 := (s.more (w.take k) []).lt
        rw [List.append_nil] at h1
        have h2 := ltG_asy h1
        unfold rot at hr
        rw [hr] at h2
        cases h2
      · have e := p.eq
        rw [List.length_drop] at e
        -- w = drop k ++ z = take k ++ drop k
        have e1 : ltG (w.drop (w.length - k)) (w.take k) = true := by
          have h3 := hr
          unfold rot at h3
          rw [show ltG w (w.drop k ++ w.take k) = ltG (w.drop k ++ w.drop (w.length - k)) (w.drop k ++ w.take k) by rw [← e], ltG_app] at h3
          exact h3
        have h4 := h (w.length - k) (by omega) (by omega)
        have e2 : w.take (w.length - k) = w.drop k := by
          have h5 : (w.drop k ++ w.drop (w.length - k)).take (w.drop k).length = w.drop k := List.take_left
          rwa [← e, List.length_drop] at h5
        unfold rot at h4
        rw [e2] at h4
        have e3 := ltG_more (w.drop k) (w.drop k) (by rw [List.length_drop, List.length_take]; omega) e1
        rw [List.take_append_drop] at e3
        rw [ltG_asy e3] at h4
        cases h4
  · rintro ⟨_, h⟩ k k0 k1
    rcases ltG_first.mp (h k k0 k1) with s | ⟨p, _⟩
    · have := (s.more [] (w.take k)).lt
      rwa [List.append_nil] at this
    · rw [List.length_drop] at p
      omega
/-! ### one way only -/
theorem suffix_ex : ∀ {G : List (List Int)} {y : List Int}, y ≠ [] → Pre y G.flatten → ∃ x z g, y = z ++ x ∧ x ≠ [] ∧ g ∈ G ∧ Pre x g
  | [], y, h, p => by
    exact absurd (List.length_eq_zero_iff.mp (Nat.le_zero.mp p.1)) h
  | g :: G, y, h, p => by
    rw [List.flatten_cons] at p
    rcases Nat.lt_or_ge g.length y.length with q | q
    · -- y = g ++ y'
      have e1 : y.take g.length = g := ext_getD (by rw [List.length_take]; omega) fun i hi => by
        rw [getD_take hi, p.2 i (by omega), getD_left hi]
      have p2 : Pre (y.drop g.length) G.flatten := by
        refine ⟨?_, fun j hj => ?_⟩
        · have := p.1
          rw [List.length_append] at this
          rw [List.length_drop]
          omega
        · rw [List.length_drop] at hj
          rw [getD_drop, p.2 _ (by omega), List.getD_eq_getElem?_getD, List.getElem?_append_right (by omega), ← List.getD_eq_getElem?_getD, Nat.add_sub_cancel_left]
      have hne : y.drop g.length ≠ [] := fun e => by
        have := congrArg List.length e
        rw [List.length_drop, List.length_nil] at this
        omega
      obtain ⟨x, z, g2, e2, x0, m, px⟩ := suffix_ex hne p2
      refine ⟨x, g ++ z, g2, ?_, x0, List.mem_cons_of_mem _ m, px⟩
      rw [List.append_assoc, ← e2]
      conv => lhs; rw [← List.take_append_drop g.length y, e1]
    · exact ⟨y, [], g, rfl, h, List.mem_cons_self, q, fun j hj => by rw [p.2 j hj, getD_left (by omega)]⟩
/-- heads, none less than the next -/
def Fac (G : List (List Int)) : Prop := (∀ g ∈ G, Ly g) ∧ G.Pairwise fun a b => leG b a = true
theorem Fac.tail {g : List Int} {G : List (List Int)} (h : Fac (g :: G)) : Fac G := ⟨fun x hx => h.1 x (List.mem_cons_of_mem _ hx), (List.pairwise_cons.mp h.2).2⟩
theorem no_longer {h g : List Int} {G : List (List Int)} (hh : Ly h) (hG : Fac (g :: G)) (p : Pre h (g :: G).flatten) (hl : g.length < h.length) : False := by
  obtain ⟨g0, g1⟩ := hG.1 g List.mem_cons_self
  have gl : 0 < g.length := List.length_pos_iff.mpr g0
  rw [List.flatten_cons] at p
  have e1 : h.take g.length = g := ext_getD (by rw [List.length_take]; omega) fun i hi => by
    rw [getD_take hi, p.2 i (by omega), getD_left hi]
  have p2 : Pre (h.drop g.length) G.flatten := by
    refine ⟨?_, fun j hj => ?_⟩
    · have := p.1
      rw [List.length_append] at this
      rw [List.length_drop]
      omega
    · rw [List.length_drop] at hj
      rw [getD_drop, p.2 _ (by omega), List.getD_eq_getElem?_getD, List.getElem?_append_right (by omega), ← List.getD_eq_getElem?_getD, Nat.add_sub_cancel_left]
  have hne : h.drop g.length ≠ [] := fun e => by
    have := congrArg List.length e
    rw [List.length_drop, List.length_nil] at this
    omega
  obtain ⟨x, z, g2, e2, x0, m, px⟩ := suffix_ex hne p2
  have eh : h = g ++ z ++ x := by
    rw [List.append_assoc, ← e2]
    conv => lhs; rw [← List.take_append_drop g.length h, e1]
  have xl : 0 < x.length := List.length_pos_iff.mpr x0
  have h1 : ltG h x = true := by
    have := hh.2 (g.length + z.length) (by omega) (by rw [eh, List.length_append, List.length_append]; omega)
    rwa [show h.drop (g.length + z.length) = x by
      conv => lhs; rw [eh]
      rw [List.drop_left' (by rw [List.length_append])]] at this
  have h2 := px.le
  have h3 : leG g2 g = true := (List.pairwise_cons.mp hG.2).1 g2 m
  have h4 : ltG g h = true := ltG_first.mpr (.inr ⟨hl, by rw [eh, List.append_assoc]; exact pre_app g _⟩)
  have h5 := lt_of_lt_le h1 (leG_trans h2 h3)
  rw [ltG_asy h4] at h5
  cases h5
theorem fac_uniq : ∀ {G H : List (List Int)}, Fac G → Fac H → G.flatten = H.flatten → G = H
  | [], [], _, _, _ => rfl
  | [], h :: H, _, hH, e => by
    exfalso
    have h0 := (hH.1 h List.mem_cons_self).1
    rw [List.flatten_nil, List.flatten_cons] at e
    exact h0 (List.append_eq_nil_iff.mp e.symm).1
  | g :: G, [], hG, _, e => by
    exfalso
    have h0 := (hG.1 g List.mem_cons_self).1
    rw [List.flatten_nil, List.flatten_cons] at e
    exact h0 (List.append_eq_nil_iff.mp e).1
  | g :: G, h :: H, hG, hH, e => by
    have lg := hG.1 g List.mem_cons_self
    have lh := hH.1 h List.mem_cons_self
    rcases Nat.lt_trichotomy g.length h.length with q | q | q
    · exact absurd (no_longer lh hG (by rw [e, List.flatten_cons]; exact pre_app h _) q) id
    · rw [List.flatten_cons, List.flatten_cons] at e
      obtain ⟨e1, e2⟩ := List.append_inj e q
      rw [e1, fac_uniq hG.tail hH.tail e2]
    · exact absurd (no_longer lg hH (by rw [← e, List.flatten_cons]; exact pre_app g _) q) id
/-! ### the way that finds them -/
section
variable (f : Nat → Int)
/-- the stretch from s to e is less than its ends -/
def LyS (s e : Nat) : Prop := s < e ∧ ∀ k, s < k → k < e → ∃ i, k + i < e ∧ (∀ j, j < i → f (s + j) = f (k + j)) ∧ f (s + i) < f (k + i)
theorem LyS.one (s : Nat) : LyS f s (s + 1) := ⟨by omega, fun k h1 h2 => by omega⟩
variable {f}
theorem per_back {s e p : Nat} (hp : 1 ≤ p) (per : ∀ i, s ≤ i → i + p < e → f i = f (i + p)) : ∀ m i, s ≤ i → i + m * p < e → f i = f (i + m * p)
  | 0, i, _, _ => by rw [Nat.zero_mul, Nat.add_zero]
  | m + 1, i, h, he => by
    rw [Nat.succ_mul] at he ⊢
    rw [per_back hp per m i h (by omega), per (i + m * p) (by omega) (by omega), Nat.add_assoc]
/-- one more, greater than what stands a period ahead: the whole stretch is one -/
theorem LyS.grow {s e p : Nat} (hp : 1 ≤ p) (hpe : s + p ≤ e) (L : LyS f s (s + p)) (per : ∀ i, s ≤ i → i + p < e → f i = f (i + p)) (hc : f (e - p) < f e) : LyS f s (e + 1) := by
  have pb := per_back hp per
  refine ⟨by omega, fun k k0 k1 => ?_⟩
  -- k = s + m * p + r
  have hm := Nat.div_add_mod (k - s) p
  have hr := Nat.mod_lt (k - s) (show 0 < p by omega)
  generalize hmq : (k - s) / p = m at *
  generalize hrq : (k - s) % p = r at *
  have ek : k = s + r + m * p := by rw [Nat.mul_comm] at hm; omega
  -- the value a period ahead of e, brought back
  have at_e : ∀ q, s ≤ q → (∃ t, q + t * p = e - p) → f q = f (e - p) := fun q hq ⟨t, ht⟩ => by
    rw [← ht]
    exact pb t q hq (by omega)
  rcases Nat.eq_zero_or_pos r with r0 | r0
  · refine ⟨e - k, by omega, fun j hj => ?_, ?_⟩
    · rw [show k + j = s + j + m * p by omega]
      exact pb m (s + j) (by omega) (by omega)
    · rw [show k + (e - k) = e by omega]
      have m1 : 1 ≤ m := by
        rcases Nat.eq_zero_or_pos m with z | z
        · rw [z, Nat.zero_mul] at ek; omega
        · exact z
      have : f (s + (e - k)) = f (e - p) := at_e _ (by omega) ⟨m - 1, by
        have : (m - 1) * p + p = m * p := by rw [← Nat.succ_mul, show (m - 1).succ = m by omega]
        omega⟩
      omega
  · obtain ⟨i, i1, i2, i3⟩ := L.2 (s + r) (by omega) (by omega)
    rcases Nat.lt_or_ge (k + i) e with q | q
    · refine ⟨i, by omega, fun j hj => ?_, ?_⟩
      · rw [i2 j hj, show k + j = s + r + j + m * p by omega]
        exact pb m (s + r + j) (by omega) (by omega)
      · rw [show k + i = s + r + i + m * p by omega, ← pb m (s + r + i) (by omega) (by omega)]
        exact i3
    · refine ⟨e - k, by omega, fun j hj => ?_, ?_⟩
      · rw [i2 j (by omega), show k + j = s + r + j + m * p by omega]
        exact pb m (s + r + j) (by omega) (by omega)
      · rw [show k + (e - k) = e by omega]
        have m1 : 1 ≤ m := by
          rcases Nat.eq_zero_or_pos m with z | z
          · rw [z, Nat.zero_mul] at ek; omega
          · exact z
        have h1 : f (s + r + (e - k)) = f (e - p) := at_e _ (by omega) ⟨m - 1, by
          have : (m - 1) * p + p = m * p := by rw [← Nat.succ_mul, show (m - 1).succ = m by omega]
          omega⟩
        have h2 : f (s + (e - k)) ≤ f (s + r + (e - k)) := by
          rcases Nat.lt_or_ge (e - k) i with z | z
          · rw [i2 _ z]; exact Int.le_refl _
          · have : e - k = i := by omega
            rw [this]
            exact Int.le_of_lt i3
        omega
end
/-! the mirrors -/
def f_run_from (a_word : (List Int)) (a_start : Int) : Option (Int × Int) :=
 (some (a_start + (1 : Int))).bind fun end_3 =>
 (some a_start).bind fun behind_4 =>
 (whileN (fun (s5 : (Int × Int)) => if (decide (s5.1 < (a_word.length : Int))) = true then (atI a_word s5.2).bind fun v15 => (atI a_word s5.1).bind fun v16 => some (decide (v15 ≤ v16)) else some false) (fun (s5 : (Int × Int)) =>
 (((atI a_word s5.2).bind fun v24 => (atI a_word s5.1).bind fun v25 => some (decide (v24 < v25))).bind fun b30 => (if b30 = true then
 (some a_start).bind fun behind_26 =>
 some behind_26
else
 (some (s5.2 + (1 : Int))).bind fun behind_29 =>
 some behind_29)).bind fun (s31 : Int) =>
 (some (s5.1 + (1 : Int))).bind fun end_34 =>
 some (end_34, s31)) 1000000 (end_3, behind_4)).bind fun (s37 : (Int × Int)) =>
 some (s37.1, (s37.1 - s37.2))
def f_heads_of (a_word : (List Int)) : Option (List (List Int)) :=
 (some ([] : (List (List Int)))).bind fun found_1 =>
 (some (0 : Int)).bind fun start_2 =>
 (whileN (fun (s3 : ((List (List Int)) × Int)) => some (decide (s3.2 < (a_word.length : Int)))) (fun (s3 : ((List (List Int)) × Int)) =>
 (f_run_from a_word s3.2).bind fun p9 =>
 (whileN (fun (s10 : ((List (List Int)) × Int)) => some (decide ((s10.2 + p9.2) ≤ p9.1))) (fun (s10 : ((List (List Int)) × Int)) =>
 (lim (s10.1 ++ [(cut a_word (some s10.2) (some (s10.2 + p9.2)))])).bind fun found_15 =>
 (some (s10.2 + p9.2)).bind fun start_24 =>
 some (found_15, start_24)) 1000000 (s3.1, s3.2)).bind fun (s26 : ((List (List Int)) × Int)) =>
 some (s26.1, s26.2)) 1000000 (found_1, start_2)).bind fun (s28 : ((List (List Int)) × Int)) =>
 some s28.1

theorem whileN_ok {S : Type} {c : S → Option Bool} {b : S → Option S} (I : S → Prop) (μ : S → Nat) (cond : ∀ s, I s → ∃ v, c s = some v ∧ (v = true → ∃ s', b s = some s' ∧ I s' ∧ μ s' < μ s)) : ∀ (n : Nat) (s : S), I s → μ s < n → ∃ s', whileN c b n s = some s' ∧ I s' ∧ c s' = some false
  | 0, s, _, h => by omega
  | n + 1, s, hI, h => by
    obtain ⟨v, ev, hv⟩ := cond s hI
    simp only [whileN, ev, bind_s]
    cases v with
    | true =>
      obtain ⟨s', e', I', m'⟩ := hv rfl
      obtain ⟨s2, e2, I2, c2⟩ := whileN_ok I μ cond n s' I' (by omega)
      refine ⟨s2, ?_, I2, c2⟩
      rw [if_tt, e', bind_s]
      exact e2
    | false => exact ⟨s, if_ft, hI, ev⟩
theorem atI_gd {l : List Int} {i : Nat} (h : i < l.length) : atI l (i : Int) = some (l.getD i 0) := by
  rw [atI_nat h, List.getD_eq_getElem?_getD, List.getElem?_eq_getElem h, Option.getD_some]
def fw (w : List Int) (i : Nat) : Int := w.getD i 0
theorem run_eq {w : List Int} {s : Nat} (hs : s < w.length) (hl : w.length ≤ 900000) : ∃ e p : Nat, f_run_from w s = some ((e : Int), (p : Int)) ∧ 1 ≤ p ∧ s + p ≤ e ∧ e ≤ w.length ∧ LyS (fw w) s (s + p) ∧ (∀ i, s ≤ i → i + p < e → fw w i = fw w (i + p)) ∧ (e < w.length → fw w e < fw w (e - p)) := by
  unfold f_run_from
  rw [bind_s, bind_s]
  obtain ⟨t, et, ⟨e, p, rfl, p1, p2, p3, p4, p5⟩, ct⟩ := whileN_ok (c := fun (s5 : (Int × Int)) => if (decide (s5.1 < (w.length : Int))) = true then (atI w s5.2).bind fun v15 => (atI w s5.1).bind fun v16 => some (decide (v15 ≤ v16)) else some false) (b := fun (s5 : (Int × Int)) =>
 (((atI w s5.2).bind fun v24 => (atI w s5.1).bind fun v25 => some (decide (v24 < v25))).bind fun b30 => (if b30 = true then
 (some (s : Int)).bind fun behind_26 =>
 some behind_26
else
 (some (s5.2 + (1 : Int))).bind fun behind_29 =>
 some behind_29)).bind fun (s31 : Int) =>
 (some (s5.1 + (1 : Int))).bind fun end_34 =>
 some (end_34, s31)) (fun t => ∃ e p : Nat, t = ((e : Int), ((e - p : Nat) : Int)) ∧ 1 ≤ p ∧ s + p ≤ e ∧ e ≤ w.length ∧ LyS (fw w) s (s + p) ∧ ∀ i, s ≤ i → i + p < e → fw w i = fw w (i + p)) (fun t => w.length - t.1.toNat) (by
    rintro t ⟨e, p, rfl, p1, p2, p3, p4, p5⟩
    simp only
    by_cases he : e < w.length
    · rw [if_pos (decide_eq_true (by omega)), atI_gd (by omega), atI_gd he, bind_s, bind_s]
      refine ⟨_, rfl, fun hv => ?_⟩
      have hv := of_decide_eq_true hv
      rw [bind_s, bind_s, bind_s]
      by_cases hlt : w.getD (e - p) 0 < w.getD e 0
      · rw [if_pos (decide_eq_true hlt), bind_s, bind_s, bind_s]
        refine ⟨_, rfl, ⟨e + 1, e + 1 - s, by rw [show e + 1 - (e + 1 - s) = s by omega]; rfl, by omega, by omega, by omega, ?_, fun i h1 h2 => by omega⟩, by
          show w.length - ((e : Int) + 1).toNat < w.length - (e : Int).toNat
          omega⟩
        rw [show s + (e + 1 - s) = e + 1 by omega]
        exact p4.grow p1 p2 p5 hlt
      · rw [if_neg (fun z => hlt (of_decide_eq_true z)), bind_s, bind_s, bind_s]
        refine ⟨_, rfl, ⟨e + 1, p, by rw [show ((e + 1 - p : Nat) : Int) = ((e - p : Nat) : Int) + 1 by omega]; rfl, p1, by omega, by omega, p4, fun i h1 h2 => ?_⟩, by
          show w.length - ((e : Int) + 1).toNat < w.length - (e : Int).toNat
          omega⟩
        rcases Nat.lt_or_ge (i + p) e with q | q
        · exact p5 i h1 q
        · have : i = e - p := by omega
          subst this
          rw [show e - p + p = e by omega]
          unfold fw
          omega
    · rw [if_neg (fun z => he (by have := of_decide_eq_true z; omega))]
      exact ⟨false, rfl, fun z => by cases z⟩) 1000000 ((s : Int) + 1, (s : Int)) ⟨s + 1, 1, by rw [Nat.add_sub_cancel]; rfl, by omega, by omega, by omega, LyS.one _ s, fun i h1 h2 => by omega⟩ (by show w.length - ((s : Int) + 1).toNat < 1000000; omega)
  refine ⟨e, p, ?_, p1, p2, p3, p4, p5, fun he => ?_⟩
  · rw [et, bind_s]
    simp only
    congr 2
    omega
  · simp only at ct
    rw [if_pos (decide_eq_true (by omega)), atI_gd (by omega), atI_gd he, bind_s, bind_s] at ct
    have := of_decide_eq_false (Option.some.inj ct)
    unfold fw
    omega
def sg (w : List Int) (s p : Nat) : List Int := (w.drop s).take p
theorem sg_get {w : List Int} {s p j : Nat} (h : j < p) : (sg w s p).getD j 0 = fw w (s + j) := by
  unfold sg fw
  rw [getD_take h, getD_drop]
theorem sg_len {w : List Int} {s p : Nat} (h : s + p ≤ w.length) : (sg w s p).length = p := by
  unfold sg
  rw [List.length_take, List.length_drop]
  omega
theorem LyS.Ly {w : List Int} {s p : Nat} (h : LyS (fw w) s (s + p)) (hl : s + p ≤ w.length) : Ly (sg w s p) := by
  have hlen := sg_len hl
  refine ⟨fun e => ?_, fun k k0 k1 => ?_⟩
  · rw [e] at hlen
    have := h.1
    simp at hlen
    omega
  · rw [hlen] at k1
    obtain ⟨i, i1, i2, i3⟩ := h.2 (s + k) (by omega) (by omega)
    refine (show Sl _ _ from ⟨i, by rw [hlen]; omega, by rw [List.length_drop, hlen]; omega, fun j hj => ?_, ?_⟩).lt
    · rw [getD_drop, sg_get (by omega), sg_get (by omega), i2 j hj, Nat.add_assoc]
    · rw [getD_drop, sg_get (by omega), sg_get (by omega), ← Nat.add_assoc]
      exact i3
theorem heads_eq {w : List Int} (hl : w.length ≤ 900000) : ∃ G, f_heads_of w = some G ∧ Fac G ∧ G.flatten = w := by
  unfold f_heads_of
  rw [bind_s, bind_s]
  obtain ⟨t, et, ⟨G, st, rfl, h1, h2, h3, h4⟩, ct⟩ := whileN_ok (c := (fun (s3 : ((List (List Int)) × Int)) => some (decide (s3.2 < (w.length : Int))))) (b := (fun (s3 : ((List (List Int)) × Int)) =>
 (f_run_from w s3.2).bind fun p9 =>
 (whileN (fun (s10 : ((List (List Int)) × Int)) => some (decide ((s10.2 + p9.2) ≤ p9.1))) (fun (s10 : ((List (List Int)) × Int)) =>
 (lim (s10.1 ++ [(cut w (some s10.2) (some (s10.2 + p9.2)))])).bind fun found_15 =>
 (some (s10.2 + p9.2)).bind fun start_24 =>
 some (found_15, start_24)) 1000000 (s3.1, s3.2)).bind fun (s26 : ((List (List Int)) × Int)) =>
 some (s26.1, s26.2))) (fun t => ∃ (G : List (List Int)) (st : Nat), t = (G, (st : Int)) ∧ st ≤ w.length ∧ Fac G ∧ G.flatten = w.take st ∧ (G.length ≤ st ∧ ∀ g ∈ G, ∀ t, st + t ≤ w.length → leG (sg w st t) g = true)) (fun t => w.length - t.2.toNat) (by
    rintro t ⟨G, st, rfl, h1, h2, h3, h5, h4⟩
    refine ⟨_, rfl, fun hv => ?_⟩
    have hv : st < w.length := by have := of_decide_eq_true hv; omega
    obtain ⟨e, p, er, p1, p2, p3, p4, p5, p6⟩ := run_eq hv hl
    have pb := per_back p1 p5
    simp only
    rw [er, bind_s]
    -- the turns
    obtain ⟨t2, et2, ⟨q, rfl, q1⟩, ct2⟩ := whileN_ok (c := (fun (s10 : ((List (List Int)) × Int)) => some (decide ((s10.2 + (p : Int)) ≤ (e : Int))))) (b := (fun (s10 : ((List (List Int)) × Int)) =>
 (lim (s10.1 ++ [(cut w (some s10.2) (some (s10.2 + (p : Int))))])).bind fun found_15 =>
 (some (s10.2 + (p : Int))).bind fun start_24 =>
 some (found_15, start_24))) (fun t => ∃ q : Nat, t = (G ++ List.replicate q (sg w st p), ((st + q * p : Nat) : Int)) ∧ st + q * p ≤ e) (fun t => e - t.2.toNat) (by
      rintro t ⟨q, rfl, q1⟩
      refine ⟨_, rfl, fun hv => ?_⟩
      have hv : st + q * p + p ≤ e := by have := of_decide_eq_true hv; omega
      have ec : cut w (some ((st + q * p : Nat) : Int)) (some (((st + q * p : Nat) : Int) + (p : Int))) = sg w st p := by
        rw [show ((st + q * p : Nat) : Int) + (p : Int) = ((st + q * p + p : Nat) : Int) by omega, cut_both, Nat.add_sub_cancel_left]
        show sg w (st + q * p) p = sg w st p
        refine ext_getD (by rw [sg_len (by omega), sg_len (by omega)]) fun i hi => ?_
        rw [sg_len (by omega)] at hi
        rw [sg_get hi, sg_get hi, pb q (st + i) (by omega) (by omega)]
        congr 1
        omega
      have hq : q ≤ q * p := Nat.le_mul_of_pos_right q p1
      simp only
      rw [ec, lim_of (by rw [List.length_append, List.length_append, List.length_replicate, List.length_singleton]; omega), bind_s, bind_s]
      refine ⟨_, rfl, ⟨q + 1, ?_, by rw [Nat.succ_mul]; omega⟩, ?_⟩
      · rw [List.append_assoc, List.replicate_succ', Nat.succ_mul]
        congr 1
        omega
      · show e - (((st + q * p : Nat) : Int) + (p : Int)).toNat < e - ((st + q * p : Nat) : Int).toNat
        omega) 1000000 (G, (st : Int)) ⟨0, by rw [List.replicate_zero, List.append_nil, Nat.zero_mul]; rfl, by omega⟩ (by show e - (st : Int).toNat < 1000000; omega)
    have hstop : e < st + q * p + p := by
      have := of_decide_eq_false (Option.some.inj ct2)
      simp only at this
      omega
    have hq1 : 1 ≤ q := by
      rcases Nat.eq_zero_or_pos q with z | z
      · rw [z, Nat.zero_mul] at hstop; omega
      · exact z
    have hqp : p ≤ q * p := Nat.le_mul_of_pos_left p hq1
    rw [et2, bind_s]
    have lu := p4.Ly (by omega)
    have hup : st + p ≤ w.length := by omega
    refine ⟨_, rfl, ⟨G ++ List.replicate q (sg w st p), st + q * p, rfl, by omega, ⟨fun g hg => ?_, ?_⟩, ?_, ?_, fun g hg t ht => ?_⟩, ?_⟩
    · rcases List.mem_append.mp hg with h | h
      · exact h2.1 g h
      · rw [(List.mem_replicate.mp h).2]; exact lu
    · rw [List.pairwise_append]
      refine ⟨h2.2, List.pairwise_replicate.mpr (.inr (leG_refl _)), fun a ha b hb => ?_⟩
      rw [(List.mem_replicate.mp hb).2]
      exact h4 a ha p hup
    · rw [List.flatten_append, h3]
      have : ∀ m, st + m * p ≤ e → (List.replicate m (sg w st p)).flatten = sg w st (m * p) := fun m => by
        induction m with
        | zero => intro _; rw [Nat.zero_mul]; rfl
        | succ m ih =>
          intro hm
          rw [Nat.succ_mul] at hm ⊢
          rw [List.replicate_succ', List.flatten_append, ih (by omega), List.flatten_cons, List.flatten_nil, List.append_nil]
          refine ext_getD (by rw [List.length_append, sg_len (by omega), sg_len (by omega), sg_len (by omega)]) fun i hi => ?_
          rw [sg_len (by omega)] at hi
          rcases Nat.lt_or_ge i (m * p) with z | z
          · rw [getD_left (by rw [sg_len (by omega)]; exact z), sg_get z, sg_get hi]
          · rw [List.getD_eq_getElem?_getD, List.getElem?_append_right (by rw [sg_len (by omega)]; exact z), sg_len (by omega), ← List.getD_eq_getElem?_getD, sg_get (by omega), sg_get hi, pb m (st + (i - m * p)) (by omega) (by omega)]
            congr 1
            omega
      rw [this q q1]
      unfold sg
      rw [← List.take_add]
    · rw [List.length_append, List.length_replicate]
      have : q ≤ q * p := Nat.le_mul_of_pos_right q p1
      omega
    · -- every beginning of the rest
      have key : leG (sg w (st + q * p) t) (sg w st p) = true := by
        rcases Nat.lt_or_ge (e - (st + q * p)) t with z | z
        · have he : e < w.length := by omega
          refine leG_iff.mpr (.inl (show Sl _ _ from ⟨e - (st + q * p), by rw [sg_len ht]; exact z, by rw [sg_len hup]; omega, fun j hj => ?_, ?_⟩).lt)
          · rw [sg_get (by omega), sg_get (by omega), pb q (st + j) (by omega) (by omega)]
            congr 1
            omega
          · rw [sg_get z, sg_get (by omega), show st + q * p + (e - (st + q * p)) = e by omega]
            have h6 := p6 he
            have : (q - 1) * p + p = q * p := by rw [← Nat.succ_mul, show (q - 1).succ = q by omega]
            rw [pb (q - 1) (st + (e - (st + q * p))) (by omega) (by omega), show st + (e - (st + q * p)) + (q - 1) * p = e - p by omega]
            exact h6
        · refine Pre.le ⟨by rw [sg_len ht, sg_len hup]; omega, fun j hj => ?_⟩
          rw [sg_len ht] at hj
          rw [sg_get hj, sg_get (by omega), pb q (st + j) (by omega) (by omega)]
          congr 1
          omega
      rcases List.mem_append.mp hg with h | h
      · exact leG_trans key (h4 g h p hup)
      · rw [(List.mem_replicate.mp h).2]; exact key
    · show w.length - ((st + q * p : Nat) : Int).toNat < w.length - (st : Int).toNat
      omega) 1000000 ([], (0 : Int)) ⟨[], 0, rfl, by omega, ⟨by simp, List.Pairwise.nil⟩, by rw [List.take_zero]; rfl, by simp, by simp⟩ (by show w.length - (0 : Int).toNat < 1000000; omega)
  have hst : st = w.length := by
    have := of_decide_eq_false (Option.some.inj ct)
    simp only at this
    omega
  refine ⟨G, by rw [et, bind_s], h2, ?_⟩
  rw [h3, hst, List.take_length]
/-! ### roots -/
def rpt (m : Nat) (u : List Int) : List Int := (List.replicate m u).flatten
theorem rpt_succ (m : Nat) (u : List Int) : rpt (m + 1) u = u ++ rpt m u := by unfold rpt; rw [List.replicate_succ, List.flatten_cons]
theorem rpt_len (u : List Int) : ∀ m, (rpt m u).length = m * u.length
  | 0 => by unfold rpt; simp
  | m + 1 => by rw [rpt_succ, List.length_append, rpt_len u m, Nat.succ_mul, Nat.add_comm]
theorem rpt_get (u : List Int) : ∀ (m i : Nat), i < m * u.length → (rpt m u).getD i 0 = u.getD (i % u.length) 0
  | 0, i, h => by rw [Nat.zero_mul] at h; omega
  | m + 1, i, h => by
    rw [Nat.succ_mul] at h
    rw [rpt_succ]
    rcases Nat.lt_or_ge i u.length with q | q
    · rw [getD_left q, Nat.mod_eq_of_lt q]
    · rw [List.getD_eq_getElem?_getD, List.getElem?_append_right q, ← List.getD_eq_getElem?_getD, rpt_get u m (i - u.length) (by omega), ← Nat.mod_eq_sub_mod q]
def cy (v : List Int) (i : Nat) : Int := v.getD (i % v.length) 0
def Pf (v : List Int) (s : Nat) : Prop := ∀ i, cy v (i + s) = cy v i
theorem Pf.len (v : List Int) : Pf v v.length := fun i => by unfold cy; rw [Nat.add_mod_right]
theorem Pf.mul {v : List Int} {s : Nat} (h : Pf v s) : ∀ m, Pf v (m * s)
  | 0 => fun i => by rw [Nat.zero_mul, Nat.add_zero]
  | m + 1 => fun i => by rw [Nat.succ_mul, ← Nat.add_assoc, h, h.mul m]
theorem Pf.gcd {v : List Int} (a b : Nat) : Pf v a → Pf v b → Pf v (Nat.gcd a b) := by
  induction a, b using Nat.gcd.induction with
  | H0 n => intro _ h; rwa [Nat.gcd_zero_left]
  | H1 m n hm ih =>
    intro h1 h2
    rw [Nat.gcd_rec]
    refine ih (fun i => ?_) h1
    have h3 := h1.mul (n / m)
    rw [← h3 (i + n % m), Nat.add_assoc, Nat.mul_comm, Nat.mod_add_div]
    exact h2 i
theorem rpt_iff {v : List Int} {s : Nat} (hs : 1 ≤ s) (hd : s ∣ v.length) (h0 : 0 < v.length) : rpt (v.length / s) (v.take s) = v ↔ Pf v s := by
  have hle : s ≤ v.length := Nat.le_of_dvd h0 hd
  have htl : (v.take s).length = s := by rw [List.length_take]; omega
  have hm : v.length / s * s = v.length := Nat.div_mul_cancel hd
  constructor
  · intro e i
    have g : ∀ i, i < v.length → v.getD i 0 = v.getD (i % s) 0 := fun i hi => by
      have := rpt_get (v.take s) (v.length / s) i (by rw [htl, hm]; exact hi)
      rw [e, htl, getD_take (Nat.mod_lt _ (by omega))] at this
      exact this
    unfold cy
    rw [g _ (Nat.mod_lt _ h0), g _ (Nat.mod_lt i h0), Nat.mod_mod_of_dvd _ hd, Nat.mod_mod_of_dvd _ hd, Nat.add_mod_right]
  · intro h
    refine ext_getD (by rw [rpt_len, htl, hm]) fun i hi => ?_
    rw [rpt_get _ _ _ (by rw [htl, hm]; exact hi), htl, getD_take (Nat.mod_lt _ (by omega))]
    have := h.mul (i / s) (i % s)
    rw [Nat.mul_comm, Nat.mod_add_div] at this
    unfold cy at this
    rw [Nat.mod_eq_of_lt hi, Nat.mod_eq_of_lt (Nat.lt_of_le_of_lt (Nat.mod_le _ _) hi)] at this
    exact this.symm
def rootP (v : List Int) (k : Nat) : Bool := decide (v.length % (k + 1) = 0) && decide (rpt (v.length / (k + 1)) (v.take (k + 1)) = v)
def szI (v : List Int) : Nat := ((List.range v.length).find? (rootP v)).getD 0 + 1
theorem rootP_iff {v : List Int} {s : Nat} (hs : 1 ≤ s) (h0 : 0 < v.length) : rootP v (s - 1) = true ↔ s ∣ v.length ∧ Pf v s := by
  unfold rootP
  rw [show s - 1 + 1 = s by omega, Bool.and_eq_true, decide_eq_true_eq, decide_eq_true_eq]
  constructor
  · rintro ⟨h1, h2⟩
    have := Nat.dvd_of_mod_eq_zero h1
    exact ⟨this, (rpt_iff hs this h0).mp h2⟩
  · rintro ⟨h1, h2⟩
    exact ⟨Nat.mod_eq_zero_of_dvd h1, (rpt_iff hs h1 h0).mpr h2⟩
theorem szI_spec {v : List Int} (h0 : 0 < v.length) : 1 ≤ szI v ∧ szI v ≤ v.length ∧ szI v ∣ v.length ∧ Pf v (szI v) ∧ (∀ j, 1 ≤ j → j < szI v → j ∣ v.length → ¬ Pf v j) ∧ (List.range v.length).find? (rootP v) = some (szI v - 1) := by
  have hex : ∃ k0, (List.range v.length).find? (rootP v) = some k0 := by
    cases h : (List.range v.length).find? (rootP v) with
    | some k0 => exact ⟨k0, rfl⟩
    | none =>
      exfalso
      refine List.find?_eq_none.mp h (v.length - 1) (List.mem_range.mpr (by omega)) ?_
      exact (rootP_iff h0 h0).mpr ⟨Nat.dvd_refl _, Pf.len v⟩
  obtain ⟨k0, hk⟩ := hex
  have e : szI v = k0 + 1 := by unfold szI; rw [hk]; rfl
  obtain ⟨h1, h2, h3⟩ := List.find?_range_eq_some.mp hk
  have h2 := List.mem_range.mp h2
  have h4 := (rootP_iff (v := v) (s := k0 + 1) (by omega) h0).mp h1
  rw [e]
  refine ⟨by omega, by omega, h4.1, h4.2, fun j j0 j1 jd jp => ?_, hk⟩
  have h5 := h3 (j - 1) (by omega)
  rw [(rootP_iff j0 h0).mpr ⟨jd, jp⟩] at h5
  cases h5
theorem szI_dvd {v : List Int} (h0 : 0 < v.length) {s : Nat} (hs : 1 ≤ s) (hd : s ∣ v.length) (hp : Pf v s) : szI v ∣ s := by
  obtain ⟨z1, z2, z3, z4, z5, _⟩ := szI_spec h0
  have hg := Pf.gcd _ _ z4 hp
  have g0 : 0 < Nat.gcd (szI v) s := Nat.gcd_pos_of_pos_right _ hs
  have gd : Nat.gcd (szI v) s ∣ v.length := Nat.dvd_trans (Nat.gcd_dvd_left _ _) z3
  have gl : Nat.gcd (szI v) s ≤ szI v := Nat.gcd_le_left _ z1
  rcases Nat.lt_or_ge (Nat.gcd (szI v) s) (szI v) with q | q
  · exact absurd hg (z5 _ g0 q gd)
  · have : Nat.gcd (szI v) s = szI v := by omega
    rw [← this]
    exact Nat.gcd_dvd_right _ _
theorem cy_rot {v : List Int} {k i : Nat} (hk : k ≤ v.length) (hi : i < v.length) : (rot k v).getD i 0 = cy v (i + k) := by
  have h := rot_get hk hi
  unfold cy
  rw [List.getD_eq_getElem?_getD, List.getElem?_eq_getElem (by rw [rot_len]; exact hi), Option.getD_some, h, List.getD_eq_getElem?_getD, List.getElem?_eq_getElem (Nat.mod_lt _ (by omega)), Option.getD_some]
/-- the root of a least word is a head -/
theorem root_head {l : List Int} (h0 : l ≠ []) (hl : lstW l = l) : hd (l.take (szI l)) = true ∧ l = rpt (l.length / szI l) (l.take (szI l)) := by
  have hn : 0 < l.length := List.length_pos_iff.mpr h0
  obtain ⟨z1, z2, z3, z4, z5, _⟩ := szI_spec hn
  have er : rpt (l.length / szI l) (l.take (szI l)) = l := (rpt_iff z1 z3 hn).mpr z4
  refine ⟨?_, er.symm⟩
  have htl : (l.take (szI l)).length = szI l := by rw [List.length_take]; omega
  have hm : l.length / szI l * szI l = l.length := Nat.div_mul_cancel z3
  have hm1 : 0 < l.length / szI l := Nat.div_pos z2 z1
  generalize hr : l.take (szI l) = r at *
  generalize hs : szI l = s at *
  have gl : ∀ i, cy l i = r.getD (i % s) 0 := fun i => by
    unfold cy
    have := rpt_get r (l.length / s) (i % l.length) (by rw [htl, hm]; exact Nat.mod_lt _ hn)
    rw [er, htl, Nat.mod_mod_of_dvd _ z3] at this
    exact this
  rw [hd_iff]
  intro k k0 k1
  rw [htl] at k1
  have erot : rot k l = rpt (l.length / s) (rot k r) := by
    refine ext_getD (by rw [rot_len, rpt_len, rot_len, htl, hm]) fun i hi => ?_
    rw [rpt_len, rot_len, htl, hm] at hi
    rw [cy_rot (by omega) hi, gl, rpt_get _ _ _ (by rw [rot_len, htl, hm]; exact hi), rot_len, htl, cy_rot (by omega) (by rw [htl]; exact Nat.mod_lt _ (by omega))]
    unfold cy
    rw [htl, Nat.mod_add_mod]
  have hle : leG l (rot k l) = true := by
    have := lst_le (w := l) (k := k) (by omega)
    rwa [hl] at this
  rcases ltG_tri r (rot k r) with q | q | q
  · exact q
  · exfalso
    have pk : Pf l k := fun i => by
      rw [gl, gl]
      have h1 : (rot k r).getD (i % s) 0 = r.getD ((i % s + k) % s) 0 := by
        rw [cy_rot (by omega) (by rw [htl]; exact Nat.mod_lt _ (by omega))]
        unfold cy
        rw [htl]
      rw [← q, Nat.mod_add_mod] at h1
      exact h1.symm
    have := szI_dvd hn (s := Nat.gcd k s) (Nat.gcd_pos_of_pos_left _ k0) (Nat.dvd_trans (Nat.gcd_dvd_right _ _) z3) (Pf.gcd _ _ pk z4)
    rw [hs] at this
    have h2 := Nat.le_of_dvd (Nat.gcd_pos_of_pos_left _ k0) this
    have h3 := Nat.gcd_le_left s k0
    omega
  · exfalso
    obtain ⟨m, hm'⟩ : ∃ m, l.length / s = m + 1 := ⟨l.length / s - 1, by omega⟩
    have el : l = r ++ rpt m r := by rw [← rpt_succ, ← hm', er]
    rw [erot, hm', rpt_succ, el] at hle
    have h1 := ltG_more (rpt m (rot k r)) (rpt m r) (by rw [rot_len]) q
    rw [leG_def, h1] at hle
    cases hle
theorem first_of {q : Nat → Bool} {n k0 : Nat} (h : (List.range n).find? q = some k0) (f : Nat → Int) : atI (((List.range n).filter q).map f) 0 = some (f k0) := by
  have hh : ((List.range n).filter q).head? = some k0 := by rw [List.head?_filter]; exact h
  cases hf : (List.range n).filter q with
  | nil => rw [hf] at hh; cases hh
  | cons a l =>
    rw [hf] at hh
    have : a = k0 := Option.some.inj hh
    rw [this]
    exact atI_nat (k := 0) (by simp)
theorem Rets.range1 {β : Type} {f : β → Int → Option β} {n : Nat} (I : Nat → β → Prop) {s : β} (hn : 1 ≤ n) (hn2 : n ≤ 16777216) (h0 : I 1 s) (st : ∀ k s, 1 ≤ k → k < n → I k s → Rets (f s (k : Int)) (I (k + 1))) : Rets ((rangeP 1 (n : Int)).bind fun l => l.foldlM f s) (I n) := by
  rw [N.range1 hn2, bind_s]
  have e : ((List.range (n - 1)).map fun k : Nat => ((k + 1 : Nat) : Int)).foldlM f s = ((List.range (n - 1)).map fun k : Nat => (k : Int)).foldlM (fun s k => f s (k + 1)) s := by
    rw [List.foldlM_map, List.foldlM_map]
    rfl
  rw [e]
  have h := fold_range (f := fun s k => f s (k + 1)) (fun k s => I (k + 1) s) (s := s) h0 (n - 1) fun k s hk hI => st (k + 1) s (by omega) (by omega) hI
  rwa [show n - 1 + 1 = n by omega] at h
/-- the first that is hit -/
theorem hit_loop {α T R : Type} {F : Unit → α → Option (Fl Unit Unit R)} {g : α → Bool} {r : α → R} : ∀ {l : List α}, (∀ x ∈ l, F () x = if g x = true then some (.rt (r x)) else some (.nx ())) →
    forL (T := T) (R := R) F l () = match l.find? g with | some x => some (.rt (r x)) | none => some (.nx ())
  | [], _ => rfl
  | x :: l, h => by
    simp only [forL, h x List.mem_cons_self]
    cases e : g x with
    | true =>
      rw [if_tt, bind_s, List.find?_cons_of_pos e]
    | false =>
      rw [if_ft, bind_s, List.find?_cons_of_neg (by rw [e]; exact Bool.false_ne_true)]
      exact hit_loop fun y hy => h y (List.mem_cons_of_mem _ hy)
end L2.DL.N

/-! DLT: plain facts of texts, and of what repr shows of small data -/
namespace L2.DL
open PySem PySem.Spec PyProof.Rows
abbrev tl (t : Str) : List Nat := TL.tl t
theorem len_tl (t : Str) : t.length = (tl t).length := TL.len_tl t
theorem sig_eq {c d : Nat} : ((⟨#[c]⟩ : Str) = ⟨#[d]⟩) ↔ c = d := ⟨fun h => by cases h; rfl, fun h => by rw [h]⟩
theorem tl_inj {s t : Str} (h : tl s = tl t) : s = t := TL.ext_tl h
theorem of_sig (s : String) (l : List Nat) (h : s.toList.map Char.toNat = l := by decide) : Str.ofString s = ⟨l.toArray⟩ := tl_inj (by rw [tl, TL.tl_ofString, h])
theorem lenS_of {t : Str} (h : t.length ≤ 16777216) : lenS t = some (t.length : Int) := by rw [lenS_def, if_pos h]
theorem atS_nat {t : Str} {k : Nat} (h : t.length ≤ 16777216) (hk : k < t.length) : atS t (k : Int) = some ⟨#[(tl t).getD k 0]⟩ := by
  rw [len_tl] at hk
  rw [atS_def, if_pos h, atI_nat hk, map_s, List.getD_eq_getElem?_getD, List.getElem?_eq_getElem hk]
  rfl
theorem atS_last {t : Str} (h : t.length ≤ 16777216) (h0 : 0 < t.length) : atS t (-(1 : Int)) = some ⟨#[(tl t).getD (t.length - 1) 0]⟩ := by
  rw [len_tl] at h0 ⊢
  have e : atI (tl t) (-(1 : Int)) = some ((tl t).getD ((tl t).length - 1) 0) := by
    unfold atI ixN
    rw [if_neg (by omega), if_pos (by omega), bind_s, List.getD_eq_getElem?_getD, show (-(1 : Int) + ((tl t).length : Int)).toNat = (tl t).length - 1 by omega, List.getElem?_eq_getElem (by omega)]
    rfl
  rw [atS_def, if_pos h]
  have e' : atI (TL.tl t) (-(1 : Int)) = _ := e
  rw [e', map_s]
/-- a text of at most n signs -/
def Sh (n : Nat) (s : Str) : Prop := s.length ≤ n
theorem Sh.mono {n m : Nat} {s : Str} (h : Sh n s) (k : n ≤ m) : Sh m s := Nat.le_trans h k
theorem sh_of (s : String) (n : Nat) (h : s.toList.length ≤ n := by decide) : Sh n (Str.ofString s) := by
  unfold Sh
  rw [len_tl, tl, TL.tl_ofString, List.length_map]
  exact h
theorem len_cutS {z : Str} {lo hi : Option Int} : (cutS z lo hi).length ≤ z.length := by
  rw [len_tl, len_tl z]
  show ((((TL.tl z).drop _).take _).toArray).toList.length ≤ _
  rw [List.toList_toArray, List.length_take, List.length_drop]
  show min _ ((tl z).length - _) ≤ (tl z).length
  omega
theorem len_revS {z : Str} : (revS z).length = z.length := by
  rw [len_tl, len_tl z]
  show ((TL.tl z).reverse.toArray).toList.length = _
  rw [List.toList_toArray, List.length_reverse]
theorem len_add (x y : Str) : (x ++ y).length = x.length + y.length := by
  rw [len_tl, len_tl x, len_tl y, tl, TL.tl_append, List.length_append]
theorem cutS_ok {n : Nat} {z : Str} {lo hi : Option Int} (h : Sh n z) (hn : n ≤ 16777216) : Rets (cutSP z lo hi) (Sh n) := by
  rw [cutSP_def, if_pos (Nat.le_trans h hn)]
  exact .pure (Nat.le_trans len_cutS h)
theorem revS_ok {n : Nat} {z : Str} (h : Sh n z) (hn : n ≤ 16777216) : Rets (revSP z) (Sh n) := by
  rw [revSP_def, if_pos (Nat.le_trans h hn)]
  exact .pure (by unfold Sh; rw [len_revS]; exact h)
theorem addS_ok {n m : Nat} {x y : Str} (h : Sh n x) (h2 : Sh m y) (hn : n + m ≤ 16777216) : Rets (addS x y) (Sh (n + m)) := by
  unfold Sh at *
  rw [addS_def, if_pos (by omega)]
  exact .pure (by rw [len_add]; omega)
theorem upS_ok {n : Nat} {x : Str} (h : Sh n x) (hn : n ≤ 5592405) : Rets (upS x) (Sh (3 * n)) := by
  unfold Sh at *
  rw [upS_def, if_pos (by omega)]
  have := PyProof.Rows.len_upper x
  exact .pure (by omega)
/-! ### what repr shows of numbers, lists of numbers, pairs -/
theorem int_sh {x : Int} (hx : x.natAbs < 10 ^ 12) : (toPy (.int x)).showable = true ∧ (toPy (.int x)).leavesShort 13 = true ∧ (toPy (.int x)).weight ≤ 40 := by
  have h40 : x.natAbs.log2 < 40 ∨ x.natAbs = 0 := by
    rcases Nat.eq_zero_or_pos x.natAbs with z | z
    · exact .inr z
    · exact .inl ((Nat.log2_lt (k := 40) (show x.natAbs ≠ 0 by omega)).mpr (by omega))
  refine ⟨?_, ?_, ?_⟩
  · simp only [toPy, PyData.showable, decide_eq_true_eq]
    rcases h40 with h | h
    · omega
    · rw [h]
      decide
  · simp only [toPy, PyData.leavesShort, decide_eq_true_eq]
    exact PyData.shown_int_le hx
  · simp only [toPy, PyData.weight]
    split
    · omega
    · rename_i hx
      rcases h40 with h | h
      · omega
      · exact absurd (by rw [beq_iff_eq]; omega) hx
theorem ints_sh : ∀ {g : List Int}, (∀ x ∈ g, x.natAbs < 10 ^ 12) → PyData.showableAll (toPyL (g.map rp)) = true ∧ PyData.leavesShortAll 13 (toPyL (g.map rp)) = true ∧ PyData.hasDictAll (toPyL (g.map rp)) = false ∧ PyData.depthAll (toPyL (g.map rp)) ≤ 0 ∧ PyData.weightAll (toPyL (g.map rp)) ≤ 41 * g.length
  | [], _ => ⟨rfl, rfl, rfl, Nat.le_refl _, Nat.zero_le _⟩
  | x :: g, h => by
    obtain ⟨h1, h2, h3, h4, h5⟩ := ints_sh fun y hy => h y (List.mem_cons_of_mem x hy)
    obtain ⟨a1, a2, a3⟩ := int_sh (h x List.mem_cons_self)
    have er : (rp x : Dt) = .int x := rfl
    rw [List.map_cons, er]
    simp only [toPyL, PyData.showableAll, PyData.leavesShortAll, PyData.hasDictAll, PyData.depthAll, PyData.weightAll, List.length_cons]
    refine ⟨by rw [a1, h1]; rfl, by rw [a2, h2]; rfl, ?_, ?_, by omega⟩
    · rw [h3]
      simp only [toPy, PyData.hasDict]
      rfl
    · simp only [toPy, PyData.depth]
      omega
theorem repr_ints {g : List Int} (h : ∀ x ∈ g, x.natAbs < 10 ^ 12) (hl : g.length ≤ 20000) : ∃ s, reprD (rp g) = some s := by
  obtain ⟨h1, h2, h3, h4, h5⟩ := ints_sh h
  have e : (rp g : Dt) = .lst (g.map rp) := rfl
  unfold reprD
  rw [e, if_pos]
  · exact ⟨_, rfl⟩
  · simp only [toPy, PyData.showable, PyData.hasDict, PyData.depth]
    refine ⟨h1, h3, by omega, PyData.shown_fits (B := 13) (by decide) (by decide) (by simp only [PyData.leavesShort]; exact h2) (by simp only [PyData.weight]; omega)⟩
theorem repr_pair {n : Int} {g : List Int} (hn : n.natAbs < 10 ^ 12) (h : ∀ x ∈ g, x.natAbs < 10 ^ 12) (hl : g.length ≤ 20000) : ∃ s, reprD (rp ((n, g) : Int × List Int)) = some s := by
  obtain ⟨h1, h2, h3, h4, h5⟩ := ints_sh h
  obtain ⟨a1, a2, a3⟩ := int_sh hn
  have e : (rp ((n, g) : Int × List Int) : Dt) = .tup [.int n, .lst (g.map rp)] := rfl
  unfold reprD
  rw [e, if_pos]
  · exact ⟨_, rfl⟩
  · simp only [toPy] at a1 a2 a3 ⊢
    simp only [toPyL, toPy, PyData.showable, PyData.showableAll, PyData.hasDict, PyData.hasDictAll, PyData.depth, PyData.depthAll] at a1 ⊢
    refine ⟨?_, ?_, ?_, PyData.shown_fits (B := 13) (by decide) (by decide) ?_ ?_⟩
    · rw [a1, h1]; rfl
    · rw [h3]; rfl
    · omega
    · simp only [PyData.leavesShort, PyData.leavesShortAll] at a2 ⊢
      rw [a2, h2]; rfl
    · simp only [PyData.weight, PyData.weightAll] at a3 ⊢
      omega
/-! ### ascending lists of numbers -/
theorem asc_eq {l r : List Int} (hl : l.Pairwise (· < ·)) (hr : r.Pairwise (· < ·)) (h : ∀ x, x ∈ l ↔ x ∈ r) : l = r :=
  List.Perm.eq_of_pairwise (le := fun a b => a < b) (fun a b _ _ h1 h2 => by omega) hl hr ((List.perm_ext_iff_of_nodup (hl.imp fun h => by omega) (hr.imp fun h => by omega)).mpr h)
theorem nats_asc (n : Nat) : (nats n).Pairwise (· < ·) := nats_pw n
theorem lay_strs : ∀ {l : List Str}, (∀ s ∈ l, PyData.strOk s = true) → PyData.canLayAll0 (toPyL (l.map rp)) = true ∧ PyData.depthAll (toPyL (l.map rp)) ≤ 0
  | [], _ => by simp [toPyL, PyData.canLayAll0, PyData.depthAll]
  | x :: l, h => by
    obtain ⟨h3, h4⟩ := lay_strs fun y hy => h y (List.mem_cons_of_mem x hy)
    have hx := h x List.mem_cons_self
    have er : (rp x : Dt) = .str x := rfl
    rw [List.map_cons, er]
    simp only [toPyL, toPy, PyData.canLayAll0, PyData.depthAll, PyData.canLay0, PyData.depth]
    exact ⟨by rw [hx, h3]; rfl, by omega⟩
theorem eqv_strs : ∀ l r : List Str, PyData.eqvAll (toPyL (l.map rp)) (toPyL (r.map rp)) = decide (l = r)
  | [], [] => by simp [toPyL, PyData.eqvAll]
  | [], _ :: _ => by simp [toPyL, PyData.eqvAll]
  | _ :: _, [] => by simp [toPyL, PyData.eqvAll]
  | x :: l, y :: r => by
    have er : ∀ x : Str, (rp x : Dt) = .str x := fun _ => rfl
    have ih := eqv_strs l r
    rw [List.map_cons, List.map_cons, er, er]
    simp only [toPyL, toPy, PyData.eqvAll, PyData.eqv, ih]
    by_cases h1 : x = y <;> by_cases h2 : l = r <;> simp [h1, h2]
theorem eqD_strs {x y : List Str} (hx : ∀ s ∈ x, PyData.strOk s = true) (hy : ∀ s ∈ y, PyData.strOk s = true) : eqD (rp x) (rp y) = some (decide (x = y)) := by
  obtain ⟨h1, h2⟩ := lay_strs hx
  obtain ⟨h3, h4⟩ := lay_strs hy
  have e : ∀ x : List Str, (rp x : Dt) = .lst (x.map rp) := fun _ => rfl
  unfold eqD SeqAt.shaped
  rw [e, e, if_pos]
  · simp only [toPy, PyData.eqv, eqv_strs]
  · simp only [toPy, PyData.canLay0, PyData.depth, h1, h3, Bool.true_and, decide_eq_true_eq]
    exact ⟨by omega, by omega⟩
/-- two of different kinds, in a list -/
theorem eqD_two {α β : Type} [Rp α] [Rp β] [DecidableEq α] [DecidableEq β] [EqR α] [EqR β] {x : α} {y : β} (h1 : EqR.dep α ≤ 60) (h2 : EqR.dep β ≤ 60) : eqD (rp ([rp x, rp y] : List Dt)) (rp ([rp x, rp y] : List Dt)) = some true := by
  have a := EqR.lay x
  have b := EqR.lay y
  have c := EqR.eq x x
  have d := EqR.eq y y
  rw [decide_eq_true rfl] at c d
  have e : (rp ([rp x, rp y] : List Dt)) = Dt.lst [rp x, rp y] := rfl
  unfold eqD SeqAt.shaped
  rw [e, if_pos]
  · simp only [toPy, toPyL, PyData.eqv, PyData.eqvAll, c, d, Bool.and_true]
  · simp only [toPy, toPyL, PyData.canLay0, PyData.canLayAll0, PyData.depth, PyData.depthAll, a.1, b.1, Bool.and_true, decide_eq_true_eq, Bool.true_and]
    exact ⟨by omega, by omega⟩
theorem un_ints (g : List Int) : (un : Dt → Option (List Int)) (rp g) = some g := by
  have key : ∀ g : List Int, unL (un : Dt → Option Int) (g.map rp) = some g := by
    intro g
    induction g with
    | nil => rfl
    | cons x g ih =>
      rw [List.map_cons]
      unfold unL
      rw [ih]
      rfl
  exact key g
theorem un_pair (n : Int) (g : List Int) : (un : Dt → Option (Int × List Int)) (rp ((n, g) : Int × List Int)) = some (n, g) := by
  show ((un (rp n) : Option Int).bind fun x => (un (rp g) : Option (List Int)).map fun y => (x, y)) = _
  have e := un_ints g
  rw [show (un (rp g) : Option (List Int)) = some g from e]
  rfl
end L2.DL

namespace L2.DL.K89
open PySem PySem.Spec PyProof.Rows
/-! ### the text -/
def topS (i : Nat) : Stmt := PySem.Challenge.pw_daysround_k89_texts_of_pieces_and_round.main.body.getD i (.Pass ⟨0, 0, 0, 0⟩)
abbrev st_law_with : Stmt := topS 23
abbrev st_law_bent : Stmt := topS 31
abbrev st_law_draws : Stmt := topS 20
abbrev st_law_is_number : Stmt := topS 22
abbrev st_law_is_numeral : Stmt := topS 24
abbrev st_law_read_piece : Stmt := topS 27
abbrev st_is_digits : Stmt := topS 8
abbrev st_is_numeral : Stmt := topS 9
abbrev st_can_follow : Stmt := topS 14
abbrev st_numbers_of : Stmt := topS 10
abbrev st_parse_piece : Stmt := topS 15
abbrev st_law_piece_reads : Stmt := topS 29
abbrev st_law_read_round : Stmt := topS 28
abbrev st_can_stand : Stmt := topS 17
abbrev st_parse_round_set : Stmt := topS 18
abbrev st_law_round_reads : Stmt := topS 30
abbrev st_joined_numbers : Stmt := topS 11
abbrev st_format_piece : Stmt := topS 13
abbrev st_format_round_set : Stmt := topS 16
abbrev st_law_long : Stmt := topS 33
abbrev st_law_cell : Stmt := topS 21
abbrev st_law_digits : Stmt := topS 25
abbrev st_law_some_piece : Stmt := topS 26
abbrev st_law_worlds : Stmt := topS 32
abbrev st_law : Stmt := topS 34
/-! ### the mirrors -/
def fldT : Nat → Str := fun _ => "at"
def catch_InvalidText : Nat → Bool := fun _ => true
def is_DayError : Nat → Bool := fun _ => true
def is_InvalidDeed : Nat → Bool := fun _ => false
def is_InvalidSign : Nat → Bool := fun _ => false
def is_ValueError : Nat → Bool := fun _ => true
def f_law_with (a_line : (List Str)) (a_at : Int) (a_item : Str) : Option (List Str) :=
 (lim ((cut a_line none (some a_at)) ++ ([a_item] : (List Str)))).bind fun v15 => lim (v15 ++ (cut a_line (some (a_at + (1 : Int))) none))
def f_law_bent (a_text : Str) (a_draws : (List Int)) : Option (List Str) :=
 (splitS a_text (Str.ofString " ")).bind fun words_3 =>
 (((atI a_draws (3 : Int)).bind fun v9 => modP v9 (words_3.length : Int)).bind fun v18 => ((atI a_draws (4 : Int)).bind fun v15 => modP v15 (words_3.length : Int)).bind fun v19 => some (v18, v19)).bind fun p20 =>
 (((((((((((((repSP (Str.ofString "1") (40 : Int)).bind fun v44 => ((repSP (Str.ofString "1") (41 : Int)).bind fun v42 => (((repSP (Str.ofString "9") (40 : Int)).bind fun v29 => addS (Str.ofString "-") v29).bind fun v40 => some (v40 :: ([(Str.ofString ":"), (Str.ofString "::"), (Str.ofString "1:"), (Str.ofString ":1"), (Str.ofString "0:")] : (List Str)))).bind fun l43 => some (v42 :: l43)).bind fun l45 => some (v44 :: l45)).bind fun l47 => some ((Str.ofString "a") :: l47)).bind fun l49 => some ((Str.ofString "1_0") :: l49)).bind fun l51 => some ((Str.ofString "1.0") :: l51)).bind fun l53 => some ((Str.ofString "-0") :: l53)).bind fun l55 => some ((Str.ofString "00") :: l55)).bind fun l57 => some ((Str.ofString "-01") :: l57)).bind fun l59 => some ((Str.ofString "01") :: l59)).bind fun l61 => some ((Str.ofString "--1") :: l61)).bind fun l63 => some ((Str.ofString "-") :: l63)).bind fun l65 => some ((Str.ofString "+1") :: l65)).bind fun l67 => some ((Str.ofString "") :: l67)).bind fun odd_68 =>
 (((((((((((repSP (Str.ofString "9") (40 : Int)).bind fun v83 => ((repSP (Str.ofString "9") (41 : Int)).bind fun v81 => some (v81 :: ([(Str.ofString "5"), (Str.ofString "-1"), (Str.ofString "7 "), (Str.ofString "0,1")] : (List Str)))).bind fun l84 => some (v83 :: l84)).bind fun l86 => some ((Str.ofString "1") :: l86)).bind fun l88 => some ((Str.ofString "-7") :: l88)).bind fun l90 => some ((Str.ofString "0") :: l90)).bind fun l92 => some ((Str.ofString "none") :: l92)).bind fun l94 => some ((Str.ofString "1e3") :: l94)).bind fun l96 => some ((Str.ofString "0x1") :: l96)).bind fun l98 => some ((Str.ofString "\t1") :: l98)).bind fun l100 => some ((Str.ofString "1\n") :: l100)).bind fun v103 => lim (odd_68 ++ v103)).bind fun odd_104 =>
 ((((atI a_draws (5 : Int)).bind fun v110 => modP v110 (odd_104.length : Int)).bind fun v113 => atI odd_104 v113).bind fun v125 => (((atI a_draws (6 : Int)).bind fun v119 => modP v119 (odd_104.length : Int)).bind fun v122 => atI odd_104 v122).bind fun v126 => some (v125, v126)).bind fun p127 =>
 (((addS a_text (Str.ofString " ")).bind fun v158 => ((addS (Str.ofString " ") a_text).bind fun v156 => ((addS a_text (Str.ofString "\n")).bind fun v154 => ((((replS a_text (Str.ofString " ") (Str.ofString "  ")).bind fun v148 => ((replS a_text (Str.ofString ":") (Str.ofString "")).bind fun v146 => ((replS a_text (Str.ofString " : ") (Str.ofString ":")).bind fun v144 => (((addS a_text (Str.ofString " ")).bind fun v141 => addS v141 a_text).bind fun v142 => some (v142 :: ([] : (List Str)))).bind fun l145 => some (v144 :: l145)).bind fun l147 => some (v146 :: l147)).bind fun l149 => some (v148 :: l149)).bind fun l151 => some ((Str.ofString " ") :: l151)).bind fun l153 => some ((Str.ofString "") :: l153)).bind fun l155 => some (v154 :: l155)).bind fun l157 => some (v156 :: l157)).bind fun l159 => some (v158 :: l159)).bind fun l161 => some (a_text :: l161)).bind fun found_162 =>
 ((joinS (Str.ofString " ") words_3.reverse).bind fun v168 => lim (found_162 ++ [v168])).bind fun found_163 =>
 (((lim ((cut words_3 (some (1 : Int)) none) ++ (cut words_3 none (some (1 : Int))))).bind fun v180 => joinS (Str.ofString " ") v180).bind fun v182 => lim (found_163 ++ [v182])).bind fun found_169 =>
 (((lim ((cut words_3 none (some p20.1)) ++ (cut words_3 (some (p20.1 + (1 : Int))) none))).bind fun v196 => joinS (Str.ofString " ") v196).bind fun v198 => lim (found_169 ++ [v198])).bind fun found_183 =>
 ((((((atI words_3 p20.1).bind fun v205 => some (v205 :: ([] : (List Str)))).bind fun v209 => lim ((cut words_3 none (some p20.1)) ++ v209)).bind fun v215 => lim (v215 ++ (cut words_3 (some p20.1) none))).bind fun v218 => joinS (Str.ofString " ") v218).bind fun v220 => lim (found_183 ++ [v220])).bind fun found_199 =>
 (((f_law_with words_3 p20.1 p127.1).bind fun v227 => joinS (Str.ofString " ") v227).bind fun v229 => lim (found_199 ++ [v229])).bind fun found_221 =>
 ((((lim ((cut words_3 none (some p20.1)) ++ ([p127.2] : (List Str)))).bind fun v243 => lim (v243 ++ (cut words_3 (some p20.1) none))).bind fun v246 => joinS (Str.ofString " ") v246).bind fun v248 => lim (found_221 ++ [v248])).bind fun found_230 =>
 (((((atI words_3 p20.2).bind fun v255 => f_law_with words_3 p20.1 v255).bind fun v261 => (atI words_3 p20.1).bind fun v262 => f_law_with v261 p20.2 v262).bind fun v265 => joinS (Str.ofString " ") v265).bind fun v267 => lim (found_230 ++ [v267])).bind fun found_249 =>
 ((((f_law_with words_3 p20.1 p127.1).bind fun v275 => f_law_with v275 p20.2 p127.2).bind fun v278 => joinS (Str.ofString " ") v278).bind fun v280 => lim (found_249 ++ [v280])).bind fun found_268 =>
 ((atI a_draws (7 : Int)).bind fun v289 => ((lenS a_text).bind fun v286 => some (v286 + (1 : Int))).bind fun v290 => modP v289 v290).bind fun place_291 =>
 (([(Str.ofString "0"), (Str.ofString "-"), (Str.ofString "+"), (Str.ofString " "), (Str.ofString ":"), (Str.ofString "9"), (Str.ofString "_"), (Str.ofString "x")] : (List Str)).foldlM (fun (s308 : (List Str)) (sign_309 : Str) =>
 ((((cutSP a_text none (some place_291)).bind fun v316 => addS v316 sign_309).bind fun v322 => (cutSP a_text (some place_291) none).bind fun v323 => addS v322 v323).bind fun v325 => lim (s308 ++ [v325])).bind fun found_310 =>
 some found_310) found_268).bind fun (s328 : (List Str)) =>
 ((((addS p127.1 (Str.ofString " : ")).bind fun v333 => addS v333 p127.2).bind fun v369 => ((addS p127.1 (Str.ofString " :")).bind fun v367 => (((addS p127.1 (Str.ofString " : 0 ")).bind fun v340 => addS v340 p127.2).bind fun v365 => ((((addS (Str.ofString "7 : ") p127.1).bind fun v345 => addS v345 (Str.ofString " ")).bind fun v348 => addS v348 p127.2).bind fun v363 => (((((addS (Str.ofString "0 ") p127.1).bind fun v355 => some (v355 :: ([(Str.ofString "1 : 0"), (Str.ofString "1 : 1")] : (List Str)))).bind fun l358 => some ((Str.ofString "0 :") :: l358)).bind fun l360 => some ((Str.ofString "7") :: l360)).bind fun l362 => some ((Str.ofString "7 :") :: l362)).bind fun l364 => some (v363 :: l364)).bind fun l366 => some (v365 :: l366)).bind fun l368 => some (v367 :: l368)).bind fun l370 => some (v369 :: l370)).bind fun v373 => lim (s328 ++ v373)).bind fun found_374 =>
 ((cutSP a_text none (some place_291)).bind fun v419 => ((cutSP a_text (some place_291) none).bind fun v417 => (((cutSP a_text none (some place_291)).bind fun v391 => (cutSP a_text (some (place_291 + (1 : Int))) none).bind fun v392 => addS v391 v392).bind fun v415 => (((((addS p127.1 (Str.ofString " ")).bind fun v397 => addS v397 p127.2).bind fun v409 => (((atI words_3 (0 : Int)).bind fun v402 => addS v402 (Str.ofString " :")).bind fun v407 => ((atI words_3 (0 : Int)).bind fun v405 => some (v405 :: ([] : (List Str)))).bind fun l408 => some (v407 :: l408)).bind fun l410 => some (v409 :: l410)).bind fun l412 => some (p127.2 :: l412)).bind fun l414 => some (p127.1 :: l414)).bind fun l416 => some (v415 :: l416)).bind fun l418 => some (v417 :: l418)).bind fun l420 => some (v419 :: l420)).bind fun v423 => lim (found_374 ++ v423)
def f_law_draws (a_script : Scr) (a_many : Int) : Option (List Int) :=
 (some ([] : (List Int))).bind fun found_1 =>
 ((cut a_script.l none (some (63 : Int))).foldlM (fun (s5 : (List Int)) (cell_6 : Int) =>
 (some (if cell_6 < 0 then -cell_6 else cell_6)).bind fun number_8 =>
 (if (decide ((1000000000000000000 : Int) ≤ number_8)) = true then
 ((rangeP 0 (60 : Int)).bind fun l23 => l23.foldlM (fun (s12 : ((List Int) × Int)) (k_13 : Int) =>
 (if (decide ((0 : Int) < s12.2)) = true then
 (lim (s12.1 ++ [(s12.2 % 1000003)])).bind fun found_16 =>
 (some (s12.2 / 1000003)).bind fun number_20 =>
 some (found_16, number_20)
else
 some (s12.1, s12.2))) (s5, number_8)).bind fun (s24 : ((List Int) × Int)) =>
 some s24.1
else
 (some ((((number_8 * 48271) + (7 * (s5.length : Int))) + (11 : Int)) % 2147483647)).bind fun mixed_33 =>
 ((rangeP 0 (4 : Int)).bind fun l53 => l53.foldlM (fun (s35 : ((List Int) × Int)) (k_36 : Int) =>
 (some (((((s35.2 * 69621) + (s35.2 / 65536)) + (13 * k_36)) + (5 : Int)) % 2147483629)).bind fun mixed_47 =>
 (lim (s35.1 ++ [((mixed_47 / 8) % 1000003)])).bind fun found_48 =>
 some (found_48, mixed_47)) (s5, mixed_33)).bind fun (s54 : ((List Int) × Int)) =>
 some s54.1)) found_1).bind fun (s58 : (List Int)) =>
 ((rangeP 0 a_many).bind fun l91 => l91.foldlM (fun (s60 : (List Int)) (k_61 : Int) =>
 (if (decide ((s60.length : Int) < a_many)) = true then
 (some (0 : Int)).bind fun base_65 =>
 ((if (decide ((0 : Int) < (s60.length : Int))) = true then
 ((modP k_61 (s60.length : Int)).bind fun v74 => atI s60 v74).bind fun base_75 =>
 some base_75
else
 some base_65)).bind fun (s77 : Int) =>
 (lim (s60 ++ [((((s77 * 16807) + (31 * (s60.length : Int))) + (17 : Int)) % 1000003)])).bind fun found_78 =>
 some found_78
else
 some s60)) s58).bind fun (s92 : (List Int)) =>
 some (cut s92 none (some a_many))
def f_law_is_number (a_value : (Option Int)) : Option Bool :=
 (if noFrz (rp a_value) = true then some (isTy "int" (rp a_value)) else none).bind fun b3 => if b3 = true then (if noFrz (rp a_value) = true then some (isTy "bool" (rp a_value)) else none).map fun b => !b else some false
def f_law_is_numeral (a_word : Str) : Option Bool :=
 (some a_word).bind fun digits_1 =>
 Fl.ret (T := Unit) (((cutSP a_word none (some (1 : Int))).bind fun v7 => some (decide (v7 = (Str.ofString "-")))).bind fun b15 => (if b15 = true then
 (cutSP a_word (some (1 : Int)) none).bind fun digits_11 =>
 (if (decide (digits_11 = (Str.ofString "0"))) = true then
 some (.rt false)
else
 some (.nx digits_11))
else
 some (.nx digits_1))) fun (s16 : Str) =>
 (if (decide (s16 = (Str.ofString ""))) = true then some true else ((lenS s16).bind fun v22 => some (decide ((40 : Int) < v22))).bind fun b33 => if b33 = true then some true else ((lenS s16).bind fun v26 => some (decide ((1 : Int) < v26))).bind fun b32 => if b32 = true then (atS s16 (0 : Int)).bind fun v31 => some (decide (v31 = (Str.ofString "0"))) else some false).bind fun b42 => (if b42 = true then
 some false
else
 ((compM (fun x35 => (inS x35 (Str.ofString "0123456789")).map fun b => !b) (fun x35 => some (rp x35)) (signs s16)).bind lim).bind fun v41 => eqD (rp v41) (rp ([] : (List Dt))))
def f_law_read_piece (a_text : Str) : Option (Str × Dt) :=
 (splitS a_text (Str.ofString " ")).bind fun words_3 =>
 (some ([] : (List Int))).bind fun piece_4 =>
 Fl.ret ((rangeP 0 (words_3.length : Int)).bind fun l41 => (forL (T := Unit) (R := (Str × Dt)) (fun (s7 : (List Int)) (at_8 : Int) =>
 (((atI words_3 at_8).bind fun v11 => f_law_is_numeral v11).map fun b => !b).bind fun b39 => (if b39 = true then
 some (.rt ((Str.ofString "bad"), (rp at_8)))
else
 ((atI words_3 at_8).bind fun v17 => intS v17).bind fun number_18 =>
 (if ((decide (at_8 = (0 : Int))) && (decide (number_18 ≠ (0 : Int)))) = true then some true else if (decide ((0 : Int) < at_8)) = true then (atI s7 (at_8 - (1 : Int))).bind fun v31 => some (decide (number_18 ≤ v31)) else some false).bind fun b38 => (if b38 = true then
 some (.rt ((Str.ofString "bad"), (rp at_8)))
else
 (lim (s7 ++ [number_18])).bind fun piece_36 =>
 some (.nx piece_36)))) l41 piece_4)) fun (s42 : (List Int)) =>
 some ((Str.ofString "good"), (rp s42))
def f_is_digits (a_word : Str) : Option Bool :=
 (((lenS a_word).bind fun v4 => some (decide (v4 = (0 : Int)))).bind fun b9 => if b9 = true then some true else (lenS a_word).bind fun v8 => some (decide ((40 : Int) < v8))).bind fun b29 => (if b29 = true then
 some false
else
 (((lenS a_word).bind fun v13 => some (decide ((1 : Int) < v13))).bind fun b19 => if b19 = true then (atS a_word (0 : Int)).bind fun v18 => some (decide (v18 = (Str.ofString "0"))) else some false).bind fun b28 => (if b28 = true then
 some false
else
 Fl.ret ((forL (T := Unit) (R := Bool) (fun (s20 : Unit) (sign_21 : Str) =>
 ((inS sign_21 (Str.ofString "0123456789")).map fun b => !b).bind fun b24 => (if b24 = true then
 some (.rt false)
else
 some (.nx ()))) (signs a_word) ())) fun (s27 : Unit) =>
 some true))
def f_is_numeral (a_word : Str) : Option Bool :=
 ((cutSP a_word none (some (1 : Int))).bind fun v6 => some (decide (v6 = (Str.ofString "-")))).bind fun b14 => (if b14 = true then
 if (decide (a_word ≠ (Str.ofString "-0"))) = true then (cutSP a_word (some (1 : Int)) none).bind fun v12 => f_is_digits v12 else some false
else
 f_is_digits a_word)
def f_can_follow (a_words : (List Str)) (a_at : Int) : Option Bool :=
 (((atI a_words a_at).bind fun v3 => f_is_numeral v3).map fun b => !b).bind fun b26 => (if b26 = true then
 some false
else
 (if (decide (a_at = (0 : Int))) = true then
 (atI a_words (0 : Int)).bind fun v10 => some (decide (v10 = (Str.ofString "0")))
else
 ((atI a_words a_at).bind fun v14 => intS v14).bind fun v23 => ((atI a_words (a_at - (1 : Int))).bind fun v20 => intS v20).bind fun v24 => some (decide (v24 < v23))))
def f_numbers_of (a_words : (List Str)) : Option (List Int) :=
 (mapO (fun x1 => intS x1) a_words).bind lim
def f_parse_piece (a_text : Str) : Option (Rz (List Int)) :=
 (splitS a_text (Str.ofString " ")).bind fun words_3 =>
 Fl.ret ((rangeP 0 (words_3.length : Int)).bind fun l12 => (forL (T := Unit) (R := (Rz (List Int))) (fun (s6 : Unit) (at_7 : Int) =>
 ((f_can_follow words_3 at_7).map fun b => !b).bind fun b10 => (if b10 = true then
 ((some at_7).map fun i => (.er ⟨0, some i⟩ : Rz (List Int))).map .rt
else
 some (.nx ()))) l12 ())) fun (s13 : Unit) =>
 (f_numbers_of words_3).map Rz.ok
def f_law_piece_reads (a_text : Str) : Option Bool :=
 (f_law_read_piece a_text).bind fun due_1 =>
 (some ((none : (Option (List Int))), (none : (Option Int)))).bind fun p4 =>
 Fl.ret (T := Unit) (tryB (S := ((Option (List Int)) × (Option Int))) (T := Unit) (R := Bool) (Rz.go (fun (told_6 : (List Int)) => ((some told_6), p4.2)) ((some a_text).bind f_parse_piece)) catch_InvalidText (fun e7 =>
 ((Er.get fldT e7 (Str.ofString "at")).map some).bind fun at_8 =>
 (if ((!(is_DayError e7.c)) || ((!(is_ValueError e7.c)) || ((is_InvalidDeed e7.c) || (is_InvalidSign e7.c)))) = true then
 some (.rt false)
else
 some (.nx (p4.1, at_8))))) fun (s11 : ((Option (List Int)) × (Option Int))) =>
 (if (decide (due_1.1 = (Str.ofString "bad"))) = true then
 if s11.1.isNone = true then (f_law_is_number s11.2).bind fun b17 => if b17 = true then eqD (rp s11.2) (rp due_1.2) else some false else some false
else
 if s11.2.isNone = true then (s11.1.bind fun v22 => reprD (rp v22)).bind fun v26 => (reprQ due_1.2).bind fun v27 => some (decide (v26 = v27)) else some false)
def f_law_read_round (a_text : Str) : Option (Str × Dt) :=
 (splitS a_text (Str.ofString " ")).bind fun words_3 =>
 ((((atI words_3 (0 : Int)).bind fun v6 => f_law_is_numeral v6).map fun b => !b).bind fun b14 => if b14 = true then some true else ((atI words_3 (0 : Int)).bind fun v10 => intS v10).bind fun v13 => some (decide (v13 < (1 : Int)))).bind fun b104 => (if b104 = true then
 some ((Str.ofString "bad"), (rp (0 : Int)))
else
 (if (decide ((words_3.length : Int) = (1 : Int))) = true then some true else (atI words_3 (1 : Int)).bind fun v24 => some (decide (v24 ≠ (Str.ofString ":")))).bind fun b103 => (if b103 = true then
 some ((Str.ofString "bad"), (rp (1 : Int)))
else
 (some ([] : (List Int))).bind fun places_28 =>
 Fl.ret ((rangeP (2 : Int) (words_3.length : Int)).bind fun l87 => (forL (T := Unit) (R := (Str × Dt)) (fun (s32 : (List Int)) (at_33 : Int) =>
 ((((atI words_3 at_33).bind fun v36 => f_law_is_numeral v36).map fun b => !b).bind fun b57 => if b57 = true then some true else (((atI words_3 at_33).bind fun v40 => intS v40).bind fun v43 => some (decide (v43 < (0 : Int)))).bind fun b56 => if b56 = true then some true else ((atI words_3 at_33).bind fun v47 => intS v47).bind fun v54 => ((atI words_3 (0 : Int)).bind fun v51 => intS v51).bind fun v55 => some (decide (v55 ≤ v54))).bind fun b85 => (if b85 = true then
 some (.rt ((Str.ofString "bad"), (rp at_33)))
else
 (if (decide ((2 : Int) < at_33)) = true then ((atI words_3 at_33).bind fun v65 => intS v65).bind fun v72 => (atI s32 (at_33 - (3 : Int))).bind fun v73 => some (decide (v72 ≤ v73)) else some false).bind fun b84 => (if b84 = true then
 some (.rt ((Str.ofString "bad"), (rp at_33)))
else
 (((atI words_3 at_33).bind fun v81 => intS v81).bind fun v83 => lim (s32 ++ [v83])).bind fun places_77 =>
 some (.nx places_77)))) l87 places_28)) fun (s88 : (List Int)) =>
 ((((atI words_3 (0 : Int)).bind fun v96 => intS v96).bind fun v99 => some (v99, s88)).map rp).bind fun v102 => some ((Str.ofString "good"), v102)))
def f_can_stand (a_words : (List Str)) (a_at : Int) : Option Bool :=
 (if (decide (a_at = (0 : Int))) = true then
 ((atI a_words (0 : Int)).bind fun v5 => f_is_digits v5).bind fun b11 => if b11 = true then (atI a_words (0 : Int)).bind fun v10 => some (decide (v10 ≠ (Str.ofString "0"))) else some false
else
 (if (decide (a_at = (1 : Int))) = true then
 (atI a_words (1 : Int)).bind fun v18 => some (decide (v18 = (Str.ofString ":")))
else
 ((((atI a_words a_at).bind fun v21 => f_is_digits v21).map fun b => !b).bind fun b34 => if b34 = true then some true else ((atI a_words a_at).bind fun v25 => intS v25).bind fun v32 => ((atI a_words (0 : Int)).bind fun v29 => intS v29).bind fun v33 => some (decide (v33 ≤ v32))).bind fun b52 => (if b52 = true then
 some false
else
 if (decide (a_at = (2 : Int))) = true then some true else ((atI a_words a_at).bind fun v40 => intS v40).bind fun v49 => ((atI a_words (a_at - (1 : Int))).bind fun v46 => intS v46).bind fun v50 => some (decide (v50 < v49)))))
def f_parse_round_set (a_text : Str) : Option (Rz (Int × (List Int))) :=
 (splitS a_text (Str.ofString " ")).bind fun words_3 =>
 Fl.ret ((rangeP 0 (words_3.length : Int)).bind fun l12 => (forL (T := Unit) (R := (Rz (Int × (List Int)))) (fun (s6 : Unit) (at_7 : Int) =>
 ((f_can_stand words_3 at_7).map fun b => !b).bind fun b10 => (if b10 = true then
 ((some at_7).map fun i => (.er ⟨0, some i⟩ : Rz (Int × (List Int)))).map .rt
else
 some (.nx ()))) l12 ())) fun (s13 : Unit) =>
 (if (decide ((words_3.length : Int) = (1 : Int))) = true then
 (some (1 : Int)).map fun i => (.er ⟨0, some i⟩ : Rz (Int × (List Int)))
else
 (((atI words_3 (0 : Int)).bind fun v20 => intS v20).bind fun v26 => (f_numbers_of (cut words_3 (some (2 : Int)) none)).bind fun v27 => some (v26, v27)).map Rz.ok)
def f_law_round_reads (a_text : Str) : Option Bool :=
 (f_law_read_round a_text).bind fun due_1 =>
 (some ((none : (Option (Int × (List Int)))), (none : (Option Int)))).bind fun p4 =>
 Fl.ret (T := Unit) (tryB (S := ((Option (Int × (List Int))) × (Option Int))) (T := Unit) (R := Bool) (Rz.go (fun (told_6 : (Int × (List Int))) => ((some told_6), p4.2)) ((some a_text).bind f_parse_round_set)) catch_InvalidText (fun e7 =>
 ((Er.get fldT e7 (Str.ofString "at")).map some).bind fun at_8 =>
 (if ((!(is_DayError e7.c)) || ((!(is_ValueError e7.c)) || ((is_InvalidDeed e7.c) || (is_InvalidSign e7.c)))) = true then
 some (.rt false)
else
 some (.nx (p4.1, at_8))))) fun (s11 : ((Option (Int × (List Int))) × (Option Int))) =>
 (if (decide (due_1.1 = (Str.ofString "bad"))) = true then
 if s11.1.isNone = true then (f_law_is_number s11.2).bind fun b17 => if b17 = true then eqD (rp s11.2) (rp due_1.2) else some false else some false
else
 if s11.2.isNone = true then (s11.1.bind fun v22 => reprD (rp v22)).bind fun v26 => (reprQ due_1.2).bind fun v27 => some (decide (v26 = v27)) else some false)
def f_joined_numbers (a_numbers : (List Int)) : Option Str :=
 ((mapO (fun x1 => strI x1) a_numbers).bind lim).bind fun v6 => joinS (Str.ofString " ") v6
def f_format_piece (a_piece : (List Int)) : Option Str :=
 f_joined_numbers a_piece
def f_format_round_set (a_days : (Int × (List Int))) : Option Str :=
 (some a_days).bind fun p1 =>
 (((strI p1.1).bind fun v5 => some (v5 :: ([(Str.ofString ":")] : (List Str)))).bind fun v12 => ((mapO (fun x7 => strI x7) p1.2).bind lim).bind fun v13 => lim (v12 ++ v13)).bind fun v16 => joinS (Str.ofString " ") v16
def f_law_long (a_draws : (List Int)) : Option Bool :=
 ((rangeP 0 (200 : Int)).bind fun v14 => (mapO (fun x2 => (((atI a_draws (12 : Int)).bind fun v6 => some (v6 % 50)).bind fun v9 => some ((1 : Int) + v9)).bind fun v12 => mulP x2 v12) v14).bind lim).bind fun days_15 =>
 (((atI a_draws (13 : Int)).bind fun v19 => some (v19 % 100)).bind fun v22 => some ((100 : Int) + v22)).bind fun at_23 =>
 ((mapO (fun x24 => strI x24) days_15).bind lim).bind fun words_27 =>
 (((atI days_15 (199 : Int)).bind fun v32 => some (v32 + (1 : Int))).bind fun v39 => ((atI a_draws (14 : Int)).bind fun v36 => some (v36 % 9)).bind fun v40 => some (v39 + v40)).bind fun n_41 =>
 (((f_format_piece days_15).bind fun v46 => (joinS (Str.ofString " ") words_27).bind fun v47 => some (decide (v46 ≠ v47))).bind fun b64 => if b64 = true then some true else (f_format_round_set (n_41, days_15)).bind fun v62 => (((strI n_41).bind fun v53 => addS v53 (Str.ofString " : ")).bind fun v58 => (joinS (Str.ofString " ") words_27).bind fun v59 => addS v58 v59).bind fun v63 => some (decide (v62 ≠ v63))).bind fun b123 => (if b123 = true then
 some false
else
 Fl.ret (((atI words_27 at_23).bind fun v99 => ((atI words_27 (at_23 - (1 : Int))).bind fun v97 => (((((strI n_41).bind fun v89 => (((((atI days_15 at_23).bind fun v76 => some (v76 + (1 : Int))).bind fun v83 => ((atI a_draws (12 : Int)).bind fun v80 => some (v80 % 50)).bind fun v84 => some (v83 + v84)).bind fun v86 => strI v86).bind fun v87 => some (v87 :: ([] : (List Str)))).bind fun l90 => some (v89 :: l90)).bind fun l92 => some ((Str.ofString "") :: l92)).bind fun l94 => some ((Str.ofString "x") :: l94)).bind fun l96 => some ((Str.ofString "-1") :: l96)).bind fun l98 => some (v97 :: l98)).bind fun l100 => some (v99 :: l100)).bind fun l121 => (forL (T := Unit) (R := Bool) (fun (s101 : Unit) (word_102 : Str) =>
 ((f_law_with words_27 at_23 word_102).bind fun v108 => joinS (Str.ofString " ") v108).bind fun text_109 =>
 (((f_law_piece_reads text_109).map fun b => !b).bind fun b118 => if b118 = true then some true else ((((strI n_41).bind fun v113 => addS v113 (Str.ofString " : ")).bind fun v116 => addS v116 text_109).bind fun v117 => f_law_round_reads v117).map fun b => !b).bind fun b119 => (if b119 = true then
 some (.rt false)
else
 some (.nx ()))) l121 ())) fun (s122 : Unit) =>
 some true)
def f_law_cell (a_draws : (List Int)) (a_k : Int) : Option Int :=
 (if (decide (a_k < (a_draws.length : Int))) = true then
 atI a_draws a_k
else
 (((((modP a_k (a_draws.length : Int)).bind fun v11 => atI a_draws v11).bind fun v13 => some (v13 * 31)).bind fun v25 => (((modP (7 * a_k) (a_draws.length : Int)).bind fun v20 => atI a_draws v20).bind fun v22 => some (v22 * 17)).bind fun v26 => some (v25 + v26)).bind fun v30 => some (v30 + (101 * a_k))).bind fun v32 => some (v32 % 1000003))
def f_law_digits (a_draws : (List Int)) (a_at : Int) (a_most : Int) : Option Int :=
 (some (0 : Int)).bind fun number_1 =>
 ((rangeP 0 (7 : Int)).bind fun l15 => l15.foldlM (fun (s3 : Int) (k_4 : Int) =>
 ((f_law_cell a_draws (a_at + k_4)).bind fun v12 => some ((s3 * 1000003) + v12)).bind fun number_13 =>
 some number_13) number_1).bind fun (s16 : Int) =>
 ((rangeP 0 ((41 : Int) - a_most)).bind fun l25 => l25.foldlM (fun (s20 : Int) (k_21 : Int) =>
 (some (s20 / 10)).bind fun number_23 =>
 some number_23) s16).bind fun (s26 : Int) =>
 modP s26 (10000000000000000000000000000000000000000 : Int)
def f_law_some_piece (a_draws : (List Int)) (a_at : Int) (a_many : Int) (a_most : Int) : Option (List Int) :=
 (some ([(0 : Int)] : (List Int))).bind fun days_3 =>
 ((rangeP 0 (a_many - (1 : Int))).bind fun l23 => l23.foldlM (fun (s7 : (List Int)) (k_8 : Int) =>
 ((((f_law_cell a_draws (a_at + k_8)).bind fun v16 => modP v16 a_most).bind fun v19 => some ((1 : Int) + v19)).bind fun v21 => lim (s7 ++ [v21])).bind fun days_9 =>
 some days_9) days_3).bind fun (s24 : (List Int)) =>
 sortSetL s24
def f_law_worlds (a_draws : (List Int)) : Option ((List Int) × (Int × (List Int))) :=
 ((((atI a_draws (0 : Int)).bind fun v4 => some (v4 % 8)).bind fun v7 => some ((1 : Int) + v7)).bind fun v12 => f_law_some_piece a_draws (20 : Int) v12 (60 : Int)).bind fun piece_13 =>
 (((atI a_draws (1 : Int)).bind fun v17 => some (v17 % 24)).bind fun v20 => some ((1 : Int) + v20)).bind fun n_21 =>
 ((((atI a_draws (2 : Int)).bind fun v25 => some (v25 % 8)).bind fun v28 => some (decide (v28 = (5 : Int)))).bind fun b56 => (if b56 = true then
 ((mapO (fun x29 => ((((atI a_draws (8 : Int)).bind fun v33 => some (v33 * 999)).bind fun v36 => modP v36 (1000000000 : Int)).bind fun v39 => some ((1 : Int) + v39)).bind fun v42 => mulP x29 v42) piece_13).bind lim).bind fun piece_44 =>
 ((((atI a_draws (1 : Int)).bind fun v48 => some (v48 * 97)).bind fun v51 => modP v51 (1000000 : Int)).bind fun v54 => some ((1 : Int) + v54)).bind fun n_55 =>
 some (piece_44, n_55)
else
 some (piece_13, n_21))).bind fun (s57 : ((List Int) × Int)) =>
 ((((atI a_draws (2 : Int)).bind fun v61 => some (v61 % 8)).bind fun v64 => some (decide (v64 = (6 : Int)))).bind fun b107 => (if b107 = true then
 ((((atI a_draws (9 : Int)).bind fun v68 => some (v68 % 40)).bind fun v71 => some ((1 : Int) + v71)).bind fun v75 => f_law_digits a_draws (40 : Int) v75).bind fun big_76 =>
 (((((atI a_draws (8 : Int)).bind fun v81 => some ((1 : Int) + v81)).bind fun v93 => (((modP big_76 ((10000000000000000000000000000000000000000 : Int) - (2 : Int))).bind fun v88 => some ((1 : Int) + v88)).bind fun v91 => some (v91 :: ([(1000000000000000000000000000000000000000 : Int)] : (List Int)))).bind fun l94 => some (v93 :: l94)).bind fun l96 => some ((0 : Int) :: l96)).bind fun v97 => sortSetL v97).bind fun piece_98 =>
 ((modP big_76 ((10000000000000000000000000000000000000000 : Int) - (2 : Int))).bind fun v105 => some ((1 : Int) + v105)).bind fun n_106 =>
 some (piece_98, n_106)
else
 some (s57.1, s57.2))).bind fun (s108 : ((List Int) × Int)) =>
 (((((atI a_draws (10 : Int)).bind fun v112 => some (v112 % 9)).bind fun v114 => rangeP 0 v114).bind fun v126 => (mapO (fun x115 => ((f_law_cell a_draws ((30 : Int) + x115)).bind fun v121 => some (v121 * 7919)).bind fun v124 => modP v124 s108.2) v126).bind lim).bind fun v127 => sortSetL v127).bind fun places_128 =>
 some (s108.1, (s108.2, places_128))
def f_law (a_script : Scr) : Option Bool :=
 (f_law_draws a_script (60 : Int)).bind fun draws_3 =>
 (f_law_worlds draws_3).bind fun p4 =>
 (some ([(rp p4.1), (rp (p4.2.1, p4.2.2))] : (List Dt))).bind fun passed_11 =>
 ((((mapO (fun x12 => strI x12) p4.1).bind lim).bind fun v17 => joinS (Str.ofString " ") v17).bind fun v35 => (((((strI p4.2.1).bind fun v21 => some (v21 :: ([(Str.ofString ":")] : (List Str)))).bind fun v28 => ((mapO (fun x23 => strI x23) p4.2.2).bind lim).bind fun v29 => lim (v28 ++ v29)).bind fun v32 => joinS (Str.ofString " ") v32).bind fun v33 => some (v33 :: ([] : (List Str)))).bind fun l36 => some (v35 :: l36)).bind fun texts_37 =>
 (some texts_37).bind fun told_38 =>
 (((atI p4.1 (-(1 : Int))).bind fun v43 => some (decide (v43 ≤ (1000000000000 : Int)))).bind fun b46 => if b46 = true then some (decide (p4.2.1 ≤ (1000000 : Int))) else some false).bind fun near_47 =>
 ((if near_47 = true then
 ((((atI passed_11 (0 : Int)).bind fun v50 => (un : Dt → Option (List Int)) v50).bind fun v51 => f_format_piece v51).bind fun v58 => ((((atI passed_11 (1 : Int)).bind fun v54 => (un : Dt → Option (Int × (List Int))) v54).bind fun v55 => f_format_round_set v55).bind fun v56 => some (v56 :: ([] : (List Str)))).bind fun l59 => some (v58 :: l59)).bind fun told_60 =>
 some told_60
else
 some told_38)).bind fun (s62 : (List Str)) =>
 (if near_47 = true then ((eqD (rp s62) (rp texts_37)).map fun b => !b).bind fun b81 => if b81 = true then some true else ((eqD (rp passed_11) (rp ([(rp p4.1), (rp p4.2)] : (List Dt)))).map fun b => !b).bind fun b80 => if b80 = true then some true else (((atI s62 (0 : Int)).bind fun v74 => some true).map fun b => !b).bind fun b79 => if b79 = true then some true else ((atI s62 (1 : Int)).bind fun v78 => some true).map fun b => !b else some false).bind fun b139 => (if b139 = true then
 some false
else
 Fl.ret ((forL (T := Unit) (R := Bool) (fun (s83 : Unit) (text_84 : Str) =>
 Fl.seq ((f_law_bent text_84 draws_3).bind fun l92 => (forL (T := Unit) (R := Bool) (fun (s87 : Unit) (other_88 : Str) =>
 (((f_law_piece_reads other_88).map fun b => !b).bind fun b89 => if b89 = true then some true else (f_law_round_reads other_88).map fun b => !b).bind fun b90 => (if b90 = true then
 some (.rt false)
else
 some (.nx ()))) l92 ())) fun (s93 : Unit) =>
 some (.nx ())) texts_37 ())) fun (s96 : Unit) =>
 ((((((atI texts_37 (0 : Int)).bind f_parse_piece).bind Rz.val).bind fun v103 => reprD (rp v103)).bind fun v107 => (reprD (rp p4.1)).bind fun v108 => some (decide (v107 ≠ v108))).bind fun b121 => if b121 = true then some true else ((((atI texts_37 (1 : Int)).bind f_parse_round_set).bind Rz.val).bind fun v115 => reprD (rp v115)).bind fun v119 => (reprD (rp p4.2)).bind fun v120 => some (decide (v119 ≠ v120))).bind fun b138 => (if b138 = true then
 some false
else
 ((((atI draws_3 (11 : Int)).bind fun v125 => some (v125 % 32)).bind fun v128 => some (decide (v128 = (5 : Int)))).bind fun b129 => if b129 = true then (f_law_long draws_3).map fun b => !b else some false).bind fun b137 => (if b137 = true then
 some false
else
 ((atI texts_37 (0 : Int)).bind fun v132 => f_law_piece_reads v132).bind fun b136 => if b136 = true then (atI texts_37 (1 : Int)).bind fun v135 => f_law_round_reads v135 else some false)))
end L2.DL.K89
namespace L2.DL.K89
open PySem PySem.Spec PyProof.Rows
open NumText (AllDigits digitsVal)
theorem e_draws : f_law_draws = drawsP := rfl
/-- a text of at most n signs, all of them of the code -/
def Ok (n : Nat) (s : Str) : Prop := (tl s).length ≤ n ∧ ∀ c ∈ tl s, c < 1114112
theorem Ok.mono {n m : Nat} {s : Str} (h : Ok n s) (k : n ≤ m) : Ok m s := ⟨Nat.le_trans h.1 k, h.2⟩
theorem Ok.len {n : Nat} {s : Str} (h : Ok n s) : s.length ≤ n := by rw [len_tl]; exact h.1
theorem Ok.str {n : Nat} {s : Str} (h : Ok n s) : PyData.strOk s = true := by
  show s.cps.all (· < 0x110000) = true
  rw [← Array.all_toList, List.all_eq_true]
  intro c hc
  have := h.2 c hc
  exact decide_eq_true this
def dig (c : Nat) : Bool := decide (48 ≤ c ∧ c ≤ 57)
theorem tl_DS : TL.tl (Str.ofString "0123456789") = [48, 49, 50, 51, 52, 53, 54, 55, 56, 57] := by rw [TL.tl_ofString]; decide
theorem inS_dig (c : Nat) : inS ⟨#[c]⟩ (Str.ofString "0123456789") = some (dig c) := by
  rw [inS_def, tl_DS]
  show some (decide (c ∈ _)) = _
  refine congrArg some (decide_eq_decide.mpr ?_)
  simp only [List.mem_cons, List.not_mem_nil, or_false]
  omega
theorem z0 : Str.ofString "0" = ⟨#[48]⟩ := of_sig "0" [48]
theorem zm : Str.ofString "-" = ⟨#[45]⟩ := of_sig "-" [45]
theorem ze : Str.ofString "" = ⟨#[]⟩ := of_sig "" []
theorem zm0 : Str.ofString "-0" = ⟨#[45, 48]⟩ := of_sig "-0" [45, 48]
theorem zc : Str.ofString ":" = ⟨#[58]⟩ := of_sig ":" [58]
theorem eq_tl {s t : Str} : s = t ↔ tl s = tl t := ⟨fun h => by rw [h], tl_inj⟩
/-- signs that write a number from 0 on -/
def DgL (l : List Nat) : Bool := decide (l ≠ []) && decide (l.length ≤ 40) && !(decide (1 < l.length) && decide (l.getD 0 0 = 48)) && l.all dig
/-- signs that write a number -/
def NmL (l : List Nat) : Bool := if l.take 1 = [45] then decide (l ≠ [45, 48]) && DgL (l.drop 1) else DgL l
theorem tl_cut1 {w : Str} : tl (cutS w none (some 1)) = (tl w).take 1 := by
  show ((TL.tl w).drop (HT.sIx w.length 0 none)).take (HT.sIx w.length w.length (some ((1 : Nat) : Int)) - HT.sIx w.length 0 none) = _
  rw [HT.sIx_none, HT.sIx_nat, List.drop_zero, Nat.sub_zero, len_tl]
  rw [Nat.min_def]
  split
  · rfl
  · rw [List.take_of_length_le (by show (tl w).length ≤ _; omega), List.take_of_length_le (by show (tl w).length ≤ _; omega)]
theorem tl_cut2 {w : Str} : tl (cutS w (some 1) none) = (tl w).drop 1 := by
  show ((TL.tl w).drop (HT.sIx w.length 0 (some ((1 : Nat) : Int)))).take (HT.sIx w.length w.length none - HT.sIx w.length 0 (some ((1 : Nat) : Int))) = _
  rw [HT.sIx_none, HT.sIx_nat, len_tl]
  rw [List.take_of_length_le (by rw [List.length_drop]; show (tl w).length - _ ≤ _; omega), Nat.min_def]
  split
  · rfl
  · rw [List.drop_of_length_le (by show (tl w).length ≤ _; omega), List.drop_of_length_le (by show (tl w).length ≤ _; omega)]
theorem cut_of {w : Str} {a b : Option Int} (h : w.length ≤ 16777216) : cutSP w a b = some (cutS w a b) := by rw [cutSP_def, if_pos h]
theorem at0 {w : Str} (h : w.length ≤ 16777216) (h0 : 0 < (tl w).length) : (atS w (0 : Int)).bind (fun v => some (decide (v = Str.ofString "0"))) = some (decide ((tl w).getD 0 0 = 48)) := by
  have e := atS_nat (t := w) (k := 0) h (by rw [len_tl]; exact h0)
  rw [show ((0 : Nat) : Int) = 0 from rfl] at e
  rw [e, bind_s, z0]
  exact congrArg some (decide_eq_decide.mpr sig_eq)
theorem find_all {l : List Nat} : ((l.map fun c => (⟨#[c]⟩ : Str)).find? fun x => !dig ((tl x).getD 0 0)) = none ↔ l.all dig = true := by
  rw [List.find?_eq_none, List.all_eq_true]
  constructor
  · intro h c hc
    have := h _ (List.mem_map.mpr ⟨c, hc, rfl⟩)
    have e : (tl (⟨#[c]⟩ : Str)).getD 0 0 = c := rfl
    rw [e] at this
    cases hd : dig c with
    | true => rfl
    | false => rw [hd] at this; exact absurd rfl this
  · intro h x hx
    obtain ⟨c, hc, rfl⟩ := List.mem_map.mp hx
    have e : (tl (⟨#[c]⟩ : Str)).getD 0 0 = c := rfl
    rw [e, h c hc]
    exact Bool.false_ne_true
theorem is_digits_eq {w : Str} (h : w.length ≤ 16777216) : f_is_digits w = some (DgL (tl w)) := by
  unfold f_is_digits DgL
  rw [lenS_of h, len_tl]
  simp only [bind_s]
  generalize e : tl w = l
  by_cases h1 : l.length = 0
  · have e1 := List.eq_nil_of_length_eq_zero h1
    subst e1
    rfl
  · have hne : l ≠ [] := fun z => h1 (by rw [z]; rfl)
    rw [decide_eq_false (show ¬ (l.length : Int) = 0 by omega), if_ft, bind_s, decide_eq_true hne]
    by_cases h2 : l.length ≤ 40
    · rw [decide_eq_false (show ¬ (40 : Int) < (l.length : Int) by omega), if_ft, decide_eq_true h2]
      have a0 := at0 h (by rw [e]; omega)
      rw [e] at a0
      have hb : (if (decide ((1 : Int) < (l.length : Int))) = true then (atS w (0 : Int)).bind (fun v18 => some (decide (v18 = (Str.ofString "0")))) else some false) = some (decide (1 < l.length) && decide (l.getD 0 0 = 48)) := by
        by_cases h3 : 1 < l.length
        · rw [decide_eq_true (show (1 : Int) < (l.length : Int) by omega), if_tt, a0, decide_eq_true h3, Bool.true_and]
        · rw [decide_eq_false (show ¬ (1 : Int) < (l.length : Int) by omega), if_ft, decide_eq_false h3, Bool.false_and]
      rw [hb, bind_s]
      cases hc : (decide (1 < l.length) && decide (l.getD 0 0 = 48)) with
      | true => rfl
      | false =>
        rw [if_ft]
        have hs : signs w = l.map fun c => (⟨#[c]⟩ : Str) := by rw [← e]; rfl
        rw [hs, N.hit_loop (g := fun x => !dig ((tl x).getD 0 0)) (r := fun _ => false) (fun x hx => by
          obtain ⟨c, hc, rfl⟩ := List.mem_map.mp hx
          rw [inS_dig, map_s, bind_s]
          rfl)]
        have fa := find_all (l := l)
        cases hf : (l.map fun c => (⟨#[c]⟩ : Str)).find? fun x => !dig ((tl x).getD 0 0) with
        | none =>
          rw [fa.mp hf]
          exact ret_nx
        | some x =>
          have : l.all dig = false := by
            cases ha : l.all dig with
            | false => rfl
            | true => rw [fa.mpr ha] at hf; cases hf
          rw [this]
          exact ret_rt
    · rw [decide_eq_true (show (40 : Int) < (l.length : Int) by omega), if_tt, decide_eq_false h2]
      rfl
theorem is_numeral_eq {w : Str} (h : w.length ≤ 16777216) : f_is_numeral w = some (NmL (tl w)) := by
  unfold f_is_numeral NmL
  rw [cut_of h, bind_s, bind_s, cut_of h, bind_s]
  have e1 : decide (cutS w none (some 1) = Str.ofString "-") = decide ((tl w).take 1 = [45]) := decide_eq_decide.mpr (by rw [eq_tl, tl_cut1, zm])
  rw [e1]
  have hc : (cutS w (some 1) none).length ≤ 16777216 := Nat.le_trans len_cutS h
  by_cases hm : (tl w).take 1 = [45]
  · rw [decide_eq_true hm, if_tt, if_pos hm, is_digits_eq hc, tl_cut2]
    have e2 : decide (w ≠ Str.ofString "-0") = decide (tl w ≠ [45, 48]) := decide_eq_decide.mpr (by rw [ne_eq, eq_tl, zm0])
    rw [e2]
    cases decide (tl w ≠ [45, 48]) <;> rfl
  · rw [decide_eq_false hm, if_ft, if_neg hm]
    exact is_digits_eq h
theorem law_numeral_eq {n : Nat} {w : Str} (hw : Ok n w) (hn : n ≤ 16777216) : f_law_is_numeral w = some (NmL (tl w)) := by
  have h : w.length ≤ 16777216 := Nat.le_trans hw.len hn
  unfold f_law_is_numeral NmL
  rw [cut_of h, cut_of h]
  simp only [bind_s]
  have e1 : decide (cutS w none (some 1) = Str.ofString "-") = decide ((tl w).take 1 = [45]) := decide_eq_decide.mpr (by rw [eq_tl, tl_cut1, zm])
  rw [e1]
  have rest : ∀ s : Str, Ok n s → (if (decide (s = (Str.ofString ""))) = true then some true else ((lenS s).bind fun v22 => some (decide ((40 : Int) < v22))).bind fun b33 => if b33 = true then some true else ((lenS s).bind fun v26 => some (decide ((1 : Int) < v26))).bind fun b32 => if b32 = true then (atS s (0 : Int)).bind fun v31 => some (decide (v31 = (Str.ofString "0"))) else some false).bind (fun b42 => (if b42 = true then
 some false
else
 ((compM (fun x35 => (inS x35 (Str.ofString "0123456789")).map fun b => !b) (fun x35 => some (rp x35 : Dt)) (signs s)).bind lim).bind fun v41 => eqD (rp v41) (rp ([] : (List Dt))))) = some (DgL (tl s)) := by
    intro s hs
    have h2 : s.length ≤ 16777216 := Nat.le_trans hs.len hn
    have ss := hs
    unfold DgL
    rw [lenS_of h2, len_tl]
    simp only [bind_s]
    have e3 : decide (s = Str.ofString "") = decide (tl s = []) := decide_eq_decide.mpr (by rw [eq_tl, ze])
    rw [e3]
    generalize e : tl s = l
    by_cases h1 : l = []
    · subst h1
      rfl
    · have hl : 0 < l.length := List.length_pos_iff.mpr h1
      rw [decide_eq_false h1, if_ft, decide_eq_true (show l ≠ [] from h1)]
      by_cases h3 : l.length ≤ 40
      · rw [decide_eq_false (show ¬ (40 : Int) < (l.length : Int) by omega), if_ft, decide_eq_true h3]
        have a0 := at0 h2 (by rw [e]; omega)
        rw [e] at a0
        have hb : (if (decide ((1 : Int) < (l.length : Int))) = true then (atS s (0 : Int)).bind (fun v18 => some (decide (v18 = (Str.ofString "0")))) else some false) = some (decide (1 < l.length) && decide (l.getD 0 0 = 48)) := by
          by_cases h4 : 1 < l.length
          · rw [decide_eq_true (show (1 : Int) < (l.length : Int) by omega), if_tt, a0, decide_eq_true h4, Bool.true_and]
          · rw [decide_eq_false (show ¬ (1 : Int) < (l.length : Int) by omega), if_ft, decide_eq_false h4, Bool.false_and]
        rw [hb, bind_s]
        cases hc : (decide (1 < l.length) && decide (l.getD 0 0 = 48)) with
        | true => rfl
        | false =>
          rw [if_ft]
          have hsg : signs s = l.map fun c => (⟨#[c]⟩ : Str) := by rw [← e]; rfl
          rw [hsg, compM_some (q := fun x => !dig ((tl x).getD 0 0)) (g := fun x => (rp x : Dt)) (fun x hx => by
            obtain ⟨c, hc, rfl⟩ := List.mem_map.mp hx
            rw [inS_dig, map_s]
            rfl) (fun _ _ => rfl), bind_s, lim_of (by rw [List.length_map]; refine Nat.le_trans (List.length_filter_le _ _) ?_; rw [List.length_map]; omega), bind_s, rp_lst]
          have er : (rp ([] : List Dt) : Dt) = rp ([] : List Str) := rfl
          rw [er, eqD_strs (fun x hx => by
            obtain ⟨c, hc, rfl⟩ := List.mem_map.mp (List.mem_filter.mp hx).1
            refine Ok.str (n := 1) ⟨Nat.le_refl _, fun d hd => ?_⟩
            rw [List.mem_singleton.mp hd]
            exact ss.2 c (by rw [e]; exact hc)) (fun x hx => absurd hx List.not_mem_nil)]
          refine congrArg some ?_
          have fa := find_all (l := l)
          rw [List.find?_eq_none] at fa
          cases ha : l.all dig with
          | true => exact decide_eq_true (List.filter_eq_nil_iff.mpr (fa.mpr ha))
          | false => exact decide_eq_false (fun z => Bool.false_ne_true (ha.symm.trans (fa.mp (List.filter_eq_nil_iff.mp z))))
      · rw [decide_eq_true (show (40 : Int) < (l.length : Int) by omega), if_tt, decide_eq_false h3]
        rfl
  by_cases hm : (tl w).take 1 = [45]
  · rw [decide_eq_true hm, if_tt, if_pos hm]
    have e2 : decide (cutS w (some 1) none = Str.ofString "0") = decide (tl w = [45, 48]) := decide_eq_decide.mpr (by
      rw [eq_tl, tl_cut2, z0]
      show (tl w).drop 1 = [48] ↔ _
      have := List.take_append_drop 1 (tl w)
      rw [hm] at this
      rw [← this]
      simp)
    rw [e2]
    by_cases h4 : tl w = [45, 48]
    · rw [decide_eq_true h4, if_tt, ret_rt, decide_eq_false (not_not_intro h4)]
      rfl
    · rw [decide_eq_false h4, if_ft, ret_nx, decide_eq_true h4, Bool.true_and, ← tl_cut2]
      exact rest _ ⟨by rw [tl_cut2, List.length_drop]; have := hw.1; omega, fun c hc => by rw [tl_cut2] at hc; exact hw.2 c (List.mem_of_mem_drop hc)⟩
  · rw [decide_eq_false hm, if_ft, ret_nx, if_neg hm]
    exact rest _ hw
/-! ### the number that a word writes -/
theorem DgL.all {l : List Nat} (h : DgL l = true) : AllDigits l ∧ l ≠ [] ∧ l.length ≤ 40 ∧ (1 < l.length → l.getD 0 0 ≠ 48) := by
  unfold DgL at h
  simp only [Bool.and_eq_true, decide_eq_true_eq, Bool.not_eq_true', Bool.and_eq_false_iff, decide_eq_false_iff_not, List.all_eq_true] at h
  obtain ⟨⟨⟨h1, h2⟩, h3⟩, h4⟩ := h
  exact ⟨fun c hc => of_decide_eq_true (h4 c hc), h1, h2, fun h5 => h3.elim (fun z => absurd h5 z) id⟩
theorem DgL.of {l : List Nat} (h : AllDigits l) (h0 : l ≠ []) (h1 : l.length ≤ 40) (h2 : 1 < l.length → l.getD 0 0 ≠ 48) : DgL l = true := by
  unfold DgL
  simp only [Bool.and_eq_true, decide_eq_true_eq, Bool.not_eq_true', Bool.and_eq_false_iff, decide_eq_false_iff_not, List.all_eq_true]
  refine ⟨⟨⟨h0, h1⟩, ?_⟩, fun c hc => decide_eq_true (h c hc)⟩
  by_cases h3 : 1 < l.length
  · exact .inr (h2 h3)
  · exact .inl h3
theorem fold_ge : ∀ (l : List Nat) (a : Nat), a ≤ l.foldl (fun acc c => acc * 10 + (c - 48)) a
  | [], a => Nat.le_refl _
  | c :: l, a => by
    rw [List.foldl_cons]
    exact Nat.le_trans (by omega) (fold_ge l _)
theorem val_pos {l : List Nat} (h : AllDigits l) (h0 : l ≠ []) (h1 : l.getD 0 0 ≠ 48) : 0 < digitsVal l := by
  cases l with
  | nil => exact absurd rfl h0
  | cons c l =>
    have h1 : c ≠ 48 := h1
    have := h.head
    have g := fold_ge l (0 * 10 + (c - 48))
    show 0 < (c :: l).foldl _ 0
    rw [List.foldl_cons]
    omega
theorem val_zero {l : List Nat} (h : DgL l = true) : digitsVal l = 0 ↔ l = [48] := by
  obtain ⟨h1, h2, h3, h4⟩ := DgL.all h
  constructor
  · intro e
    have h5 : l.getD 0 0 = 48 := Decidable.byContradiction fun z => by have := val_pos h1 h2 z; omega
    have h6 : ¬ 1 < l.length := fun z => h4 z h5
    cases l with
    | nil => exact absurd rfl h2
    | cons c l =>
      cases l with
      | nil => exact congrArg (fun z => [z]) h5
      | cons d l => exact absurd (show 1 < (c :: d :: l).length by simp) h6
  · rintro rfl
    rfl
theorem fold_lt : ∀ (l : List Nat) (a : Nat), AllDigits l → l.foldl (fun acc c => acc * 10 + (c - 48)) a < (a + 1) * 10 ^ l.length
  | [], a, _ => by simp
  | c :: l, a, h => by
    have h1 := h.head
    have ih := fold_lt l (a * 10 + (c - 48)) h.tail
    rw [List.foldl_cons, List.length_cons]
    refine Nat.lt_of_lt_of_le ih ?_
    rw [Nat.pow_succ, Nat.mul_comm (10 ^ l.length) 10, ← Nat.mul_assoc]
    exact Nat.mul_le_mul_right _ (by omega)
theorem val_lt {l : List Nat} (h : AllDigits l) (h1 : l.length ≤ 40) : digitsVal l < 10 ^ 40 := by
  have := fold_lt l 0 h
  rw [Nat.zero_add, Nat.one_mul] at this
  exact Nat.lt_of_lt_of_le this (Nat.pow_le_pow_right (by decide) h1)
/-- the number that these signs write -/
def vL (l : List Nat) : Int := if l.take 1 = [45] then -((digitsVal (l.drop 1) : Nat) : Int) else ((digitsVal l : Nat) : Int)
theorem dg_head {l : List Nat} (h : DgL l = true) : l.take 1 ≠ [45] := fun z => by
  obtain ⟨h1, h2, _⟩ := DgL.all h
  cases l with
  | nil => exact h2 rfl
  | cons c l =>
    have e : c = 45 := by simpa using z
    have := h1.head
    omega
theorem int_eq {w : Str} (h : NmL (tl w) = true) : intS w = some (vL (tl w)) ∧ (vL (tl w)).natAbs < 10 ^ 40 := by
  unfold NmL at h
  unfold vL
  by_cases hm : (tl w).take 1 = [45]
  · rw [if_pos hm] at h ⊢
    obtain ⟨h0, h⟩ := (Bool.and_eq_true _ _).mp h
    obtain ⟨h1, h2, h3, _⟩ := DgL.all h
    have e : w.cps.toList = 45 :: (tl w).drop 1 := by
      have := List.take_append_drop 1 (tl w)
      rw [hm] at this
      exact this.symm
    have hl : w.length ≤ 41 := by
      rw [len_tl]
      have := congrArg List.length e
      rw [List.length_cons] at this
      show w.cps.toList.length ≤ 41
      omega
    refine ⟨?_, ?_⟩
    · rw [intS_def, if_pos (by omega)]
      exact intText_neg e h1 h2 (by omega)
    · rw [Int.natAbs_neg, Int.natAbs_natCast]
      exact val_lt h1 h3
  · rw [if_neg hm] at h ⊢
    obtain ⟨h1, h2, h3, _⟩ := DgL.all h
    have hl : w.length ≤ 40 := by rw [len_tl]; exact h3
    refine ⟨?_, by rw [Int.natAbs_natCast]; exact val_lt h1 h3⟩
    rw [intS_def, if_pos (by omega)]
    exact intText_digits h1 h2 (by omega)
theorem nm_dg {l : List Nat} (h : DgL l = true) : NmL l = true := by
  unfold NmL
  rw [if_neg (dg_head h)]
  exact h
/-- the words that write numbers from 0 on -/
theorem dg_iff {l : List Nat} (h : NmL l = true) : (0 ≤ vL l ↔ DgL l = true) ∧ (vL l = 0 ↔ l = [48]) := by
  have h' := h
  unfold NmL at h
  by_cases hm : l.take 1 = [45]
  · rw [if_pos hm] at h
    obtain ⟨h0, h⟩ := (Bool.and_eq_true _ _).mp h
    have h0 := of_decide_eq_true h0
    have e : l = 45 :: l.drop 1 := by
      have := List.take_append_drop 1 l
      rw [hm] at this
      exact this.symm
    have n0 : digitsVal (l.drop 1) ≠ 0 := fun z => h0 (by rw [e, (val_zero h).mp z])
    have nd : ¬ DgL l = true := fun z => dg_head z hm
    have n48 : l ≠ [48] := fun z => by rw [z] at hm; simp at hm
    unfold vL
    rw [if_pos hm]
    exact ⟨⟨fun z => by omega, fun z => absurd z nd⟩, ⟨fun z => by omega, fun z => absurd z n48⟩⟩
  · rw [if_neg hm] at h
    unfold vL
    rw [if_neg hm]
    refine ⟨⟨fun _ => h, fun _ => by omega⟩, ?_⟩
    rw [← val_zero h]
    omega
end L2.DL.K89

namespace L2.DL.K89
open PySem PySem.Spec PyProof.Rows
open NumText (AllDigits digitsVal)
/-! ### a loop that stops at the first bad place -/
theorem run_loop {S T R : Type} {F : S → Int → Option (Fl S S R)} (a : Nat) (st : Nat → S) (bad : Nat → Bool) (r : Nat → R) : ∀ (m k : Nat),
    (∀ j, k ≤ j → j < k + m → (∀ i, k ≤ i → i < j → bad i = false) → F (st j) ((a + j : Nat) : Int) = if bad j = true then some (.rt (r j)) else some (.nx (st (j + 1)))) →
    forL (T := T) F ((List.range' k m).map fun j => ((a + j : Nat) : Int)) (st k) = match (List.range' k m).find? bad with | some j => some (.rt (r j)) | none => some (.nx (st (k + m)))
  | 0, k, _ => rfl
  | m + 1, k, h => by
    rw [List.range'_succ, List.map_cons]
    simp only [forL]
    rw [h k (Nat.le_refl _) (by omega) (fun i h1 h2 => by omega)]
    cases e : bad k with
    | true =>
      rw [if_tt, bind_s, List.find?_cons_of_pos e]
    | false =>
      rw [if_ft, bind_s, List.find?_cons_of_neg (by rw [e]; exact Bool.false_ne_true)]
      have := run_loop (T := T) a st bad r m (k + 1) fun j h1 h2 h3 => h j (by omega) (by omega) fun i h4 h5 => by
        rcases Nat.eq_or_lt_of_le h4 with z | z
        · rw [← z]; exact e
        · exact h3 i z h5
      rw [show k + (m + 1) = k + 1 + m by omega]
      exact this
theorem nats_up (n : Nat) : nats n = (List.range' 0 n).map fun j => ((0 + j : Nat) : Int) := by
  unfold nats
  rw [List.range_eq_range']
  refine List.map_congr_left fun k _ => ?_
  rw [Nat.zero_add]
theorem range_up {a n : Nat} (h : n < 2 ^ 62) (ha : a ≤ n) : rangeP (a : Int) (n : Int) = some ((List.range' 0 (n - a)).map fun j => ((a + j : Nat) : Int)) := by
  rw [rangeP_def, if_pos ⟨by omega, by omega, by omega, by omega⟩]
  unfold rangeL
  rw [show ((n : Int) - (a : Int)).toNat = n - a by omega, List.range_eq_range']
  refine congrArg some (List.map_congr_left fun k _ => ?_)
  omega
theorem run0 {S T R : Type} {F : S → Int → Option (Fl S S R)} {n : Nat} (st : Nat → S) (bad : Nat → Bool) (r : Nat → R)
    (h : ∀ j, j < n → (∀ i, i < j → bad i = false) → F (st j) ((j : Nat) : Int) = if bad j = true then some (.rt (r j)) else some (.nx (st (j + 1)))) :
    forL (T := T) F (nats n) (st 0) = match (List.range n).find? bad with | some j => some (.rt (r j)) | none => some (.nx (st n)) := by
  have := run_loop (T := T) (F := F) 0 st bad r n 0 fun j _ h2 h3 => by
    rw [Nat.zero_add]
    exact h j (by omega) fun i hi => h3 i (Nat.zero_le _) hi
  rw [nats_up, this, List.range_eq_range', Nat.zero_add]
/-! ### the words of a text -/
def wd (ws : List Str) (k : Nat) : Str := ws.getD k Str.empty
def nm (ws : List Str) (k : Nat) : Bool := NmL (tl (wd ws k))
def vl (ws : List Str) (k : Nat) : Int := vL (tl (wd ws k))
theorem at_w {ws : List Str} {k : Nat} (h : k < ws.length) : atI ws (k : Int) = some (wd ws k) := by
  rw [atI_nat h]
  unfold wd
  rw [List.getD_eq_getElem?_getD, List.getElem?_eq_getElem h]
  rfl
theorem wd_mem {ws : List Str} {k : Nat} (h : k < ws.length) : wd ws k ∈ ws := by
  unfold wd
  rw [List.getD_eq_getElem?_getD, List.getElem?_eq_getElem h]
  exact List.getElem_mem h
theorem map_wd {β : Type} (ws : List Str) (f : Str → β) : ws.map f = (List.range ws.length).map fun k => f (wd ws k) := by
  refine List.ext_getElem (by simp) fun k h1 h2 => ?_
  have h : k < ws.length := by simpa using h1
  simp only [List.getElem_map, List.getElem_range]
  unfold wd
  rw [List.getD_eq_getElem?_getD, List.getElem?_eq_getElem h]
  rfl
/-- a word that cannot stand in a piece -/
def badP (ws : List Str) (k : Nat) : Bool := !nm ws k || (if k = 0 then decide (vl ws 0 ≠ 0) else decide (vl ws k ≤ vl ws (k - 1)))
theorem good_nm {ws : List Str} {k : Nat} (h : badP ws k = false) : nm ws k = true := by
  unfold badP at h
  have := (Bool.or_eq_false_iff.mp h).1
  cases e : nm ws k with
  | true => rfl
  | false => rw [e] at this; cases this
def vals (ws : List Str) (k : Nat) : List Int := (List.range k).map (vl ws)
theorem vals_len (ws : List Str) (k : Nat) : (vals ws k).length = k := by unfold vals; rw [List.length_map, List.length_range]
theorem vals_at {ws : List Str} {k j : Nat} (h : j < k) : atI (vals ws k) (j : Int) = some (vl ws j) := by
  rw [atI_nat (by rw [vals_len]; exact h)]
  unfold vals
  simp
theorem vals_snoc (ws : List Str) (k : Nat) : vals ws k ++ [vl ws k] = vals ws (k + 1) := by
  unfold vals
  rw [List.range_succ, List.map_append]
  rfl
variable {N : Nat} {ws : List Str}
theorem nm_eq (hN : N ≤ 16777216) (hw : ∀ w ∈ ws, Ok N w) {k : Nat} (h : k < ws.length) : f_law_is_numeral (wd ws k) = some (nm ws k) := law_numeral_eq (hw _ (wd_mem h)) hN
theorem nm_eq' (hN : N ≤ 16777216) (hw : ∀ w ∈ ws, Ok N w) {k : Nat} (h : k < ws.length) : f_is_numeral (wd ws k) = some (nm ws k) := is_numeral_eq (Nat.le_trans (hw _ (wd_mem h)).len hN)
theorem vl_eq {k : Nat} (h : nm ws k = true) : intS (wd ws k) = some (vl ws k) := (int_eq h).1
def firstP (ws : List Str) : Option Nat := (List.range ws.length).find? (badP ws)
theorem read_piece_eq {t : Str} (hs : splitS t (Str.ofString " ") = some ws) (hN : N ≤ 16777216) (hw : ∀ w ∈ ws, Ok N w) (hl : ws.length ≤ 16777216) :
    f_law_read_piece t = some (match firstP ws with | some k => (Str.ofString "bad", rp (k : Int)) | none => (Str.ofString "good", rp (vals ws ws.length))) := by
  unfold f_law_read_piece firstP
  rw [hs, bind_s, bind_s, rangeP_nats (by omega), bind_s]
  have e := run0 (S := List Int) (T := Unit) (R := Str × Dt) (n := ws.length) (F := fun (s7 : (List Int)) (at_8 : Int) =>
 (((atI ws at_8).bind fun v11 => f_law_is_numeral v11).map fun b => !b).bind fun b39 => (if b39 = true then
 some (.rt ((Str.ofString "bad"), (rp at_8)))
else
 ((atI ws at_8).bind fun v17 => intS v17).bind fun number_18 =>
 (if ((decide (at_8 = (0 : Int))) && (decide (number_18 ≠ (0 : Int)))) = true then some true else if (decide ((0 : Int) < at_8)) = true then (atI s7 (at_8 - (1 : Int))).bind fun v31 => some (decide (number_18 ≤ v31)) else some false).bind fun b38 => (if b38 = true then
 some (.rt ((Str.ofString "bad"), (rp at_8)))
else
 (lim (s7 ++ [number_18])).bind fun piece_36 =>
 some (.nx piece_36)))) (vals ws) (badP ws) (fun k => (Str.ofString "bad", rp (k : Int))) fun j hj hg => by
    rw [at_w hj, bind_s, nm_eq hN hw hj, map_s, bind_s, bind_s]
    unfold badP
    cases hn : nm ws j with
    | false => rfl
    | true =>
      rw [show (!true) = false from rfl, if_ft, vl_eq hn, bind_s, Bool.false_or]
      cases j with
      | zero =>
        rw [if_pos rfl, decide_eq_true (show ((0 : Nat) : Int) = 0 from rfl), Bool.true_and]
        cases decide (vl ws 0 ≠ 0) with
        | true => rfl
        | false =>
          rw [if_ft, decide_eq_false (show ¬ (0 : Int) < ((0 : Nat) : Int) by omega), if_ft, bind_s, if_ft, vals_snoc, lim_of (by rw [vals_len]; omega), bind_s, if_ft]
      | succ i =>
        rw [if_neg (Nat.succ_ne_zero i), decide_eq_false (show ¬ ((i + 1 : Nat) : Int) = 0 by omega), Bool.false_and, if_ft, decide_eq_true (show (0 : Int) < ((i + 1 : Nat) : Int) by omega), if_tt, show ((i + 1 : Nat) : Int) - 1 = (i : Int) by omega, vals_at (Nat.lt_succ_self i), bind_s, bind_s, Nat.add_sub_cancel]
        cases decide (vl ws (i + 1) ≤ vl ws i) with
        | true => rfl
        | false => rw [if_ft, if_ft, vals_snoc, lim_of (by rw [vals_len]; omega), bind_s]
  have e0 : vals ws 0 = [] := rfl
  rw [e0] at e
  rw [e]
  cases (List.range ws.length).find? (badP ws) with
  | some k => exact ret_rt
  | none => exact ret_nx
theorem find_none_all {p : Nat → Bool} {n : Nat} (h : (List.range n).find? p = none) : ∀ k, k < n → p k = false := fun k hk => by
  have := List.find?_eq_none.mp h k (List.mem_range.mpr hk)
  cases e : p k with
  | false => rfl
  | true => exact absurd e this
theorem numbers_eq (hl : ws.length ≤ 16777216) (h : ∀ k, k < ws.length → nm ws k = true) : f_numbers_of ws = some (vals ws ws.length) := by
  unfold f_numbers_of
  rw [mapO_some (g := fun w => vL (tl w)) fun w hw => by
    obtain ⟨k, hk, e⟩ := List.getElem_of_mem hw
    have e2 : wd ws k = w := by
      unfold wd
      rw [List.getD_eq_getElem?_getD, List.getElem?_eq_getElem hk]
      exact e
    rw [← e2]
    exact vl_eq (h k hk), bind_s, lim_of (by rw [List.length_map]; exact hl), map_wd]
  rfl
def rz {α : Type} (o : Option Nat) (y : α) : Rz α := match o with
  | none => .ok y
  | some k => .er ⟨0, some (k : Int)⟩
theorem parse_piece_eq {t : Str} (hs : splitS t (Str.ofString " ") = some ws) (hN : N ≤ 16777216) (hw : ∀ w ∈ ws, Ok N w) (hl : ws.length ≤ 16777216) :
    f_parse_piece t = some (rz (firstP ws) (vals ws ws.length)) := by
  unfold f_parse_piece firstP
  rw [hs, bind_s, rangeP_nats (by omega), bind_s]
  have e := run0 (S := Unit) (T := Unit) (R := Rz (List Int)) (n := ws.length) (F := fun (s6 : Unit) (at_7 : Int) =>
 ((f_can_follow ws at_7).map fun b => !b).bind fun b10 => (if b10 = true then
 ((some at_7).map fun i => (.er ⟨0, some i⟩ : Rz (List Int))).map .rt
else
 some (.nx ()))) (fun _ => ()) (badP ws) (fun k => .er ⟨0, some (k : Int)⟩) fun j hj hg => by
    have hc : f_can_follow ws (j : Int) = some (!badP ws j) := by
      unfold f_can_follow badP
      rw [at_w hj, bind_s, nm_eq' hN hw hj, map_s, bind_s]
      cases hn : nm ws j with
      | false => rfl
      | true =>
        rw [show (!true) = false from rfl, if_ft, Bool.false_or]
        cases j with
        | zero =>
          have a0 := at_w hj
          rw [show ((0 : Nat) : Int) = 0 from rfl] at a0 ⊢
          rw [decide_eq_true rfl, if_tt, a0, bind_s, if_pos rfl]
          refine congrArg some ?_
          have := (dg_iff hn).2
          have e1 : (wd ws 0 = Str.ofString "0") ↔ vl ws 0 = 0 := by
            unfold vl
            rw [this, eq_tl, z0]
          by_cases h0 : vl ws 0 = 0
          · rw [decide_eq_true (e1.mpr h0), decide_eq_false (not_not_intro h0)]
            rfl
          · rw [decide_eq_false (fun z => h0 (e1.mp z)), decide_eq_true h0]
            rfl
        | succ i =>
          have gi := good_nm (hg i (Nat.lt_succ_self i))
          rw [if_neg (Nat.succ_ne_zero i), decide_eq_false (show ¬ ((i + 1 : Nat) : Int) = 0 by omega), if_ft, bind_s, vl_eq hn, bind_s, show ((i + 1 : Nat) : Int) - 1 = (i : Int) by omega, at_w (by omega), bind_s, vl_eq gi, bind_s, Nat.add_sub_cancel]
          refine congrArg some ?_
          by_cases h0 : vl ws (i + 1) ≤ vl ws i
          · rw [decide_eq_true h0, decide_eq_false (by omega)]
            rfl
          · rw [decide_eq_false h0, decide_eq_true (by omega)]
            rfl
    rw [hc, map_s, bind_s, Bool.not_not]
    cases badP ws j <;> rfl
  rw [e]
  cases hf : (List.range ws.length).find? (badP ws) with
  | some k => exact ret_rt
  | none =>
    have hall : ∀ k, k < ws.length → nm ws k = true := fun k hk => good_nm (find_none_all hf k hk)
    refine (ret_nx).trans ?_
    rw [numbers_eq hl hall]
    rfl
/-! ### what is read: numbers of at most forty digits -/
def Big (x : Int) : Prop := x.natAbs < 10 ^ 40
theorem vals_big {k : Nat} (h : ∀ j, j < k → nm ws j = true) : ∀ x ∈ vals ws k, Big x := fun x hx => by
  obtain ⟨j, hj, rfl⟩ := List.mem_map.mp hx
  exact (int_eq (h j (List.mem_range.mp hj))).2
theorem big_sh {x : Int} (hx : Big x) : (toPy (.int x)).showable = true ∧ (toPy (.int x)).leavesShort 41 = true ∧ (toPy (.int x)).weight ≤ 134 := by
  have hb : (10 : Nat) ^ 40 < 2 ^ 133 := by decide +kernel
  have h40 : x.natAbs.log2 < 133 ∨ x.natAbs = 0 := by
    rcases Nat.eq_zero_or_pos x.natAbs with z | z
    · exact .inr z
    · exact .inl ((Nat.log2_lt (k := 133) (show x.natAbs ≠ 0 by omega)).mpr (Nat.lt_trans hx hb))
  refine ⟨?_, ?_, ?_⟩
  · simp only [toPy, PyData.showable, decide_eq_true_eq]
    rcases h40 with h | h
    · omega
    · rw [h]
      decide
  · simp only [toPy, PyData.leavesShort, decide_eq_true_eq]
    have e := int_text_length_le10 (k := 40) (by decide) hx
    show (Str.ofString (toString x)).length ≤ 41
    rw [PySem.ofString_length]
    exact e
  · simp only [toPy, PyData.weight]
    split
    · omega
    · rename_i hx
      rcases h40 with h | h
      · omega
      · exact absurd (by rw [beq_iff_eq]; omega) hx
theorem bigs_sh : ∀ {g : List Int}, (∀ x ∈ g, Big x) → PyData.showableAll (toPyL (g.map rp)) = true ∧ PyData.leavesShortAll 41 (toPyL (g.map rp)) = true ∧ PyData.hasDictAll (toPyL (g.map rp)) = false ∧ PyData.depthAll (toPyL (g.map rp)) ≤ 0 ∧ PyData.weightAll (toPyL (g.map rp)) ≤ 135 * g.length
  | [], _ => ⟨rfl, rfl, rfl, Nat.le_refl _, Nat.zero_le _⟩
  | x :: g, h => by
    obtain ⟨h1, h2, h3, h4, h5⟩ := bigs_sh fun y hy => h y (List.mem_cons_of_mem x hy)
    obtain ⟨a1, a2, a3⟩ := big_sh (h x List.mem_cons_self)
    have er : (rp x : Dt) = .int x := rfl
    rw [List.map_cons, er]
    simp only [toPyL, PyData.showableAll, PyData.leavesShortAll, PyData.hasDictAll, PyData.depthAll, PyData.weightAll, List.length_cons]
    refine ⟨by rw [a1, h1]; rfl, by rw [a2, h2]; rfl, ?_, ?_, by omega⟩
    · rw [h3]
      simp only [toPy, PyData.hasDict]
      rfl
    · simp only [toPy, PyData.depth]
      omega
theorem shown_sz {d : PyData} (h : d.leavesShort 41 = true) (hw : d.weight ≤ 350000) : d.shown.length ≤ sizeLine := by
  have := PyData.shown_le 41 (by decide) d h
  have h2 : (41 + 2) * d.weight ≤ 43 * 350000 := Nat.mul_le_mul (by omega) hw
  rw [sizeLine_eq]
  omega
theorem repr_bigs {g : List Int} (h : ∀ x ∈ g, Big x) (hl : g.length ≤ 2450) : ∃ s, reprD (rp g) = some s := by
  obtain ⟨h1, h2, h3, h4, h5⟩ := bigs_sh h
  have e : (rp g : Dt) = .lst (g.map rp) := rfl
  unfold reprD
  rw [e, if_pos]
  · exact ⟨_, rfl⟩
  · simp only [toPy, PyData.showable, PyData.hasDict, PyData.depth]
    refine ⟨h1, h3, by omega, shown_sz (by simp only [PyData.leavesShort]; exact h2) (by simp only [PyData.weight]; omega)⟩
theorem repr_bpair {n : Int} {g : List Int} (hn : Big n) (h : ∀ x ∈ g, Big x) (hl : g.length ≤ 2450) : ∃ s, reprD (rp ((n, g) : Int × List Int)) = some s := by
  obtain ⟨h1, h2, h3, h4, h5⟩ := bigs_sh h
  obtain ⟨a1, a2, a3⟩ := big_sh hn
  have e : (rp ((n, g) : Int × List Int) : Dt) = .tup [.int n, .lst (g.map rp)] := rfl
  unfold reprD
  rw [e, if_pos]
  · exact ⟨_, rfl⟩
  · simp only [toPy] at a1 a2 a3 ⊢
    simp only [toPyL, toPy, PyData.showable, PyData.showableAll, PyData.hasDict, PyData.hasDictAll, PyData.depth, PyData.depthAll] at a1 ⊢
    refine ⟨?_, ?_, ?_, shown_sz ?_ ?_⟩
    · rw [a1, h1]; rfl
    · rw [h3]; rfl
    · omega
    · simp only [PyData.leavesShort, PyData.leavesShortAll] at a2 ⊢
      rw [a2, h2]; rfl
    · simp only [PyData.weight, PyData.weightAll] at a3 ⊢
      omega
theorem isnum (k : Int) : f_law_is_number (some k) = some true := rfl
theorem eq_at (k : Int) : eqD (rp (some k)) (rp k) = some true := by
  have e : (rp (some k) : Dt) = rp k := rfl
  rw [e]
  exact eqD_int.trans (congrArg some (decide_eq_true rfl))
theorem sgb : decide (Str.ofString "bad" = Str.ofString "bad") = true := decide_eq_true rfl
theorem sgg : decide (Str.ofString "good" = Str.ofString "bad") = false := decide_eq_false (by rw [eq_tl, tl, tl, TL.tl_ofString, TL.tl_ofString]; decide)
theorem piece_reads_eq {t : Str} (hs : splitS t (Str.ofString " ") = some ws) (hN : N ≤ 16777216) (hw : ∀ w ∈ ws, Ok N w) (hl : ws.length ≤ 2450) : f_law_piece_reads t = some true := by
  unfold f_law_piece_reads
  rw [read_piece_eq hs hN hw (by omega), bind_s, bind_s]
  rw [show ((some t).bind f_parse_piece) = f_parse_piece t from rfl, parse_piece_eq hs hN hw (by omega)]
  cases hf : firstP ws with
  | some k =>
    show Fl.ret (T := Unit) (some (Fl.nx ((none : Option (List Int)), some (k : Int)))) _ = _
    rw [ret_nx]
    dsimp only
    rw [sgb, if_tt]
    show (if (none : Option (List Int)).isNone = true then (f_law_is_number (some (k : Int))).bind fun b17 => if b17 = true then eqD (rp (some (k : Int))) (rp (k : Int)) else some false else some false) = _
    rw [isnum, bind_s, if_tt, eq_at]
    rfl
  | none =>
    show Fl.ret (T := Unit) (some (Fl.nx (some (vals ws ws.length), (none : Option Int)))) _ = _
    rw [ret_nx]
    dsimp only
    rw [sgg, if_ft]
    have hall : ∀ k, k < ws.length → nm ws k = true := fun k hk => good_nm (find_none_all hf k hk)
    obtain ⟨s, e⟩ := repr_bigs (vals_big hall) (by rw [vals_len]; exact hl)
    have e2 : reprQ (rp (vals ws ws.length)) = some s := e
    rw [e2, bind_s, e]
    show some (decide (s = s)) = _
    rw [decide_eq_true rfl]
end L2.DL.K89

namespace L2.DL.K89
open PySem PySem.Spec PyProof.Rows
open NumText (AllDigits digitsVal)
variable {N : Nat} {ws : List Str}
def dg (ws : List Str) (k : Nat) : Bool := DgL (tl (wd ws k))
/-- a word that cannot stand in a round set -/
def badR (ws : List Str) (k : Nat) : Bool :=
  if k = 0 then !(dg ws 0 && decide (wd ws 0 ≠ Str.ofString "0"))
  else if k = 1 then decide (wd ws 1 ≠ Str.ofString ":")
  else !dg ws k || (decide (vl ws 0 ≤ vl ws k) || (decide (2 < k) && decide (vl ws k ≤ vl ws (k - 1))))
def firstR (ws : List Str) : Option Nat := (List.range ws.length).find? (badR ws)
theorem dg_nm {k : Nat} (h : dg ws k = true) : nm ws k = true := nm_dg h
theorem good0 (h : badR ws 0 = false) : dg ws 0 = true ∧ wd ws 0 ≠ Str.ofString "0" := by
  unfold badR at h
  rw [if_pos rfl] at h
  have : (dg ws 0 && decide (wd ws 0 ≠ Str.ofString "0")) = true := by
    cases e : (dg ws 0 && decide (wd ws 0 ≠ Str.ofString "0")) with
    | true => rfl
    | false => rw [e] at h; cases h
  obtain ⟨h1, h2⟩ := (Bool.and_eq_true _ _).mp this
  exact ⟨h1, of_decide_eq_true h2⟩
theorem good2 {k : Nat} (hk : 2 ≤ k) (h : badR ws k = false) : dg ws k = true := by
  unfold badR at h
  rw [if_neg (by omega), if_neg (by omega)] at h
  have := (Bool.or_eq_false_iff.mp h).1
  cases e : dg ws k with
  | true => rfl
  | false => rw [e] at this; cases this
def vals2 (ws : List Str) (k : Nat) : List Int := (List.range k).map fun j => vl ws (2 + j)
theorem vals2_len (ws : List Str) (k : Nat) : (vals2 ws k).length = k := by unfold vals2; rw [List.length_map, List.length_range]
theorem vals2_at {k j : Nat} (h : j < k) : atI (vals2 ws k) (j : Int) = some (vl ws (2 + j)) := by
  rw [atI_nat (by rw [vals2_len]; exact h)]
  unfold vals2
  simp
theorem vals2_snoc (ws : List Str) (k : Nat) : vals2 ws k ++ [vl ws (2 + k)] = vals2 ws (k + 1) := by
  unfold vals2
  rw [List.range_succ, List.map_append]
  rfl
theorem range2 {n : Nat} (h : n < 2 ^ 62) (hn : 2 ≤ n) : rangeP (2 : Int) (n : Int) = some ((List.range' 2 (n - 2)).map fun j => ((0 + j : Nat) : Int)) := by
  rw [rangeP_def, if_pos ⟨by decide, by decide, by omega, by omega⟩]
  unfold rangeL
  rw [show ((n : Int) - 2).toNat = n - 2 by omega, List.range'_eq_map_range, List.map_map]
  refine congrArg some (List.map_congr_left fun k _ => ?_)
  show (2 : Int) + (k : Int) = ((0 + (2 + k) : Nat) : Int)
  omega
/-- the law's reading comes to this place -/
def lawR (ws : List Str) : Option Nat := match firstR ws with
  | some k => some k
  | none => if ws.length = 1 then some 1 else none
theorem range_two {n : Nat} (h : 2 ≤ n) : List.range n = 0 :: 1 :: List.range' 2 (n - 2) := by
  obtain ⟨m, rfl⟩ : ∃ m, n = m + 2 := ⟨n - 2, by omega⟩
  rw [List.range_eq_range', List.range'_succ, List.range'_succ]
  rfl
theorem read_round_eq {t : Str} (hs : splitS t (Str.ofString " ") = some ws) (hN : N ≤ 16777216) (hw : ∀ w ∈ ws, Ok N w) (hl : ws.length ≤ 16777216) (h1 : 1 ≤ ws.length) :
    f_law_read_round t = some (match lawR ws with | some k => (Str.ofString "bad", rp (k : Int)) | none => (Str.ofString "good", rp ((vl ws 0, vals2 ws (ws.length - 2)) : Int × List Int))) := by
  unfold f_law_read_round
  rw [hs, bind_s]
  have a0 := at_w (ws := ws) (k := 0) (by omega)
  rw [show ((0 : Nat) : Int) = 0 from rfl] at a0
  rw [a0, bind_s, nm_eq hN hw (by omega), map_s, bind_s]
  have c0 : (if (!nm ws 0) = true then some true else ((some (wd ws 0)).bind fun v10 => intS v10).bind fun v13 => some (decide (v13 < (1 : Int)))) = some (badR ws 0) := by
    unfold badR dg
    rw [if_pos rfl]
    cases hn : nm ws 0 with
    | false =>
      rw [show (!false) = true from rfl, if_tt]
      have : DgL (tl (wd ws 0)) = false := by
        cases e : DgL (tl (wd ws 0)) with
        | false => rfl
        | true => rw [show nm ws 0 = true from nm_dg e] at hn; cases hn
      rw [this]
      rfl
    | true =>
      rw [show (!true) = false from rfl, if_ft, bind_s, vl_eq hn, bind_s]
      have d := dg_iff hn
      have e1 : (wd ws 0 = Str.ofString "0") ↔ vl ws 0 = 0 := by
        unfold vl
        rw [d.2, eq_tl, z0]
      refine congrArg some ?_
      by_cases h0 : vl ws 0 < 1
      · rw [decide_eq_true h0]
        by_cases hd : DgL (tl (wd ws 0)) = true
        · have := d.1.mpr hd
          have : vl ws 0 = 0 := by have : 0 ≤ vl ws 0 := this; omega
          rw [decide_eq_false (not_not_intro (e1.mpr this)), Bool.and_false]
          rfl
        · rw [Bool.not_eq_true] at hd
          rw [hd]
          rfl
      · rw [decide_eq_false h0, d.1.mp (show 0 ≤ vl ws 0 by omega), decide_eq_true (show wd ws 0 ≠ Str.ofString "0" from fun z => h0 (by have := e1.mp z; omega))]
        rfl
  rw [c0, bind_s]
  unfold lawR firstR
  cases hb0 : badR ws 0 with
  | true =>
    rw [if_tt]
    obtain ⟨m, hm⟩ : ∃ m, ws.length = m + 1 := ⟨ws.length - 1, by omega⟩
    rw [hm, List.range_eq_range', List.range'_succ, List.find?_cons_of_pos hb0]
    rfl
  | false =>
    rw [if_ft]
    obtain ⟨d0, n0⟩ := good0 hb0
    by_cases hone : ws.length = 1
    · rw [hone, decide_eq_true (show ((1 : Nat) : Int) = 1 from rfl), if_tt, bind_s, if_tt]
      have : List.range 1 = [0] := rfl
      rw [this, List.find?_cons_of_neg (by rw [hb0]; exact Bool.false_ne_true), List.find?_nil]
      rfl
    · rw [decide_eq_false (show ¬ (ws.length : Int) = 1 by omega), if_ft]
      have a1 := at_w (ws := ws) (k := 1) (by omega)
      rw [show ((1 : Nat) : Int) = 1 from rfl] at a1
      rw [a1, bind_s, bind_s, range_two (by omega), List.find?_cons_of_neg (by rw [hb0]; exact Bool.false_ne_true)]
      have c1 : decide (wd ws 1 ≠ Str.ofString ":") = badR ws 1 := by
        unfold badR
        rw [if_neg (by decide), if_pos rfl]
      rw [c1]
      cases hb1 : badR ws 1 with
      | true =>
        rw [if_tt, List.find?_cons_of_pos hb1]
        rfl
      | false =>
        rw [if_ft, List.find?_cons_of_neg (by rw [hb1]; exact Bool.false_ne_true), bind_s, range2 (by omega) (by omega), bind_s]
        have e := run_loop (S := List Int) (T := Unit) (R := Str × Dt) (F := fun (s32 : (List Int)) (at_33 : Int) =>
 ((((atI ws at_33).bind fun v36 => f_law_is_numeral v36).map fun b => !b).bind fun b57 => if b57 = true then some true else (((atI ws at_33).bind fun v40 => intS v40).bind fun v43 => some (decide (v43 < (0 : Int)))).bind fun b56 => if b56 = true then some true else ((atI ws at_33).bind fun v47 => intS v47).bind fun v54 => ((some (wd ws 0)).bind fun v51 => intS v51).bind fun v55 => some (decide (v55 ≤ v54))).bind fun b85 => (if b85 = true then
 some (.rt ((Str.ofString "bad"), (rp at_33)))
else
 (if (decide ((2 : Int) < at_33)) = true then ((atI ws at_33).bind fun v65 => intS v65).bind fun v72 => (atI s32 (at_33 - (3 : Int))).bind fun v73 => some (decide (v72 ≤ v73)) else some false).bind fun b84 => (if b84 = true then
 some (.rt ((Str.ofString "bad"), (rp at_33)))
else
 (((atI ws at_33).bind fun v81 => intS v81).bind fun v83 => lim (s32 ++ [v83])).bind fun places_77 =>
 some (.nx places_77)))) 0 (fun j => vals2 ws (j - 2)) (badR ws) (fun k => (Str.ofString "bad", rp (k : Int))) (ws.length - 2) 2 fun j hj1 hj2 hg => by
          have hj : j < ws.length := by omega
          rw [Nat.zero_add, at_w hj, bind_s, nm_eq hN hw hj, map_s, bind_s]
          have bj : badR ws j = (!dg ws j || (decide (vl ws 0 ≤ vl ws j) || (decide (2 < j) && decide (vl ws j ≤ vl ws (j - 1))))) := by
            unfold badR
            rw [if_neg (by omega), if_neg (by omega)]
          rw [bj]
          cases hn : nm ws j with
          | false =>
            have : dg ws j = false := by
              cases e : dg ws j with
              | false => rfl
              | true => rw [dg_nm e] at hn; cases hn
            rw [this]
            rfl
          | true =>
            have d := (dg_iff hn).1
            rw [show (!true) = false from rfl, if_ft, bind_s, vl_eq hn, bind_s, bind_s, bind_s, bind_s, vl_eq (dg_nm d0), bind_s]
            by_cases hz : vl ws j < 0
            · have hd : dg ws j = false := by
                cases e : dg ws j with
                | false => rfl
                | true => have := d.mpr e; have : 0 ≤ vl ws j := this; omega
              rw [decide_eq_true hz, if_tt, bind_s, if_tt, hd]
              rfl
            · have hd : dg ws j = true := d.mp (show 0 ≤ vl ws j by omega)
              rw [decide_eq_false hz, if_ft, bind_s, hd, show (!true) = false from rfl, Bool.false_or]
              cases decide (vl ws 0 ≤ vl ws j) with
              | true => rfl
              | false =>
                rw [if_ft, Bool.false_or]
                by_cases h2 : 2 < j
                · rw [decide_eq_true (show (2 : Int) < (j : Int) by omega), if_tt, decide_eq_true h2, Bool.true_and, bind_s, show (j : Int) - 3 = ((j - 3 : Nat) : Int) by omega, vals2_at (by omega), bind_s, bind_s, show 2 + (j - 3) = j - 1 by omega]
                  cases decide (vl ws j ≤ vl ws (j - 1)) with
                  | true => rfl
                  | false =>
                    rw [if_ft, if_ft, bind_s]
                    have := vals2_snoc ws (j - 2)
                    rw [show 2 + (j - 2) = j by omega] at this
                    rw [this, lim_of (by rw [vals2_len]; omega), bind_s, show j + 1 - 2 = j - 2 + 1 by omega]
                · rw [decide_eq_false (show ¬ (2 : Int) < (j : Int) by omega), if_ft, decide_eq_false h2, Bool.false_and, bind_s, if_ft, if_ft, bind_s]
                  have := vals2_snoc ws (j - 2)
                  rw [show 2 + (j - 2) = j by omega] at this
                  rw [this, lim_of (by rw [vals2_len]; omega), bind_s, show j + 1 - 2 = j - 2 + 1 by omega]
        have e0 : vals2 ws (2 - 2) = [] := rfl
        rw [e0] at e
        rw [e]
        cases (List.range' 2 (ws.length - 2)).find? (badR ws) with
        | some k => exact ret_rt
        | none =>
          rw [if_neg hone]
          refine ret_nx.trans ?_
          rw [bind_s, vl_eq (dg_nm d0), bind_s, map_s, bind_s, show 2 + (ws.length - 2) - 2 = ws.length - 2 by omega]
theorem parse_round_eq {t : Str} (hs : splitS t (Str.ofString " ") = some ws) (hN : N ≤ 16777216) (hw : ∀ w ∈ ws, Ok N w) (hl : ws.length ≤ 16777216) (h1 : 1 ≤ ws.length) :
    f_parse_round_set t = some (rz (lawR ws) (vl ws 0, vals2 ws (ws.length - 2))) := by
  unfold f_parse_round_set lawR firstR
  rw [hs, bind_s, rangeP_nats (by omega), bind_s]
  have e := run0 (S := Unit) (T := Unit) (R := Rz (Int × List Int)) (n := ws.length) (F := fun (s6 : Unit) (at_7 : Int) =>
 ((f_can_stand ws at_7).map fun b => !b).bind fun b10 => (if b10 = true then
 ((some at_7).map fun i => (.er ⟨0, some i⟩ : Rz (Int × (List Int)))).map .rt
else
 some (.nx ()))) (fun _ => ()) (badR ws) (fun k => .er ⟨0, some (k : Int)⟩) fun j hj hg => by
    have hc : f_can_stand ws (j : Int) = some (!badR ws j) := by
      unfold f_can_stand
      have dq : ∀ k, k < ws.length → f_is_digits (wd ws k) = some (dg ws k) := fun k hk => is_digits_eq (Nat.le_trans (hw _ (wd_mem hk)).len hN)
      have a0 := at_w (ws := ws) (k := 0) (by omega)
      rw [show ((0 : Nat) : Int) = 0 from rfl] at a0
      rw [a0, bind_s, dq 0 (by omega), bind_s]
      cases j with
      | zero =>
        rw [decide_eq_true (show ((0 : Nat) : Int) = 0 from rfl), if_tt, bind_s]
        unfold badR
        rw [if_pos rfl, Bool.not_not]
        cases dg ws 0 <;> rfl
      | succ i =>
        rw [decide_eq_false (show ¬ ((i + 1 : Nat) : Int) = 0 by omega), if_ft]
        obtain ⟨d0, n0⟩ := good0 (hg 0 (by omega))
        cases i with
        | zero =>
          have a1 := at_w (ws := ws) (k := 1) (by omega)
          rw [show ((1 : Nat) : Int) = 1 from rfl] at a1
          rw [show ((0 + 1 : Nat) : Int) = 1 from rfl, decide_eq_true rfl, if_tt, a1, bind_s]
          unfold badR
          rw [if_neg (by decide), if_pos rfl]
          by_cases h0 : wd ws 1 = Str.ofString ":"
          · rw [decide_eq_true h0, decide_eq_false (not_not_intro h0)]
            rfl
          · rw [decide_eq_false h0, decide_eq_true h0]
            rfl
        | succ i =>
          rw [decide_eq_false (show ¬ ((i + 1 + 1 : Nat) : Int) = 1 by omega), if_ft, at_w hj, bind_s, dq _ hj, map_s, bind_s]
          have bj : badR ws (i + 1 + 1) = (!dg ws (i + 1 + 1) || (decide (vl ws 0 ≤ vl ws (i + 1 + 1)) || (decide (2 < i + 1 + 1) && decide (vl ws (i + 1 + 1) ≤ vl ws (i + 1 + 1 - 1))))) := by
            unfold badR
            rw [if_neg (by omega), if_neg (by omega)]
          rw [bj]
          cases hd : dg ws (i + 1 + 1) with
          | false => rfl
          | true =>
            rw [show (!true) = false from rfl, if_ft, Bool.false_or, bind_s, vl_eq (dg_nm hd), bind_s, bind_s, vl_eq (dg_nm d0), bind_s]
            cases decide (vl ws 0 ≤ vl ws (i + 1 + 1)) with
            | true => rfl
            | false =>
              rw [bind_s, if_ft, Bool.false_or]
              cases i with
              | zero => rfl
              | succ i =>
                have dp := good2 (by omega) (hg (i + 1 + 1) (by omega))
                rw [decide_eq_false (show ¬ ((i + 1 + 1 + 1 : Nat) : Int) = 2 by omega), if_ft, bind_s, show ((i + 1 + 1 + 1 : Nat) : Int) - 1 = ((i + 1 + 1 : Nat) : Int) by omega, at_w (by omega), bind_s, vl_eq (dg_nm dp), bind_s, decide_eq_true (show 2 < i + 1 + 1 + 1 by omega), Bool.true_and, Nat.add_sub_cancel]
                refine congrArg some ?_
                by_cases h0 : vl ws (i + 1 + 1 + 1) ≤ vl ws (i + 1 + 1)
                · rw [decide_eq_true h0, decide_eq_false (by omega)]
                  rfl
                · rw [decide_eq_false h0, decide_eq_true (by omega)]
                  rfl
    rw [hc, map_s, bind_s, Bool.not_not]
    cases badR ws j <;> rfl
  rw [e]
  cases hf : (List.range ws.length).find? (badR ws) with
  | some k => exact ret_rt
  | none =>
    refine (ret_nx).trans ?_
    have hall := find_none_all hf
    obtain ⟨d0, n0⟩ := good0 (hall 0 (by omega))
    by_cases hone : ws.length = 1
    · rw [decide_eq_true (show (ws.length : Int) = 1 by omega), if_tt]
      dsimp only
      rw [if_pos hone]
      rfl
    · rw [decide_eq_false (show ¬ (ws.length : Int) = 1 by omega), if_ft]
      dsimp only
      rw [if_neg hone]
      have a0 := at_w (ws := ws) (k := 0) (by omega)
      rw [show ((0 : Nat) : Int) = 0 from rfl] at a0
      rw [a0, bind_s, vl_eq (dg_nm d0), bind_s]
      have ec : cut ws (some (2 : Int)) none = ws.drop 2 := cut_drop (k := 2)
      have en : f_numbers_of (ws.drop 2) = some (vals2 ws (ws.length - 2)) := by
        have wq : ∀ k, wd (ws.drop 2) k = wd ws (2 + k) := fun k => by
          unfold wd
          rw [List.getD_eq_getElem?_getD, List.getD_eq_getElem?_getD, List.getElem?_drop]
        have := numbers_eq (ws := ws.drop 2) (by rw [List.length_drop]; omega) fun k hk => by
          rw [List.length_drop] at hk
          have := dg_nm (good2 (show 2 ≤ 2 + k by omega) (hall (2 + k) (by omega)))
          unfold nm at this ⊢
          rw [wq]
          exact this
        rw [this, List.length_drop]
        refine congrArg some (List.map_congr_left fun k _ => ?_)
        unfold vl
        rw [wq]
      rw [ec, en]
      rfl
theorem round_reads_eq {t : Str} (hs : splitS t (Str.ofString " ") = some ws) (hN : N ≤ 16777216) (hw : ∀ w ∈ ws, Ok N w) (hl : ws.length ≤ 2450) (h1 : 1 ≤ ws.length) : f_law_round_reads t = some true := by
  unfold f_law_round_reads
  rw [read_round_eq hs hN hw (by omega) h1, bind_s, bind_s]
  rw [show ((some t).bind f_parse_round_set) = f_parse_round_set t from rfl, parse_round_eq hs hN hw (by omega) h1]
  cases hf : lawR ws with
  | some k =>
    show Fl.ret (T := Unit) (some (Fl.nx ((none : Option (Int × List Int)), some (k : Int)))) _ = _
    rw [ret_nx]
    dsimp only
    rw [sgb, if_tt]
    show (if (none : Option (Int × List Int)).isNone = true then (f_law_is_number (some (k : Int))).bind fun b17 => if b17 = true then eqD (rp (some (k : Int))) (rp (k : Int)) else some false else some false) = _
    rw [isnum, bind_s, if_tt, eq_at]
    rfl
  | none =>
    show Fl.ret (T := Unit) (some (Fl.nx (some (vl ws 0, vals2 ws (ws.length - 2)), (none : Option Int)))) _ = _
    rw [ret_nx]
    dsimp only
    rw [sgg, if_ft]
    have hfr : firstR ws = none := by
      unfold lawR at hf
      cases h : firstR ws with
      | none => rfl
      | some k => rw [h] at hf; cases hf
    have hall := find_none_all hfr
    have hb : ∀ x ∈ vals2 ws (ws.length - 2), Big x := fun x hx => by
      obtain ⟨j, hj, rfl⟩ := List.mem_map.mp hx
      have := List.mem_range.mp hj
      exact (int_eq (dg_nm (good2 (show 2 ≤ 2 + j by omega) (hall (2 + j) (by omega))))).2
    obtain ⟨s, e⟩ := repr_bpair (n := vl ws 0) (int_eq (dg_nm (good0 (hall 0 (by omega))).1)).2 hb (by rw [vals2_len]; omega)
    have e2 : reprQ (rp ((vl ws 0, vals2 ws (ws.length - 2)) : Int × List Int)) = some s := e
    rw [e2, bind_s, e]
    show some (decide (s = s)) = _
    rw [decide_eq_true rfl]
end L2.DL.K89

namespace L2.DL.K89
open PySem PySem.Spec PyProof.Rows
open NumText (AllDigits digitsVal)
/-! ### lists of words: their signs and the blanks between -/
def wt (ws : List Str) : Nat := (ws.map fun w => (tl w).length + 1).sum
def W (n : Nat) (ws : List Str) : Prop := wt ws ≤ n ∧ ∀ w ∈ ws, ∀ c ∈ tl w, c < 1114112
theorem wt_app (a b : List Str) : wt (a ++ b) = wt a + wt b := by unfold wt; rw [List.map_append, List.sum_append]
theorem wt_cons (a : Str) (b : List Str) : wt (a :: b) = (tl a).length + 1 + wt b := rfl
theorem wt_sub : ∀ {a b : List Str}, List.Sublist a b → wt a ≤ wt b
  | _, _, .slnil => Nat.le_refl _
  | _, _, .cons x h => by have := wt_sub h; rw [wt_cons]; omega
  | _, _, .cons₂ x h => by have := wt_sub h; rw [wt_cons, wt_cons]; omega
theorem wt_mem {w : Str} {ws : List Str} (h : w ∈ ws) : (tl w).length + 1 ≤ wt ws := by
  have := wt_sub (List.singleton_sublist.mpr h)
  rw [wt_cons] at this
  have e : wt [] = 0 := rfl
  omega
theorem wt_len : ∀ ws : List Str, ws.length ≤ wt ws
  | [] => Nat.zero_le _
  | w :: ws => by have := wt_len ws; rw [wt_cons, List.length_cons]; omega
theorem W.mono {n m : Nat} {ws : List Str} (h : W n ws) (k : n ≤ m) : W m ws := ⟨Nat.le_trans h.1 k, h.2⟩
theorem W.ok {n : Nat} {ws : List Str} (h : W n ws) : ∀ w ∈ ws, Ok n w := fun w hw => ⟨by have := wt_mem hw; have := h.1; omega, h.2 w hw⟩
theorem W.len {n : Nat} {ws : List Str} (h : W n ws) : ws.length ≤ n := Nat.le_trans (wt_len ws) h.1
theorem W.app {n m : Nat} {a b : List Str} (h : W n a) (k : W m b) : W (n + m) (a ++ b) := ⟨by rw [wt_app]; have := h.1; have := k.1; omega, fun w hw => (List.mem_append.mp hw).elim (h.2 w) (k.2 w)⟩
theorem W.sub {n : Nat} {a b : List Str} (h : W n b) (s : List.Sublist a b) : W n a := ⟨Nat.le_trans (wt_sub s) h.1, fun w hw => h.2 w (s.subset hw)⟩
theorem cut_sub {α : Type} (l : List α) (a b : Option Int) : List.Sublist (cut l a b) l := (List.take_sublist _ _).trans (List.drop_sublist _ _)
theorem W.cut {n : Nat} {l : List Str} (h : W n l) (a b : Option Int) : W n (cut l a b) := h.sub (cut_sub l a b)
theorem W.one {n : Nat} {w : Str} (h : Ok n w) : W (n + 1) [w] := ⟨by rw [wt_cons]; have := h.1; have e : wt [] = 0 := rfl; omega, fun x hx => by rw [List.mem_singleton.mp hx]; exact h.2⟩
theorem wt_rev (ws : List Str) : wt ws.reverse = wt ws := by unfold wt; rw [List.map_reverse, List.sum_reverse]
theorem W.rev {n : Nat} {l : List Str} (h : W n l) : W n l.reverse := ⟨by rw [wt_rev]; exact h.1, fun w hw => h.2 w (List.mem_reverse.mp hw)⟩
/-- one word exchanged -/
theorem with_ok {n m : Nat} {l : List Str} {k : Nat} {item : Str} (h : W n l) (hi : Ok m item) (hn : n + m + 1 ≤ 16777216) : Rets (f_law_with l (k : Int) item) (W (n + m + 1)) := by
  unfold f_law_with
  have hl := h.len
  have e2 : cut l (some ((k : Int) + 1)) none = l.drop (k + 1) := cut_drop (k := k + 1)
  rw [cut_take, e2, lim_of (by rw [List.length_append, List.length_take, List.length_singleton]; omega), bind_s, lim_of (by rw [List.length_append, List.length_append, List.length_take, List.length_drop, List.length_singleton]; omega)]
  refine .pure ⟨?_, fun w hw => ?_⟩
  · have e1 : wt (l.take k) + wt (l.drop (k + 1)) ≤ wt l := by
      rw [← wt_app]
      refine wt_sub ?_
      conv => rhs; rw [← List.take_append_drop k l]
      refine List.Sublist.append_left ?_ _
      rw [← List.drop_drop]
      exact List.drop_sublist _ _
    rw [wt_app, wt_app, wt_cons]
    have e : wt [] = 0 := rfl
    have := h.1
    have := hi.1
    omega
  · rcases List.mem_append.mp hw with hw | hw
    · rcases List.mem_append.mp hw with hw | hw
      · exact h.2 w (List.mem_of_mem_take hw)
      · rw [List.mem_singleton.mp hw]
        exact hi.2
    · exact h.2 w (List.mem_of_mem_drop hw)
theorem app_ok {n m : Nat} {a b : List Str} (h : W n a) (k : W m b) (hn : n + m ≤ 16777216) : Rets (lim (a ++ b)) (W (n + m)) := by
  have := (h.app k)
  rw [lim_of (Nat.le_trans this.len hn)]
  exact .pure this
/-! ### joined -/
theorem sp : Str.ofString " " = ⟨#[32]⟩ := of_sig " " [32]
theorem tl_sp : TL.tl (Str.ofString " ") = [32] := by rw [sp]
theorem joinL_len : ∀ ps : List (List Nat), (TL.joinL [32] ps).length ≤ (ps.map fun p => p.length + 1).sum
  | [] => Nat.zero_le _
  | [p] => by simp [TL.joinL]
  | p :: q :: r => by
    have := joinL_len (q :: r)
    show (p ++ ([32] ++ TL.joinL [32] (q :: r))).length ≤ _
    rw [List.map_cons, List.sum_cons, List.length_append, List.length_append, List.length_singleton]
    omega
theorem joinL_mem : ∀ (ps : List (List Nat)) (c : Nat), c ∈ TL.joinL [32] ps → c = 32 ∨ ∃ p ∈ ps, c ∈ p
  | [], c, h => nomatch h
  | [p], c, h => .inr ⟨p, List.mem_singleton.mpr rfl, h⟩
  | p :: q :: r, c, h => by
    have h : c ∈ p ++ ([32] ++ TL.joinL [32] (q :: r)) := h
    rcases List.mem_append.mp h with h | h
    · exact .inr ⟨p, List.mem_cons_self, h⟩
    · rcases List.mem_append.mp h with h | h
      · exact .inl (List.mem_singleton.mp h)
      · rcases joinL_mem (q :: r) c h with h | ⟨x, hx, h⟩
        · exact .inl h
        · exact .inr ⟨x, List.mem_cons_of_mem _ hx, h⟩
theorem tl_joined (ws : List Str) : tl (Txt.join (Str.ofString " ") ws) = TL.joinL [32] (ws.map tl) := by
  rw [TL.join_eq]
  show TL.tl _ = _
  rw [TL.tl_join, tl_sp]
theorem joined_ok {n : Nat} {ws : List Str} (h : W n ws) : Ok n (Txt.join (Str.ofString " ") ws) := by
  refine ⟨?_, fun c hc => ?_⟩
  · rw [tl_joined]
    refine Nat.le_trans (joinL_len _) ?_
    rw [List.map_map]
    exact h.1
  · rw [tl_joined] at hc
    rcases joinL_mem _ c hc with hc | ⟨p, hp, hc⟩
    · omega
    · obtain ⟨w, hw, rfl⟩ := List.mem_map.mp hp
      exact h.2 w hw c hc
theorem joinS_of {n : Nat} {ws : List Str} (h : W n ws) (hn : n ≤ 16777216) : joinS (Str.ofString " ") ws = some (Txt.join (Str.ofString " ") ws) := by
  rw [joinS_def, if_pos]
  have e1 : (Str.ofString " ").length = 1 := by rw [sp]; rfl
  have e2 : ∀ ws : List Str, (ws.map (·.length)).sum + ws.length = wt ws := fun ws => by
    induction ws with
    | nil => rfl
    | cons w ws ih =>
      rw [List.map_cons, List.sum_cons, List.length_cons, wt_cons, len_tl]
      omega
  rw [e1, Nat.mul_one, e2]
  exact Nat.le_trans h.1 hn
theorem join_ok {n : Nat} {ws : List Str} (h : W n ws) (hn : n ≤ 16777216) : Rets (joinS (Str.ofString " ") ws) (Ok n) := by
  rw [joinS_of h hn]
  exact .pure (joined_ok h)
/-! ### cut into words -/
theorem spl_facts (s : Nat) : ∀ (l acc : List Nat), ((TL.spl [s] 0 acc l).map fun p => p.length + 1).sum = acc.length + l.length + 1 ∧ (∀ p ∈ TL.spl [s] 0 acc l, ∀ c ∈ p, c ∈ acc ∨ c ∈ l) ∧ TL.spl [s] 0 acc l ≠ []
  | [], acc => by
    rw [TL.spl_nil]
    exact ⟨by simp, fun p hp c hc => by rw [List.mem_singleton.mp hp] at hc; exact .inl hc, by simp⟩
  | c :: r, acc => by
    cases hp : TL.pre [s] (c :: r) with
    | true =>
      rw [TL.spl_hit hp]
      obtain ⟨h1, h2, h3⟩ := spl_facts s r []
      rw [show [s].length - 1 = 0 from rfl]
      refine ⟨?_, fun p hp d hd => ?_, by simp⟩
      · rw [List.map_cons, List.sum_cons, h1]
        simp only [List.length_nil, List.length_cons]
        omega
      · rcases List.mem_cons.mp hp with rfl | hp
        · exact .inl hd
        · rcases h2 p hp d hd with z | z
          · exact nomatch z
          · exact .inr (List.mem_cons_of_mem _ z)
    | false =>
      rw [TL.spl_miss hp]
      obtain ⟨h1, h2, h3⟩ := spl_facts s r (acc ++ [c])
      refine ⟨?_, fun p hp d hd => ?_, h3⟩
      · rw [h1]
        simp only [List.length_append, List.length_cons, List.length_nil]
        omega
      · rcases h2 p hp d hd with z | z
        · rcases List.mem_append.mp z with z | z
          · exact .inl z
          · rw [List.mem_singleton.mp z]
            exact .inr List.mem_cons_self
        · exact .inr (List.mem_cons_of_mem _ z)
theorem split_tl (t : Str) : (Txt.split t (Str.ofString " ")).map tl = TL.spl [32] 0 [] (tl t) := by
  have := TL.split_spl t (Str.ofString " ") (by rw [tl_sp]; simp) (TL.kind_ok (by rw [sp]; simp))
  rw [tl_sp] at this
  exact this
theorem splitS_of {t : Str} (h : t.length ≤ 16777000) : splitS t (Str.ofString " ") = some (Txt.split t (Str.ofString " ")) := by
  rw [splitS_def, if_pos ⟨by rw [sp]; decide, by omega⟩]
theorem words_ok {n : Nat} {t : Str} (h : Ok n t) : W (n + 1) (Txt.split t (Str.ofString " ")) ∧ 1 ≤ (Txt.split t (Str.ofString " ")).length := by
  obtain ⟨h1, h2, h3⟩ := spl_facts 32 (tl t) []
  rw [← split_tl] at h1 h2 h3
  refine ⟨⟨?_, fun w hw c hc => ?_⟩, ?_⟩
  · rw [List.map_map] at h1
    have e : wt (Txt.split t (Str.ofString " ")) = ([] : List Nat).length + (tl t).length + 1 := h1
    rw [e, List.length_nil]
    have := h.1
    omega
  · rcases h2 _ (List.mem_map.mpr ⟨w, hw, rfl⟩) c hc with z | z
    · exact nomatch z
    · exact h.2 c z
  · exact List.length_pos_iff.mpr fun z => h3 (by rw [z]; rfl)
theorem reads_ok {t : Str} (h : Ok 2400 t) : f_law_piece_reads t = some true ∧ f_law_round_reads t = some true := by
  obtain ⟨h1, h2⟩ := words_ok h
  have hs := splitS_of (t := t) (Nat.le_trans h.len (by decide))
  have hl := h1.len
  exact ⟨piece_reads_eq hs (N := 2401) (by decide) h1.ok (by omega), round_reads_eq hs (N := 2401) (by decide) h1.ok (by omega) h2⟩
/-! ### texts -/
theorem Ok.of (s : String) (n : Nat) (h : s.toList.length ≤ n ∧ ∀ c ∈ s.toList.map Char.toNat, c < 1114112 := by decide) : Ok n (Str.ofString s) := by
  unfold Ok
  rw [tl, TL.tl_ofString, List.length_map]
  exact h
theorem Ok.add {n m : Nat} {x y : Str} (h : Ok n x) (k : Ok m y) : Ok (n + m) (x ++ y) := by
  unfold Ok at *
  rw [tl, TL.tl_append, List.length_append]
  refine ⟨by have := h.1; have := k.1; show (tl x).length + (tl y).length ≤ _; omega, fun c hc => (List.mem_append.mp hc).elim (h.2 c) (k.2 c)⟩
theorem add_ok {n m : Nat} {x y : Str} (h : Ok n x) (k : Ok m y) (hn : n + m ≤ 16777216) : Rets (addS x y) (Ok (n + m)) := by
  have a := h.len
  have b := k.len
  rw [addS_def, if_pos (by omega)]
  exact .pure (h.add k)
theorem Ok.cut {n : Nat} {z : Str} (h : Ok n z) (a b : Option Int) : Ok n (cutS z a b) := by
  have s : List.Sublist (tl (cutS z a b)) (tl z) := (List.take_sublist _ _).trans (List.drop_sublist _ _)
  exact ⟨Nat.le_trans s.length_le h.1, fun c hc => h.2 c (s.subset hc)⟩
theorem slice_ok {n : Nat} {z : Str} (h : Ok n z) (a b : Option Int) (hn : n ≤ 16777216) : Rets (cutSP z a b) (Ok n) := by
  rw [cut_of (Nat.le_trans h.len hn)]
  exact .pure (h.cut a b)
theorem glued_mem (z : Str) (ps : List Str) (c : Nat) (h : c ∈ tl (Builtin.Str.glued z ps)) : c ∈ tl z ∨ ∃ p ∈ ps, c ∈ tl p := by
  have key : ∀ (ps : List Str) (acc : Array Nat), c ∈ (ps.foldl (fun acc p => acc ++ z.cps ++ p.cps) acc).toList → c ∈ acc.toList ∨ c ∈ tl z ∨ ∃ p ∈ ps, c ∈ tl p := fun ps => by
    induction ps with
    | nil => intro acc h; exact .inl h
    | cons p ps ih =>
      intro acc h
      rcases ih _ h with h | h | ⟨q, hq, h⟩
      · rw [Array.toList_append, Array.toList_append] at h
        rcases List.mem_append.mp h with h | h
        · rcases List.mem_append.mp h with h | h
          · exact .inl h
          · exact .inr (.inl h)
        · exact .inr (.inr ⟨p, List.mem_cons_self, h⟩)
      · exact .inr (.inl h)
      · exact .inr (.inr ⟨q, List.mem_cons_of_mem _ hq, h⟩)
  rcases key _ _ h with h | h | ⟨q, hq, h⟩
  · cases ps with
    | nil => exact nomatch h
    | cons p ps => exact .inr ⟨p, List.mem_cons_self, h⟩
  · exact .inl h
  · exact .inr ⟨q, List.mem_of_mem_drop hq, h⟩
theorem repl_ok {n m : Nat} {x y z : Str} (h : Ok n x) (k : Ok m z) (hn : n + (n + 1) * m ≤ 16777216) : Rets (replS x y z) (Ok (n + (n + 1) * m)) := by
  have hx := h.len
  have hz := k.len
  have hb : x.length + (x.length + 1) * z.length ≤ n + (n + 1) * m := Nat.add_le_add hx (Nat.mul_le_mul (by omega) hz)
  rw [replS_def, if_pos (by omega)]
  refine .pure ⟨?_, fun c hc => ?_⟩
  · rw [← len_tl]
    exact Nat.le_trans (TK.replace_len x y z) hb
  · unfold Txt.replace at hc
    split at hc
    · exact h.2 c hc
    · rcases glued_mem _ _ c hc with hc | ⟨p, hp, hc⟩
      · exact k.2 c hc
      · unfold Builtin.Str.partsBetween at hp
        obtain ⟨⟨i, j⟩, _, rfl⟩ := List.mem_map.mp hp
        have hc : c ∈ tl (Builtin.Str.strSub x i j) := hc
        rw [tl, TL.tl_strSub] at hc
        exact h.2 c (List.mem_of_mem_drop (List.mem_of_mem_take hc))
theorem times_ok {n : Nat} {c : Nat} (h : c < 1114112) {k : Int} (h0 : 0 ≤ k) (hk : k ≤ n) (hn : n ≤ 16777216) : Rets (repSP ⟨#[c]⟩ k) (Ok n) := by
  have e : (⟨#[c]⟩ : Str).length = 1 := rfl
  rw [repSP_def, if_pos ⟨by omega, by rw [e]; omega⟩]
  have e2 : tl (timesS ⟨#[c]⟩ k) = List.replicate k.toNat c := by
    show (List.replicate k.toNat [c]).flatten = _
    generalize k.toNat = j
    induction j with
    | zero => rfl
    | succ j ih => rw [List.replicate_succ, List.flatten_cons, ih, List.replicate_succ]; rfl
  refine .pure ⟨by rw [e2, List.length_replicate]; omega, fun d hd => ?_⟩
  rw [e2] at hd
  rw [(List.mem_replicate.mp hd).2]
  exact h
end L2.DL.K89

namespace L2.DL.K89
open PySem PySem.Spec PyProof.Rows
/-! ### the bent texts -/
def Sm (n : Nat) (l : List Str) : Prop := l.length ≤ n ∧ ∀ s ∈ l, Ok 2400 s
theorem Sm.snoc {n : Nat} {l : List Str} {s : Str} (h : Sm n l) (hs : Ok 2400 s) (hn : n ≤ 1000) : Rets (lim (l ++ [s])) (Sm (n + 1)) := by
  have := h.1
  rw [lim_of (by rw [List.length_append, List.length_singleton]; omega)]
  refine .pure ⟨by rw [List.length_append, List.length_singleton]; omega, fun x hx => ?_⟩
  rcases List.mem_append.mp hx with hx | hx
  · exact h.2 x hx
  · rw [List.mem_singleton.mp hx]
    exact hs
theorem Sm.app {n m : Nat} {l r : List Str} (h : Sm n l) (k : Sm m r) (hn : n + m ≤ 1000) : Rets (lim (l ++ r)) (Sm (n + m)) := by
  have a := h.1
  have b := k.1
  rw [lim_of (by rw [List.length_append]; omega)]
  exact .pure ⟨by rw [List.length_append]; omega, fun x hx => (List.mem_append.mp hx).elim (h.2 x) (k.2 x)⟩
theorem Sm.nil : Sm 0 [] := ⟨Nat.le_refl _, fun x hx => nomatch hx⟩
theorem Sm.cons {n : Nat} {l : List Str} {s : Str} (hs : Ok 2400 s) (h : Sm n l) : Sm (n + 1) (s :: l) := ⟨by rw [List.length_cons]; have := h.1; omega, fun x hx => by
  rcases List.mem_cons.mp hx with rfl | hx
  · exact hs
  · exact h.2 x hx⟩
/-- short words -/
def Wo (l : List Str) : Prop := ∀ s ∈ l, Ok 41 s
theorem Wo.nil : Wo [] := fun x hx => nomatch hx
theorem Wo.cons {l : List Str} {s : Str} (hs : Ok 41 s) (h : Wo l) : Wo (s :: l) := fun x hx => by
  rcases List.mem_cons.mp hx with rfl | hx
  · exact hs
  · exact h x hx
theorem of41 (s : String) (h : s.toList.length ≤ 41 ∧ ∀ c ∈ s.toList.map Char.toNat, c < 1114112 := by decide) : Ok 41 (Str.ofString s) := Ok.of s 41 h
theorem of5 (s : String) (h : s.toList.length ≤ 5 ∧ ∀ c ∈ s.toList.map Char.toNat, c < 1114112 := by decide) : Ok 5 (Str.ofString s) := Ok.of s 5 h
theorem z1 : Str.ofString "1" = ⟨#[49]⟩ := of_sig "1" [49]
theorem z9 : Str.ofString "9" = ⟨#[57]⟩ := of_sig "9" [57]
theorem odd_ok {l : List Str} {x : Int} (h : Wo l) (hl : 0 < l.length) (h0 : 0 ≤ x) : Rets ((modP x (l.length : Int)).bind fun v => atI l v) (Ok 41) := by
  have m0 := Int.emod_nonneg x (show (l.length : Int) ≠ 0 by omega)
  have m1 := Int.emod_lt_of_pos x (show (0 : Int) < (l.length : Int) by omega)
  rw [modP_of (by omega), bind_s, atI_int m0 m1]
  exact .pure (h _ (List.getElem_mem _))
theorem bent_ok {t : Str} {ds : List Int} (hd : ds.length = 60 ∧ Drawn ds) (ht : Ok 400 t) : Rets (f_law_bent t ds) fun l => ∀ s ∈ l, Ok 2400 s := by
  unfold f_law_bent
  obtain ⟨x3, e3, p3⟩ := draw_at hd 3 (by decide) (by decide)
  obtain ⟨x4, e4, p4⟩ := draw_at hd 4 (by decide) (by decide)
  obtain ⟨x5, e5, p5⟩ := draw_at hd 5 (by decide) (by decide)
  obtain ⟨x6, e6, p6⟩ := draw_at hd 6 (by decide) (by decide)
  obtain ⟨x7, e7, p7⟩ := draw_at hd 7 (by decide) (by decide)
  rw [splitS_of (Nat.le_trans ht.len (by decide)), bind_s]
  obtain ⟨hw, hw1⟩ := words_ok ht
  generalize Txt.split t (Str.ofString " ") = ws at hw hw1
  have hwl := hw.len
  have hwo := hw.ok
  rw [e3, bind_s, e4, bind_s, modP_of (by omega), modP_of (by omega), bind_s, bind_s, bind_s]
  have q0 := Int.emod_nonneg x3 (show (ws.length : Int) ≠ 0 by omega)
  have q1 := Int.emod_lt_of_pos x3 (show (0 : Int) < (ws.length : Int) by omega)
  have r0 := Int.emod_nonneg x4 (show (ws.length : Int) ≠ 0 by omega)
  have r1 := Int.emod_lt_of_pos x4 (show (0 : Int) < (ws.length : Int) by omega)
  generalize x3 % (ws.length : Int) = a at q0 q1 ⊢
  generalize x4 % (ws.length : Int) = b at r0 r1 ⊢
  obtain ⟨p, rfl⟩ := Int.eq_ofNat_of_zero_le q0
  obtain ⟨o, rfl⟩ := Int.eq_ofNat_of_zero_le r0
  dsimp only
  -- the odd words
  obtain ⟨a44, e44, h44⟩ := times_ok (n := 41) (c := 49) (k := 40) (by decide) (by decide) (by decide) (by decide)
  obtain ⟨a42, e42, h42⟩ := times_ok (n := 41) (c := 49) (k := 41) (by decide) (by decide) (by decide) (by decide)
  obtain ⟨a29, e29, h29⟩ := times_ok (n := 40) (c := 57) (k := 40) (by decide) (by decide) (by decide) (by decide)
  obtain ⟨a40, e40, h40⟩ := add_ok (n := 1) (m := 40) (x := Str.ofString "-") (Ok.of "-" 1) h29 (by decide)
  obtain ⟨a81, e81, h81⟩ := times_ok (n := 41) (c := 57) (k := 41) (by decide) (by decide) (by decide) (by decide)
  rw [z1, e44, e42, z9, e29]
  simp only [bind_s]
  rw [e40, e81]
  simp only [bind_s]
  refine .bind (Q := fun l => Wo l ∧ 0 < l.length) ?_ fun odd ho => ?_
  · rw [lim_of (by simp)]
    refine .pure ⟨?_, by simp⟩
    intro s hs
    simp only [List.cons_append, List.nil_append, List.mem_cons, List.not_mem_nil, or_false] at hs
    rcases hs with rfl | rfl | rfl | rfl | rfl | rfl | rfl | rfl | rfl | rfl | rfl | rfl | rfl | rfl | rfl | rfl | rfl | rfl | rfl | rfl | rfl | rfl | rfl | rfl | rfl | rfl | rfl | rfl | rfl | rfl | rfl | rfl | rfl
    all_goals first
      | exact of41 _
      | exact h44
      | exact h42
      | exact h40
      | exact h81
      | exact h29.mono (by decide)
      | (refine ⟨by decide, fun c hc => ?_⟩; rw [List.mem_singleton.mp hc]; decide)
  rw [e5, bind_s, e6, bind_s]
  refine .bind (Q := fun z => Ok 41 z.1 ∧ Ok 41 z.2) (.bind (odd_ok ho.1 ho.2 p5.1) fun u hu => .bind (odd_ok ho.1 ho.2 p6.1) fun v hv => .pure ⟨hu, hv⟩) fun z hz => ?_
  obtain ⟨word, by'⟩ := z
  obtain ⟨hword, hby⟩ := hz
  dsimp only at hword hby ⊢
  have S1 : Ok 1 (Str.ofString " ") := Ok.of " " 1
  -- the first ten
  refine .bind (Q := Sm 10) ?_ fun s0 S0 => ?_
  · obtain ⟨a1, e1, h1⟩ := add_ok ht S1 (by decide)
    obtain ⟨a2, e2, h2⟩ := add_ok S1 ht (by decide)
    obtain ⟨a3, e3, h3⟩ := add_ok ht (Ok.of "\n" 1) (by decide)
    obtain ⟨a4, e4, h4⟩ := repl_ok (y := Str.ofString " ") ht (Ok.of "  " 2) (by decide)
    obtain ⟨a5, e5, h5⟩ := repl_ok (y := Str.ofString ":") ht (Ok.of "" 0) (by decide)
    obtain ⟨a6, e6, h6⟩ := repl_ok (y := Str.ofString " : ") ht (Ok.of ":" 1) (by decide)
    obtain ⟨a7, e7, h7⟩ := add_ok h1 ht (by decide)
    rw [e1, e2, e3, e4, e5, e6]
    simp only [bind_s]
    rw [e7]
    simp only [bind_s]
    exact .pure (.cons (ht.mono (by decide)) (.cons (h1.mono (by decide)) (.cons (h2.mono (by decide)) (.cons (h3.mono (by decide)) (.cons (Ok.of "" 2400) (.cons (Ok.of " " 2400) (.cons (h4.mono (by decide)) (.cons (h5.mono (by decide)) (.cons (h6.mono (by decide)) (.cons (h7.mono (by decide)) .nil))))))))))
  refine .bind (Q := Sm 11) (.bind (join_ok hw.rev (by decide)) fun a ha => S0.snoc (ha.mono (by decide)) (by decide)) fun s1 S1' => ?_
  refine .bind (Q := Sm 12) (.bind (Q := Ok 802) (.bind (app_ok (hw.cut _ _) (hw.cut _ _) (by decide)) fun v hv => join_ok hv (by decide)) fun a ha => S1'.snoc (ha.mono (by decide)) (by decide)) fun s2 S2 => ?_
  refine .bind (Q := Sm 13) (.bind (Q := Ok 802) (.bind (app_ok (hw.cut _ _) (hw.cut _ _) (by decide)) fun v hv => join_ok hv (by decide)) fun a ha => S2.snoc (ha.mono (by decide)) (by decide)) fun s3 S3 => ?_
  have ap : atI ws (p : Int) = some (wd ws p) := at_w (by omega)
  have ao : atI ws (o : Int) = some (wd ws o) := at_w (by omega)
  have op : Ok 401 (wd ws p) := hwo _ (wd_mem (by omega))
  have oo : Ok 401 (wd ws o) := hwo _ (wd_mem (by omega))
  rw [ap, ao]
  simp only [bind_s]
  refine .bind (Q := Sm 14) (.bind (Q := Ok 1204) (.bind (Q := W 1204) (.bind (app_ok (hw.cut _ _) (W.one op) (by decide)) fun v hv => app_ok hv (hw.cut _ _) (by decide)) fun v hv => join_ok hv (by decide)) fun a ha => S3.snoc (ha.mono (by decide)) (by decide)) fun s4 S4 => ?_
  refine .bind (Q := Sm 15) (.bind (Q := Ok 443) (.bind (with_ok hw hword (by decide)) fun v hv => join_ok hv (by decide)) fun a ha => S4.snoc (ha.mono (by decide)) (by decide)) fun s5 S5 => ?_
  refine .bind (Q := Sm 16) (.bind (Q := Ok 844) (.bind (Q := W 844) (.bind (app_ok (hw.cut _ _) (W.one hby) (by decide)) fun v hv => app_ok hv (hw.cut _ _) (by decide)) fun v hv => join_ok hv (by decide)) fun a ha => S5.snoc (ha.mono (by decide)) (by decide)) fun s6 S6 => ?_
  refine .bind (Q := Sm 17) (.bind (Q := Ok 1205) (.bind (Q := W 1205) (.bind (with_ok hw oo (by decide)) fun v hv => with_ok hv op (by decide)) fun v hv => join_ok hv (by decide)) fun a ha => S6.snoc (ha.mono (by decide)) (by decide)) fun s7 S7 => ?_
  refine .bind (Q := Sm 18) (.bind (Q := Ok 485) (.bind (Q := W 485) (.bind (with_ok hw hword (by decide)) fun v hv => with_ok hv hby (by decide)) fun v hv => join_ok hv (by decide)) fun a ha => S7.snoc (ha.mono (by decide)) (by decide)) fun s8 S8 => ?_
  have htl : t.length ≤ 400 := ht.len
  rw [e7, bind_s, lenS_of (by omega), bind_s, bind_s, modP_of (by omega), bind_s]
  generalize x7 % ((t.length : Int) + 1) = place
  refine .bind (Q := Sm 26) ((Rets.fold (N := 8) (fun k s => Sm (18 + k) s) _ 0 _ (by decide) S8 fun k s g hg hk hs => ?_).mono fun s h => h) fun s9 S9 => ?_
  · have og : Ok 1 g := by
      simp only [List.mem_cons, List.not_mem_nil, or_false] at hg
      rcases hg with rfl | rfl | rfl | rfl | rfl | rfl | rfl | rfl
      all_goals first
        | exact Ok.of _ 1
        | (refine ⟨by decide, fun c hc => ?_⟩; rw [List.mem_singleton.mp hc]; decide)
    exact .bind (Q := Sm (18 + k + 1)) (.bind (Q := Ok 801) (.bind (Q := Ok 401) (.bind (slice_ok ht _ _ (by decide)) fun v hv => add_ok hv og (by decide)) fun v hv => .bind (slice_ok ht _ _ (by decide)) fun u hu => add_ok hv hu (by decide)) fun v hv => hs.snoc (hv.mono (by decide)) (by omega)) fun s h => .pure h
  refine .bind (Q := Sm 36) ?_ fun s10 S10 => ?_
  · obtain ⟨b1, e1, h1⟩ := add_ok hword (Ok.of " : " 3) (by decide)
    obtain ⟨b2, e2, h2⟩ := add_ok h1 hby (by decide)
    obtain ⟨b3, e3, h3⟩ := add_ok hword (Ok.of " :" 3) (by decide)
    obtain ⟨b4, e4, h4⟩ := add_ok hword (Ok.of " : 0 " 5) (by decide)
    obtain ⟨b5, e5, h5⟩ := add_ok h4 hby (by decide)
    obtain ⟨b6, e6, h6⟩ := add_ok (Ok.of "7 : " 5) hword (by decide)
    obtain ⟨b7, e7, h7⟩ := add_ok h6 S1 (by decide)
    obtain ⟨b8, e8, h8⟩ := add_ok h7 hby (by decide)
    obtain ⟨b9, e9, h9⟩ := add_ok (Ok.of "0 " 5) hword (by decide)
    rw [e1, e3, e4, e6, e9]
    simp only [bind_s]
    rw [e2, e5, e7]
    simp only [bind_s]
    rw [e8]
    simp only [bind_s]
    refine S9.app (m := 10) ?_ (by decide)
    exact .cons (h2.mono (by decide)) (.cons (h3.mono (by decide)) (.cons (h5.mono (by decide)) (.cons (h8.mono (by decide)) (.cons (Ok.of "7 :" 2400) (.cons (Ok.of "7" 2400) (.cons (Ok.of "0 :" 2400) (.cons (h9.mono (by decide)) (.cons (Ok.of "1 : 0" 2400) (.cons (Ok.of "1 : 1" 2400) .nil)))))))))
  have a0 : atI ws (0 : Int) = some (wd ws 0) := at_w (k := 0) (by omega)
  have o0 : Ok 401 (wd ws 0) := hwo _ (wd_mem (by omega))
  rw [a0]
  obtain ⟨c1, e1, h1⟩ := slice_ok ht none (some place) (by decide)
  obtain ⟨c2, e2, h2⟩ := slice_ok ht (some place) none (by decide)
  obtain ⟨c3, e3, h3⟩ := slice_ok ht (some (place + 1)) none (by decide)
  obtain ⟨c4, e4, h4⟩ := add_ok h1 h3 (by decide)
  obtain ⟨c5, e5, h5⟩ := add_ok hword S1 (by decide)
  obtain ⟨c6, e6, h6⟩ := add_ok h5 hby (by decide)
  obtain ⟨c7, e7, h7⟩ := add_ok o0 (Ok.of " :" 3) (by decide)
  rw [e1, e2, e3, e5]
  simp only [bind_s]
  rw [e4, e6, e7]
  simp only [bind_s]
  refine (S10.app (m := 8) ?_ (by decide)).mono fun l h => h.2
  exact .cons (h1.mono (by decide)) (.cons (h2.mono (by decide)) (.cons (h4.mono (by decide)) (.cons (hword.mono (by decide)) (.cons (hby.mono (by decide)) (.cons (h6.mono (by decide)) (.cons (h7.mono (by decide)) (.cons (o0.mono (by decide)) .nil)))))))
end L2.DL.K89

namespace L2.DL.K89
open PySem PySem.Spec PyProof.Rows
open NumText (AllDigits digitsVal)
/-! ### numbers written -/
def st (x : Int) : Str := Str.ofString (toString x)
/-- numbers from 0 on, of at most forty digits -/
def Nn (x : Int) : Prop := 0 ≤ x ∧ x < 10 ^ 40
theorem Nn.big {x : Int} (h : Nn x) : Big x := by
  obtain ⟨h0, h1⟩ := h
  obtain ⟨n, rfl⟩ := Int.eq_ofNat_of_zero_le h0
  unfold Big
  rw [Int.natAbs_natCast]
  have e : ((10 : Int) ^ 40) = ((10 ^ 40 : Nat) : Int) := by decide +kernel
  rw [e] at h1
  exact Int.ofNat_lt.mp h1
theorem strI_of {x : Int} (h : Big x) : strI x = some (st x) := by
  have hb : (10 : Nat) ^ 40 < 2 ^ 133 := by decide +kernel
  unfold strI
  rw [if_pos]
  · rfl
  · rcases Nat.eq_zero_or_pos x.natAbs with z | z
    · rw [z]; decide
    · have := (Nat.log2_lt (k := 133) (show x.natAbs ≠ 0 by omega)).mpr (Nat.lt_trans h hb)
      omega
theorem numL_head : ∀ n : Nat, n ≠ 0 → (TL.numL n).getD 0 0 ≠ 48 := fun n => by
  induction n using Nat.strongRecOn with
  | _ n ih =>
    intro h
    by_cases h1 : n < 10
    · rw [TL.numL_lt h1]
      show 48 + n ≠ 48
      omega
    · rw [TL.numL_step (by omega)]
      have h2 := TL.numL_ne (n / 10)
      have h3 := ih (n / 10) (by omega) (by omega)
      cases e : TL.numL (n / 10) with
      | nil => exact absurd e h2
      | cons c l =>
        rw [e] at h3
        exact h3
theorem st_tl {x : Int} (h : Nn x) : tl (st x) = TL.numL x.toNat := by
  obtain ⟨n, rfl⟩ := Int.eq_ofNat_of_zero_le h.1
  exact TL.tl_num n
theorem st_dg {x : Int} (h : Nn x) : DgL (tl (st x)) = true ∧ vL (tl (st x)) = x ∧ Ok 40 (st x) ∧ (32 : Nat) ∉ tl (st x) := by
  have hn : x.toNat < 10 ^ 40 := by
    have := h.big
    unfold Big at this
    have := h.1
    have e : x.natAbs = x.toNat := by omega
    rw [← e]
    exact h.big
  have hl : (TL.numL x.toNat).length ≤ 40 := TL.numL_len (by decide) hn
  have hd := TL.numL_digits x.toNat
  have d : DgL (tl (st x)) = true := by
    rw [st_tl h]
    refine DgL.of hd (TL.numL_ne _) hl fun h1 => numL_head _ fun z => ?_
    rw [z] at h1
    exact absurd h1 (by decide)
  refine ⟨d, ?_, ⟨by rw [st_tl h]; exact hl, fun c hc => ?_⟩, ?_⟩
  · unfold vL
    rw [if_neg (dg_head d), st_tl h, TL.numL_val]
    have := h.1
    omega
  · rw [st_tl h] at hc
    have := hd c hc
    omega
  · rw [st_tl h]
    exact TL.numL_free (.inl (by decide))
theorem Nn.st0 {x : Int} (h : Nn x) : st x = Str.ofString "0" ↔ x = 0 := by
  rw [eq_tl, z0]
  have := (dg_iff (nm_dg (st_dg h).1)).2
  rw [(st_dg h).2.1] at this
  exact this.symm
theorem words_W : ∀ {g : List Int}, (∀ x ∈ g, Nn x) → W (41 * g.length) (g.map st)
  | [], _ => ⟨Nat.le_refl _, fun w hw => nomatch hw⟩
  | x :: g, h => by
    have := (W.one (st_dg (h x List.mem_cons_self)).2.2.1).app (words_W fun y hy => h y (List.mem_cons_of_mem x hy))
    rw [List.length_cons, Nat.mul_add, Nat.add_comm]
    exact this
theorem mapO_st {g : List Int} (h : ∀ x ∈ g, Nn x) : mapO (fun x => strI x) g = some (g.map st) := mapO_some fun x hx => strI_of (h x hx).big
/-- the texts of a piece and of a round set -/
def T0 (g : List Int) : Str := Txt.join (Str.ofString " ") (g.map st)
def T1 (n : Int) (g : List Int) : Str := Txt.join (Str.ofString " ") (st n :: Str.ofString ":" :: g.map st)
theorem text0 {g : List Int} (h : ∀ x ∈ g, Nn x) (hl : g.length ≤ 1000) : ((mapO (fun x12 => strI x12) g).bind lim).bind (fun v17 => joinS (Str.ofString " ") v17) = some (T0 g) := by
  rw [mapO_st h, bind_s, lim_of (by rw [List.length_map]; omega), bind_s, joinS_of (words_W h) (by omega)]
  rfl
theorem rs_W {n : Int} {g : List Int} (hn : Nn n) (h : ∀ x ∈ g, Nn x) : W (43 + 41 * g.length) (st n :: Str.ofString ":" :: g.map st) := by
  have a := (W.one (st_dg hn).2.2.1).app ((W.one (Ok.of ":" 1)).app (words_W h))
  exact a.mono (by omega)
theorem text1 {n : Int} {g : List Int} (hn : Nn n) (h : ∀ x ∈ g, Nn x) (hl : g.length ≤ 1000) : ((((strI n).bind fun v21 => some (v21 :: ([(Str.ofString ":")] : (List Str)))).bind fun v28 => ((mapO (fun x23 => strI x23) g).bind lim).bind fun v29 => lim (v28 ++ v29)).bind fun v32 => joinS (Str.ofString " ") v32) = some (T1 n g) := by
  rw [strI_of hn.big, bind_s, bind_s, mapO_st h, bind_s, lim_of (by rw [List.length_map]; omega), bind_s, lim_of (by rw [List.length_append, List.length_map]; simp only [List.length_cons, List.length_nil]; omega), bind_s]
  exact joinS_of (rs_W hn h) (by omega)
theorem format0 {g : List Int} (h : ∀ x ∈ g, Nn x) (hl : g.length ≤ 1000) : f_format_piece g = some (T0 g) := text0 h hl
theorem format1 {n : Int} {g : List Int} (hn : Nn n) (h : ∀ x ∈ g, Nn x) (hl : g.length ≤ 1000) : f_format_round_set (n, g) = some (T1 n g) := text1 hn h hl
theorem join_split {ws : List Str} {n : Nat} (hW : W n ws) (hn : n ≤ 16000000) (h0 : ws ≠ []) (h : ∀ w ∈ ws, (32 : Nat) ∉ tl w) : splitS (Txt.join (Str.ofString " ") ws) (Str.ofString " ") = some ws := by
  rw [splitS_of (Nat.le_trans (joined_ok hW).len (by omega)), TL.split_join (s := 32) (S := []) tl_sp (by rw [sp]; simp) h0 h]
theorem wd_map {g : List Int} {k : Nat} (h : k < g.length) : wd (g.map st) k = st (g.getD k 0) := by
  unfold wd
  rw [List.getD_eq_getElem?_getD, List.getD_eq_getElem?_getD, List.getElem?_map, List.getElem?_eq_getElem h]
  rfl
theorem gd_mem {g : List Int} {k : Nat} (h : k < g.length) : g.getD k 0 ∈ g := by
  rw [List.getD_eq_getElem?_getD, List.getElem?_eq_getElem h]
  exact List.getElem_mem h
theorem asc_gd {g : List Int} (h : g.Pairwise (· < ·)) {k : Nat} (hk : k + 1 < g.length) : g.getD k 0 < g.getD (k + 1) 0 := by
  have := List.pairwise_iff_getElem.mp h k (k + 1) (by omega) hk (Nat.lt_succ_self k)
  rw [List.getD_eq_getElem?_getD, List.getD_eq_getElem?_getD, List.getElem?_eq_getElem (by omega), List.getElem?_eq_getElem hk]
  exact this
theorem map_gd (g : List Int) : (List.range g.length).map (fun k => g.getD k 0) = g := by
  refine List.ext_getElem (by simp) fun k h1 h2 => ?_
  simp only [List.getElem_map, List.getElem_range]
  rw [List.getD_eq_getElem?_getD, List.getElem?_eq_getElem h2]
  rfl
theorem find_no {p : Nat → Bool} {n : Nat} (h : ∀ k, k < n → p k = false) : (List.range n).find? p = none := List.find?_eq_none.mpr fun k hk => by rw [h k (List.mem_range.mp hk)]; exact Bool.false_ne_true
/-- a piece's text leads back -/
theorem back0 {g : List Int} (h : ∀ x ∈ g, Nn x) (hl : g.length ≤ 1000) (h0 : g ≠ []) (hz : g.getD 0 0 = 0) (hp : g.Pairwise (· < ·)) : f_parse_piece (T0 g) = some (.ok g) := by
  have hW := words_W h
  have ne : g.map st ≠ [] := fun z => h0 (List.map_eq_nil_iff.mp z)
  have hs := join_split hW (by omega) ne fun w hw => by
    obtain ⟨x, hx, rfl⟩ := List.mem_map.mp hw
    exact (st_dg (h x hx)).2.2.2
  have e := parse_piece_eq hs (N := 41 * g.length) (by omega) hW.ok (by rw [List.length_map]; omega)
  have nmk : ∀ k, k < g.length → nm (g.map st) k = true ∧ vl (g.map st) k = g.getD k 0 := fun k hk => by
    unfold nm vl
    rw [wd_map hk]
    have d := st_dg (h _ (gd_mem hk))
    exact ⟨nm_dg d.1, d.2.1⟩
  have ef : firstP (g.map st) = none := by
    unfold firstP
    refine find_no fun k hk => ?_
    rw [List.length_map] at hk
    unfold badP
    obtain ⟨n1, v1⟩ := nmk k hk
    rw [n1, show (!true) = false from rfl, Bool.false_or]
    cases k with
    | zero => rw [if_pos rfl, v1, hz]; rfl
    | succ k =>
      rw [if_neg (Nat.succ_ne_zero k), v1, Nat.add_sub_cancel, (nmk k (by omega)).2]
      have := asc_gd hp hk
      exact decide_eq_false (by omega)
  unfold T0
  rw [e, ef]
  unfold rz vals
  dsimp only
  rw [List.length_map]
  refine congrArg (fun z => some (Rz.ok z)) ?_
  conv => rhs; rw [← map_gd g]
  exact List.map_congr_left fun k hk => (nmk k (List.mem_range.mp hk)).2
theorem back1 {n : Int} {g : List Int} (hn : Nn n) (h1 : 1 ≤ n) (h : ∀ x ∈ g, Nn x ∧ x < n) (hl : g.length ≤ 1000) (hp : g.Pairwise (· < ·)) : f_parse_round_set (T1 n g) = some (.ok (n, g)) := by
  have hW := rs_W hn fun x hx => (h x hx).1
  have zc32 : (32 : Nat) ∉ tl (Str.ofString ":") := by rw [zc]; decide
  have hs := join_split hW (by omega) (by simp) fun w hw => by
    rcases List.mem_cons.mp hw with rfl | hw
    · exact (st_dg hn).2.2.2
    · rcases List.mem_cons.mp hw with rfl | hw
      · exact zc32
      · obtain ⟨x, hx, rfl⟩ := List.mem_map.mp hw
        exact (st_dg (h x hx).1).2.2.2
  have len : (st n :: Str.ofString ":" :: g.map st).length = g.length + 2 := by simp
  have e := parse_round_eq hs (N := 43 + 41 * g.length) (by omega) hW.ok (by rw [len]; omega) (by rw [len]; omega)
  have w0 : wd (st n :: Str.ofString ":" :: g.map st) 0 = st n := rfl
  have w1 : wd (st n :: Str.ofString ":" :: g.map st) 1 = Str.ofString ":" := rfl
  have w2 : ∀ k, k < g.length → wd (st n :: Str.ofString ":" :: g.map st) (k + 2) = st (g.getD k 0) := fun k hk => wd_map hk
  have v0 : vl (st n :: Str.ofString ":" :: g.map st) 0 = n := by unfold vl; rw [w0]; exact (st_dg hn).2.1
  have v2 : ∀ k, k < g.length → vl (st n :: Str.ofString ":" :: g.map st) (k + 2) = g.getD k 0 := fun k hk => by
    unfold vl
    rw [w2 k hk]
    exact (st_dg (h _ (gd_mem hk)).1).2.1
  have ef : firstR (st n :: Str.ofString ":" :: g.map st) = none := by
    unfold firstR
    refine find_no fun k hk => ?_
    rw [len] at hk
    cases k with
    | zero =>
      unfold badR dg
      rw [if_pos rfl, w0, (st_dg hn).1, decide_eq_true (show st n ≠ Str.ofString "0" from fun z => by have := hn.st0.mp z; omega)]
      rfl
    | succ k =>
      cases k with
      | zero =>
        unfold badR
        rw [if_neg (by decide), if_pos rfl, w1]
        exact decide_eq_false (not_not_intro rfl)
      | succ k =>
        have hk : k < g.length := by omega
        unfold badR dg
        rw [if_neg (by omega), if_neg (by omega), w2 k hk, (st_dg (h _ (gd_mem hk)).1).1, v0, v2 k hk, decide_eq_false (show ¬ n ≤ g.getD k 0 by have := (h _ (gd_mem hk)).2; omega)]
        cases k with
        | zero => rfl
        | succ k =>
          rw [show k + 1 + 1 + 1 - 1 = k + 2 by omega, v2 k (by omega), decide_eq_false (show ¬ g.getD (k + 1) 0 ≤ g.getD k 0 by have := asc_gd hp hk; omega), Bool.and_false]
          rfl
  have el : lawR (st n :: Str.ofString ":" :: g.map st) = none := by
    unfold lawR
    rw [ef]
    dsimp only
    rw [if_neg (by rw [len]; omega)]
  unfold T1
  rw [e, el, v0, len, Nat.add_sub_cancel]
  unfold rz
  dsimp only
  refine congrArg (fun z => some (Rz.ok (n, z))) ?_
  unfold vals2
  conv => rhs; rw [← map_gd g]
  refine List.map_congr_left fun k hk => ?_
  rw [Nat.add_comm 2 k]
  exact v2 k (List.mem_range.mp hk)
end L2.DL.K89

namespace L2.DL.K89
open PySem PySem.Spec PyProof.Rows
theorem law_cell_eq {ds : List Int} (h : ds.length = 60 ∧ Drawn ds) {k : Int} (h0 : 0 ≤ k) : ∃ v, f_law_cell ds k = some v ∧ 0 ≤ v ∧ v < 1000003 := by
  unfold f_law_cell
  by_cases hk : k < (ds.length : Int)
  · rw [if_pos (decide_eq_true hk)]
    exact draw_at h k h0 (by rw [h.1] at hk; exact hk)
  · rw [if_neg (fun q => hk (of_decide_eq_true q)), h.1]
    obtain ⟨v, e, b⟩ := draw_at h (k % 60) (by omega) (by omega)
    obtain ⟨u, e', b'⟩ := draw_at h (7 * k % 60) (by omega) (by omega)
    rw [modP_of (by decide), modP_of (by decide), bind_s, bind_s]
    simp only [Int.cast_ofNat_Int]
    rw [e, e', bind_s, bind_s, bind_s, bind_s, bind_s, bind_s]
    exact ⟨_, rfl, by omega, by omega⟩
theorem sub_len : ∀ {a b : List Int}, a.Nodup → (∀ x ∈ a, x ∈ b) → a.length ≤ b.length
  | [], _, _, _ => Nat.zero_le _
  | x :: a, b, h1, h2 => by
    obtain ⟨n1, n2⟩ := List.nodup_cons.mp h1
    have hx := h2 x List.mem_cons_self
    have := sub_len (b := b.erase x) n2 fun y hy => (List.mem_erase_of_ne fun e => n1 (by rw [← e]; exact hy)).mpr (h2 y (List.mem_cons_of_mem _ hy))
    rw [List.length_erase_of_mem hx] at this
    have : 0 < b.length := List.length_pos_of_mem hx
    rw [List.length_cons]
    omega
theorem sortSet_ok {s : List Int} (h : s.length ≤ 4000) : Rets (sortSetL s) fun g => g.Pairwise (· < ·) ∧ (∀ x, x ∈ g ↔ x ∈ s) ∧ g.length ≤ s.length := by
  rw [show sortSetL s = some (sortS s) by unfold sortSetL; rw [if_pos h]]
  obtain ⟨p, q⟩ := sortS_spec s
  exact .pure ⟨p, q, sub_len (p.imp fun h => by omega) fun x hx => (q x).mp hx⟩
/-- a piece -/
def Pc (m : Int) (g : List Int) : Prop := g.Pairwise (· < ·) ∧ (0 : Int) ∈ g ∧ (∀ x ∈ g, 0 ≤ x ∧ x < m) ∧ g.length ≤ 8
theorem piece_ok {ds : List Int} (hd : ds.length = 60 ∧ Drawn ds) {many : Int} (h1 : 1 ≤ many) (h2 : many ≤ 8) : Rets (f_law_some_piece ds 20 many 60) (Pc 61) := by
  unfold f_law_some_piece
  rw [bind_s]
  refine .bind (Q := fun s => s.length ≤ 8 ∧ (0 : Int) ∈ s ∧ ∀ x ∈ s, 0 ≤ x ∧ x < 61) ((Rets.range (fun k s => s.length ≤ k + 1 ∧ (0 : Int) ∈ s ∧ ∀ x ∈ s, 0 ≤ x ∧ x < 61) (n := many - 1) (by omega) (by omega) ⟨by simp, by simp, fun x hx => by rw [List.mem_singleton.mp hx]; omega⟩ fun k s hk hs => ?_).mono fun s h => ⟨by have := h.1; omega, h.2⟩) fun s hs => ?_
  · obtain ⟨v, e, p⟩ := law_cell_eq hd (k := 20 + (k : Int)) (by omega)
    have hl := hs.1
    rw [e, bind_s, modP_of (by decide), bind_s, bind_s, lim_of (by rw [List.length_append, List.length_singleton]; omega), bind_s]
    refine .pure ⟨by rw [List.length_append, List.length_singleton]; omega, List.mem_append_left _ hs.2.1, fun x hx => ?_⟩
    rcases List.mem_append.mp hx with hx | hx
    · exact hs.2.2 x hx
    · rw [List.mem_singleton.mp hx]
      omega
  · obtain ⟨h0, h3, h4⟩ := hs
    exact (sortSet_ok (by omega)).mono fun g ⟨p, q, l⟩ => ⟨p, (q 0).mpr h3, fun x hx => h4 x ((q x).mp hx), by omega⟩
theorem times_pc {g : List Int} {c : Int} (h : Pc 61 g) (h0 : 1 ≤ c) (h1 : c ≤ 1000000000) : Rets ((mapO (fun x => mulP x c) g).bind lim) (Pc 100000000000) := by
  obtain ⟨p, z, b, l⟩ := h
  rw [mapO_some (g := fun x => x * c) fun x hx => by have := b x hx; exact mulP_of (by omega) (by omega), bind_s, lim_of (by rw [List.length_map]; omega)]
  refine .pure ⟨?_, ?_, fun y hy => ?_, by rw [List.length_map]; exact l⟩
  · rw [List.pairwise_map]
    refine p.imp fun {a b} h => ?_
    exact Int.mul_lt_mul_of_pos_right h (by omega)
  · exact List.mem_map.mpr ⟨0, z, Int.zero_mul c⟩
  · obtain ⟨x, hx, rfl⟩ := List.mem_map.mp hy
    have := b x hx
    refine ⟨Int.mul_nonneg this.1 (by omega), ?_⟩
    have : x * c ≤ 60 * 1000000000 := Int.mul_le_mul (by omega) h1 (by omega) (by omega)
    omega
theorem digits_ok {ds : List Int} (hd : ds.length = 60 ∧ Drawn ds) {m : Int} (h1 : 1 ≤ m) (h2 : m ≤ 40) : Rets (f_law_digits ds 40 m) fun v => 0 ≤ v := by
  unfold f_law_digits
  rw [bind_s]
  refine .bind (Q := fun s : Int => 0 ≤ s) ((Rets.range (fun _ s => (0 : Int) ≤ s) (n := 7) (by decide) (by decide) (by decide) fun k s hk hs => ?_).mono fun s h => h) fun s hs => ?_
  · obtain ⟨v, e, p⟩ := law_cell_eq hd (k := 40 + (k : Int)) (by omega)
    rw [e, bind_s, bind_s]
    exact .pure (by have := Int.mul_nonneg hs (show (0 : Int) ≤ 1000003 by decide); omega)
  · refine .bind (Q := fun s : Int => 0 ≤ s) ((Rets.range (fun _ s => (0 : Int) ≤ s) (n := 41 - m) (by omega) (by omega) hs fun k s hk hs => ?_).mono fun s h => h) fun s hs => ?_
    · rw [bind_s]
      exact .pure (by omega)
    · rw [modP_of (by decide +kernel)]
      exact .pure (Int.emod_nonneg _ (by decide +kernel))
def Wld (z : List Int × Int × List Int) : Prop := Pc (10 ^ 40) z.1 ∧ (1 ≤ z.2.1 ∧ z.2.1 < 10 ^ 40) ∧ z.2.2.Pairwise (· < ·) ∧ (∀ x ∈ z.2.2, 0 ≤ x ∧ x < z.2.1) ∧ z.2.2.length ≤ 8
theorem Pc.mono {m k : Int} {g : List Int} (h : Pc m g) (hk : m ≤ k) : Pc k g := ⟨h.1, h.2.1, fun x hx => by have := h.2.2.1 x hx; omega, h.2.2.2⟩
theorem p40 : (10 : Int) ^ 40 = 10000000000000000000000000000000000000000 := by decide +kernel
theorem worlds_ok {ds : List Int} (hd : ds.length = 60 ∧ Drawn ds) : Rets (f_law_worlds ds) Wld := by
  unfold f_law_worlds
  obtain ⟨x0, e0, p0⟩ := draw_at hd 0 (by decide) (by decide)
  obtain ⟨x1, e1, p1⟩ := draw_at hd 1 (by decide) (by decide)
  obtain ⟨x2, e2, p2⟩ := draw_at hd 2 (by decide) (by decide)
  obtain ⟨x8, e8, p8⟩ := draw_at hd 8 (by decide) (by decide)
  obtain ⟨x9, e9, p9⟩ := draw_at hd 9 (by decide) (by decide)
  obtain ⟨x10, e10, p10⟩ := draw_at hd 10 (by decide) (by decide)
  rw [e0, e1, e2, e8, e9, e10]
  simp only [bind_s]
  refine .bind (piece_ok hd (by omega) (by omega)) fun g1 hg1 => ?_
  refine .bind (Q := fun s : List Int × Int => Pc 100000000000 s.1 ∧ 1 ≤ s.2 ∧ s.2 ≤ 1000000) (.ite (fun _ => ?_) fun _ => .pure ⟨hg1.mono (by decide), by omega, by omega⟩) fun s hs => ?_
  · rw [modP_of (by decide)]
    simp only [bind_s]
    refine .bind (times_pc hg1 (by omega) (by omega)) fun g2 hg2 => ?_
    rw [modP_of (by decide)]
    simp only [bind_s]
    exact .pure ⟨hg2, by omega, by omega⟩
  refine .bind (Q := fun s : List Int × Int => Pc (10 ^ 40) s.1 ∧ 1 ≤ s.2 ∧ s.2 < 10 ^ 40) (.ite (fun _ => ?_) fun _ => .pure ⟨hs.1.mono (by rw [p40]; decide), hs.2.1, by rw [p40]; have := hs.2.2; omega⟩) fun s2 hs2 => ?_
  · refine .bind (digits_ok hd (by omega) (by omega)) fun big hb => ?_
    rw [modP_of (by decide)]
    simp only [bind_s]
    have m0 : 0 ≤ big % (10000000000000000000000000000000000000000 - 2) := Int.emod_nonneg _ (by decide)
    have m1 : big % (10000000000000000000000000000000000000000 - 2) < 10000000000000000000000000000000000000000 - 2 := Int.emod_lt_of_pos _ (by decide)
    refine .bind (Q := Pc (10 ^ 40)) ((sortSet_ok (by simp)).mono fun g ⟨p, q, l⟩ => ⟨p, (q 0).mpr (by simp), fun x hx => ?_, Nat.le_trans l (by simp)⟩) fun g3 hg3 => ?_
    · have := (q x).mp hx
      simp only [List.mem_cons, List.not_mem_nil, or_false] at this
      rw [p40]
      omega
    · exact .pure ⟨hg3, by omega, by rw [p40]; omega⟩
  · obtain ⟨piece, n⟩ := s2
    obtain ⟨h1, h2, h3⟩ := hs2
    dsimp only at h1 h2 h3 ⊢
    obtain ⟨j, hj⟩ := Int.eq_ofNat_of_zero_le (show 0 ≤ x10 % 9 by omega)
    rw [hj, rangeP_nats (by omega), bind_s]
    obtain ⟨f, hf⟩ : ∃ f : Int → Int, ∀ x : Int, 0 ≤ x → ((f_law_cell ds ((30 : Int) + x)).bind fun v121 => some (v121 * 7919)).bind (fun v124 => modP v124 n) = some (f x) ∧ 0 ≤ f x ∧ f x < n := by
      have hc : ∀ x : Int, ∃ v : Int, 0 ≤ x → ((f_law_cell ds ((30 : Int) + x)).bind fun v121 => some (v121 * 7919)).bind (fun v124 => modP v124 n) = some v ∧ 0 ≤ v ∧ v < n := fun x => by
        by_cases hx : 0 ≤ x
        · obtain ⟨v, e, _⟩ := law_cell_eq hd (k := 30 + x) (by omega)
          refine ⟨v * 7919 % n, fun _ => ⟨?_, Int.emod_nonneg _ (by omega), Int.emod_lt_of_pos _ (by omega)⟩⟩
          rw [e, bind_s, bind_s, modP_of (by omega)]
        · exact ⟨0, fun a => absurd a hx⟩
      exact ⟨fun x => (hc x).choose, fun x => (hc x).choose_spec⟩
    rw [mapO_some (g := f) fun x hx => (hf x (mem_nats hx).1).1, bind_s, lim_of (by rw [List.length_map, nats_len]; omega), bind_s]
    refine .bind (sortSet_ok (by rw [List.length_map, nats_len]; omega)) fun ps ⟨p, q, l⟩ => .pure ⟨h1, ⟨h2, h3⟩, p, fun x hx => ?_, by rw [List.length_map, nats_len] at l; show ps.length ≤ 8; omega⟩
    obtain ⟨y, hy, rfl⟩ := List.mem_map.mp ((q x).mp hx)
    exact (hf y (mem_nats hy).1).2
theorem words_4 : ∀ {g : List Int}, (∀ x ∈ g, 0 ≤ x ∧ x < 10000) → W (5 * g.length) (g.map st)
  | [], _ => ⟨Nat.le_refl _, fun w hw => nomatch hw⟩
  | x :: g, h => by
    have hx := h x List.mem_cons_self
    have nx : Nn x := ⟨hx.1, by rw [p40]; omega⟩
    have o : Ok 4 (st x) := ⟨by rw [st_tl nx]; exact TL.numL_len (by decide) (by omega), (st_dg nx).2.2.1.2⟩
    have := (W.one o).app (words_4 fun y hy => h y (List.mem_cons_of_mem x hy))
    rw [List.length_cons, Nat.mul_add, Nat.add_comm]
    exact this
theorem T1_eq {n : Int} {g : List Int} (h0 : g ≠ []) : T1 n g = (st n ++ Str.ofString " : ") ++ T0 g := by
  refine tl_inj ?_
  unfold T1 T0
  rw [tl_joined]
  show _ = TL.tl _
  rw [TL.tl_append, TL.tl_append]
  have e : TL.tl (Str.ofString " : ") = [32, 58, 32] := by rw [TL.tl_ofString]; decide
  have e2 : TL.tl (Txt.join (Str.ofString " ") (g.map st)) = TL.joinL [32] ((g.map st).map tl) := tl_joined _
  rw [e, e2]
  cases g with
  | nil => exact absurd rfl h0
  | cons x g =>
    rw [List.map_cons, List.map_cons, List.map_cons, List.map_cons, zc]
    show TL.tl (st n) ++ ([32] ++ ([58] ++ ([32] ++ _))) = _
    simp only [List.append_assoc, List.cons_append, List.nil_append]
theorem add_of {x y : Str} (h : x.length + y.length ≤ 16777216) : addS x y = some (x ++ y) := by rw [addS_def, if_pos h]
theorem long_ok {ds : List Int} (hd : ds.length = 60 ∧ Drawn ds) : f_law_long ds = some true := by
  unfold f_law_long
  obtain ⟨x12, e12, p12⟩ := draw_at hd 12 (by decide) (by decide)
  obtain ⟨x13, e13, p13⟩ := draw_at hd 13 (by decide) (by decide)
  obtain ⟨x14, e14, p14⟩ := draw_at hd 14 (by decide) (by decide)
  rw [e12, e13, e14]
  simp only [bind_s]
  rw [show rangeP 0 (200 : Int) = some (nats 200) from rangeP_nats (n := 200) (by decide), bind_s, mapO_some (g := fun x => x * (1 + x12 % 50)) fun x hx => by have := mem_nats hx; exact mulP_of (by omega) (by omega), bind_s, lim_of (by rw [List.length_map, nats_len]; decide), bind_s]
  have hc0 : 1 ≤ 1 + x12 % 50 := by omega
  have hc1 : 1 + x12 % 50 ≤ 50 := by omega
  generalize hc : 1 + x12 % 50 = c at hc0 hc1
  generalize hg : (nats 200).map (fun x => x * c) = g
  have gl : g.length = 200 := by rw [← hg, List.length_map, nats_len]
  have gb : ∀ x ∈ g, 0 ≤ x ∧ x < 10000 := fun x hx => by
    rw [← hg] at hx
    obtain ⟨y, hy, rfl⟩ := List.mem_map.mp hx
    have := mem_nats hy
    refine ⟨Int.mul_nonneg this.1 (by omega), ?_⟩
    have : y * c ≤ 199 * 50 := Int.mul_le_mul (by omega) hc1 (by omega) (by omega)
    omega
  have gn : ∀ x ∈ g, Nn x := fun x hx => ⟨(gb x hx).1, by rw [p40]; have := (gb x hx).2; omega⟩
  have gW : W 1000 (g.map st) := (words_4 gb).mono (by omega)
  have g0 : g ≠ [] := fun z => by rw [z] at gl; cases gl
  rw [mapO_st gn, bind_s, lim_of (by rw [List.length_map]; omega), bind_s]
  have a199 : atI g (199 : Int) = some (g.getD 199 0) := by
    rw [show (199 : Int) = ((199 : Nat) : Int) from rfl, atI_nat (by omega), List.getD_eq_getElem?_getD, List.getElem?_eq_getElem (by omega)]
    rfl
  rw [a199, bind_s, bind_s, bind_s]
  have b199 := gb _ (gd_mem (g := g) (k := 199) (by omega))
  have nn : Nn (g.getD 199 0 + 1 + x14 % 9) := ⟨by omega, by rw [p40]; omega⟩
  generalize g.getD 199 0 + 1 + x14 % 9 = n at nn
  have jn : joinS (Str.ofString " ") (g.map st) = some (T0 g) := joinS_of gW (by decide)
  have o0 : Ok 1000 (T0 g) := joined_ok gW
  have on : Ok 40 (st n) := (st_dg nn).2.2.1
  have l0 := o0.len
  have ln := on.len
  have o3 : Ok 43 (st n ++ Str.ofString " : ") := on.add (Ok.of " : " 3)
  have l3 := o3.len
  rw [format0 gn (by omega), bind_s, jn, bind_s, decide_eq_false (not_not_intro rfl), bind_s, if_ft, format1 nn gn (by omega), bind_s, strI_of nn.big, bind_s, add_of (by have := (Ok.of " : " 3).len; omega), bind_s, bind_s, add_of (by omega), bind_s, ← T1_eq g0, decide_eq_false (not_not_intro rfl), bind_s, if_ft]
  obtain ⟨a, ha⟩ := Int.eq_ofNat_of_zero_le (show 0 ≤ 100 + x13 % 100 by omega)
  have ha2 : 100 ≤ a ∧ a < 200 := by omega
  rw [ha]
  have wa : ∀ k : Nat, k < 200 → atI (g.map st) (k : Int) = some (st (g.getD k 0)) := fun (k : Nat) hk => by
    rw [at_w (by rw [List.length_map]; omega), wd_map (by omega)]
  have da : atI g (a : Int) = some (g.getD a 0) := by
    rw [atI_nat (by omega), List.getD_eq_getElem?_getD, List.getElem?_eq_getElem (by omega)]
    rfl
  have ba := gb _ (gd_mem (g := g) (k := a) (by omega))
  have na : Nn (g.getD a 0 + 1 + x12 % 50) := ⟨by omega, by rw [p40]; omega⟩
  rw [wa a (by omega), show (a : Int) - 1 = ((a - 1 : Nat) : Int) by omega, wa (a - 1) (by omega), da]
  simp only [bind_s]
  rw [strI_of na.big]
  simp only [bind_s]
  have os : ∀ x, Nn x → Ok 41 (st x) := fun x h => (st_dg h).2.2.1.mono (by decide)
  rw [N.hit_loop (g := fun _ => false) (r := fun _ => false) fun w hw => by
    have ow : Ok 41 w := by
      simp only [List.mem_cons, List.not_mem_nil, or_false] at hw
      rcases hw with rfl | rfl | rfl | rfl | rfl | rfl | rfl
      · exact os _ (gn _ (gd_mem (by omega)))
      · exact os _ (gn _ (gd_mem (by omega)))
      · exact of41 "-1"
      · exact of41 "x"
      · exact of41 ""
      · exact os _ nn
      · exact os _ na
    obtain ⟨v, ev, hv⟩ := with_ok gW ow (k := a) (by decide)
    have jv := joinS_of hv (by decide)
    have ov := joined_ok hv
    have lv := ov.len
    rw [ev, bind_s, jv, bind_s, (reads_ok (ov.mono (by decide))).1, map_s, bind_s, show (!true) = false from rfl, if_ft, add_of (by omega), bind_s, (reads_ok ((o3.add ov).mono (by decide))).2, map_s, bind_s]
    rfl]
  have : ∀ l : List Str, l.find? (fun _ => false) = none := fun l => List.find?_eq_none.mpr fun _ _ => Bool.false_ne_true
  rw [this]
  exact ret_nx
theorem asc_last {g : List Int} (hp : g.Pairwise (· < ·)) (h0 : g ≠ []) : ∃ z, atI g (-(1 : Int)) = some z := by
  have hl : 0 < g.length := List.length_pos_iff.mpr h0
  refine ⟨g[g.length - 1], ?_⟩
  unfold atI ixN
  rw [if_neg (by omega), if_pos (by omega), bind_s, show (-(1 : Int) + (g.length : Int)).toNat = g.length - 1 by omega, List.getElem?_eq_getElem (by omega)]
theorem first_zero {m : Int} {g : List Int} (h : Pc m g) : g.getD 0 0 = 0 := by
  obtain ⟨p, z, b, _⟩ := h
  cases g with
  | nil => exact nomatch z
  | cons x g =>
    show x = 0
    rcases List.mem_cons.mp z with z | z
    · exact z.symm
    · have := (List.pairwise_cons.mp p).1 0 z
      have := (b x List.mem_cons_self).1
      omega
theorem plain_law (ns : List Int) (hl : ns.length ≤ 63) : f_law ⟨ns⟩ = some true := by
  refine Rets.get ?_
  unfold f_law
  rw [e_draws]
  refine .bind (drawsP_ok (many := 60) (by decide)) fun ds hd => ?_
  refine .bind (worlds_ok hd) fun z hz => ?_
  obtain ⟨g, n, ps⟩ := z
  obtain ⟨hg, ⟨n1, n2⟩, pp, pb, plen⟩ := hz
  dsimp only at hg n1 n2 pp pb plen ⊢
  have gn : ∀ x ∈ g, Nn x := fun x hx => hg.2.2.1 x hx
  have nn : Nn n := ⟨by omega, n2⟩
  have pn : ∀ x ∈ ps, Nn x := fun x hx => ⟨(pb x hx).1, by have := (pb x hx).2; omega⟩
  have gl : g.length ≤ 8 := hg.2.2.2
  have g0 : g ≠ [] := fun z => by have := hg.2.1; rw [z] at this; cases this
  have ok0 : Ok 400 (T0 g) := (joined_ok (words_W gn)).mono (by omega)
  have ok1 : Ok 400 (T1 n ps) := (joined_ok (rs_W nn pn)).mono (by omega)
  rw [bind_s, text0 gn (by omega), bind_s, text1 nn pn (by omega), bind_s, bind_s, bind_s, bind_s]
  obtain ⟨zl, ez⟩ := asc_last hg.1 g0
  rw [ez, bind_s, bind_s]
  have nearB : ∃ b, (if (decide (zl ≤ (1000000000000 : Int))) = true then some (decide (n ≤ (1000000 : Int))) else some false) = some b := by
    split
    · exact ⟨_, rfl⟩
    · exact ⟨_, rfl⟩
  obtain ⟨near, en⟩ := nearB
  rw [en, bind_s]
  have er : ∀ l : List Str, l = [T0 g, T1 n ps] → ∀ s ∈ l, PyData.strOk s = true := fun l hl s hs => by
    rw [hl] at hs
    simp only [List.mem_cons, List.not_mem_nil, or_false] at hs
    rcases hs with rfl | rfl
    · exact ok0.str
    · exact ok1.str
  have at0 : ∀ {α : Type} (x y : α), atI [x, y] (0 : Int) = some x := fun x y => rfl
  have at1 : ∀ {α : Type} (x y : α), atI [x, y] (1 : Int) = some y := fun x y => rfl
  refine .bind (Q := fun l => l = [T0 g, T1 n ps]) (.ite (fun _ => ?_) fun _ => .pure rfl) fun l hl => ?_
  · rw [at0, at1, bind_s, bind_s, un_ints, un_pair, bind_s, bind_s, format0 gn (by omega), format1 nn pn (by omega), bind_s, bind_s, bind_s, bind_s]
    exact .pure rfl
  subst hl
  have c1 : (if near = true then ((eqD (rp [T0 g, T1 n ps]) (rp [T0 g, T1 n ps])).map fun b => !b).bind fun b81 => if b81 = true then some true else ((eqD (rp ([(rp g), (rp (n, ps))] : (List Dt))) (rp ([(rp g), (rp (n, ps))] : (List Dt)))).map fun b => !b).bind fun b80 => if b80 = true then some true else (((atI [T0 g, T1 n ps] (0 : Int)).bind fun v74 => some true).map fun b => !b).bind fun b79 => if b79 = true then some true else ((atI [T0 g, T1 n ps] (1 : Int)).bind fun v78 => some true).map fun b => !b else some false) = some false := by
    cases near with
    | false => rfl
    | true =>
      rw [if_tt, eqD_strs (er _ rfl) (er _ rfl), eqD_two (x := g) (y := (n, ps)) (by decide) (by decide), at0, at1, decide_eq_true rfl]
      rfl
  rw [c1, bind_s, if_ft]
  have bend : ∀ t, Ok 400 t → ∃ l, f_law_bent t ds = some l ∧ (forL (T := Unit) (R := Bool) (fun (s87 : Unit) (other_88 : Str) =>
 (((f_law_piece_reads other_88).map fun b => !b).bind fun b89 => if b89 = true then some true else (f_law_round_reads other_88).map fun b => !b).bind fun b90 => (if b90 = true then
 some (.rt false)
else
 some (.nx ()))) l ()) = some (.nx ()) := fun t ht => by
    obtain ⟨l, e, h⟩ := bent_ok hd ht
    refine ⟨l, e, ?_⟩
    rw [N.hit_loop (g := fun _ => false) (r := fun _ => false) fun w hw => by
      obtain ⟨r1, r2⟩ := reads_ok (h w hw)
      rw [r1, r2]
      rfl]
    have : ∀ l : List Str, l.find? (fun _ => false) = none := fun l => List.find?_eq_none.mpr fun _ _ => Bool.false_ne_true
    rw [this]
  rw [N.hit_loop (g := fun _ => false) (r := fun _ => false) fun w hw => by
    have ow : Ok 400 w := by
      simp only [List.mem_cons, List.not_mem_nil, or_false] at hw
      rcases hw with rfl | rfl
      · exact ok0
      · exact ok1
    obtain ⟨l, e, h⟩ := bend w ow
    rw [e, bind_s, h]
    rfl]
  have : ∀ l : List Str, l.find? (fun _ => false) = none := fun l => List.find?_eq_none.mpr fun _ _ => Bool.false_ne_true
  rw [this, ret_nx]
  have big : ∀ x ∈ g, Big x := fun x hx => (gn x hx).big
  have pbig : ∀ x ∈ ps, Big x := fun x hx => (pn x hx).big
  obtain ⟨s0, r0⟩ := repr_bigs big (by omega)
  obtain ⟨s1, r1⟩ := repr_bpair nn.big pbig (by omega)
  have b0 : (some (T0 g)).bind f_parse_piece = some (.ok g) := back0 gn (by omega) g0 (first_zero hg) hg.1
  have b1 : (some (T1 n ps)).bind f_parse_round_set = some (.ok (n, ps)) := back1 nn n1 (fun x hx => ⟨pn x hx, (pb x hx).2⟩) (by omega) pp
  obtain ⟨x11, e11, p11⟩ := draw_at hd 11 (by decide) (by decide)
  rw [at0, at1, b0, b1]
  have v0 : (some (Rz.ok g)).bind Rz.val = some g := rfl
  have v1 : (some (Rz.ok (n, ps))).bind Rz.val = some (n, ps) := rfl
  rw [v0, v1, bind_s, bind_s, r0, r1, bind_s, bind_s, decide_eq_false (not_not_intro rfl), bind_s, if_ft, bind_s, bind_s, decide_eq_false (not_not_intro rfl), bind_s, if_ft, e11, bind_s, bind_s, long_ok hd, map_s, bind_s]
  have c2 : (if decide (x11 % 32 = 5) = true then some (!true) else some false) = some false := by split <;> rfl
  rw [c2, bind_s, if_ft, bind_s, bind_s, (reads_ok (ok0.mono (by decide))).1, (reads_ok (ok1.mono (by decide))).2, bind_s, if_tt]
  exact .pure rfl
end L2.DL.K89

namespace L2.DL.K89
open PySem PySem.Spec PyProof.Rows
/-! ### the walks -/
structure TxC (P : Program) (K : PySem.W.Frag) (mg : Str → Option Value) where
  c_DayError : GA mg "DayError"
  c_InvalidDeed : GA mg "InvalidDeed"
  c_InvalidSign : GA mg "InvalidSign"
  c_InvalidText : GA mg "InvalidText"
  I_InvalidText : Addr
  o_InvalidText : PySem.OwnX.OwnTxt P K mg "InvalidText" "at" c_InvalidText.a I_InvalidText
  e_InvalidText : ExcC K c_InvalidText.a
  x_InvalidText_InvalidText : PySem.W.exmOne K (.ref c_InvalidText.a) (.ref c_InvalidText.a) = some true
  k_InvalidText_DayError : PySem.W.kitOne K (.ref c_InvalidText.a) (.ref c_DayError.a) = some true
  k_InvalidText_InvalidDeed : PySem.W.kitOne K (.ref c_InvalidText.a) (.ref c_InvalidDeed.a) = some false
  k_InvalidText_InvalidSign : PySem.W.kitOne K (.ref c_InvalidText.a) (.ref c_InvalidSign.a) = some false
  k_InvalidText_ValueError : PySem.W.kitOne K (.ref c_InvalidText.a) (.type "ValueError") = some true
def mkC {P : Program} {K : PySem.W.Frag} {mg : Str → Option Value} {A_DayError A_InvalidDeed A_InvalidSign A_InvalidText I_InvalidText : Addr} (g_DayError : mg "DayError" = some (.ref A_DayError)) (g_InvalidDeed : mg "InvalidDeed" = some (.ref A_InvalidDeed)) (g_InvalidSign : mg "InvalidSign" = some (.ref A_InvalidSign)) (g_InvalidText : mg "InvalidText" = some (.ref A_InvalidText)) (o_InvalidText : PySem.OwnX.OwnTxt P K mg "InvalidText" "at" A_InvalidText I_InvalidText) (e_InvalidText : ExcC K A_InvalidText) (x_InvalidText_InvalidText : PySem.W.exmOne K (.ref A_InvalidText) (.ref A_InvalidText) = some true) (k_InvalidText_DayError : PySem.W.kitOne K (.ref A_InvalidText) (.ref A_DayError) = some true) (k_InvalidText_InvalidDeed : PySem.W.kitOne K (.ref A_InvalidText) (.ref A_InvalidDeed) = some false) (k_InvalidText_InvalidSign : PySem.W.kitOne K (.ref A_InvalidText) (.ref A_InvalidSign) = some false) (k_InvalidText_ValueError : PySem.W.kitOne K (.ref A_InvalidText) (.type "ValueError") = some true) : TxC P K mg := { c_DayError := ⟨A_DayError, g_DayError⟩, c_InvalidDeed := ⟨A_InvalidDeed, g_InvalidDeed⟩, c_InvalidSign := ⟨A_InvalidSign, g_InvalidSign⟩, c_InvalidText := ⟨A_InvalidText, g_InvalidText⟩, I_InvalidText := I_InvalidText, o_InvalidText := o_InvalidText, e_InvalidText := e_InvalidText, x_InvalidText_InvalidText := x_InvalidText_InvalidText, k_InvalidText_DayError := k_InvalidText_DayError, k_InvalidText_InvalidDeed := k_InvalidText_InvalidDeed, k_InvalidText_InvalidSign := k_InvalidText_InvalidSign, k_InvalidText_ValueError := k_InvalidText_ValueError }
structure Tx (P : Program) (K : PySem.W.Frag) (mg : Str → Option Value) extends TxC P K mg where
  f_law_with : DefAt K mg "_law_with" st_law_with ["line", "at", "item"]
  f_law_bent : DefAt K mg "_law_bent" st_law_bent ["text", "draws"]
  f_law_draws : DefAt K mg "_law_draws" st_law_draws ["script", "many"]
  f_law_is_number : DefAt K mg "_law_is_number" st_law_is_number ["value"]
  f_law_is_numeral : DefAt K mg "_law_is_numeral" st_law_is_numeral ["word"]
  f_law_read_piece : DefAt K mg "_law_read_piece" st_law_read_piece ["text"]
  f_is_digits : DefAt K mg "is_digits" st_is_digits ["word"]
  f_is_numeral : DefAt K mg "is_numeral" st_is_numeral ["word"]
  f_can_follow : DefAt K mg "can_follow" st_can_follow ["words", "at"]
  f_numbers_of : DefAt K mg "numbers_of" st_numbers_of ["words"]
  f_parse_piece : DefAt K mg "parse_piece" st_parse_piece ["text"]
  f_law_piece_reads : DefAt K mg "_law_piece_reads" st_law_piece_reads ["text"]
  f_law_read_round : DefAt K mg "_law_read_round" st_law_read_round ["text"]
  f_can_stand : DefAt K mg "can_stand" st_can_stand ["words", "at"]
  f_parse_round_set : DefAt K mg "parse_round_set" st_parse_round_set ["text"]
  f_law_round_reads : DefAt K mg "_law_round_reads" st_law_round_reads ["text"]
  f_joined_numbers : DefAt K mg "joined_numbers" st_joined_numbers ["numbers"]
  f_format_piece : DefAt K mg "format_piece" st_format_piece ["piece"]
  f_format_round_set : DefAt K mg "format_round_set" st_format_round_set ["days"]
  f_law_long : DefAt K mg "_law_long" st_law_long ["draws"]
  f_law_cell : DefAt K mg "_law_cell" st_law_cell ["draws", "k"]
  f_law_digits : DefAt K mg "_law_digits" st_law_digits ["draws", "at", "most"]
  f_law_some_piece : DefAt K mg "_law_some_piece" st_law_some_piece ["draws", "at", "many", "most"]
  f_law_worlds : DefAt K mg "_law_worlds" st_law_worlds ["draws"]
  f_law : DefAt K mg "law" st_law ["script"]
  v_DIGITS : GS mg "DIGITS" (Str.ofString "0123456789")
  v_MOST_DIGITS : GI mg "MOST_DIGITS" 40
  n_ValueError : mg "ValueError" = none
  n_abs : mg "abs" = none
  n_bool : mg "bool" = none
  n_int : mg "int" = none
  n_isinstance : mg "isinstance" = none
  n_len : mg "len" = none
  n_list : mg "list" = none
  n_range : mg "range" = none
  n_repr : mg "repr" = none
  n_set : mg "set" = none
  n_sorted : mg "sorted" = none
  n_str : mg "str" = none
section
variable {P : Program} {w : World} {K : PySem.W.Frag} {mg : Str → Option Value} {base : Heap}
def Tx.ct (T : Tx P K mg) : Ct := ⟨fun _ => T.c_InvalidText.a, fldT⟩
theorem Tx.xf (T : Tx P K mg) : ∀ c, XfC K (T.ct.a c)
   | _ => xfc_mk T.o_InvalidText.toClsTxt
theorem Tx.ec (T : Tx P K mg) : ∀ c, ExcC K (T.ct.a c)
   | _ => T.e_InvalidText
theorem Tx.nf_at (T : Tx P K mg) : ∀ c, T.ct.f c = "at" → PySem.W.findIn K (.ref (T.ct.a c)) "at" = some none
   | _ => fun _ => T.o_InvalidText.noN
theorem Tx.x_InvalidText (T : Tx P K mg) : ∀ c, PySem.W.exmOne K (.ref (T.ct.a c)) (.ref T.c_InvalidText.a) = some (catch_InvalidText c)
   | _ => T.x_InvalidText_InvalidText
theorem Tx.k_DayError (T : Tx P K mg) : ∀ c, PySem.W.kitOne K (.ref (T.ct.a c)) (.ref T.c_DayError.a) = some (is_DayError c)
   | _ => T.k_InvalidText_DayError
theorem Tx.k_InvalidDeed (T : Tx P K mg) : ∀ c, PySem.W.kitOne K (.ref (T.ct.a c)) (.ref T.c_InvalidDeed.a) = some (is_InvalidDeed c)
   | _ => T.k_InvalidText_InvalidDeed
theorem Tx.k_InvalidSign (T : Tx P K mg) : ∀ c, PySem.W.kitOne K (.ref (T.ct.a c)) (.ref T.c_InvalidSign.a) = some (is_InvalidSign c)
   | _ => T.k_InvalidText_InvalidSign
theorem Tx.k_ValueError (T : Tx P K mg) : ∀ c, PySem.W.kitOne K (.ref (T.ct.a c)) (.type "ValueError") = some (is_ValueError c)
   | _ => T.k_InvalidText_ValueError
theorem ok_law_with (T : Tx P K mg) : FnOk P w K mg base CX0 1 T.f_law_with.a T.f_law_with.d ["line", "at", "item"] (sp3 K f_law_with .new) := by
  have sc : FnScope ["line", "at", "item"] ["line", "at", "item"] (defScope st_law_with) := ⟨rfl, rfl, rfl, by decide +kernel, rfl, by decide +kernel, by decide +kernel⟩
  refine T.f_law_with.F.ok sc (fun vs H Q E h => spA_len h fun _ => rfl) (fun cdv A outer s H vs Q E hr h => ⟨_, (pss_one (ps_ret (pe_op op_cat (pe_op op_cat (pe_slice sl_list (pv 0) po_none (po_some (pv 1))) (pe_lst (pa_cons (pv 2) pa_nil))) (pe_slice sl_list (pv 0) (po_some (pe_op op_add (pv 1) pe_int)) po_none)))), of_body (fun x => ?_) (fun _ => Nat.le_of_ble_eq_true rfl) h⟩)
  exact EvR.weakL (er_ret (EvL.E (EvL.res (r' := (lim ((cut x.1 none (some x.2.1)) ++ ([x.2.2] : (List Str)))).bind fun v15 => lim (v15 ++ (cut x.1 (some (x.2.1 + (1 : Int))) none))) (ev_cat (EvL.B (EvL.res (r' := lim ((cut x.1 none (some x.2.1)) ++ ([x.2.2] : (List Str)))) (ev_cat (EvL.B (EvL.res (r' := some (cut x.1 none (some x.2.1))) (ev_sl (EvB.sc (m1 := .new) (EvE.B (ev_var (i := 0) (m := .old) (x := x.1) rfl))) eo_no (eo_atP (ev_var (i := 1) (m := .new) (x := x.2.1) rfl))) (bsP (bsP (bsP rfl))))) (EvL.B (ev_list (m := .new) (EvXs.res (r' := some ([x.2.2] : (List Str))) (exs_cons (ev_var (i := 2) (m := .new) (x := x.2.2) rfl) exs_nil) (bsP (bsP rfl)))))) (bsP (bsP rfl)))) (EvL.B (EvL.res (r' := some (cut x.1 (some (x.2.1 + (1 : Int))) none)) (ev_sl (EvB.sc (m1 := .new) (EvE.B (ev_var (i := 0) (m := .old) (x := x.1) rfl))) (eo_atP (EvE.res (r' := some (x.2.1 + (1 : Int))) (ev_arith (ev_var (i := 1) (m := .new) (x := x.2.1) rfl) ev_int) (bsP (bsP rfl)))) eo_no) (bsP (bsP (bsP rfl)))))) (bcP fun _ => (bsP rfl))))) (.cons .id (.cons .sc (.cons .sc .nil)))
theorem ok_law_bent (T : Tx P K mg) : FnOk P w K mg base CX0 2 T.f_law_bent.a T.f_law_bent.d ["text", "draws"] (sp2 K f_law_bent .new) := by
  have sc : FnScope ["text", "draws", "words", "at", "other", "odd", "word", "by", "found", "place", "sign"] ["text", "draws"] (defScope st_law_bent) := ⟨rfl, rfl, rfl, by decide +kernel, rfl, by decide +kernel, by decide +kernel⟩
  refine T.f_law_bent.F.ok sc (fun vs H Q E h => spA_len h fun _ => rfl) (fun cdv A outer s H vs Q E hr h => ⟨_, (pss_cons (ps_set (i := 2) sc.nd rfl (by first | exact .inl rfl | exact .inr rfl) (pe_split (pv 0) pe_str))
 (pss_cons (ps_par (i := 3) (j := 4) rfl sc.nd rfl rfl (by decide) rfl rfl (pa_cons (pe_op op_mod (pe_ix ix_list (pv 1) pe_int (fun _ _ => rfl)) (pe_callB call_len_seq (by rfl) T.n_len (by decide +kernel) (pa_cons (pv 2) pa_nil))) (pa_cons (pe_op op_mod (pe_ix ix_list (pv 1) pe_int (fun _ _ => rfl)) (pe_callB call_len_seq (by rfl) T.n_len (by decide +kernel) (pa_cons (pv 2) pa_nil))) pa_nil)) (by rfl))
 (pss_cons (ps_set (i := 5) sc.nd rfl (by first | exact .inl rfl | exact .inr rfl) (pe_lst (pa_cons pe_str (pa_cons pe_str (pa_cons pe_str (pa_cons pe_str (pa_cons pe_str (pa_cons pe_str (pa_cons pe_str (pa_cons pe_str (pa_cons pe_str (pa_cons pe_str (pa_cons pe_str (pa_cons (pe_op op_repS pe_str pe_int) (pa_cons (pe_op op_repS pe_str pe_int) (pa_cons (pe_op op_add_str pe_str (pe_op op_repS pe_str pe_int)) (pa_cons pe_str (pa_cons pe_str (pa_cons pe_str (pa_cons pe_str (pa_cons pe_str pa_nil)))))))))))))))))))))
 (pss_cons (ps_set (i := 5) sc.nd rfl (by first | exact .inl rfl | exact .inr rfl) (pe_op op_cat (pv 5) (pe_lst (pa_cons pe_str (pa_cons pe_str (pa_cons pe_str (pa_cons pe_str (pa_cons pe_str (pa_cons pe_str (pa_cons pe_str (pa_cons pe_str (pa_cons (pe_op op_repS pe_str pe_int) (pa_cons (pe_op op_repS pe_str pe_int) (pa_cons pe_str (pa_cons pe_str (pa_cons pe_str (pa_cons pe_str pa_nil)))))))))))))))))
 (pss_cons (ps_par (i := 6) (j := 7) rfl sc.nd rfl rfl (by decide) rfl rfl (pa_cons (pe_ix ix_list (pv 5) (pe_op op_mod (pe_ix ix_list (pv 1) pe_int (fun _ _ => rfl)) (pe_callB call_len_seq (by rfl) T.n_len (by decide +kernel) (pa_cons (pv 5) pa_nil))) (fun _ _ => rfl)) (pa_cons (pe_ix ix_list (pv 5) (pe_op op_mod (pe_ix ix_list (pv 1) pe_int (fun _ _ => rfl)) (pe_callB call_len_seq (by rfl) T.n_len (by decide +kernel) (pa_cons (pv 5) pa_nil))) (fun _ _ => rfl)) pa_nil)) (by rfl))
 (pss_cons (ps_set (i := 8) sc.nd rfl (by first | exact .inl rfl | exact .inr rfl) (pe_lst (pa_cons (pv 0) (pa_cons (pe_op op_add_str (pv 0) pe_str) (pa_cons (pe_op op_add_str pe_str (pv 0)) (pa_cons (pe_op op_add_str (pv 0) pe_str) (pa_strT (pat_cons (CwR.PET.of pe_str) (pat_cons (CwR.pet_replC (pv 0)) (pat_cons (CwR.pet_replC (pv 0)) (pat_cons (CwR.pet_replC (pv 0)) (pat_cons (CwR.PET.of (pe_op op_add_str (pe_op op_add_str (pv 0) pe_str) (pv 0))) pat_nil))))))))))))
 (pss_cons (ps_expr (pe_bm PySem.F.plainAttrs_list PySem.F.slot_list_append PySem.F.type_list_append mt_append (pv 8) (pa_cons (pe_join pe_str (pe_revL (pv 2))) pa_nil)))
 (pss_cons (ps_expr (pe_bm PySem.F.plainAttrs_list PySem.F.slot_list_append PySem.F.type_list_append mt_append (pv 8) (pa_cons (pe_join pe_str (pe_op op_cat (pe_slice sl_list (pv 2) (po_some pe_int) po_none) (pe_slice sl_list (pv 2) po_none (po_some pe_int)))) pa_nil)))
 (pss_cons (ps_expr (pe_bm PySem.F.plainAttrs_list PySem.F.slot_list_append PySem.F.type_list_append mt_append (pv 8) (pa_cons (pe_join pe_str (pe_op op_cat (pe_slice sl_list (pv 2) po_none (po_some (pv 3))) (pe_slice sl_list (pv 2) (po_some (pe_op op_add (pv 3) pe_int)) po_none))) pa_nil)))
 (pss_cons (ps_expr (pe_bm PySem.F.plainAttrs_list PySem.F.slot_list_append PySem.F.type_list_append mt_append (pv 8) (pa_cons (pe_join pe_str (pe_op op_cat (pe_op op_cat (pe_slice sl_list (pv 2) po_none (po_some (pv 3))) (pe_lst (pa_cons (pe_ix ix_list (pv 2) (pv 3) (fun _ _ => rfl)) pa_nil))) (pe_slice sl_list (pv 2) (po_some (pv 3)) po_none))) pa_nil)))
 (pss_cons (ps_expr (pe_bm PySem.F.plainAttrs_list PySem.F.slot_list_append PySem.F.type_list_append mt_append (pv 8) (pa_cons (pe_join pe_str (pe_call (ok_law_with T) (hr.mono (by decide)) (by rfl) T.f_law_with.g T.f_law_with.F.kp T.f_law_with.b .nil pass0 (pa_cons (pv 2) (pa_cons (pv 3) (pa_cons (pv 6) pa_nil))))) pa_nil)))
 (pss_cons (ps_expr (pe_bm PySem.F.plainAttrs_list PySem.F.slot_list_append PySem.F.type_list_append mt_append (pv 8) (pa_cons (pe_join pe_str (pe_op op_cat (pe_op op_cat (pe_slice sl_list (pv 2) po_none (po_some (pv 3))) (pe_lst (pa_cons (pv 7) pa_nil))) (pe_slice sl_list (pv 2) (po_some (pv 3)) po_none))) pa_nil)))
 (pss_cons (ps_expr (pe_bm PySem.F.plainAttrs_list PySem.F.slot_list_append PySem.F.type_list_append mt_append (pv 8) (pa_cons (pe_join pe_str (pe_call (ok_law_with T) (hr.mono (by decide)) (by rfl) T.f_law_with.g T.f_law_with.F.kp T.f_law_with.b .nil pass0 (pa_cons (pe_call (ok_law_with T) (hr.mono (by decide)) (by rfl) T.f_law_with.g T.f_law_with.F.kp T.f_law_with.b .nil pass0 (pa_cons (pv 2) (pa_cons (pv 3) (pa_cons (pe_ix ix_list (pv 2) (pv 4) (fun _ _ => rfl)) pa_nil)))) (pa_cons (pv 4) (pa_cons (pe_ix ix_list (pv 2) (pv 3) (fun _ _ => rfl)) pa_nil))))) pa_nil)))
 (pss_cons (ps_expr (pe_bm PySem.F.plainAttrs_list PySem.F.slot_list_append PySem.F.type_list_append mt_append (pv 8) (pa_cons (pe_join pe_str (pe_call (ok_law_with T) (hr.mono (by decide)) (by rfl) T.f_law_with.g T.f_law_with.F.kp T.f_law_with.b .nil pass0 (pa_cons (pe_call (ok_law_with T) (hr.mono (by decide)) (by rfl) T.f_law_with.g T.f_law_with.F.kp T.f_law_with.b .nil pass0 (pa_cons (pv 2) (pa_cons (pv 3) (pa_cons (pv 6) pa_nil)))) (pa_cons (pv 4) (pa_cons (pv 7) pa_nil))))) pa_nil)))
 (pss_cons (ps_set (i := 9) sc.nd rfl (by first | exact .inl rfl | exact .inr rfl) (pe_op op_mod (pe_ix ix_list (pv 1) pe_int (fun _ _ => rfl)) (pe_op op_add (pe_callB call_len_str (by rfl) T.n_len (by decide +kernel) (pa_cons (pv 0) pa_nil)) pe_int)))
 (pss_cons (ps_for PassesOwn.never rfl (pi_list (pe_lst (pa_cons pe_str (pa_cons pe_str (pa_cons pe_str (pa_cons pe_str (pa_cons pe_str (pa_cons pe_str (pa_cons pe_str (pa_cons pe_str pa_nil)))))))))) (pg_name (i := 10) sc.nd rfl (by first | exact .inl rfl | exact .inr rfl))
 (pss_one (ps_expr (pe_bm PySem.F.plainAttrs_list PySem.F.slot_list_append PySem.F.type_list_append mt_append (pv 8) (pa_cons (pe_op op_add_str (pe_op op_add_str (pe_slice sl_str (pv 0) po_none (po_some (pv 9))) (pv 10)) (pe_slice sl_str (pv 0) (po_some (pv 9)) po_none)) pa_nil)))))
 (pss_cons (ps_set (i := 8) sc.nd rfl (by first | exact .inl rfl | exact .inr rfl) (pe_op op_cat (pv 8) (pe_lst (pa_cons (pe_op op_add_str (pe_op op_add_str (pv 6) pe_str) (pv 7)) (pa_cons (pe_op op_add_str (pv 6) pe_str) (pa_cons (pe_op op_add_str (pe_op op_add_str (pv 6) pe_str) (pv 7)) (pa_cons (pe_op op_add_str (pe_op op_add_str (pe_op op_add_str pe_str (pv 6)) pe_str) (pv 7)) (pa_cons pe_str (pa_cons pe_str (pa_cons pe_str (pa_cons (pe_op op_add_str pe_str (pv 6)) (pa_cons pe_str (pa_cons pe_str pa_nil)))))))))))))
 (pss_one (ps_ret (pe_op op_cat (pv 8) (pe_lst (pa_cons (pe_slice sl_str (pv 0) po_none (po_some (pv 9))) (pa_cons (pe_slice sl_str (pv 0) (po_some (pv 9)) po_none) (pa_cons (pe_op op_add_str (pe_slice sl_str (pv 0) po_none (po_some (pv 9))) (pe_slice sl_str (pv 0) (po_some (pe_op op_add (pv 9) pe_int)) po_none)) (pa_cons (pv 6) (pa_cons (pv 7) (pa_cons (pe_op op_add_str (pe_op op_add_str (pv 6) pe_str) (pv 7)) (pa_cons (pe_op op_add_str (pe_ix ix_list (pv 2) pe_int (fun _ _ => rfl)) pe_str) (pa_cons (pe_ix ix_list (pv 2) pe_int (fun _ _ => rfl)) pa_nil))))))))))))))))))))))))))))), of_body (fun x => ?_) (fun _ => Nat.le_of_ble_eq_true rfl) h⟩)
  exact EvR.weakL (er_seq (E := fun (words_3 : (List Str)) => [.dat .new (rp x.1), .dat .old (rp x.2), .dat .new (rp words_3), .un, .un, .un, .un, .un, .un, .un, .un]) (en_set (EvL.E (EvL.res (r' := splitS x.1 (Str.ofString " ")) (ev_splitS (ev_var (i := 0) (m := .new) (x := x.1) rfl) ev_str) (bsP (bsP rfl))))) (fun words_3 =>
 (er_seq (E := fun (p20 : (Int × Int)) => [.dat .new (rp x.1), .dat .old (rp x.2), .dat .new (rp words_3), .dat .new (rp p20.1), .dat .new (rp p20.2), .un, .un, .un, .un, .un, .un]) (en_par (EvE.res (r' := (atI x.2 (3 : Int)).bind fun v9 => modP v9 (words_3.length : Int)) (ev_mod (EvE.res (r' := atI x.2 (3 : Int)) (ev_ix (EvB.sc (m1 := .new) (EvE.B (ev_var (i := 1) (m := .old) (x := x.2) rfl))) ev_int) (bsP (bsP rfl))) (EvE.res (r' := some (words_3.length : Int)) (ev_len (EvE.B (ev_var (i := 2) (m := .new) (x := words_3) rfl))) (bsP rfl))) (bcP fun _ => (bsP rfl))) (EvE.res (r' := (atI x.2 (4 : Int)).bind fun v15 => modP v15 (words_3.length : Int)) (ev_mod (EvE.res (r' := atI x.2 (4 : Int)) (ev_ix (EvB.sc (m1 := .new) (EvE.B (ev_var (i := 1) (m := .old) (x := x.2) rfl))) ev_int) (bsP (bsP rfl))) (EvE.res (r' := some (words_3.length : Int)) (ev_len (EvE.B (ev_var (i := 2) (m := .new) (x := words_3) rfl))) (bsP rfl))) (bcP fun _ => (bsP rfl)))) (fun p20 =>
 (er_seq (E := fun (odd_68 : (List Str)) => [.dat .new (rp x.1), .dat .old (rp x.2), .dat .new (rp words_3), .dat .new (rp p20.1), .dat .new (rp p20.2), .dat .new (rp odd_68), .un, .un, .un, .un, .un]) (en_set (EvL.E (ev_list (m := .new) (EvXs.res (r' := ((((((((((((repSP (Str.ofString "1") (40 : Int)).bind fun v44 => ((repSP (Str.ofString "1") (41 : Int)).bind fun v42 => (((repSP (Str.ofString "9") (40 : Int)).bind fun v29 => addS (Str.ofString "-") v29).bind fun v40 => some (v40 :: ([(Str.ofString ":"), (Str.ofString "::"), (Str.ofString "1:"), (Str.ofString ":1"), (Str.ofString "0:")] : (List Str)))).bind fun l43 => some (v42 :: l43)).bind fun l45 => some (v44 :: l45)).bind fun l47 => some ((Str.ofString "a") :: l47)).bind fun l49 => some ((Str.ofString "1_0") :: l49)).bind fun l51 => some ((Str.ofString "1.0") :: l51)).bind fun l53 => some ((Str.ofString "-0") :: l53)).bind fun l55 => some ((Str.ofString "00") :: l55)).bind fun l57 => some ((Str.ofString "-01") :: l57)).bind fun l59 => some ((Str.ofString "01") :: l59)).bind fun l61 => some ((Str.ofString "--1") :: l61)).bind fun l63 => some ((Str.ofString "-") :: l63)).bind fun l65 => some ((Str.ofString "+1") :: l65)).bind fun l67 => some ((Str.ofString "") :: l67)) (exs_cons ev_str (EvXs.res (r' := (((((((((((repSP (Str.ofString "1") (40 : Int)).bind fun v44 => ((repSP (Str.ofString "1") (41 : Int)).bind fun v42 => (((repSP (Str.ofString "9") (40 : Int)).bind fun v29 => addS (Str.ofString "-") v29).bind fun v40 => some (v40 :: ([(Str.ofString ":"), (Str.ofString "::"), (Str.ofString "1:"), (Str.ofString ":1"), (Str.ofString "0:")] : (List Str)))).bind fun l43 => some (v42 :: l43)).bind fun l45 => some (v44 :: l45)).bind fun l47 => some ((Str.ofString "a") :: l47)).bind fun l49 => some ((Str.ofString "1_0") :: l49)).bind fun l51 => some ((Str.ofString "1.0") :: l51)).bind fun l53 => some ((Str.ofString "-0") :: l53)).bind fun l55 => some ((Str.ofString "00") :: l55)).bind fun l57 => some ((Str.ofString "-01") :: l57)).bind fun l59 => some ((Str.ofString "01") :: l59)).bind fun l61 => some ((Str.ofString "--1") :: l61)).bind fun l63 => some ((Str.ofString "-") :: l63)).bind fun l65 => some ((Str.ofString "+1") :: l65)) (exs_cons ev_str (EvXs.res (r' := ((((((((((repSP (Str.ofString "1") (40 : Int)).bind fun v44 => ((repSP (Str.ofString "1") (41 : Int)).bind fun v42 => (((repSP (Str.ofString "9") (40 : Int)).bind fun v29 => addS (Str.ofString "-") v29).bind fun v40 => some (v40 :: ([(Str.ofString ":"), (Str.ofString "::"), (Str.ofString "1:"), (Str.ofString ":1"), (Str.ofString "0:")] : (List Str)))).bind fun l43 => some (v42 :: l43)).bind fun l45 => some (v44 :: l45)).bind fun l47 => some ((Str.ofString "a") :: l47)).bind fun l49 => some ((Str.ofString "1_0") :: l49)).bind fun l51 => some ((Str.ofString "1.0") :: l51)).bind fun l53 => some ((Str.ofString "-0") :: l53)).bind fun l55 => some ((Str.ofString "00") :: l55)).bind fun l57 => some ((Str.ofString "-01") :: l57)).bind fun l59 => some ((Str.ofString "01") :: l59)).bind fun l61 => some ((Str.ofString "--1") :: l61)).bind fun l63 => some ((Str.ofString "-") :: l63)) (exs_cons ev_str (EvXs.res (r' := (((((((((repSP (Str.ofString "1") (40 : Int)).bind fun v44 => ((repSP (Str.ofString "1") (41 : Int)).bind fun v42 => (((repSP (Str.ofString "9") (40 : Int)).bind fun v29 => addS (Str.ofString "-") v29).bind fun v40 => some (v40 :: ([(Str.ofString ":"), (Str.ofString "::"), (Str.ofString "1:"), (Str.ofString ":1"), (Str.ofString "0:")] : (List Str)))).bind fun l43 => some (v42 :: l43)).bind fun l45 => some (v44 :: l45)).bind fun l47 => some ((Str.ofString "a") :: l47)).bind fun l49 => some ((Str.ofString "1_0") :: l49)).bind fun l51 => some ((Str.ofString "1.0") :: l51)).bind fun l53 => some ((Str.ofString "-0") :: l53)).bind fun l55 => some ((Str.ofString "00") :: l55)).bind fun l57 => some ((Str.ofString "-01") :: l57)).bind fun l59 => some ((Str.ofString "01") :: l59)).bind fun l61 => some ((Str.ofString "--1") :: l61)) (exs_cons ev_str (EvXs.res (r' := ((((((((repSP (Str.ofString "1") (40 : Int)).bind fun v44 => ((repSP (Str.ofString "1") (41 : Int)).bind fun v42 => (((repSP (Str.ofString "9") (40 : Int)).bind fun v29 => addS (Str.ofString "-") v29).bind fun v40 => some (v40 :: ([(Str.ofString ":"), (Str.ofString "::"), (Str.ofString "1:"), (Str.ofString ":1"), (Str.ofString "0:")] : (List Str)))).bind fun l43 => some (v42 :: l43)).bind fun l45 => some (v44 :: l45)).bind fun l47 => some ((Str.ofString "a") :: l47)).bind fun l49 => some ((Str.ofString "1_0") :: l49)).bind fun l51 => some ((Str.ofString "1.0") :: l51)).bind fun l53 => some ((Str.ofString "-0") :: l53)).bind fun l55 => some ((Str.ofString "00") :: l55)).bind fun l57 => some ((Str.ofString "-01") :: l57)).bind fun l59 => some ((Str.ofString "01") :: l59)) (exs_cons ev_str (EvXs.res (r' := (((((((repSP (Str.ofString "1") (40 : Int)).bind fun v44 => ((repSP (Str.ofString "1") (41 : Int)).bind fun v42 => (((repSP (Str.ofString "9") (40 : Int)).bind fun v29 => addS (Str.ofString "-") v29).bind fun v40 => some (v40 :: ([(Str.ofString ":"), (Str.ofString "::"), (Str.ofString "1:"), (Str.ofString ":1"), (Str.ofString "0:")] : (List Str)))).bind fun l43 => some (v42 :: l43)).bind fun l45 => some (v44 :: l45)).bind fun l47 => some ((Str.ofString "a") :: l47)).bind fun l49 => some ((Str.ofString "1_0") :: l49)).bind fun l51 => some ((Str.ofString "1.0") :: l51)).bind fun l53 => some ((Str.ofString "-0") :: l53)).bind fun l55 => some ((Str.ofString "00") :: l55)).bind fun l57 => some ((Str.ofString "-01") :: l57)) (exs_cons ev_str (EvXs.res (r' := ((((((repSP (Str.ofString "1") (40 : Int)).bind fun v44 => ((repSP (Str.ofString "1") (41 : Int)).bind fun v42 => (((repSP (Str.ofString "9") (40 : Int)).bind fun v29 => addS (Str.ofString "-") v29).bind fun v40 => some (v40 :: ([(Str.ofString ":"), (Str.ofString "::"), (Str.ofString "1:"), (Str.ofString ":1"), (Str.ofString "0:")] : (List Str)))).bind fun l43 => some (v42 :: l43)).bind fun l45 => some (v44 :: l45)).bind fun l47 => some ((Str.ofString "a") :: l47)).bind fun l49 => some ((Str.ofString "1_0") :: l49)).bind fun l51 => some ((Str.ofString "1.0") :: l51)).bind fun l53 => some ((Str.ofString "-0") :: l53)).bind fun l55 => some ((Str.ofString "00") :: l55)) (exs_cons ev_str (EvXs.res (r' := (((((repSP (Str.ofString "1") (40 : Int)).bind fun v44 => ((repSP (Str.ofString "1") (41 : Int)).bind fun v42 => (((repSP (Str.ofString "9") (40 : Int)).bind fun v29 => addS (Str.ofString "-") v29).bind fun v40 => some (v40 :: ([(Str.ofString ":"), (Str.ofString "::"), (Str.ofString "1:"), (Str.ofString ":1"), (Str.ofString "0:")] : (List Str)))).bind fun l43 => some (v42 :: l43)).bind fun l45 => some (v44 :: l45)).bind fun l47 => some ((Str.ofString "a") :: l47)).bind fun l49 => some ((Str.ofString "1_0") :: l49)).bind fun l51 => some ((Str.ofString "1.0") :: l51)).bind fun l53 => some ((Str.ofString "-0") :: l53)) (exs_cons ev_str (EvXs.res (r' := ((((repSP (Str.ofString "1") (40 : Int)).bind fun v44 => ((repSP (Str.ofString "1") (41 : Int)).bind fun v42 => (((repSP (Str.ofString "9") (40 : Int)).bind fun v29 => addS (Str.ofString "-") v29).bind fun v40 => some (v40 :: ([(Str.ofString ":"), (Str.ofString "::"), (Str.ofString "1:"), (Str.ofString ":1"), (Str.ofString "0:")] : (List Str)))).bind fun l43 => some (v42 :: l43)).bind fun l45 => some (v44 :: l45)).bind fun l47 => some ((Str.ofString "a") :: l47)).bind fun l49 => some ((Str.ofString "1_0") :: l49)).bind fun l51 => some ((Str.ofString "1.0") :: l51)) (exs_cons ev_str (EvXs.res (r' := (((repSP (Str.ofString "1") (40 : Int)).bind fun v44 => ((repSP (Str.ofString "1") (41 : Int)).bind fun v42 => (((repSP (Str.ofString "9") (40 : Int)).bind fun v29 => addS (Str.ofString "-") v29).bind fun v40 => some (v40 :: ([(Str.ofString ":"), (Str.ofString "::"), (Str.ofString "1:"), (Str.ofString ":1"), (Str.ofString "0:")] : (List Str)))).bind fun l43 => some (v42 :: l43)).bind fun l45 => some (v44 :: l45)).bind fun l47 => some ((Str.ofString "a") :: l47)).bind fun l49 => some ((Str.ofString "1_0") :: l49)) (exs_cons ev_str (EvXs.res (r' := ((repSP (Str.ofString "1") (40 : Int)).bind fun v44 => ((repSP (Str.ofString "1") (41 : Int)).bind fun v42 => (((repSP (Str.ofString "9") (40 : Int)).bind fun v29 => addS (Str.ofString "-") v29).bind fun v40 => some (v40 :: ([(Str.ofString ":"), (Str.ofString "::"), (Str.ofString "1:"), (Str.ofString ":1"), (Str.ofString "0:")] : (List Str)))).bind fun l43 => some (v42 :: l43)).bind fun l45 => some (v44 :: l45)).bind fun l47 => some ((Str.ofString "a") :: l47)) (exs_cons ev_str (EvXs.res (r' := (repSP (Str.ofString "1") (40 : Int)).bind fun v44 => ((repSP (Str.ofString "1") (41 : Int)).bind fun v42 => (((repSP (Str.ofString "9") (40 : Int)).bind fun v29 => addS (Str.ofString "-") v29).bind fun v40 => some (v40 :: ([(Str.ofString ":"), (Str.ofString "::"), (Str.ofString "1:"), (Str.ofString ":1"), (Str.ofString "0:")] : (List Str)))).bind fun l43 => some (v42 :: l43)).bind fun l45 => some (v44 :: l45)) (exs_cons (EvE.res (r' := repSP (Str.ofString "1") (40 : Int)) (ev_repS ev_str ev_int) (bsP (bsP rfl))) (EvXs.res (r' := (repSP (Str.ofString "1") (41 : Int)).bind fun v42 => (((repSP (Str.ofString "9") (40 : Int)).bind fun v29 => addS (Str.ofString "-") v29).bind fun v40 => some (v40 :: ([(Str.ofString ":"), (Str.ofString "::"), (Str.ofString "1:"), (Str.ofString ":1"), (Str.ofString "0:")] : (List Str)))).bind fun l43 => some (v42 :: l43)) (exs_cons (EvE.res (r' := repSP (Str.ofString "1") (41 : Int)) (ev_repS ev_str ev_int) (bsP (bsP rfl))) (EvXs.res (r' := ((repSP (Str.ofString "9") (40 : Int)).bind fun v29 => addS (Str.ofString "-") v29).bind fun v40 => some (v40 :: ([(Str.ofString ":"), (Str.ofString "::"), (Str.ofString "1:"), (Str.ofString ":1"), (Str.ofString "0:")] : (List Str)))) (exs_cons (EvE.res (r' := (repSP (Str.ofString "9") (40 : Int)).bind fun v29 => addS (Str.ofString "-") v29) (ev_addS ev_str (EvE.res (r' := repSP (Str.ofString "9") (40 : Int)) (ev_repS ev_str ev_int) (bsP (bsP rfl)))) (bsP (bcP fun _ => rfl))) (EvXs.res (r' := some ([(Str.ofString ":"), (Str.ofString "::"), (Str.ofString "1:"), (Str.ofString ":1"), (Str.ofString "0:")] : (List Str))) (exs_cons ev_str (EvXs.res (r' := some ([(Str.ofString "::"), (Str.ofString "1:"), (Str.ofString ":1"), (Str.ofString "0:")] : (List Str))) (exs_cons ev_str (EvXs.res (r' := some ([(Str.ofString "1:"), (Str.ofString ":1"), (Str.ofString "0:")] : (List Str))) (exs_cons ev_str (EvXs.res (r' := some ([(Str.ofString ":1"), (Str.ofString "0:")] : (List Str))) (exs_cons ev_str (EvXs.res (r' := some ([(Str.ofString "0:")] : (List Str))) (exs_cons ev_str exs_nil) (bsP (bsP rfl)))) (bsP (bsP rfl)))) (bsP (bsP rfl)))) (bsP (bsP rfl)))) (bsP (bsP rfl)))) (bcP fun _ => (bsP rfl)))) (bcP fun _ => (bcP fun _ => rfl)))) (bcP fun _ => (bcP fun _ => rfl)))) (bsP (bcP fun _ => rfl)))) (bsP (bcP fun _ => rfl)))) (bsP (bcP fun _ => rfl)))) (bsP (bcP fun _ => rfl)))) (bsP (bcP fun _ => rfl)))) (bsP (bcP fun _ => rfl)))) (bsP (bcP fun _ => rfl)))) (bsP (bcP fun _ => rfl)))) (bsP (bcP fun _ => rfl)))) (bsP (bcP fun _ => rfl)))) (bsP (bcP fun _ => rfl)))))) (fun odd_68 =>
 (er_seq (E := fun (odd_104 : (List Str)) => [.dat .new (rp x.1), .dat .old (rp x.2), .dat .new (rp words_3), .dat .new (rp p20.1), .dat .new (rp p20.2), .dat .new (rp odd_104), .un, .un, .un, .un, .un]) (en_set (EvL.E (EvL.res (r' := ((((((((((repSP (Str.ofString "9") (40 : Int)).bind fun v83 => ((repSP (Str.ofString "9") (41 : Int)).bind fun v81 => some (v81 :: ([(Str.ofString "5"), (Str.ofString "-1"), (Str.ofString "7 "), (Str.ofString "0,1")] : (List Str)))).bind fun l84 => some (v83 :: l84)).bind fun l86 => some ((Str.ofString "1") :: l86)).bind fun l88 => some ((Str.ofString "-7") :: l88)).bind fun l90 => some ((Str.ofString "0") :: l90)).bind fun l92 => some ((Str.ofString "none") :: l92)).bind fun l94 => some ((Str.ofString "1e3") :: l94)).bind fun l96 => some ((Str.ofString "0x1") :: l96)).bind fun l98 => some ((Str.ofString "\t1") :: l98)).bind fun l100 => some ((Str.ofString "1\n") :: l100)).bind fun v103 => lim (odd_68 ++ v103)) (ev_cat (EvE.B (ev_var (i := 5) (m := .new) (x := odd_68) rfl)) (EvL.B (ev_list (m := .new) (EvXs.res (r' := (((((((((repSP (Str.ofString "9") (40 : Int)).bind fun v83 => ((repSP (Str.ofString "9") (41 : Int)).bind fun v81 => some (v81 :: ([(Str.ofString "5"), (Str.ofString "-1"), (Str.ofString "7 "), (Str.ofString "0,1")] : (List Str)))).bind fun l84 => some (v83 :: l84)).bind fun l86 => some ((Str.ofString "1") :: l86)).bind fun l88 => some ((Str.ofString "-7") :: l88)).bind fun l90 => some ((Str.ofString "0") :: l90)).bind fun l92 => some ((Str.ofString "none") :: l92)).bind fun l94 => some ((Str.ofString "1e3") :: l94)).bind fun l96 => some ((Str.ofString "0x1") :: l96)).bind fun l98 => some ((Str.ofString "\t1") :: l98)).bind fun l100 => some ((Str.ofString "1\n") :: l100)) (exs_cons ev_str (EvXs.res (r' := ((((((((repSP (Str.ofString "9") (40 : Int)).bind fun v83 => ((repSP (Str.ofString "9") (41 : Int)).bind fun v81 => some (v81 :: ([(Str.ofString "5"), (Str.ofString "-1"), (Str.ofString "7 "), (Str.ofString "0,1")] : (List Str)))).bind fun l84 => some (v83 :: l84)).bind fun l86 => some ((Str.ofString "1") :: l86)).bind fun l88 => some ((Str.ofString "-7") :: l88)).bind fun l90 => some ((Str.ofString "0") :: l90)).bind fun l92 => some ((Str.ofString "none") :: l92)).bind fun l94 => some ((Str.ofString "1e3") :: l94)).bind fun l96 => some ((Str.ofString "0x1") :: l96)).bind fun l98 => some ((Str.ofString "\t1") :: l98)) (exs_cons ev_str (EvXs.res (r' := (((((((repSP (Str.ofString "9") (40 : Int)).bind fun v83 => ((repSP (Str.ofString "9") (41 : Int)).bind fun v81 => some (v81 :: ([(Str.ofString "5"), (Str.ofString "-1"), (Str.ofString "7 "), (Str.ofString "0,1")] : (List Str)))).bind fun l84 => some (v83 :: l84)).bind fun l86 => some ((Str.ofString "1") :: l86)).bind fun l88 => some ((Str.ofString "-7") :: l88)).bind fun l90 => some ((Str.ofString "0") :: l90)).bind fun l92 => some ((Str.ofString "none") :: l92)).bind fun l94 => some ((Str.ofString "1e3") :: l94)).bind fun l96 => some ((Str.ofString "0x1") :: l96)) (exs_cons ev_str (EvXs.res (r' := ((((((repSP (Str.ofString "9") (40 : Int)).bind fun v83 => ((repSP (Str.ofString "9") (41 : Int)).bind fun v81 => some (v81 :: ([(Str.ofString "5"), (Str.ofString "-1"), (Str.ofString "7 "), (Str.ofString "0,1")] : (List Str)))).bind fun l84 => some (v83 :: l84)).bind fun l86 => some ((Str.ofString "1") :: l86)).bind fun l88 => some ((Str.ofString "-7") :: l88)).bind fun l90 => some ((Str.ofString "0") :: l90)).bind fun l92 => some ((Str.ofString "none") :: l92)).bind fun l94 => some ((Str.ofString "1e3") :: l94)) (exs_cons ev_str (EvXs.res (r' := (((((repSP (Str.ofString "9") (40 : Int)).bind fun v83 => ((repSP (Str.ofString "9") (41 : Int)).bind fun v81 => some (v81 :: ([(Str.ofString "5"), (Str.ofString "-1"), (Str.ofString "7 "), (Str.ofString "0,1")] : (List Str)))).bind fun l84 => some (v83 :: l84)).bind fun l86 => some ((Str.ofString "1") :: l86)).bind fun l88 => some ((Str.ofString "-7") :: l88)).bind fun l90 => some ((Str.ofString "0") :: l90)).bind fun l92 => some ((Str.ofString "none") :: l92)) (exs_cons ev_str (EvXs.res (r' := ((((repSP (Str.ofString "9") (40 : Int)).bind fun v83 => ((repSP (Str.ofString "9") (41 : Int)).bind fun v81 => some (v81 :: ([(Str.ofString "5"), (Str.ofString "-1"), (Str.ofString "7 "), (Str.ofString "0,1")] : (List Str)))).bind fun l84 => some (v83 :: l84)).bind fun l86 => some ((Str.ofString "1") :: l86)).bind fun l88 => some ((Str.ofString "-7") :: l88)).bind fun l90 => some ((Str.ofString "0") :: l90)) (exs_cons ev_str (EvXs.res (r' := (((repSP (Str.ofString "9") (40 : Int)).bind fun v83 => ((repSP (Str.ofString "9") (41 : Int)).bind fun v81 => some (v81 :: ([(Str.ofString "5"), (Str.ofString "-1"), (Str.ofString "7 "), (Str.ofString "0,1")] : (List Str)))).bind fun l84 => some (v83 :: l84)).bind fun l86 => some ((Str.ofString "1") :: l86)).bind fun l88 => some ((Str.ofString "-7") :: l88)) (exs_cons ev_str (EvXs.res (r' := ((repSP (Str.ofString "9") (40 : Int)).bind fun v83 => ((repSP (Str.ofString "9") (41 : Int)).bind fun v81 => some (v81 :: ([(Str.ofString "5"), (Str.ofString "-1"), (Str.ofString "7 "), (Str.ofString "0,1")] : (List Str)))).bind fun l84 => some (v83 :: l84)).bind fun l86 => some ((Str.ofString "1") :: l86)) (exs_cons ev_str (EvXs.res (r' := (repSP (Str.ofString "9") (40 : Int)).bind fun v83 => ((repSP (Str.ofString "9") (41 : Int)).bind fun v81 => some (v81 :: ([(Str.ofString "5"), (Str.ofString "-1"), (Str.ofString "7 "), (Str.ofString "0,1")] : (List Str)))).bind fun l84 => some (v83 :: l84)) (exs_cons (EvE.res (r' := repSP (Str.ofString "9") (40 : Int)) (ev_repS ev_str ev_int) (bsP (bsP rfl))) (EvXs.res (r' := (repSP (Str.ofString "9") (41 : Int)).bind fun v81 => some (v81 :: ([(Str.ofString "5"), (Str.ofString "-1"), (Str.ofString "7 "), (Str.ofString "0,1")] : (List Str)))) (exs_cons (EvE.res (r' := repSP (Str.ofString "9") (41 : Int)) (ev_repS ev_str ev_int) (bsP (bsP rfl))) (EvXs.res (r' := some ([(Str.ofString "5"), (Str.ofString "-1"), (Str.ofString "7 "), (Str.ofString "0,1")] : (List Str))) (exs_cons ev_str (EvXs.res (r' := some ([(Str.ofString "-1"), (Str.ofString "7 "), (Str.ofString "0,1")] : (List Str))) (exs_cons ev_str (EvXs.res (r' := some ([(Str.ofString "7 "), (Str.ofString "0,1")] : (List Str))) (exs_cons ev_str (EvXs.res (r' := some ([(Str.ofString "0,1")] : (List Str))) (exs_cons ev_str exs_nil) (bsP (bsP rfl)))) (bsP (bsP rfl)))) (bsP (bsP rfl)))) (bsP (bsP rfl)))) (bcP fun _ => (bsP rfl)))) (bcP fun _ => (bcP fun _ => rfl)))) (bsP (bcP fun _ => rfl)))) (bsP (bcP fun _ => rfl)))) (bsP (bcP fun _ => rfl)))) (bsP (bcP fun _ => rfl)))) (bsP (bcP fun _ => rfl)))) (bsP (bcP fun _ => rfl)))) (bsP (bcP fun _ => rfl)))) (bsP (bcP fun _ => rfl)))))) (bsP (bcP fun _ => rfl))))) (fun odd_104 =>
 (er_seq (E := fun (p127 : (Str × Str)) => [.dat .new (rp x.1), .dat .old (rp x.2), .dat .new (rp words_3), .dat .new (rp p20.1), .dat .new (rp p20.2), .dat .new (rp odd_104), .dat .new (rp p127.1), .dat .new (rp p127.2), .un, .un, .un]) (en_par (EvE.res (r' := ((atI x.2 (5 : Int)).bind fun v110 => modP v110 (odd_104.length : Int)).bind fun v113 => atI odd_104 v113) (ev_ix (EvE.B (ev_var (i := 5) (m := .new) (x := odd_104) rfl)) (EvE.res (r' := (atI x.2 (5 : Int)).bind fun v110 => modP v110 (odd_104.length : Int)) (ev_mod (EvE.res (r' := atI x.2 (5 : Int)) (ev_ix (EvB.sc (m1 := .new) (EvE.B (ev_var (i := 1) (m := .old) (x := x.2) rfl))) ev_int) (bsP (bsP rfl))) (EvE.res (r' := some (odd_104.length : Int)) (ev_len (EvE.B (ev_var (i := 5) (m := .new) (x := odd_104) rfl))) (bsP rfl))) (bcP fun _ => (bsP rfl)))) (bsP (bcP fun _ => rfl))) (EvE.res (r' := ((atI x.2 (6 : Int)).bind fun v119 => modP v119 (odd_104.length : Int)).bind fun v122 => atI odd_104 v122) (ev_ix (EvE.B (ev_var (i := 5) (m := .new) (x := odd_104) rfl)) (EvE.res (r' := (atI x.2 (6 : Int)).bind fun v119 => modP v119 (odd_104.length : Int)) (ev_mod (EvE.res (r' := atI x.2 (6 : Int)) (ev_ix (EvB.sc (m1 := .new) (EvE.B (ev_var (i := 1) (m := .old) (x := x.2) rfl))) ev_int) (bsP (bsP rfl))) (EvE.res (r' := some (odd_104.length : Int)) (ev_len (EvE.B (ev_var (i := 5) (m := .new) (x := odd_104) rfl))) (bsP rfl))) (bcP fun _ => (bsP rfl)))) (bsP (bcP fun _ => rfl)))) (fun p127 =>
 (er_seq (E := fun (found_162 : (List Str)) => [.dat .new (rp x.1), .dat .old (rp x.2), .dat .new (rp words_3), .dat .new (rp p20.1), .dat .new (rp p20.2), .dat .new (rp odd_104), .dat .new (rp p127.1), .dat .new (rp p127.2), .own .new (rps found_162), .un, .un]) (en_own (ev_list (m := .new) (EvXs.res (r' := ((addS x.1 (Str.ofString " ")).bind fun v158 => ((addS (Str.ofString " ") x.1).bind fun v156 => ((addS x.1 (Str.ofString "\n")).bind fun v154 => ((((replS x.1 (Str.ofString " ") (Str.ofString "  ")).bind fun v148 => ((replS x.1 (Str.ofString ":") (Str.ofString "")).bind fun v146 => ((replS x.1 (Str.ofString " : ") (Str.ofString ":")).bind fun v144 => (((addS x.1 (Str.ofString " ")).bind fun v141 => addS v141 x.1).bind fun v142 => some (v142 :: ([] : (List Str)))).bind fun l145 => some (v144 :: l145)).bind fun l147 => some (v146 :: l147)).bind fun l149 => some (v148 :: l149)).bind fun l151 => some ((Str.ofString " ") :: l151)).bind fun l153 => some ((Str.ofString "") :: l153)).bind fun l155 => some (v154 :: l155)).bind fun l157 => some (v156 :: l157)).bind fun l159 => some (v158 :: l159)).bind fun l161 => some (x.1 :: l161)) (exs_cons (ev_var (i := 0) (m := .new) (x := x.1) rfl) (EvXs.res (r' := (addS x.1 (Str.ofString " ")).bind fun v158 => ((addS (Str.ofString " ") x.1).bind fun v156 => ((addS x.1 (Str.ofString "\n")).bind fun v154 => ((((replS x.1 (Str.ofString " ") (Str.ofString "  ")).bind fun v148 => ((replS x.1 (Str.ofString ":") (Str.ofString "")).bind fun v146 => ((replS x.1 (Str.ofString " : ") (Str.ofString ":")).bind fun v144 => (((addS x.1 (Str.ofString " ")).bind fun v141 => addS v141 x.1).bind fun v142 => some (v142 :: ([] : (List Str)))).bind fun l145 => some (v144 :: l145)).bind fun l147 => some (v146 :: l147)).bind fun l149 => some (v148 :: l149)).bind fun l151 => some ((Str.ofString " ") :: l151)).bind fun l153 => some ((Str.ofString "") :: l153)).bind fun l155 => some (v154 :: l155)).bind fun l157 => some (v156 :: l157)).bind fun l159 => some (v158 :: l159)) (exs_cons (EvE.res (r' := addS x.1 (Str.ofString " ")) (ev_addS (ev_var (i := 0) (m := .new) (x := x.1) rfl) ev_str) (bsP (bsP rfl))) (EvXs.res (r' := (addS (Str.ofString " ") x.1).bind fun v156 => ((addS x.1 (Str.ofString "\n")).bind fun v154 => ((((replS x.1 (Str.ofString " ") (Str.ofString "  ")).bind fun v148 => ((replS x.1 (Str.ofString ":") (Str.ofString "")).bind fun v146 => ((replS x.1 (Str.ofString " : ") (Str.ofString ":")).bind fun v144 => (((addS x.1 (Str.ofString " ")).bind fun v141 => addS v141 x.1).bind fun v142 => some (v142 :: ([] : (List Str)))).bind fun l145 => some (v144 :: l145)).bind fun l147 => some (v146 :: l147)).bind fun l149 => some (v148 :: l149)).bind fun l151 => some ((Str.ofString " ") :: l151)).bind fun l153 => some ((Str.ofString "") :: l153)).bind fun l155 => some (v154 :: l155)).bind fun l157 => some (v156 :: l157)) (exs_cons (EvE.res (r' := addS (Str.ofString " ") x.1) (ev_addS ev_str (ev_var (i := 0) (m := .new) (x := x.1) rfl)) (bsP (bsP rfl))) (EvXs.res (r' := (addS x.1 (Str.ofString "\n")).bind fun v154 => ((((replS x.1 (Str.ofString " ") (Str.ofString "  ")).bind fun v148 => ((replS x.1 (Str.ofString ":") (Str.ofString "")).bind fun v146 => ((replS x.1 (Str.ofString " : ") (Str.ofString ":")).bind fun v144 => (((addS x.1 (Str.ofString " ")).bind fun v141 => addS v141 x.1).bind fun v142 => some (v142 :: ([] : (List Str)))).bind fun l145 => some (v144 :: l145)).bind fun l147 => some (v146 :: l147)).bind fun l149 => some (v148 :: l149)).bind fun l151 => some ((Str.ofString " ") :: l151)).bind fun l153 => some ((Str.ofString "") :: l153)).bind fun l155 => some (v154 :: l155)) (exs_cons (EvE.res (r' := addS x.1 (Str.ofString "\n")) (ev_addS (ev_var (i := 0) (m := .new) (x := x.1) rfl) ev_str) (bsP (bsP rfl))) (EvXs.res (r' := (((replS x.1 (Str.ofString " ") (Str.ofString "  ")).bind fun v148 => ((replS x.1 (Str.ofString ":") (Str.ofString "")).bind fun v146 => ((replS x.1 (Str.ofString " : ") (Str.ofString ":")).bind fun v144 => (((addS x.1 (Str.ofString " ")).bind fun v141 => addS v141 x.1).bind fun v142 => some (v142 :: ([] : (List Str)))).bind fun l145 => some (v144 :: l145)).bind fun l147 => some (v146 :: l147)).bind fun l149 => some (v148 :: l149)).bind fun l151 => some ((Str.ofString " ") :: l151)).bind fun l153 => some ((Str.ofString "") :: l153)) (exs_cons ev_str (EvXs.res (r' := ((replS x.1 (Str.ofString " ") (Str.ofString "  ")).bind fun v148 => ((replS x.1 (Str.ofString ":") (Str.ofString "")).bind fun v146 => ((replS x.1 (Str.ofString " : ") (Str.ofString ":")).bind fun v144 => (((addS x.1 (Str.ofString " ")).bind fun v141 => addS v141 x.1).bind fun v142 => some (v142 :: ([] : (List Str)))).bind fun l145 => some (v144 :: l145)).bind fun l147 => some (v146 :: l147)).bind fun l149 => some (v148 :: l149)).bind fun l151 => some ((Str.ofString " ") :: l151)) (exs_cons ev_str (EvXs.res (r' := (replS x.1 (Str.ofString " ") (Str.ofString "  ")).bind fun v148 => ((replS x.1 (Str.ofString ":") (Str.ofString "")).bind fun v146 => ((replS x.1 (Str.ofString " : ") (Str.ofString ":")).bind fun v144 => (((addS x.1 (Str.ofString " ")).bind fun v141 => addS v141 x.1).bind fun v142 => some (v142 :: ([] : (List Str)))).bind fun l145 => some (v144 :: l145)).bind fun l147 => some (v146 :: l147)).bind fun l149 => some (v148 :: l149)) (exs_cons (EvE.res (r' := replS x.1 (Str.ofString " ") (Str.ofString "  ")) (ev_replS (ev_var (i := 0) (m := .new) (x := x.1) rfl)) (bsP rfl)) (EvXs.res (r' := (replS x.1 (Str.ofString ":") (Str.ofString "")).bind fun v146 => ((replS x.1 (Str.ofString " : ") (Str.ofString ":")).bind fun v144 => (((addS x.1 (Str.ofString " ")).bind fun v141 => addS v141 x.1).bind fun v142 => some (v142 :: ([] : (List Str)))).bind fun l145 => some (v144 :: l145)).bind fun l147 => some (v146 :: l147)) (exs_cons (EvE.res (r' := replS x.1 (Str.ofString ":") (Str.ofString "")) (ev_replS (ev_var (i := 0) (m := .new) (x := x.1) rfl)) (bsP rfl)) (EvXs.res (r' := (replS x.1 (Str.ofString " : ") (Str.ofString ":")).bind fun v144 => (((addS x.1 (Str.ofString " ")).bind fun v141 => addS v141 x.1).bind fun v142 => some (v142 :: ([] : (List Str)))).bind fun l145 => some (v144 :: l145)) (exs_cons (EvE.res (r' := replS x.1 (Str.ofString " : ") (Str.ofString ":")) (ev_replS (ev_var (i := 0) (m := .new) (x := x.1) rfl)) (bsP rfl)) (EvXs.res (r' := ((addS x.1 (Str.ofString " ")).bind fun v141 => addS v141 x.1).bind fun v142 => some (v142 :: ([] : (List Str)))) (exs_cons (EvE.res (r' := (addS x.1 (Str.ofString " ")).bind fun v141 => addS v141 x.1) (ev_addS (EvE.res (r' := addS x.1 (Str.ofString " ")) (ev_addS (ev_var (i := 0) (m := .new) (x := x.1) rfl) ev_str) (bsP (bsP rfl))) (ev_var (i := 0) (m := .new) (x := x.1) rfl)) (bcP fun _ => (bsP rfl))) exs_nil) (bcP fun _ => (bsP rfl)))) (bcP fun _ => (bcP fun _ => rfl)))) (bcP fun _ => (bcP fun _ => rfl)))) (bcP fun _ => (bcP fun _ => rfl)))) (bsP (bcP fun _ => rfl)))) (bsP (bcP fun _ => rfl)))) (bcP fun _ => (bcP fun _ => rfl)))) (bcP fun _ => (bcP fun _ => rfl)))) (bcP fun _ => (bcP fun _ => rfl)))) (bsP (bcP fun _ => rfl))))) (fun found_162 =>
 (er_seq (E := fun (found_163 : (List Str)) => [.dat .new (rp x.1), .dat .old (rp x.2), .dat .new (rp words_3), .dat .new (rp p20.1), .dat .new (rp p20.2), .dat .new (rp odd_104), .dat .new (rp p127.1), .dat .new (rp p127.2), .own .new (rps found_163), .un, .un]) (en_append (i := 8) (m := .new) (xs := found_162) (EvE.res (r' := joinS (Str.ofString " ") words_3.reverse) (ev_joinS ev_str (EvL.B (EvL.res (r' := some words_3.reverse) (ev_revSl (EvE.B (ev_var (i := 2) (m := .new) (x := words_3) rfl))) (bsP rfl)))) (bsP (bsP rfl))) rfl) (fun found_163 =>
 (er_seq (E := fun (found_169 : (List Str)) => [.dat .new (rp x.1), .dat .old (rp x.2), .dat .new (rp words_3), .dat .new (rp p20.1), .dat .new (rp p20.2), .dat .new (rp odd_104), .dat .new (rp p127.1), .dat .new (rp p127.2), .own .new (rps found_169), .un, .un]) (en_append (i := 8) (m := .new) (xs := found_163) (EvE.res (r' := (lim ((cut words_3 (some (1 : Int)) none) ++ (cut words_3 none (some (1 : Int))))).bind fun v180 => joinS (Str.ofString " ") v180) (ev_joinS ev_str (EvL.B (EvL.res (r' := lim ((cut words_3 (some (1 : Int)) none) ++ (cut words_3 none (some (1 : Int))))) (ev_cat (EvL.B (EvL.res (r' := some (cut words_3 (some (1 : Int)) none)) (ev_sl (EvE.B (ev_var (i := 2) (m := .new) (x := words_3) rfl)) (eo_atP ev_int) eo_no) (bsP (bsP (bsP rfl))))) (EvL.B (EvL.res (r' := some (cut words_3 none (some (1 : Int)))) (ev_sl (EvE.B (ev_var (i := 2) (m := .new) (x := words_3) rfl)) eo_no (eo_atP ev_int)) (bsP (bsP (bsP rfl)))))) (bsP (bsP rfl))))) (bsP (bcP fun _ => rfl))) rfl) (fun found_169 =>
 (er_seq (E := fun (found_183 : (List Str)) => [.dat .new (rp x.1), .dat .old (rp x.2), .dat .new (rp words_3), .dat .new (rp p20.1), .dat .new (rp p20.2), .dat .new (rp odd_104), .dat .new (rp p127.1), .dat .new (rp p127.2), .own .new (rps found_183), .un, .un]) (en_append (i := 8) (m := .new) (xs := found_169) (EvE.res (r' := (lim ((cut words_3 none (some p20.1)) ++ (cut words_3 (some (p20.1 + (1 : Int))) none))).bind fun v196 => joinS (Str.ofString " ") v196) (ev_joinS ev_str (EvL.B (EvL.res (r' := lim ((cut words_3 none (some p20.1)) ++ (cut words_3 (some (p20.1 + (1 : Int))) none))) (ev_cat (EvL.B (EvL.res (r' := some (cut words_3 none (some p20.1))) (ev_sl (EvE.B (ev_var (i := 2) (m := .new) (x := words_3) rfl)) eo_no (eo_atP (ev_var (i := 3) (m := .new) (x := p20.1) rfl))) (bsP (bsP (bsP rfl))))) (EvL.B (EvL.res (r' := some (cut words_3 (some (p20.1 + (1 : Int))) none)) (ev_sl (EvE.B (ev_var (i := 2) (m := .new) (x := words_3) rfl)) (eo_atP (EvE.res (r' := some (p20.1 + (1 : Int))) (ev_arith (ev_var (i := 3) (m := .new) (x := p20.1) rfl) ev_int) (bsP (bsP rfl)))) eo_no) (bsP (bsP (bsP rfl)))))) (bsP (bsP rfl))))) (bsP (bcP fun _ => rfl))) rfl) (fun found_183 =>
 (er_seq (E := fun (found_199 : (List Str)) => [.dat .new (rp x.1), .dat .old (rp x.2), .dat .new (rp words_3), .dat .new (rp p20.1), .dat .new (rp p20.2), .dat .new (rp odd_104), .dat .new (rp p127.1), .dat .new (rp p127.2), .own .new (rps found_199), .un, .un]) (en_append (i := 8) (m := .new) (xs := found_183) (EvE.res (r' := ((((atI words_3 p20.1).bind fun v205 => some (v205 :: ([] : (List Str)))).bind fun v209 => lim ((cut words_3 none (some p20.1)) ++ v209)).bind fun v215 => lim (v215 ++ (cut words_3 (some p20.1) none))).bind fun v218 => joinS (Str.ofString " ") v218) (ev_joinS ev_str (EvL.B (EvL.res (r' := (((atI words_3 p20.1).bind fun v205 => some (v205 :: ([] : (List Str)))).bind fun v209 => lim ((cut words_3 none (some p20.1)) ++ v209)).bind fun v215 => lim (v215 ++ (cut words_3 (some p20.1) none))) (ev_cat (EvL.B (EvL.res (r' := ((atI words_3 p20.1).bind fun v205 => some (v205 :: ([] : (List Str)))).bind fun v209 => lim ((cut words_3 none (some p20.1)) ++ v209)) (ev_cat (EvL.B (EvL.res (r' := some (cut words_3 none (some p20.1))) (ev_sl (EvE.B (ev_var (i := 2) (m := .new) (x := words_3) rfl)) eo_no (eo_atP (ev_var (i := 3) (m := .new) (x := p20.1) rfl))) (bsP (bsP (bsP rfl))))) (EvL.B (ev_list (m := .new) (EvXs.res (r' := (atI words_3 p20.1).bind fun v205 => some (v205 :: ([] : (List Str)))) (exs_cons (EvE.res (r' := atI words_3 p20.1) (ev_ix (EvE.B (ev_var (i := 2) (m := .new) (x := words_3) rfl)) (ev_var (i := 3) (m := .new) (x := p20.1) rfl)) (bsP (bsP rfl))) exs_nil) (bcP fun _ => (bsP rfl)))))) (bsP (bcP fun _ => rfl)))) (EvL.B (EvL.res (r' := some (cut words_3 (some p20.1) none)) (ev_sl (EvE.B (ev_var (i := 2) (m := .new) (x := words_3) rfl)) (eo_atP (ev_var (i := 3) (m := .new) (x := p20.1) rfl)) eo_no) (bsP (bsP (bsP rfl)))))) (bcP fun _ => (bsP rfl))))) (bsP (bcP fun _ => rfl))) rfl) (fun found_199 =>
 (er_seq (E := fun (found_221 : (List Str)) => [.dat .new (rp x.1), .dat .old (rp x.2), .dat .new (rp words_3), .dat .new (rp p20.1), .dat .new (rp p20.2), .dat .new (rp odd_104), .dat .new (rp p127.1), .dat .new (rp p127.2), .own .new (rps found_221), .un, .un]) (en_append (i := 8) (m := .new) (xs := found_199) (EvE.res (r' := (f_law_with words_3 p20.1 p127.1).bind fun v227 => joinS (Str.ofString " ") v227) (ev_joinS ev_str (EvE.B (EvE.res (r' := f_law_with words_3 p20.1 p127.1) (ev_call3 (ev_var (i := 2) (m := .new) (x := words_3) rfl) (ev_var (i := 3) (m := .new) (x := p20.1) rfl) (ev_var (i := 6) (m := .new) (x := p127.1) rfl)) (bsP (bsP (bsP rfl)))))) (bsP (bcP fun _ => rfl))) rfl) (fun found_221 =>
 (er_seq (E := fun (found_230 : (List Str)) => [.dat .new (rp x.1), .dat .old (rp x.2), .dat .new (rp words_3), .dat .new (rp p20.1), .dat .new (rp p20.2), .dat .new (rp odd_104), .dat .new (rp p127.1), .dat .new (rp p127.2), .own .new (rps found_230), .un, .un]) (en_append (i := 8) (m := .new) (xs := found_221) (EvE.res (r' := ((lim ((cut words_3 none (some p20.1)) ++ ([p127.2] : (List Str)))).bind fun v243 => lim (v243 ++ (cut words_3 (some p20.1) none))).bind fun v246 => joinS (Str.ofString " ") v246) (ev_joinS ev_str (EvL.B (EvL.res (r' := (lim ((cut words_3 none (some p20.1)) ++ ([p127.2] : (List Str)))).bind fun v243 => lim (v243 ++ (cut words_3 (some p20.1) none))) (ev_cat (EvL.B (EvL.res (r' := lim ((cut words_3 none (some p20.1)) ++ ([p127.2] : (List Str)))) (ev_cat (EvL.B (EvL.res (r' := some (cut words_3 none (some p20.1))) (ev_sl (EvE.B (ev_var (i := 2) (m := .new) (x := words_3) rfl)) eo_no (eo_atP (ev_var (i := 3) (m := .new) (x := p20.1) rfl))) (bsP (bsP (bsP rfl))))) (EvL.B (ev_list (m := .new) (EvXs.res (r' := some ([p127.2] : (List Str))) (exs_cons (ev_var (i := 7) (m := .new) (x := p127.2) rfl) exs_nil) (bsP (bsP rfl)))))) (bsP (bsP rfl)))) (EvL.B (EvL.res (r' := some (cut words_3 (some p20.1) none)) (ev_sl (EvE.B (ev_var (i := 2) (m := .new) (x := words_3) rfl)) (eo_atP (ev_var (i := 3) (m := .new) (x := p20.1) rfl)) eo_no) (bsP (bsP (bsP rfl)))))) (bcP fun _ => (bsP rfl))))) (bsP (bcP fun _ => rfl))) rfl) (fun found_230 =>
 (er_seq (E := fun (found_249 : (List Str)) => [.dat .new (rp x.1), .dat .old (rp x.2), .dat .new (rp words_3), .dat .new (rp p20.1), .dat .new (rp p20.2), .dat .new (rp odd_104), .dat .new (rp p127.1), .dat .new (rp p127.2), .own .new (rps found_249), .un, .un]) (en_append (i := 8) (m := .new) (xs := found_230) (EvE.res (r' := (((atI words_3 p20.2).bind fun v255 => f_law_with words_3 p20.1 v255).bind fun v261 => (atI words_3 p20.1).bind fun v262 => f_law_with v261 p20.2 v262).bind fun v265 => joinS (Str.ofString " ") v265) (ev_joinS ev_str (EvE.B (EvE.res (r' := ((atI words_3 p20.2).bind fun v255 => f_law_with words_3 p20.1 v255).bind fun v261 => (atI words_3 p20.1).bind fun v262 => f_law_with v261 p20.2 v262) (ev_call3 (EvE.res (r' := (atI words_3 p20.2).bind fun v255 => f_law_with words_3 p20.1 v255) (ev_call3 (ev_var (i := 2) (m := .new) (x := words_3) rfl) (ev_var (i := 3) (m := .new) (x := p20.1) rfl) (EvE.res (r' := atI words_3 p20.2) (ev_ix (EvE.B (ev_var (i := 2) (m := .new) (x := words_3) rfl)) (ev_var (i := 4) (m := .new) (x := p20.2) rfl)) (bsP (bsP rfl)))) (bsP (bsP (bcP fun _ => rfl)))) (ev_var (i := 4) (m := .new) (x := p20.2) rfl) (EvE.res (r' := atI words_3 p20.1) (ev_ix (EvE.B (ev_var (i := 2) (m := .new) (x := words_3) rfl)) (ev_var (i := 3) (m := .new) (x := p20.1) rfl)) (bsP (bsP rfl)))) (bcP fun _ => (bsP (bcP fun _ => rfl)))))) (bsP (bcP fun _ => rfl))) rfl) (fun found_249 =>
 (er_seq (E := fun (found_268 : (List Str)) => [.dat .new (rp x.1), .dat .old (rp x.2), .dat .new (rp words_3), .dat .new (rp p20.1), .dat .new (rp p20.2), .dat .new (rp odd_104), .dat .new (rp p127.1), .dat .new (rp p127.2), .own .new (rps found_268), .un, .un]) (en_append (i := 8) (m := .new) (xs := found_249) (EvE.res (r' := ((f_law_with words_3 p20.1 p127.1).bind fun v275 => f_law_with v275 p20.2 p127.2).bind fun v278 => joinS (Str.ofString " ") v278) (ev_joinS ev_str (EvE.B (EvE.res (r' := (f_law_with words_3 p20.1 p127.1).bind fun v275 => f_law_with v275 p20.2 p127.2) (ev_call3 (EvE.res (r' := f_law_with words_3 p20.1 p127.1) (ev_call3 (ev_var (i := 2) (m := .new) (x := words_3) rfl) (ev_var (i := 3) (m := .new) (x := p20.1) rfl) (ev_var (i := 6) (m := .new) (x := p127.1) rfl)) (bsP (bsP (bsP rfl)))) (ev_var (i := 4) (m := .new) (x := p20.2) rfl) (ev_var (i := 7) (m := .new) (x := p127.2) rfl)) (bcP fun _ => (bsP (bsP rfl)))))) (bsP (bcP fun _ => rfl))) rfl) (fun found_268 =>
 (er_seq (E := fun (place_291 : Int) => [.dat .new (rp x.1), .dat .old (rp x.2), .dat .new (rp words_3), .dat .new (rp p20.1), .dat .new (rp p20.2), .dat .new (rp odd_104), .dat .new (rp p127.1), .dat .new (rp p127.2), .own .new (rps found_268), .dat .new (rp place_291), .un]) (en_set (EvE.res (r' := (atI x.2 (7 : Int)).bind fun v289 => ((lenS x.1).bind fun v286 => some (v286 + (1 : Int))).bind fun v290 => modP v289 v290) (ev_mod (EvE.res (r' := atI x.2 (7 : Int)) (ev_ix (EvB.sc (m1 := .new) (EvE.B (ev_var (i := 1) (m := .old) (x := x.2) rfl))) ev_int) (bsP (bsP rfl))) (EvE.res (r' := (lenS x.1).bind fun v286 => some (v286 + (1 : Int))) (ev_arith (EvE.res (r' := lenS x.1) (ev_lenS (ev_var (i := 0) (m := .new) (x := x.1) rfl)) (bsP rfl)) ev_int) (bcP fun _ => (bsP rfl)))) (bcP fun _ => (bcP fun _ => rfl)))) (fun place_291 =>
 (er_seq (E := fun (s326 : (List Str)) => [.dat .new (rp x.1), .dat .old (rp x.2), .dat .new (rp words_3), .dat .new (rp p20.1), .dat .new (rp p20.2), .dat .new (rp odd_104), .dat .new (rp p127.1), .dat .new (rp p127.2), .own .new (rps s326), .dat .new (rp place_291), .un]) (en_forP (E := fun (s326 : (List Str)) => [.dat .new (rp x.1), .dat .old (rp x.2), .dat .new (rp words_3), .dat .new (rp p20.1), .dat .new (rp p20.2), .dat .new (rp odd_104), .dat .new (rp p127.1), .dat .new (rp p127.2), .own .new (rps s326), .dat .new (rp place_291), .un]) (s0 := found_268) (Eb := fun (s308 : (List Str)) (sign_309 : Str) => [.dat .new (rp x.1), .dat .old (rp x.2), .dat .new (rp words_3), .dat .new (rp p20.1), .dat .new (rp p20.2), .dat .new (rp odd_104), .dat .new (rp p127.1), .dat .new (rp p127.2), .own .new (rps s308), .dat .new (rp place_291), .dat .new (rp sign_309)]) (vs := [10]) (ei_list (EvL.E (ev_list (m := .new) (EvXs.res (r' := some ([(Str.ofString "0"), (Str.ofString "-"), (Str.ofString "+"), (Str.ofString " "), (Str.ofString ":"), (Str.ofString "9"), (Str.ofString "_"), (Str.ofString "x")] : (List Str))) (exs_cons ev_str (EvXs.res (r' := some ([(Str.ofString "-"), (Str.ofString "+"), (Str.ofString " "), (Str.ofString ":"), (Str.ofString "9"), (Str.ofString "_"), (Str.ofString "x")] : (List Str))) (exs_cons ev_str (EvXs.res (r' := some ([(Str.ofString "+"), (Str.ofString " "), (Str.ofString ":"), (Str.ofString "9"), (Str.ofString "_"), (Str.ofString "x")] : (List Str))) (exs_cons ev_str (EvXs.res (r' := some ([(Str.ofString " "), (Str.ofString ":"), (Str.ofString "9"), (Str.ofString "_"), (Str.ofString "x")] : (List Str))) (exs_cons ev_str (EvXs.res (r' := some ([(Str.ofString ":"), (Str.ofString "9"), (Str.ofString "_"), (Str.ofString "x")] : (List Str))) (exs_cons ev_str (EvXs.res (r' := some ([(Str.ofString "9"), (Str.ofString "_"), (Str.ofString "x")] : (List Str))) (exs_cons ev_str (EvXs.res (r' := some ([(Str.ofString "_"), (Str.ofString "x")] : (List Str))) (exs_cons ev_str (EvXs.res (r' := some ([(Str.ofString "x")] : (List Str))) (exs_cons ev_str exs_nil) (bsP (bsP rfl)))) (bsP (bsP rfl)))) (bsP (bsP rfl)))) (bsP (bsP rfl)))) (bsP (bsP rfl)))) (bsP (bsP rfl)))) (bsP (bsP rfl)))) (bsP (bsP rfl)))))) (.cons .id (.cons .id (.cons .id (.cons .id (.cons .id (.cons .id (.cons .id (.cons .id (.cons .id (.cons .id (.cons .id .nil))))))))))) (fun s308 sign_309 => (eg_nameS (m1 := .new))) (fun s308 sign_309 =>
 (en_last (en_seq (E := fun (found_310 : (List Str)) => [.dat .new (rp x.1), .dat .old (rp x.2), .dat .new (rp words_3), .dat .new (rp p20.1), .dat .new (rp p20.2), .dat .new (rp odd_104), .dat .new (rp p127.1), .dat .new (rp p127.2), .own .new (rps found_310), .dat .new (rp place_291), .dat .new (rp sign_309)]) (en_append (i := 8) (m := .new) (xs := s308) (EvE.res (r' := ((cutSP x.1 none (some place_291)).bind fun v316 => addS v316 sign_309).bind fun v322 => (cutSP x.1 (some place_291) none).bind fun v323 => addS v322 v323) (ev_addS (EvE.res (r' := (cutSP x.1 none (some place_291)).bind fun v316 => addS v316 sign_309) (ev_addS (EvE.res (r' := cutSP x.1 none (some place_291)) (ev_slT (ev_var (i := 0) (m := .new) (x := x.1) rfl) eo_no (eo_atP (ev_var (i := 9) (m := .new) (x := place_291) rfl))) (bsP (bsP (bsP rfl)))) (ev_var (i := 10) (m := .new) (x := sign_309) rfl)) (bcP fun _ => (bsP rfl))) (EvE.res (r' := cutSP x.1 (some place_291) none) (ev_slT (ev_var (i := 0) (m := .new) (x := x.1) rfl) (eo_atP (ev_var (i := 9) (m := .new) (x := place_291) rfl)) eo_no) (bsP (bsP (bsP rfl))))) (bcP fun _ => (bcP fun _ => rfl))) rfl) (fun found_310 =>
 (en_end (s := found_310) (.cons .id (.cons .id (.cons .id (.cons .id (.cons .id (.cons .id (.cons .id (.cons .id (.cons .id (.cons .id (.cons .un .nil))))))))))))))))) (fun s328 =>
 (er_seq (E := fun (found_374 : (List Str)) => [.dat .new (rp x.1), .dat .old (rp x.2), .dat .new (rp words_3), .dat .new (rp p20.1), .dat .new (rp p20.2), .dat .new (rp odd_104), .dat .new (rp p127.1), .dat .new (rp p127.2), .own .new (rps found_374), .dat .new (rp place_291), .un]) (en_own (EvL.res (r' := (((addS p127.1 (Str.ofString " : ")).bind fun v333 => addS v333 p127.2).bind fun v369 => ((addS p127.1 (Str.ofString " :")).bind fun v367 => (((addS p127.1 (Str.ofString " : 0 ")).bind fun v340 => addS v340 p127.2).bind fun v365 => ((((addS (Str.ofString "7 : ") p127.1).bind fun v345 => addS v345 (Str.ofString " ")).bind fun v348 => addS v348 p127.2).bind fun v363 => (((((addS (Str.ofString "0 ") p127.1).bind fun v355 => some (v355 :: ([(Str.ofString "1 : 0"), (Str.ofString "1 : 1")] : (List Str)))).bind fun l358 => some ((Str.ofString "0 :") :: l358)).bind fun l360 => some ((Str.ofString "7") :: l360)).bind fun l362 => some ((Str.ofString "7 :") :: l362)).bind fun l364 => some (v363 :: l364)).bind fun l366 => some (v365 :: l366)).bind fun l368 => some (v367 :: l368)).bind fun l370 => some (v369 :: l370)).bind fun v373 => lim (s328 ++ v373)) (ev_cat (ev_own (i := 8) (m := .new) (xs := s328) rfl) (EvL.B (ev_list (m := .new) (EvXs.res (r' := ((addS p127.1 (Str.ofString " : ")).bind fun v333 => addS v333 p127.2).bind fun v369 => ((addS p127.1 (Str.ofString " :")).bind fun v367 => (((addS p127.1 (Str.ofString " : 0 ")).bind fun v340 => addS v340 p127.2).bind fun v365 => ((((addS (Str.ofString "7 : ") p127.1).bind fun v345 => addS v345 (Str.ofString " ")).bind fun v348 => addS v348 p127.2).bind fun v363 => (((((addS (Str.ofString "0 ") p127.1).bind fun v355 => some (v355 :: ([(Str.ofString "1 : 0"), (Str.ofString "1 : 1")] : (List Str)))).bind fun l358 => some ((Str.ofString "0 :") :: l358)).bind fun l360 => some ((Str.ofString "7") :: l360)).bind fun l362 => some ((Str.ofString "7 :") :: l362)).bind fun l364 => some (v363 :: l364)).bind fun l366 => some (v365 :: l366)).bind fun l368 => some (v367 :: l368)).bind fun l370 => some (v369 :: l370)) (exs_cons (EvE.res (r' := (addS p127.1 (Str.ofString " : ")).bind fun v333 => addS v333 p127.2) (ev_addS (EvE.res (r' := addS p127.1 (Str.ofString " : ")) (ev_addS (ev_var (i := 6) (m := .new) (x := p127.1) rfl) ev_str) (bsP (bsP rfl))) (ev_var (i := 7) (m := .new) (x := p127.2) rfl)) (bcP fun _ => (bsP rfl))) (EvXs.res (r' := (addS p127.1 (Str.ofString " :")).bind fun v367 => (((addS p127.1 (Str.ofString " : 0 ")).bind fun v340 => addS v340 p127.2).bind fun v365 => ((((addS (Str.ofString "7 : ") p127.1).bind fun v345 => addS v345 (Str.ofString " ")).bind fun v348 => addS v348 p127.2).bind fun v363 => (((((addS (Str.ofString "0 ") p127.1).bind fun v355 => some (v355 :: ([(Str.ofString "1 : 0"), (Str.ofString "1 : 1")] : (List Str)))).bind fun l358 => some ((Str.ofString "0 :") :: l358)).bind fun l360 => some ((Str.ofString "7") :: l360)).bind fun l362 => some ((Str.ofString "7 :") :: l362)).bind fun l364 => some (v363 :: l364)).bind fun l366 => some (v365 :: l366)).bind fun l368 => some (v367 :: l368)) (exs_cons (EvE.res (r' := addS p127.1 (Str.ofString " :")) (ev_addS (ev_var (i := 6) (m := .new) (x := p127.1) rfl) ev_str) (bsP (bsP rfl))) (EvXs.res (r' := ((addS p127.1 (Str.ofString " : 0 ")).bind fun v340 => addS v340 p127.2).bind fun v365 => ((((addS (Str.ofString "7 : ") p127.1).bind fun v345 => addS v345 (Str.ofString " ")).bind fun v348 => addS v348 p127.2).bind fun v363 => (((((addS (Str.ofString "0 ") p127.1).bind fun v355 => some (v355 :: ([(Str.ofString "1 : 0"), (Str.ofString "1 : 1")] : (List Str)))).bind fun l358 => some ((Str.ofString "0 :") :: l358)).bind fun l360 => some ((Str.ofString "7") :: l360)).bind fun l362 => some ((Str.ofString "7 :") :: l362)).bind fun l364 => some (v363 :: l364)).bind fun l366 => some (v365 :: l366)) (exs_cons (EvE.res (r' := (addS p127.1 (Str.ofString " : 0 ")).bind fun v340 => addS v340 p127.2) (ev_addS (EvE.res (r' := addS p127.1 (Str.ofString " : 0 ")) (ev_addS (ev_var (i := 6) (m := .new) (x := p127.1) rfl) ev_str) (bsP (bsP rfl))) (ev_var (i := 7) (m := .new) (x := p127.2) rfl)) (bcP fun _ => (bsP rfl))) (EvXs.res (r' := (((addS (Str.ofString "7 : ") p127.1).bind fun v345 => addS v345 (Str.ofString " ")).bind fun v348 => addS v348 p127.2).bind fun v363 => (((((addS (Str.ofString "0 ") p127.1).bind fun v355 => some (v355 :: ([(Str.ofString "1 : 0"), (Str.ofString "1 : 1")] : (List Str)))).bind fun l358 => some ((Str.ofString "0 :") :: l358)).bind fun l360 => some ((Str.ofString "7") :: l360)).bind fun l362 => some ((Str.ofString "7 :") :: l362)).bind fun l364 => some (v363 :: l364)) (exs_cons (EvE.res (r' := ((addS (Str.ofString "7 : ") p127.1).bind fun v345 => addS v345 (Str.ofString " ")).bind fun v348 => addS v348 p127.2) (ev_addS (EvE.res (r' := (addS (Str.ofString "7 : ") p127.1).bind fun v345 => addS v345 (Str.ofString " ")) (ev_addS (EvE.res (r' := addS (Str.ofString "7 : ") p127.1) (ev_addS ev_str (ev_var (i := 6) (m := .new) (x := p127.1) rfl)) (bsP (bsP rfl))) ev_str) (bcP fun _ => (bsP rfl))) (ev_var (i := 7) (m := .new) (x := p127.2) rfl)) (bcP fun _ => (bsP rfl))) (EvXs.res (r' := ((((addS (Str.ofString "0 ") p127.1).bind fun v355 => some (v355 :: ([(Str.ofString "1 : 0"), (Str.ofString "1 : 1")] : (List Str)))).bind fun l358 => some ((Str.ofString "0 :") :: l358)).bind fun l360 => some ((Str.ofString "7") :: l360)).bind fun l362 => some ((Str.ofString "7 :") :: l362)) (exs_cons ev_str (EvXs.res (r' := (((addS (Str.ofString "0 ") p127.1).bind fun v355 => some (v355 :: ([(Str.ofString "1 : 0"), (Str.ofString "1 : 1")] : (List Str)))).bind fun l358 => some ((Str.ofString "0 :") :: l358)).bind fun l360 => some ((Str.ofString "7") :: l360)) (exs_cons ev_str (EvXs.res (r' := ((addS (Str.ofString "0 ") p127.1).bind fun v355 => some (v355 :: ([(Str.ofString "1 : 0"), (Str.ofString "1 : 1")] : (List Str)))).bind fun l358 => some ((Str.ofString "0 :") :: l358)) (exs_cons ev_str (EvXs.res (r' := (addS (Str.ofString "0 ") p127.1).bind fun v355 => some (v355 :: ([(Str.ofString "1 : 0"), (Str.ofString "1 : 1")] : (List Str)))) (exs_cons (EvE.res (r' := addS (Str.ofString "0 ") p127.1) (ev_addS ev_str (ev_var (i := 6) (m := .new) (x := p127.1) rfl)) (bsP (bsP rfl))) (EvXs.res (r' := some ([(Str.ofString "1 : 0"), (Str.ofString "1 : 1")] : (List Str))) (exs_cons ev_str (EvXs.res (r' := some ([(Str.ofString "1 : 1")] : (List Str))) (exs_cons ev_str exs_nil) (bsP (bsP rfl)))) (bsP (bsP rfl)))) (bcP fun _ => (bsP rfl)))) (bsP (bcP fun _ => rfl)))) (bsP (bcP fun _ => rfl)))) (bsP (bcP fun _ => rfl)))) (bcP fun _ => (bcP fun _ => rfl)))) (bcP fun _ => (bcP fun _ => rfl)))) (bcP fun _ => (bcP fun _ => rfl)))) (bcP fun _ => (bcP fun _ => rfl)))))) (bsP (bcP fun _ => rfl)))) (fun found_374 =>
 (er_ret (EvL.E (EvL.res (r' := ((cutSP x.1 none (some place_291)).bind fun v419 => ((cutSP x.1 (some place_291) none).bind fun v417 => (((cutSP x.1 none (some place_291)).bind fun v391 => (cutSP x.1 (some (place_291 + (1 : Int))) none).bind fun v392 => addS v391 v392).bind fun v415 => (((((addS p127.1 (Str.ofString " ")).bind fun v397 => addS v397 p127.2).bind fun v409 => (((atI words_3 (0 : Int)).bind fun v402 => addS v402 (Str.ofString " :")).bind fun v407 => ((atI words_3 (0 : Int)).bind fun v405 => some (v405 :: ([] : (List Str)))).bind fun l408 => some (v407 :: l408)).bind fun l410 => some (v409 :: l410)).bind fun l412 => some (p127.2 :: l412)).bind fun l414 => some (p127.1 :: l414)).bind fun l416 => some (v415 :: l416)).bind fun l418 => some (v417 :: l418)).bind fun l420 => some (v419 :: l420)).bind fun v423 => lim (found_374 ++ v423)) (ev_cat (ev_own (i := 8) (m := .new) (xs := found_374) rfl) (EvL.B (ev_list (m := .new) (EvXs.res (r' := (cutSP x.1 none (some place_291)).bind fun v419 => ((cutSP x.1 (some place_291) none).bind fun v417 => (((cutSP x.1 none (some place_291)).bind fun v391 => (cutSP x.1 (some (place_291 + (1 : Int))) none).bind fun v392 => addS v391 v392).bind fun v415 => (((((addS p127.1 (Str.ofString " ")).bind fun v397 => addS v397 p127.2).bind fun v409 => (((atI words_3 (0 : Int)).bind fun v402 => addS v402 (Str.ofString " :")).bind fun v407 => ((atI words_3 (0 : Int)).bind fun v405 => some (v405 :: ([] : (List Str)))).bind fun l408 => some (v407 :: l408)).bind fun l410 => some (v409 :: l410)).bind fun l412 => some (p127.2 :: l412)).bind fun l414 => some (p127.1 :: l414)).bind fun l416 => some (v415 :: l416)).bind fun l418 => some (v417 :: l418)).bind fun l420 => some (v419 :: l420)) (exs_cons (EvE.res (r' := cutSP x.1 none (some place_291)) (ev_slT (ev_var (i := 0) (m := .new) (x := x.1) rfl) eo_no (eo_atP (ev_var (i := 9) (m := .new) (x := place_291) rfl))) (bsP (bsP (bsP rfl)))) (EvXs.res (r' := (cutSP x.1 (some place_291) none).bind fun v417 => (((cutSP x.1 none (some place_291)).bind fun v391 => (cutSP x.1 (some (place_291 + (1 : Int))) none).bind fun v392 => addS v391 v392).bind fun v415 => (((((addS p127.1 (Str.ofString " ")).bind fun v397 => addS v397 p127.2).bind fun v409 => (((atI words_3 (0 : Int)).bind fun v402 => addS v402 (Str.ofString " :")).bind fun v407 => ((atI words_3 (0 : Int)).bind fun v405 => some (v405 :: ([] : (List Str)))).bind fun l408 => some (v407 :: l408)).bind fun l410 => some (v409 :: l410)).bind fun l412 => some (p127.2 :: l412)).bind fun l414 => some (p127.1 :: l414)).bind fun l416 => some (v415 :: l416)).bind fun l418 => some (v417 :: l418)) (exs_cons (EvE.res (r' := cutSP x.1 (some place_291) none) (ev_slT (ev_var (i := 0) (m := .new) (x := x.1) rfl) (eo_atP (ev_var (i := 9) (m := .new) (x := place_291) rfl)) eo_no) (bsP (bsP (bsP rfl)))) (EvXs.res (r' := ((cutSP x.1 none (some place_291)).bind fun v391 => (cutSP x.1 (some (place_291 + (1 : Int))) none).bind fun v392 => addS v391 v392).bind fun v415 => (((((addS p127.1 (Str.ofString " ")).bind fun v397 => addS v397 p127.2).bind fun v409 => (((atI words_3 (0 : Int)).bind fun v402 => addS v402 (Str.ofString " :")).bind fun v407 => ((atI words_3 (0 : Int)).bind fun v405 => some (v405 :: ([] : (List Str)))).bind fun l408 => some (v407 :: l408)).bind fun l410 => some (v409 :: l410)).bind fun l412 => some (p127.2 :: l412)).bind fun l414 => some (p127.1 :: l414)).bind fun l416 => some (v415 :: l416)) (exs_cons (EvE.res (r' := (cutSP x.1 none (some place_291)).bind fun v391 => (cutSP x.1 (some (place_291 + (1 : Int))) none).bind fun v392 => addS v391 v392) (ev_addS (EvE.res (r' := cutSP x.1 none (some place_291)) (ev_slT (ev_var (i := 0) (m := .new) (x := x.1) rfl) eo_no (eo_atP (ev_var (i := 9) (m := .new) (x := place_291) rfl))) (bsP (bsP (bsP rfl)))) (EvE.res (r' := cutSP x.1 (some (place_291 + (1 : Int))) none) (ev_slT (ev_var (i := 0) (m := .new) (x := x.1) rfl) (eo_atP (EvE.res (r' := some (place_291 + (1 : Int))) (ev_arith (ev_var (i := 9) (m := .new) (x := place_291) rfl) ev_int) (bsP (bsP rfl)))) eo_no) (bsP (bsP (bsP rfl))))) (bcP fun _ => (bcP fun _ => rfl))) (EvXs.res (r' := ((((addS p127.1 (Str.ofString " ")).bind fun v397 => addS v397 p127.2).bind fun v409 => (((atI words_3 (0 : Int)).bind fun v402 => addS v402 (Str.ofString " :")).bind fun v407 => ((atI words_3 (0 : Int)).bind fun v405 => some (v405 :: ([] : (List Str)))).bind fun l408 => some (v407 :: l408)).bind fun l410 => some (v409 :: l410)).bind fun l412 => some (p127.2 :: l412)).bind fun l414 => some (p127.1 :: l414)) (exs_cons (ev_var (i := 6) (m := .new) (x := p127.1) rfl) (EvXs.res (r' := (((addS p127.1 (Str.ofString " ")).bind fun v397 => addS v397 p127.2).bind fun v409 => (((atI words_3 (0 : Int)).bind fun v402 => addS v402 (Str.ofString " :")).bind fun v407 => ((atI words_3 (0 : Int)).bind fun v405 => some (v405 :: ([] : (List Str)))).bind fun l408 => some (v407 :: l408)).bind fun l410 => some (v409 :: l410)).bind fun l412 => some (p127.2 :: l412)) (exs_cons (ev_var (i := 7) (m := .new) (x := p127.2) rfl) (EvXs.res (r' := ((addS p127.1 (Str.ofString " ")).bind fun v397 => addS v397 p127.2).bind fun v409 => (((atI words_3 (0 : Int)).bind fun v402 => addS v402 (Str.ofString " :")).bind fun v407 => ((atI words_3 (0 : Int)).bind fun v405 => some (v405 :: ([] : (List Str)))).bind fun l408 => some (v407 :: l408)).bind fun l410 => some (v409 :: l410)) (exs_cons (EvE.res (r' := (addS p127.1 (Str.ofString " ")).bind fun v397 => addS v397 p127.2) (ev_addS (EvE.res (r' := addS p127.1 (Str.ofString " ")) (ev_addS (ev_var (i := 6) (m := .new) (x := p127.1) rfl) ev_str) (bsP (bsP rfl))) (ev_var (i := 7) (m := .new) (x := p127.2) rfl)) (bcP fun _ => (bsP rfl))) (EvXs.res (r' := ((atI words_3 (0 : Int)).bind fun v402 => addS v402 (Str.ofString " :")).bind fun v407 => ((atI words_3 (0 : Int)).bind fun v405 => some (v405 :: ([] : (List Str)))).bind fun l408 => some (v407 :: l408)) (exs_cons (EvE.res (r' := (atI words_3 (0 : Int)).bind fun v402 => addS v402 (Str.ofString " :")) (ev_addS (EvE.res (r' := atI words_3 (0 : Int)) (ev_ix (EvE.B (ev_var (i := 2) (m := .new) (x := words_3) rfl)) ev_int) (bsP (bsP rfl))) ev_str) (bcP fun _ => (bsP rfl))) (EvXs.res (r' := (atI words_3 (0 : Int)).bind fun v405 => some (v405 :: ([] : (List Str)))) (exs_cons (EvE.res (r' := atI words_3 (0 : Int)) (ev_ix (EvE.B (ev_var (i := 2) (m := .new) (x := words_3) rfl)) ev_int) (bsP (bsP rfl))) exs_nil) (bcP fun _ => (bsP rfl)))) (bcP fun _ => (bcP fun _ => rfl)))) (bcP fun _ => (bcP fun _ => rfl)))) (bsP (bcP fun _ => rfl)))) (bsP (bcP fun _ => rfl)))) (bcP fun _ => (bcP fun _ => rfl)))) (bcP fun _ => (bcP fun _ => rfl)))) (bcP fun _ => (bcP fun _ => rfl)))))) (bsP (bcP fun _ => rfl))))))))))))))))))))))))))))))))))))))) (.cons .sc (.cons .id (.cons .id (.cons .id (.cons .id (.cons .id (.cons .id (.cons .id (.cons .id (.cons .id (.cons .id .nil)))))))))))
theorem ok_law_draws (T : Tx P K mg) : FnOk P w K mg base CX0 1 T.f_law_draws.a T.f_law_draws.d ["script", "many"] (sp2 K f_law_draws .new) := by
  have sc : FnScope ["script", "many", "found", "cell", "number", "k", "mixed", "base"] ["script", "many"] (defScope st_law_draws) := ⟨rfl, rfl, rfl, by decide +kernel, rfl, by decide +kernel, by decide +kernel⟩
  refine T.f_law_draws.F.ok sc (fun vs H Q E h => spA_len h fun _ => rfl) (fun cdv A outer s H vs Q E hr h => ⟨_, (pss_cons (ps_set (i := 2) sc.nd rfl (by first | exact .inl rfl | exact .inr rfl) (pe_lst pa_nil))
 (pss_cons (ps_for PassesOwn.never rfl (pi_list (pe_slice sl_list (pv 0) po_none (po_some pe_int))) (pg_name (i := 3) sc.nd rfl (by first | exact .inl rfl | exact .inr rfl))
 (pss_cons (ps_set (i := 4) sc.nd rfl (by first | exact .inl rfl | exact .inr rfl) (pe_callB call_abs (by rfl) T.n_abs (by decide +kernel) (pa_cons (pe_callTy call_int1 (by rfl) T.n_int (by decide +kernel) (pa_cons (pv 3) pa_nil)) pa_nil)))
 (pss_one (ps_if (pt_cmpR op_ge (pv 4) (pe_op op_pow pe_int pe_int) (nomark _)) (pss_one (ps_for PassesOwn.never rfl (pi_range1 (by rfl) T.n_range (pa_cons pe_int pa_nil)) (pg_name (i := 5) sc.nd rfl (by first | exact .inl rfl | exact .inr rfl))
 (pss_one (ps_if (pt_cmpR op_gt (pv 4) pe_int (nomark _)) (pss_cons (ps_expr (pe_bm PySem.F.plainAttrs_list PySem.F.slot_list_append PySem.F.type_list_append mt_append (pv 2) (pa_cons (pe_op op_mod (pv 4) pe_int) pa_nil)))
 (pss_one (ps_set (i := 4) sc.nd rfl (by first | exact .inl rfl | exact .inr rfl) (pe_op op_fdivW (pv 4) pe_int)))) pss_nil)))) (pss_cons (ps_set (i := 6) sc.nd rfl (by first | exact .inl rfl | exact .inr rfl) (pe_op op_mod (pe_op op_add (pe_op op_add (pe_op op_mul (pv 4) pe_int) (pe_op op_mul pe_int (pe_callB call_len_seq (by rfl) T.n_len (by decide +kernel) (pa_cons (pv 2) pa_nil)))) pe_int) pe_int))
 (pss_one (ps_for PassesOwn.never rfl (pi_range1 (by rfl) T.n_range (pa_cons pe_int pa_nil)) (pg_name (i := 5) sc.nd rfl (by first | exact .inl rfl | exact .inr rfl))
 (pss_cons (ps_set (i := 6) sc.nd rfl (by first | exact .inl rfl | exact .inr rfl) (pe_op op_mod (pe_op op_add (pe_op op_add (pe_op op_add (pe_op op_mul (pv 6) pe_int) (pe_op op_fdivW (pv 6) pe_int)) (pe_op op_mul pe_int (pv 5))) pe_int) pe_int))
 (pss_one (ps_expr (pe_bm PySem.F.plainAttrs_list PySem.F.slot_list_append PySem.F.type_list_append mt_append (pv 2) (pa_cons (pe_op op_mod (pe_op op_fdivW (pv 6) pe_int) pe_int) pa_nil))))))))))))
 (pss_cons (ps_for PassesOwn.never rfl (pi_range1 (by rfl) T.n_range (pa_cons (pv 1) pa_nil)) (pg_name (i := 5) sc.nd rfl (by first | exact .inl rfl | exact .inr rfl))
 (pss_one (ps_if (pt_cmpR op_lt (pe_callB call_len_seq (by rfl) T.n_len (by decide +kernel) (pa_cons (pv 2) pa_nil)) (pv 1) (nomark _)) (pss_cons (ps_set (i := 7) sc.nd rfl (by first | exact .inl rfl | exact .inr rfl) pe_int)
 (pss_cons (ps_if (pt_cmpR op_gt (pe_callB call_len_seq (by rfl) T.n_len (by decide +kernel) (pa_cons (pv 2) pa_nil)) pe_int (nomark _)) (pss_one (ps_set (i := 7) sc.nd rfl (by first | exact .inl rfl | exact .inr rfl) (pe_ix ix_list (pv 2) (pe_op op_mod (pv 5) (pe_callB call_len_seq (by rfl) T.n_len (by decide +kernel) (pa_cons (pv 2) pa_nil))) (fun _ _ => rfl)))) pss_nil)
 (pss_one (ps_expr (pe_bm PySem.F.plainAttrs_list PySem.F.slot_list_append PySem.F.type_list_append mt_append (pv 2) (pa_cons (pe_op op_mod (pe_op op_add (pe_op op_add (pe_op op_mul (pv 7) pe_int) (pe_op op_mul pe_int (pe_callB call_len_seq (by rfl) T.n_len (by decide +kernel) (pa_cons (pv 2) pa_nil)))) pe_int) pe_int) pa_nil)))))) pss_nil)))
 (pss_one (ps_ret (pe_slice sl_list (pv 2) po_none (po_some (pv 1)))))))), of_body (fun x => ?_) (fun _ => Nat.le_of_ble_eq_true rfl) h⟩)
  exact EvR.weakL (er_seq (E := fun (found_1 : (List Int)) => [.dat .old (rp x.1), .dat .new (rp x.2), .own .new (rps found_1), .un, .un, .un, .un, .un]) (en_own (ev_list (m := .new) exs_nil)) (fun found_1 =>
 (er_seq (E := fun (s56 : (List Int)) => [.dat .old (rp x.1), .dat .new (rp x.2), .own .new (rps s56), .un, .un, .un, .un, .un]) (en_forP (E := fun (s56 : (List Int)) => [.dat .old (rp x.1), .dat .new (rp x.2), .own .new (rps s56), .un, .un, .un, .un, .un]) (s0 := found_1) (Eb := fun (s5 : (List Int)) (cell_6 : Int) => [.dat .old (rp x.1), .dat .new (rp x.2), .own .new (rps s5), .dat .new (rp cell_6), .un, .un, .un, .un]) (vs := [3]) (ei_list (EvL.E (EvL.res (r' := some (cut x.1.l none (some (63 : Int)))) (ev_slS (ev_var (i := 0) (m := .old) (x := x.1) rfl) eo_no (eo_atP ev_int)) (bsP (bsP (bsP rfl)))))) (.cons .id (.cons .id (.cons .id (.cons .id (.cons .id (.cons .id (.cons .id (.cons .id .nil)))))))) (fun s5 cell_6 => (eg_nameS (m1 := .new))) (fun s5 cell_6 =>
 (en_seq (E := fun (number_8 : Int) => [.dat .old (rp x.1), .dat .new (rp x.2), .own .new (rps s5), .dat .new (rp cell_6), .dat .new (rp number_8), .un, .un, .un]) (en_set (EvE.res (r' := some (if cell_6 < 0 then -cell_6 else cell_6)) (ev_abs (ev_intI (ev_var (i := 3) (m := .new) (x := cell_6) rfl))) (bsP rfl))) (fun number_8 =>
 (en_ifP (et_test (EvE.res (r' := some (decide ((1000000000000000000 : Int) ≤ number_8))) (ev_cmpI (ev_var (i := 4) (m := .new) (x := number_8) rfl) (ev_powV (a := 10) (b := 18) (v := 1000000000000000000))) (bsP (bsP rfl))))
 (en_last (en_seq (E := fun (s22 : ((List Int) × Int)) => [.dat .old (rp x.1), .dat .new (rp x.2), .own .new (rps s22.1), .dat .new (rp cell_6), .dat .new (rp s22.2), .un, .un, .un]) (en_for (E := fun (s22 : ((List Int) × Int)) => [.dat .old (rp x.1), .dat .new (rp x.2), .own .new (rps s22.1), .dat .new (rp cell_6), .dat .new (rp s22.2), .un, .un, .un]) (s0 := (s5, number_8)) (Eb := fun (s12 : ((List Int) × Int)) (k_13 : Int) => [.dat .old (rp x.1), .dat .new (rp x.2), .own .new (rps s12.1), .dat .new (rp cell_6), .dat .new (rp s12.2), .dat .new (rp k_13), .un, .un]) (vs := [5]) (EvI.res (r' := rangeP 0 (60 : Int)) (ei_range1 ev_int) (bsP rfl)) (.cons .id (.cons .id (.cons .id (.cons .id (.cons .id (.cons .id (.cons .id (.cons .id .nil)))))))) (fun s12 k_13 => (eg_nameS (m1 := .new))) (fun s12 k_13 =>
 (en_ifP (et_test (EvE.res (r' := some (decide ((0 : Int) < s12.2))) (ev_cmpI (ev_var (i := 4) (m := .new) (x := s12.2) rfl) ev_int) (bsP (bsP rfl))))
 (en_seq (E := fun (found_16 : (List Int)) => [.dat .old (rp x.1), .dat .new (rp x.2), .own .new (rps found_16), .dat .new (rp cell_6), .dat .new (rp s12.2), .dat .new (rp k_13), .un, .un]) (en_append (i := 2) (m := .new) (xs := s12.1) (EvE.res (r' := some (s12.2 % 1000003)) (ev_modC (ev_var (i := 4) (m := .new) (x := s12.2) rfl)) (bsP rfl)) rfl) (fun found_16 =>
 (en_last (en_seq (E := fun (number_20 : Int) => [.dat .old (rp x.1), .dat .new (rp x.2), .own .new (rps found_16), .dat .new (rp cell_6), .dat .new (rp number_20), .dat .new (rp k_13), .un, .un]) (en_set (EvE.res (r' := some (s12.2 / 1000003)) (ev_divC (ev_var (i := 4) (m := .new) (x := s12.2) rfl)) (bsP rfl))) (fun number_20 =>
 (en_end (s := (found_16, number_20)) (.cons .id (.cons .id (.cons .id (.cons .id (.cons .id (.cons .un (.cons .id (.cons .id .nil))))))))))))))
 (en_end (s := (s12.1, s12.2)) (.cons .id (.cons .id (.cons .id (.cons .id (.cons .id (.cons .un (.cons .id (.cons .id .nil)))))))))))) (fun s24 =>
 (en_end (s := s24.1) (.cons .id (.cons .id (.cons .id (.cons .un (.cons .un (.cons .id (.cons .id (.cons .id .nil))))))))))))
 (en_seq (E := fun (mixed_33 : Int) => [.dat .old (rp x.1), .dat .new (rp x.2), .own .new (rps s5), .dat .new (rp cell_6), .dat .new (rp number_8), .un, .dat .new (rp mixed_33), .un]) (en_set (EvE.res (r' := some ((((number_8 * 48271) + (7 * (s5.length : Int))) + (11 : Int)) % 2147483647)) (ev_modC (EvE.res (r' := some (((number_8 * 48271) + (7 * (s5.length : Int))) + (11 : Int))) (ev_arith (EvE.res (r' := some ((number_8 * 48271) + (7 * (s5.length : Int)))) (ev_arith (EvE.res (r' := some (number_8 * 48271)) (ev_mulC (ev_var (i := 4) (m := .new) (x := number_8) rfl)) (bsP rfl)) (EvE.res (r' := some (7 * (s5.length : Int))) (ev_mulCl (EvE.res (r' := some (s5.length : Int)) (ev_len (ev_own (i := 2) (m := .new) (xs := s5) rfl)) (bsP rfl))) (bsP rfl))) (bsP (bsP rfl))) ev_int) (bsP (bsP rfl)))) (bsP rfl))) (fun mixed_33 =>
 (en_last (en_seq (E := fun (s52 : ((List Int) × Int)) => [.dat .old (rp x.1), .dat .new (rp x.2), .own .new (rps s52.1), .dat .new (rp cell_6), .dat .new (rp number_8), .un, .dat .new (rp s52.2), .un]) (en_for (E := fun (s52 : ((List Int) × Int)) => [.dat .old (rp x.1), .dat .new (rp x.2), .own .new (rps s52.1), .dat .new (rp cell_6), .dat .new (rp number_8), .un, .dat .new (rp s52.2), .un]) (s0 := (s5, mixed_33)) (Eb := fun (s35 : ((List Int) × Int)) (k_36 : Int) => [.dat .old (rp x.1), .dat .new (rp x.2), .own .new (rps s35.1), .dat .new (rp cell_6), .dat .new (rp number_8), .dat .new (rp k_36), .dat .new (rp s35.2), .un]) (vs := [5]) (EvI.res (r' := rangeP 0 (4 : Int)) (ei_range1 ev_int) (bsP rfl)) (.cons .id (.cons .id (.cons .id (.cons .id (.cons .id (.cons .id (.cons .id (.cons .id .nil)))))))) (fun s35 k_36 => (eg_nameS (m1 := .new))) (fun s35 k_36 =>
 (en_seq (E := fun (mixed_47 : Int) => [.dat .old (rp x.1), .dat .new (rp x.2), .own .new (rps s35.1), .dat .new (rp cell_6), .dat .new (rp number_8), .dat .new (rp k_36), .dat .new (rp mixed_47), .un]) (en_set (EvE.res (r' := some (((((s35.2 * 69621) + (s35.2 / 65536)) + (13 * k_36)) + (5 : Int)) % 2147483629)) (ev_modC (EvE.res (r' := some ((((s35.2 * 69621) + (s35.2 / 65536)) + (13 * k_36)) + (5 : Int))) (ev_arith (EvE.res (r' := some (((s35.2 * 69621) + (s35.2 / 65536)) + (13 * k_36))) (ev_arith (EvE.res (r' := some ((s35.2 * 69621) + (s35.2 / 65536))) (ev_arith (EvE.res (r' := some (s35.2 * 69621)) (ev_mulC (ev_var (i := 6) (m := .new) (x := s35.2) rfl)) (bsP rfl)) (EvE.res (r' := some (s35.2 / 65536)) (ev_divC (ev_var (i := 6) (m := .new) (x := s35.2) rfl)) (bsP rfl))) (bsP (bsP rfl))) (EvE.res (r' := some (13 * k_36)) (ev_mulCl (ev_var (i := 5) (m := .new) (x := k_36) rfl)) (bsP rfl))) (bsP (bsP rfl))) ev_int) (bsP (bsP rfl)))) (bsP rfl))) (fun mixed_47 =>
 (en_last (en_seq (E := fun (found_48 : (List Int)) => [.dat .old (rp x.1), .dat .new (rp x.2), .own .new (rps found_48), .dat .new (rp cell_6), .dat .new (rp number_8), .dat .new (rp k_36), .dat .new (rp mixed_47), .un]) (en_append (i := 2) (m := .new) (xs := s35.1) (EvE.res (r' := some ((mixed_47 / 8) % 1000003)) (ev_modC (EvE.res (r' := some (mixed_47 / 8)) (ev_divC (ev_var (i := 6) (m := .new) (x := mixed_47) rfl)) (bsP rfl))) (bsP rfl)) rfl) (fun found_48 =>
 (en_end (s := (found_48, mixed_47)) (.cons .id (.cons .id (.cons .id (.cons .id (.cons .id (.cons .un (.cons .id (.cons .id .nil)))))))))))))))) (fun s54 =>
 (en_end (s := s54.1) (.cons .id (.cons .id (.cons .id (.cons .un (.cons .un (.cons .id (.cons .un (.cons .id .nil))))))))))))))))))) (fun s58 =>
 (er_seq (E := fun (s90 : (List Int)) => [.dat .old (rp x.1), .dat .new (rp x.2), .own .new (rps s90), .un, .un, .un, .un, .un]) (en_for (E := fun (s90 : (List Int)) => [.dat .old (rp x.1), .dat .new (rp x.2), .own .new (rps s90), .un, .un, .un, .un, .un]) (s0 := s58) (Eb := fun (s60 : (List Int)) (k_61 : Int) => [.dat .old (rp x.1), .dat .new (rp x.2), .own .new (rps s60), .un, .un, .dat .new (rp k_61), .un, .un]) (vs := [5]) (EvI.res (r' := rangeP 0 x.2) (ei_range1 (ev_var (i := 1) (m := .new) (x := x.2) rfl)) (bsP rfl)) (.cons .id (.cons .id (.cons .id (.cons .id (.cons .id (.cons .id (.cons .id (.cons .id .nil)))))))) (fun s60 k_61 => (eg_nameS (m1 := .new))) (fun s60 k_61 =>
 (en_ifP (et_test (EvE.res (r' := some (decide ((s60.length : Int) < x.2))) (ev_cmpI (EvE.res (r' := some (s60.length : Int)) (ev_len (ev_own (i := 2) (m := .new) (xs := s60) rfl)) (bsP rfl)) (ev_var (i := 1) (m := .new) (x := x.2) rfl)) (bsP (bsP rfl))))
 (en_seq (E := fun (base_65 : Int) => [.dat .old (rp x.1), .dat .new (rp x.2), .own .new (rps s60), .un, .un, .dat .new (rp k_61), .un, .dat .new (rp base_65)]) (en_set ev_int) (fun base_65 =>
 (en_seq (E := fun (s88 : Int) => [.dat .old (rp x.1), .dat .new (rp x.2), .own .new (rps s60), .un, .un, .dat .new (rp k_61), .un, .dat .new (rp s88)]) (en_ifP (et_test (EvE.res (r' := some (decide ((0 : Int) < (s60.length : Int)))) (ev_cmpI (EvE.res (r' := some (s60.length : Int)) (ev_len (ev_own (i := 2) (m := .new) (xs := s60) rfl)) (bsP rfl)) ev_int) (bsP (bsP rfl))))
 (en_last (en_seq (E := fun (base_75 : Int) => [.dat .old (rp x.1), .dat .new (rp x.2), .own .new (rps s60), .un, .un, .dat .new (rp k_61), .un, .dat .new (rp base_75)]) (en_set (EvE.res (r' := (modP k_61 (s60.length : Int)).bind fun v74 => atI s60 v74) (ev_ix (ev_own (i := 2) (m := .new) (xs := s60) rfl) (EvE.res (r' := modP k_61 (s60.length : Int)) (ev_mod (ev_var (i := 5) (m := .new) (x := k_61) rfl) (EvE.res (r' := some (s60.length : Int)) (ev_len (ev_own (i := 2) (m := .new) (xs := s60) rfl)) (bsP rfl))) (bsP (bsP rfl)))) (bsP (bcP fun _ => rfl)))) (fun base_75 =>
 (en_end (s := base_75) (.cons .id (.cons .id (.cons .id (.cons .id (.cons .id (.cons .id (.cons .id (.cons .id .nil))))))))))))
 (en_end (s := base_65) (.cons .id (.cons .id (.cons .id (.cons .id (.cons .id (.cons .id (.cons .id (.cons .id .nil)))))))))) (fun s77 =>
 (en_last (en_seq (E := fun (found_78 : (List Int)) => [.dat .old (rp x.1), .dat .new (rp x.2), .own .new (rps found_78), .un, .un, .dat .new (rp k_61), .un, .dat .new (rp s77)]) (en_append (i := 2) (m := .new) (xs := s60) (EvE.res (r' := some ((((s77 * 16807) + (31 * (s60.length : Int))) + (17 : Int)) % 1000003)) (ev_modC (EvE.res (r' := some (((s77 * 16807) + (31 * (s60.length : Int))) + (17 : Int))) (ev_arith (EvE.res (r' := some ((s77 * 16807) + (31 * (s60.length : Int)))) (ev_arith (EvE.res (r' := some (s77 * 16807)) (ev_mulC (ev_var (i := 7) (m := .new) (x := s77) rfl)) (bsP rfl)) (EvE.res (r' := some (31 * (s60.length : Int))) (ev_mulCl (EvE.res (r' := some (s60.length : Int)) (ev_len (ev_own (i := 2) (m := .new) (xs := s60) rfl)) (bsP rfl))) (bsP rfl))) (bsP (bsP rfl))) ev_int) (bsP (bsP rfl)))) (bsP rfl)) rfl) (fun found_78 =>
 (en_end (s := found_78) (.cons .id (.cons .id (.cons .id (.cons .id (.cons .id (.cons .un (.cons .id (.cons .un .nil))))))))))))))))
 (en_end (s := s60) (.cons .id (.cons .id (.cons .id (.cons .id (.cons .id (.cons .un (.cons .id (.cons .id .nil)))))))))))) (fun s92 =>
 (er_ret (EvL.E (EvL.res (r' := some (cut s92 none (some x.2))) (ev_sl (ev_own (i := 2) (m := .new) (xs := s92) rfl) eo_no (eo_atP (ev_var (i := 1) (m := .new) (x := x.2) rfl))) (bsP (bsP (bsP rfl)))))))))))) (.cons .id (.cons .sc (.cons .id (.cons .id (.cons .id (.cons .id (.cons .id (.cons .id .nil))))))))
theorem ok_law_is_number (T : Tx P K mg) : FnOk P w K mg base CX0 1 T.f_law_is_number.a T.f_law_is_number.d ["value"] (sp1 K f_law_is_number .new) := by
  have sc : FnScope ["value"] ["value"] (defScope st_law_is_number) := ⟨rfl, rfl, rfl, by decide +kernel, rfl, by decide +kernel, by decide +kernel⟩
  refine T.f_law_is_number.F.ok sc (fun vs H Q E h => spA_len h fun _ => rfl) (fun cdv A outer s H vs Q E hr h => ⟨_, (pss_one (ps_ret (pe_and (pe_callB call_isi (by rfl) T.n_isinstance (by decide +kernel) (pa_cons (pv 0) (pa_cons (pe_bltn (v := .ty "int") (by rfl) T.n_int (by decide +kernel) rfl) pa_nil))) (pe_one (pe_not (pe_callB call_isi (by rfl) T.n_isinstance (by decide +kernel) (pa_cons (pv 0) (pa_cons (pe_bltn (v := .ty "bool") (by rfl) T.n_bool (by decide +kernel) rfl) pa_nil)))))))), of_body (fun x => ?_) (fun _ => Nat.le_of_ble_eq_true rfl) h⟩)
  exact EvR.weakL (er_ret (ev_andV (EvE.res (r' := if noFrz (rp x) = true then some (isTy "int" (rp x)) else none) (ev_isi (n := "int") (ev_var (i := 0) (m := .new) (x := x) rfl)) (bsP rfl)) (ev_notV (EvE.res (r' := if noFrz (rp x) = true then some (isTy "bool" (rp x)) else none) (ev_isi (n := "bool") (ev_var (i := 0) (m := .new) (x := x) rfl)) (bsP rfl))))) (.cons .sc .nil)
theorem ok_law_is_numeral (T : Tx P K mg) : FnOk P w K mg base CX0 1 T.f_law_is_numeral.a T.f_law_is_numeral.d ["word"] (sp1 K f_law_is_numeral .new) := by
  have sc : FnScope ["word", "digits", "sign"] ["word"] (defScope st_law_is_numeral) := ⟨rfl, rfl, rfl, by decide +kernel, rfl, by decide +kernel, by decide +kernel⟩
  refine T.f_law_is_numeral.F.ok sc (fun vs H Q E h => spA_len h fun _ => rfl) (fun cdv A outer s H vs Q E hr h => ⟨_, (pss_cons (ps_set (i := 1) sc.nd rfl (by first | exact .inl rfl | exact .inr rfl) (pv 0))
 (pss_cons (ps_if (pt_cmpR op_eq (pe_slice sl_str (pv 0) po_none (po_some pe_int)) pe_str (nomark _)) (pss_cons (ps_set (i := 1) sc.nd rfl (by first | exact .inl rfl | exact .inr rfl) (pe_slice sl_str (pv 0) (po_some pe_int) po_none))
 (pss_one (ps_if (pt_cmpR op_eq (pv 1) pe_str (nomark _)) (pss_one (ps_ret pe_bl)) pss_nil))) pss_nil)
 (pss_cons (ps_if (PW.pt (pw_or (pt_cmpR op_eq (pv 1) pe_str (nomark _)) (pw_or (pt_cmpR op_gt (pe_callB call_len_str (by rfl) T.n_len (by decide +kernel) (pa_cons (pv 1) pa_nil)) pe_int (nomark _)) (pw_or1 (PW.pt (pw_and (pt_cmpR op_gt (pe_callB call_len_str (by rfl) T.n_len (by decide +kernel) (pa_cons (pv 1) pa_nil)) pe_int (nomark _)) (pw_and1 (pt_cmpR op_eq (pe_ix ix_str (pv 1) pe_int (fun _ _ => rfl)) pe_str (nomark _))))))))) (pss_one (ps_ret pe_bl)) pss_nil)
 (pss_one (ps_ret (pe_cmpR (op_eqD hr.units) (pe_lc (own := [("sign", 2)]) rfl sc.nd (pi_str (pv 1)) (blkOk_by (N := ["word", "digits", "sign"]) (sc := defScope st_law_is_numeral) (by decide +kernel)) (fun _ _ _ _ _ => (pg_name (i := 2) sc.nd rfl (by first | exact .inl rfl | exact .inr rfl))) (fun _ _ _ _ _ => (pts_one (pt_cmpR op_notIn_sign (pv 2) pe_str (by rfl)))) (fun _ _ _ _ _ => (pv 2))) (pe_lst pa_nil) (nomark _))))))), of_body (fun x => ?_) (fun _ => Nat.le_of_ble_eq_true rfl) h⟩)
  exact EvR.weakL (er_seq (E := fun (digits_1 : Str) => [.dat .new (rp x), .dat .new (rp digits_1), .un]) (en_set (ev_var (i := 0) (m := .new) (x := x) rfl)) (fun digits_1 =>
 (er_seqF (T := Unit) (L := fun _ => []) (E := fun (s43 : Str) => [.dat .new (rp x), .dat .new (rp s43), .un]) (ef_if (et_test (EvE.res (r' := (cutSP x none (some (1 : Int))).bind fun v7 => some (decide (v7 = (Str.ofString "-")))) (ev_eqS (EvE.res (r' := cutSP x none (some (1 : Int))) (ev_slT (ev_var (i := 0) (m := .new) (x := x) rfl) eo_no (eo_atP ev_int)) (bsP (bsP (bsP rfl)))) ev_str) (bcP fun _ => (bsP rfl))))
 (ef_seq (E := fun (digits_11 : Str) => [.dat .new (rp x), .dat .new (rp digits_11), .un]) (en_set (EvE.res (r' := cutSP x (some (1 : Int)) none) (ev_slT (ev_var (i := 0) (m := .new) (x := x) rfl) (eo_atP ev_int) eo_no) (bsP (bsP (bsP rfl))))) (fun digits_11 =>
 (ef_ifP (et_test (EvE.res (r' := some (decide (digits_11 = (Str.ofString "0")))) (ev_eqS (ev_var (i := 1) (m := .new) (x := digits_11) rfl) ev_str) (bsP (bsP rfl))))
 (EvR.FP (er_ret ev_bl))
 (ef_end (s := digits_11) (.cons .id (.cons .id (.cons .id .nil)))))))
 (ef_end (s := digits_1) (.cons .id (.cons .id (.cons .id .nil))))) (fun s16 =>
 (er_ifS (er_if (EvT.res (r' := if (decide (s16 = (Str.ofString ""))) = true then some true else ((lenS s16).bind fun v22 => some (decide ((40 : Int) < v22))).bind fun b33 => if b33 = true then some true else ((lenS s16).bind fun v26 => some (decide ((1 : Int) < v26))).bind fun b32 => if b32 = true then (atS s16 (0 : Int)).bind fun v31 => some (decide (v31 = (Str.ofString "0"))) else some false) (et_or (et_test (EvE.res (r' := some (decide (s16 = (Str.ofString "")))) (ev_eqS (ev_var (i := 1) (m := .new) (x := s16) rfl) ev_str) (bsP (bsP rfl)))) (et_or (et_test (EvE.res (r' := (lenS s16).bind fun v22 => some (decide ((40 : Int) < v22))) (ev_cmpI (EvE.res (r' := lenS s16) (ev_lenS (ev_var (i := 1) (m := .new) (x := s16) rfl)) (bsP rfl)) ev_int) (bcP fun _ => (bsP rfl)))) (et_and (et_test (EvE.res (r' := (lenS s16).bind fun v26 => some (decide ((1 : Int) < v26))) (ev_cmpI (EvE.res (r' := lenS s16) (ev_lenS (ev_var (i := 1) (m := .new) (x := s16) rfl)) (bsP rfl)) ev_int) (bcP fun _ => (bsP rfl)))) (et_test (EvE.res (r' := (atS s16 (0 : Int)).bind fun v31 => some (decide (v31 = (Str.ofString "0")))) (ev_eqS (EvE.res (r' := atS s16 (0 : Int)) (ev_ixS (ev_var (i := 1) (m := .new) (x := s16) rfl) ev_int) (bsP (bsP rfl))) ev_str) (bcP fun _ => (bsP rfl))))))) (bsP rfl))
 (er_cut (er_ret ev_bl))
 (er_nx (er_ret (EvE.res (r' := ((compM (fun x35 => (inS x35 (Str.ofString "0123456789")).map fun b => !b) (fun x35 => some (rp x35)) (signs s16)).bind lim).bind fun v41 => eqD (rp v41) (rp ([] : (List Dt)))) (ev_eqL (EvL.B (EvL.res (r' := (compM (fun x35 => (inS x35 (Str.ofString "0123456789")).map fun b => !b) (fun x35 => some (rp x35)) (signs s16)).bind lim) (ev_lc (vs := [2]) (Eb := fun (x35 : Str) => [.dat .new (rp x), .dat .new (rp s16), .dat .new (rp x35)]) (EvI.res (r' := some (signs s16)) (ei_str (ev_var (i := 1) (m := .new) (x := s16) rfl)) rfl) (fun x35 => (eg_nameS (m1 := .new))) (fun x35 => (et_test (EvE.res (r' := (inS x35 (Str.ofString "0123456789")).map fun b => !b) (ev_ninS (ev_var (i := 2) (m := .new) (x := x35) rfl) ev_str) (bsP (bsP rfl))))) (fun x35 => (EvE.res (r' := some (rp x35)) (EvE.cast (fun z : Str => rp z) (ev_var (i := 2) (m := .new) (x := x35) rfl)) rfl))) (bsP rfl))) (EvL.B (ev_list (m := .new) exs_nil))) (bcP fun _ => (bsP rfl))))))))))) (.cons .sc (.cons .id (.cons .id .nil)))
theorem ok_law_read_piece (T : Tx P K mg) : FnOk P w K mg base CX0 2 T.f_law_read_piece.a T.f_law_read_piece.d ["text"] (sp1 K f_law_read_piece .new) := by
  have sc : FnScope ["text", "words", "piece", "at", "number"] ["text"] (defScope st_law_read_piece) := ⟨rfl, rfl, rfl, by decide +kernel, rfl, by decide +kernel, by decide +kernel⟩
  refine T.f_law_read_piece.F.ok sc (fun vs H Q E h => spA_len h fun _ => rfl) (fun cdv A outer s H vs Q E hr h => ⟨_, (pss_cons (ps_set (i := 1) sc.nd rfl (by first | exact .inl rfl | exact .inr rfl) (pe_split (pv 0) pe_str))
 (pss_cons (ps_set (i := 2) sc.nd rfl (by first | exact .inl rfl | exact .inr rfl) (pe_lst pa_nil))
 (pss_cons (ps_for PassesOwn.never rfl (pi_range1 (by rfl) T.n_range (pa_cons (pe_callB call_len_seq (by rfl) T.n_len (by decide +kernel) (pa_cons (pv 1) pa_nil)) pa_nil)) (pg_name (i := 3) sc.nd rfl (by first | exact .inl rfl | exact .inr rfl))
 (pss_cons (ps_if (pt_not (pt_val (pe_call (ok_law_is_numeral T) (hr.mono (by decide)) (by rfl) T.f_law_is_numeral.g T.f_law_is_numeral.F.kp T.f_law_is_numeral.b .nil pass0 (pa_cons (pe_ix ix_list (pv 1) (pv 3) (fun _ _ => rfl)) pa_nil)))) (pss_one (ps_ret (pe_tup (pa_cons pe_str (pa_cons (pv 3) pa_nil))))) pss_nil)
 (pss_cons (ps_set (i := 4) sc.nd rfl (by first | exact .inl rfl | exact .inr rfl) (pe_callTy call_int_str (by rfl) T.n_int (by decide +kernel) (pa_cons (pe_ix ix_list (pv 1) (pv 3) (fun _ _ => rfl)) pa_nil)))
 (pss_cons (ps_if (PW.pt (pw_or (PW.pt (pw_and (pt_cmpR op_eq (pv 3) pe_int (nomark _)) (pw_and1 (pt_cmpR op_ne (pv 4) pe_int (nomark _))))) (pw_or1 (PW.pt (pw_and (pt_cmpR op_gt (pv 3) pe_int (nomark _)) (pw_and1 (pt_cmpR op_le (pv 4) (pe_ix ix_list (pv 2) (pe_op op_sub (pv 3) pe_int) (fun _ _ => rfl)) (nomark _)))))))) (pss_one (ps_ret (pe_tup (pa_cons pe_str (pa_cons (pv 3) pa_nil))))) pss_nil)
 (pss_one (ps_expr (pe_bm PySem.F.plainAttrs_list PySem.F.slot_list_append PySem.F.type_list_append mt_append (pv 2) (pa_cons (pv 4) pa_nil))))))))
 (pss_one (ps_ret (pe_tup (pa_cons pe_str (pa_cons (pv 2) pa_nil)))))))), of_body (fun x => ?_) (fun _ => Nat.le_of_ble_eq_true rfl) h⟩)
  exact EvR.weakL (er_seq (E := fun (words_3 : (List Str)) => [.dat .new (rp x), .dat .new (rp words_3), .un, .un, .un]) (en_set (EvL.E (EvL.res (r' := splitS x (Str.ofString " ")) (ev_splitS (ev_var (i := 0) (m := .new) (x := x) rfl) ev_str) (bsP (bsP rfl))))) (fun words_3 =>
 (er_seq (E := fun (piece_4 : (List Int)) => [.dat .new (rp x), .dat .new (rp words_3), .own .new (rps piece_4), .un, .un]) (en_own (ev_list (m := .new) exs_nil)) (fun piece_4 =>
 (er_seqF (T := Unit) (L := fun _ => []) (E := fun (s40 : (List Int)) => [.dat .new (rp x), .dat .new (rp words_3), .own .new (rps s40), .un, .un]) (ef_for (E := fun (s40 : (List Int)) => [.dat .new (rp x), .dat .new (rp words_3), .own .new (rps s40), .un, .un]) (s0 := piece_4) (Eb := fun (s7 : (List Int)) (at_8 : Int) => [.dat .new (rp x), .dat .new (rp words_3), .own .new (rps s7), .dat .new (rp at_8), .un]) (vs := [3]) (EvI.res (r' := rangeP 0 (words_3.length : Int)) (ei_range1 (EvE.res (r' := some (words_3.length : Int)) (ev_len (EvE.B (ev_var (i := 1) (m := .new) (x := words_3) rfl))) (bsP rfl))) (bsP rfl)) (.cons .id (.cons .id (.cons .id (.cons .id (.cons .id .nil))))) (fun s7 at_8 => (eg_nameS (m1 := .new))) (fun s7 at_8 =>
 (ef_ifS (ef_if (et_not (et_val (EvE.res (r' := (atI words_3 at_8).bind fun v11 => f_law_is_numeral v11) (ev_call1 (EvE.res (r' := atI words_3 at_8) (ev_ix (EvE.B (ev_var (i := 1) (m := .new) (x := words_3) rfl)) (ev_var (i := 3) (m := .new) (x := at_8) rfl)) (bsP (bsP rfl)))) (bcP fun _ => rfl))))
 (ef_cutRP (er_ret (EvE.res (r' := some ((Str.ofString "bad"), (rp at_8))) (ev_pair ev_str (EvE.res (r' := some (rp at_8)) (EvE.cast (fun z : Int => rp z) (ev_var (i := 3) (m := .new) (x := at_8) rfl)) rfl)) (bsP (bsP rfl)))))
 (ef_nx (ef_seq (E := fun (number_18 : Int) => [.dat .new (rp x), .dat .new (rp words_3), .own .new (rps s7), .dat .new (rp at_8), .dat .new (rp number_18)]) (en_set (EvE.res (r' := (atI words_3 at_8).bind fun v17 => intS v17) (ev_intS (EvE.res (r' := atI words_3 at_8) (ev_ix (EvE.B (ev_var (i := 1) (m := .new) (x := words_3) rfl)) (ev_var (i := 3) (m := .new) (x := at_8) rfl)) (bsP (bsP rfl)))) (bcP fun _ => rfl))) (fun number_18 =>
 (ef_ifS (ef_if (EvT.res (r' := if ((decide (at_8 = (0 : Int))) && (decide (number_18 ≠ (0 : Int)))) = true then some true else if (decide ((0 : Int) < at_8)) = true then (atI s7 (at_8 - (1 : Int))).bind fun v31 => some (decide (number_18 ≤ v31)) else some false) (et_or (et_andP (et_test (EvE.res (r' := some (decide (at_8 = (0 : Int)))) (ev_eqI (ev_var (i := 3) (m := .new) (x := at_8) rfl) ev_int) (bsP (bsP rfl)))) (et_test (EvE.res (r' := some (decide (number_18 ≠ (0 : Int)))) (ev_neI (ev_var (i := 4) (m := .new) (x := number_18) rfl) ev_int) (bsP (bsP rfl))))) (EvT.res (r' := if (decide ((0 : Int) < at_8)) = true then (atI s7 (at_8 - (1 : Int))).bind fun v31 => some (decide (number_18 ≤ v31)) else some false) (et_and (et_test (EvE.res (r' := some (decide ((0 : Int) < at_8))) (ev_cmpI (ev_var (i := 3) (m := .new) (x := at_8) rfl) ev_int) (bsP (bsP rfl)))) (et_test (EvE.res (r' := (atI s7 (at_8 - (1 : Int))).bind fun v31 => some (decide (number_18 ≤ v31))) (ev_cmpI (ev_var (i := 4) (m := .new) (x := number_18) rfl) (EvE.res (r' := atI s7 (at_8 - (1 : Int))) (ev_ix (ev_own (i := 2) (m := .new) (xs := s7) rfl) (EvE.res (r' := some (at_8 - (1 : Int))) (ev_arith (ev_var (i := 3) (m := .new) (x := at_8) rfl) ev_int) (bsP (bsP rfl)))) (bsP (bsP rfl)))) (bsP (bcP fun _ => rfl))))) (bsP rfl))) (bsP rfl))
 (ef_cutRP (er_ret (EvE.res (r' := some ((Str.ofString "bad"), (rp at_8))) (ev_pair ev_str (EvE.res (r' := some (rp at_8)) (EvE.cast (fun z : Int => rp z) (ev_var (i := 3) (m := .new) (x := at_8) rfl)) rfl)) (bsP (bsP rfl)))))
 (ef_nx (ef_last (ef_seq (E := fun (piece_36 : (List Int)) => [.dat .new (rp x), .dat .new (rp words_3), .own .new (rps piece_36), .dat .new (rp at_8), .dat .new (rp number_18)]) (en_append (i := 2) (m := .new) (xs := s7) (ev_var (i := 4) (m := .new) (x := number_18) rfl) rfl) (fun piece_36 =>
 (ef_end (s := piece_36) (.cons .id (.cons .id (.cons .id (.cons .un (.cons .un .nil))))))))))))))))))) (fun s42 =>
 (EvR.frz (m1 := .new) (i := 2) (l := rps s42) (er_ret (EvE.res (r' := some ((Str.ofString "good"), (rp s42))) (ev_pair ev_str (EvE.res (r' := some (rp s42)) (EvE.cast (fun z : (List Int) => rp z) (ev_var (i := 2) (m := .new) (x := s42) rfl)) rfl)) (bsP (bsP rfl)))) rfl))))))) (.cons .sc (.cons .id (.cons .id (.cons .id (.cons .id .nil)))))
theorem ok_is_digits (T : Tx P K mg) : FnOk P w K mg base CX0 1 T.f_is_digits.a T.f_is_digits.d ["word"] (sp1 K f_is_digits .new) := by
  have sc : FnScope ["word", "sign"] ["word"] (defScope st_is_digits) := ⟨rfl, rfl, rfl, by decide +kernel, rfl, by decide +kernel, by decide +kernel⟩
  refine T.f_is_digits.F.ok sc (fun vs H Q E h => spA_len h fun _ => rfl) (fun cdv A outer s H vs Q E hr h => ⟨_, (pss_cons (ps_if (PW.pt (pw_or (pt_cmpR op_eq (pe_callB call_len_str (by rfl) T.n_len (by decide +kernel) (pa_cons (pv 0) pa_nil)) pe_int (nomark _)) (pw_or1 (pt_cmpR op_gt (pe_callB call_len_str (by rfl) T.n_len (by decide +kernel) (pa_cons (pv 0) pa_nil)) (pe_glob (v := .int 40) (by rfl) T.v_MOST_DIGITS.g ⟨_, rfl⟩) (nomark _))))) (pss_one (ps_ret pe_bl)) pss_nil)
 (pss_cons (ps_if (PW.pt (pw_and (pt_cmpR op_gt (pe_callB call_len_str (by rfl) T.n_len (by decide +kernel) (pa_cons (pv 0) pa_nil)) pe_int (nomark _)) (pw_and1 (pt_cmpR op_eq (pe_ix ix_str (pv 0) pe_int (fun _ _ => rfl)) pe_str (nomark _))))) (pss_one (ps_ret pe_bl)) pss_nil)
 (pss_cons (ps_for PassesOwn.never rfl (pi_str (pv 0)) (pg_name (i := 1) sc.nd rfl (by first | exact .inl rfl | exact .inr rfl))
 (pss_one (ps_if (pt_cmpR op_notIn_sign (pv 1) (pe_glob (v := .str (Str.ofString "0123456789")) (by rfl) T.v_DIGITS.g ⟨_, rfl⟩) (by rfl)) (pss_one (ps_ret pe_bl)) pss_nil)))
 (pss_one (ps_ret pe_bl))))), of_body (fun x => ?_) (fun _ => Nat.le_of_ble_eq_true rfl) h⟩)
  exact EvR.weakL (er_ifS (er_if (et_or (et_test (EvE.res (r' := (lenS x).bind fun v4 => some (decide (v4 = (0 : Int)))) (ev_eqI (EvE.res (r' := lenS x) (ev_lenS (ev_var (i := 0) (m := .new) (x := x) rfl)) (bsP rfl)) ev_int) (bcP fun _ => (bsP rfl)))) (et_test (EvE.res (r' := (lenS x).bind fun v8 => some (decide ((40 : Int) < v8))) (ev_cmpI (EvE.res (r' := lenS x) (ev_lenS (ev_var (i := 0) (m := .new) (x := x) rfl)) (bsP rfl)) ev_int) (bcP fun _ => (bsP rfl)))))
 (er_cut (er_ret ev_bl))
 (er_nx (er_ifS (er_if (et_and (et_test (EvE.res (r' := (lenS x).bind fun v13 => some (decide ((1 : Int) < v13))) (ev_cmpI (EvE.res (r' := lenS x) (ev_lenS (ev_var (i := 0) (m := .new) (x := x) rfl)) (bsP rfl)) ev_int) (bcP fun _ => (bsP rfl)))) (et_test (EvE.res (r' := (atS x (0 : Int)).bind fun v18 => some (decide (v18 = (Str.ofString "0")))) (ev_eqS (EvE.res (r' := atS x (0 : Int)) (ev_ixS (ev_var (i := 0) (m := .new) (x := x) rfl) ev_int) (bsP (bsP rfl))) ev_str) (bcP fun _ => (bsP rfl)))))
 (er_cut (er_ret ev_bl))
 (er_nx (er_seqF (T := Unit) (L := fun _ => []) (E := fun (s25 : Unit) => [.dat .new (rp x), .un]) (ef_forP (E := fun (s25 : Unit) => [.dat .new (rp x), .un]) (s0 := ()) (Eb := fun (s20 : Unit) (sign_21 : Str) => [.dat .new (rp x), .dat .new (rp sign_21)]) (vs := [1]) (EvI.res (r' := some (signs x)) (ei_str (ev_var (i := 0) (m := .new) (x := x) rfl)) rfl) (.cons .id (.cons .id .nil)) (fun s20 sign_21 => (eg_nameS (m1 := .new))) (fun s20 sign_21 =>
 (ef_if (et_test (EvE.res (r' := (inS sign_21 (Str.ofString "0123456789")).map fun b => !b) (ev_ninS (ev_var (i := 1) (m := .new) (x := sign_21) rfl) ev_str) (bsP (bsP rfl))))
 (EvR.FP (er_ret ev_bl))
 (ef_end (s := ()) (.cons .id (.cons .un .nil)))))) (fun s27 =>
 (er_ret ev_bl))))))))) (.cons .sc (.cons .id .nil))
theorem ok_is_numeral (T : Tx P K mg) : FnOk P w K mg base CX0 2 T.f_is_numeral.a T.f_is_numeral.d ["word"] (sp1 K f_is_numeral .new) := by
  have sc : FnScope ["word"] ["word"] (defScope st_is_numeral) := ⟨rfl, rfl, rfl, by decide +kernel, rfl, by decide +kernel, by decide +kernel⟩
  refine T.f_is_numeral.F.ok sc (fun vs H Q E h => spA_len h fun _ => rfl) (fun cdv A outer s H vs Q E hr h => ⟨_, (pss_cons (ps_if (pt_cmpR op_eq (pe_slice sl_str (pv 0) po_none (po_some pe_int)) pe_str (nomark _)) (pss_one (ps_ret (pe_and (pe_cmpR op_ne (pv 0) pe_str (nomark _)) (pe_one (pe_call (ok_is_digits T) (hr.mono (by decide)) (by rfl) T.f_is_digits.g T.f_is_digits.F.kp T.f_is_digits.b .nil pass0 (pa_cons (pe_slice sl_str (pv 0) (po_some pe_int) po_none) pa_nil)))))) pss_nil)
 (pss_one (ps_ret (pe_call (ok_is_digits T) (hr.mono (by decide)) (by rfl) T.f_is_digits.g T.f_is_digits.F.kp T.f_is_digits.b .nil pass0 (pa_cons (pv 0) pa_nil))))), of_body (fun x => ?_) (fun _ => Nat.le_of_ble_eq_true rfl) h⟩)
  exact EvR.weakL (er_ifS (er_if (et_test (EvE.res (r' := (cutSP x none (some (1 : Int))).bind fun v6 => some (decide (v6 = (Str.ofString "-")))) (ev_eqS (EvE.res (r' := cutSP x none (some (1 : Int))) (ev_slT (ev_var (i := 0) (m := .new) (x := x) rfl) eo_no (eo_atP ev_int)) (bsP (bsP (bsP rfl)))) ev_str) (bcP fun _ => (bsP rfl))))
 (er_cut (er_ret (EvE.res (r' := if (decide (x ≠ (Str.ofString "-0"))) = true then (cutSP x (some (1 : Int)) none).bind fun v12 => f_is_digits v12 else some false) (ev_andV (EvE.res (r' := some (decide (x ≠ (Str.ofString "-0")))) (ev_neS (ev_var (i := 0) (m := .new) (x := x) rfl) ev_str) (bsP (bsP rfl))) (EvE.res (r' := (cutSP x (some (1 : Int)) none).bind fun v12 => f_is_digits v12) (ev_call1 (EvE.res (r' := cutSP x (some (1 : Int)) none) (ev_slT (ev_var (i := 0) (m := .new) (x := x) rfl) (eo_atP ev_int) eo_no) (bsP (bsP (bsP rfl))))) (bcP fun _ => rfl))) (bsP rfl))))
 (er_nx (er_ret (EvE.res (r' := f_is_digits x) (ev_call1 (ev_var (i := 0) (m := .new) (x := x) rfl)) (bsP rfl)))))) (.cons .sc .nil)
theorem ok_can_follow (T : Tx P K mg) : FnOk P w K mg base CX0 3 T.f_can_follow.a T.f_can_follow.d ["words", "at"] (sp2 K f_can_follow .new) := by
  have sc : FnScope ["words", "at"] ["words", "at"] (defScope st_can_follow) := ⟨rfl, rfl, rfl, by decide +kernel, rfl, by decide +kernel, by decide +kernel⟩
  refine T.f_can_follow.F.ok sc (fun vs H Q E h => spA_len h fun _ => rfl) (fun cdv A outer s H vs Q E hr h => ⟨_, (pss_cons (ps_if (pt_not (pt_val (pe_call (ok_is_numeral T) (hr.mono (by decide)) (by rfl) T.f_is_numeral.g T.f_is_numeral.F.kp T.f_is_numeral.b .nil pass0 (pa_cons (pe_ix ix_list (pv 0) (pv 1) (fun _ _ => rfl)) pa_nil)))) (pss_one (ps_ret pe_bl)) pss_nil)
 (pss_cons (ps_if (pt_cmpR op_eq (pv 1) pe_int (nomark _)) (pss_one (ps_ret (pe_cmpR op_eq (pe_ix ix_list (pv 0) pe_int (fun _ _ => rfl)) pe_str (nomark _)))) pss_nil)
 (pss_one (ps_ret (pe_cmpR op_gt (pe_callTy call_int_str (by rfl) T.n_int (by decide +kernel) (pa_cons (pe_ix ix_list (pv 0) (pv 1) (fun _ _ => rfl)) pa_nil)) (pe_callTy call_int_str (by rfl) T.n_int (by decide +kernel) (pa_cons (pe_ix ix_list (pv 0) (pe_op op_sub (pv 1) pe_int) (fun _ _ => rfl)) pa_nil)) (nomark _)))))), of_body (fun x => ?_) (fun _ => Nat.le_of_ble_eq_true rfl) h⟩)
  exact EvR.weakL (er_ifS (er_if (et_not (et_val (EvE.res (r' := (atI x.1 x.2).bind fun v3 => f_is_numeral v3) (ev_call1 (EvE.res (r' := atI x.1 x.2) (ev_ix (EvB.sc (m1 := .new) (EvE.B (ev_var (i := 0) (m := .old) (x := x.1) rfl))) (ev_var (i := 1) (m := .new) (x := x.2) rfl)) (bsP (bsP rfl)))) (bcP fun _ => rfl))))
 (er_cut (er_ret ev_bl))
 (er_nx (er_ifS (er_ifP (et_test (EvE.res (r' := some (decide (x.2 = (0 : Int)))) (ev_eqI (ev_var (i := 1) (m := .new) (x := x.2) rfl) ev_int) (bsP (bsP rfl))))
 (er_cut (er_ret (EvE.res (r' := (atI x.1 (0 : Int)).bind fun v10 => some (decide (v10 = (Str.ofString "0")))) (ev_eqS (EvE.res (r' := atI x.1 (0 : Int)) (ev_ix (EvB.sc (m1 := .new) (EvE.B (ev_var (i := 0) (m := .old) (x := x.1) rfl))) ev_int) (bsP (bsP rfl))) ev_str) (bcP fun _ => (bsP rfl)))))
 (er_nx (er_ret (EvE.res (r' := ((atI x.1 x.2).bind fun v14 => intS v14).bind fun v23 => ((atI x.1 (x.2 - (1 : Int))).bind fun v20 => intS v20).bind fun v24 => some (decide (v24 < v23))) (ev_cmpI (EvE.res (r' := (atI x.1 x.2).bind fun v14 => intS v14) (ev_intS (EvE.res (r' := atI x.1 x.2) (ev_ix (EvB.sc (m1 := .new) (EvE.B (ev_var (i := 0) (m := .old) (x := x.1) rfl))) (ev_var (i := 1) (m := .new) (x := x.2) rfl)) (bsP (bsP rfl)))) (bcP fun _ => rfl)) (EvE.res (r' := (atI x.1 (x.2 - (1 : Int))).bind fun v20 => intS v20) (ev_intS (EvE.res (r' := atI x.1 (x.2 - (1 : Int))) (ev_ix (EvB.sc (m1 := .new) (EvE.B (ev_var (i := 0) (m := .old) (x := x.1) rfl))) (EvE.res (r' := some (x.2 - (1 : Int))) (ev_arith (ev_var (i := 1) (m := .new) (x := x.2) rfl) ev_int) (bsP (bsP rfl)))) (bsP (bsP rfl)))) (bcP fun _ => rfl))) (bcP fun _ => (bcP fun _ => rfl)))))))))) (.cons .id (.cons .sc .nil))
theorem ok_numbers_of (T : Tx P K mg) : FnOk P w K mg base CX0 1 T.f_numbers_of.a T.f_numbers_of.d ["words"] (sp1 K f_numbers_of .new) := by
  have sc : FnScope ["words", "word"] ["words"] (defScope st_numbers_of) := ⟨rfl, rfl, rfl, by decide +kernel, rfl, by decide +kernel, by decide +kernel⟩
  refine T.f_numbers_of.F.ok sc (fun vs H Q E h => spA_len h fun _ => rfl) (fun cdv A outer s H vs Q E hr h => ⟨_, (pss_one (ps_ret (pe_lc (own := [("word", 1)]) rfl sc.nd (pi_list (pv 0)) (blkOk_by (N := ["words", "word"]) (sc := defScope st_numbers_of) (by decide +kernel)) (fun _ _ _ _ _ => (pg_name (i := 1) sc.nd rfl (by first | exact .inl rfl | exact .inr rfl))) (fun _ _ _ _ _ => pts_nil) (fun _ _ _ _ _ => (pe_callTy call_int_str (by rfl) T.n_int (by decide +kernel) (pa_cons (pv 1) pa_nil)))))), of_body (fun x => ?_) (fun _ => Nat.le_of_ble_eq_true rfl) h⟩)
  exact EvR.weakL (er_ret (EvL.E (EvL.res (r' := (mapO (fun x1 => intS x1) x).bind lim) (ev_lcO (vs := [1]) (Eb := fun (x1 : Str) => [.dat .old (rp x), .dat .new (rp x1)]) (EvI.sc (m1 := .new) (ei_list (ev_var (i := 0) (m := .old) (x := x) rfl))) (fun x1 => (eg_nameS (m1 := .new))) (fun x1 => (EvE.res (r' := intS x1) (ev_intS (ev_var (i := 1) (m := .new) (x := x1) rfl)) (bsP rfl)))) (bsP rfl)))) (.cons .id (.cons .id .nil))
theorem ok_parse_piece (T : Tx P K mg) : FnOk P w K mg base (L2.CX P w) 4 T.f_parse_piece.a T.f_parse_piece.d ["text"] (spX1 K T.ct f_parse_piece .new) := by
  have sc : FnScope ["text", "words", "at"] ["text"] (defScope st_parse_piece) := ⟨rfl, rfl, rfl, by decide +kernel, rfl, by decide +kernel, by decide +kernel⟩
  refine T.f_parse_piece.F.okX sc (fun vs H Q E h => spX_len h fun _ => rfl) (fun cdv A outer s H vs Q E hr h => ⟨_, (pss_cons (ps_set (i := 1) sc.nd rfl (by first | exact .inl rfl | exact .inr rfl) (pe_split (pv 0) pe_str))
 (pss_cons (ps_for (passes_of rfl) rfl (pi_range1 (by rfl) T.n_range (pa_cons (pe_callB call_len_seq (by rfl) T.n_len (by decide +kernel) (pa_cons (pv 1) pa_nil)) pa_nil)) (pg_name (i := 2) sc.nd rfl (by first | exact .inl rfl | exact .inr rfl))
 (pss_one (ps_if (pt_not (pt_val (pe_call (ok_can_follow T) (hr.mono (by decide)) (by rfl) T.f_can_follow.g T.f_can_follow.F.kp T.f_can_follow.b .nil pass0 (pa_cons (pv 1) (pa_cons (pv 2) pa_nil))))) (pss_one (ps_raiseF rfl T.o_InvalidText hr (by decide) (takes_of rfl rfl rfl rfl) (pa_cons (pv 2) pa_nil) (by rfl))) pss_nil)))
 (pss_one (ps_ret (pe_call (ok_numbers_of T) (hr.mono (by decide)) (by rfl) T.f_numbers_of.g T.f_numbers_of.F.kp T.f_numbers_of.b .nil pass0 (pa_cons (pv 1) pa_nil)))))), of_bodyX (fun x => ?_) (fun _ => Nat.le_of_ble_eq_true rfl) h⟩)
  exact EvRX.weakL (xr_seq (E := fun (words_3 : (List Str)) => [.dat .new (rp x), .dat .new (rp words_3), .un]) (en_set (EvL.E (EvL.res (r' := splitS x (Str.ofString " ")) (ev_splitS (ev_var (i := 0) (m := .new) (x := x) rfl) ev_str) (bsP (bsP rfl))))) (fun words_3 =>
 (xr_seqF (T := Unit) (L := fun _ => []) (E := fun (s11 : Unit) => [.dat .new (rp x), .dat .new (rp words_3), .un]) (xf_for (E := fun (s11 : Unit) => [.dat .new (rp x), .dat .new (rp words_3), .un]) (s0 := ()) (Eb := fun (s6 : Unit) (at_7 : Int) => [.dat .new (rp x), .dat .new (rp words_3), .dat .new (rp at_7)]) (vs := [2]) (EvI.res (r' := rangeP 0 (words_3.length : Int)) (ei_range1 (EvE.res (r' := some (words_3.length : Int)) (ev_len (EvE.B (ev_var (i := 1) (m := .new) (x := words_3) rfl))) (bsP rfl))) (bsP rfl)) (.cons .id (.cons .id (.cons .id .nil))) (fun s6 at_7 => (eg_nameS (m1 := .new))) (fun s6 at_7 =>
 (xf_if (et_not (et_val (EvE.res (r' := f_can_follow words_3 at_7) (ev_call2 (ev_var (i := 1) (m := .new) (x := words_3) rfl) (ev_var (i := 2) (m := .new) (x := at_7) rfl)) (bsP (bsP rfl)))))
 (EvRX.F (xr_raise (ct := T.ct) (c := 0) (ev_var (i := 2) (m := .new) (x := at_7) rfl)))
 (xf_end (s := ()) (.cons .id (.cons .id (.cons .un .nil))))))) (fun s13 =>
 (xr_ret (EvE.res (r' := f_numbers_of words_3) (ev_call1 (ev_var (i := 1) (m := .new) (x := words_3) rfl)) (bsP rfl))))))) (.cons .sc (.cons .id (.cons .id .nil)))
theorem ok_law_piece_reads (T : Tx P K mg) : FnOkG P w K mg base 5 T.f_law_piece_reads.a T.f_law_piece_reads.d ["text"] (sp1 K f_law_piece_reads .new) := by
  have sc : FnScope ["text", "due", "told", "at", "error"] ["text"] (defScope st_law_piece_reads) := ⟨rfl, rfl, rfl, by decide +kernel, rfl, by decide +kernel, by decide +kernel⟩
  refine L2.DL.okG T.f_law_piece_reads.F sc (fun vs H Q E h => spA_len h fun _ => rfl) (fun cdv A outer s H vs Q E hG hr h => ⟨_, (pss_cons (ps_set (i := 1) sc.nd rfl (by first | exact .inl rfl | exact .inr rfl) (pe_call (ok_law_read_piece T) (hr.mono (by decide)) (by rfl) T.f_law_read_piece.g T.f_law_read_piece.F.kp T.f_law_read_piece.b .nil pass0 (pa_cons (pv 0) pa_nil)))
 (pss_cons (ps_asg (pe_tup (pa_cons pe_non (pa_cons pe_non pa_nil))) (pg_tup rfl (pgs_cons (pg_name (i := 2) sc.nd rfl (by first | exact .inl rfl | exact .inr rfl)) (pgs_cons (pg_name (i := 3) sc.nd rfl (by first | exact .inl rfl | exact .inr rfl)) pgs_nil))))
 (pss_cons (ps_tryAs (i := 4) rfl rfl sc.nd rfl rfl ⟨by rfl, by decide, .inl T.c_InvalidText.g⟩ takes0
 (fun W pn xe tk _ => (pss_one (ps_set (i := 2) sc.nd rfl (by first | exact .inl rfl | exact .inr rfl) (pe_callS (ok_parse_piece T) (hr.mono (by decide)) (by rfl) T.f_parse_piece.g T.f_parse_piece.F.kp T.f_parse_piece.b (fun σ => passAt tk σ) (pa_cons (pv 0) pa_nil)))))
 (fun a oe cls d pn hz hf => (pss_cons (ps_set (i := 3) sc.nd rfl (by first | exact .inl rfl | exact .inr rfl) (pe_xg hz hf (pv 4)))
 (pss_one (ps_if (PW.pt (pw_or (pt_not (pt_val (pe_callB (call_isG hz hf) (by rfl) T.n_isinstance (by decide +kernel) (pa_cons (pv 4) (pa_cons (pe_glob (v := .ref T.c_DayError.a) (by rfl) T.c_DayError.g rfl) pa_nil))))) (pw_or (pt_not (pt_val (pe_callB (call_isG hz hf) (by rfl) T.n_isinstance (by decide +kernel) (pa_cons (pv 4) (pa_cons (pe_bltn (v := .ty "ValueError") (by rfl) T.n_ValueError (by decide +kernel) rfl) pa_nil))))) (pw_or (pt_val (pe_callB (call_isG hz hf) (by rfl) T.n_isinstance (by decide +kernel) (pa_cons (pv 4) (pa_cons (pe_glob (v := .ref T.c_InvalidDeed.a) (by rfl) T.c_InvalidDeed.g rfl) pa_nil)))) (pw_or1 (pt_val (pe_callB (call_isG hz hf) (by rfl) T.n_isinstance (by decide +kernel) (pa_cons (pv 4) (pa_cons (pe_glob (v := .ref T.c_InvalidSign.a) (by rfl) T.c_InvalidSign.g rfl) pa_nil))))))))) (pss_one (ps_ret pe_bl)) pss_nil)))))
 (pss_cons (ps_if (pt_cmpR op_eq (pe_ix ix_tup (pv 1) pe_int (fun _ _ => rfl)) pe_str (nomark _)) (pss_one (ps_ret (pe_and (pe_cmpR op_isN (pv 2) pe_non (nomark _)) (pe_and (pe_call (ok_law_is_number T) (hr.mono (by decide)) (by rfl) T.f_law_is_number.g T.f_law_is_number.F.kp T.f_law_is_number.b .nil pass0 (pa_cons (pv 3) pa_nil)) (pe_one (pe_cmpR (op_eqD hr.units) (pv 3) (pe_ix ix_tup (pv 1) pe_int (fun _ _ => rfl)) (nomark _))))))) pss_nil)
 (pss_one (ps_ret (pe_and (pe_cmpR op_isN (pv 3) pe_non (nomark _)) (pe_one (pe_cmpR op_eq (pe_callB (call_reprG hG hr.units) (by rfl) T.n_repr (by decide +kernel) (pa_cons (pv 2) pa_nil)) (pe_callB (call_reprG hG hr.units) (by rfl) T.n_repr (by decide +kernel) (pa_cons (pe_ix ix_tup (pv 1) pe_int (fun _ _ => rfl)) pa_nil)) (nomark _)))))))))), of_body (fun x => ?_) (fun _ => Nat.le_of_ble_eq_true rfl) h⟩)
  exact EvR.weakL (er_seq (E := fun (due_1 : (Str × Dt)) => [.dat .new (rp x), .dat .new (rp due_1), .un, .un, .un]) (en_set (EvE.res (r' := f_law_read_piece x) (ev_call1 (ev_var (i := 0) (m := .new) (x := x) rfl)) (bsP rfl))) (fun due_1 =>
 (er_seq (E := fun (p4 : ((Option (List Int)) × (Option Int))) => [.dat .new (rp x), .dat .new (rp due_1), .dat .new (rp p4.1), .dat .new (rp p4.2), .un]) (en_asg (vs := [2, 3]) (EvE.res (r' := some ((none : (Option (List Int))), (none : (Option Int)))) (ev_pair ev_non ev_non) (bsP (bsP rfl))) (fun p4 => (eg_pair eg_name (eg_nameS (m1 := .new))))) (fun p4 =>
 (er_seqF (T := Unit) (L := fun _ => []) (E := fun (s30 : ((Option (List Int)) × (Option Int))) => [.dat .new (rp x), .dat .new (rp due_1), .dat .new (rp s30.1), .dat .new (rp s30.2), .un]) (ef_tryAs (E := fun (s10 : ((Option (List Int)) × (Option Int))) => [.dat .new (rp x), .dat .new (rp due_1), .dat .new (rp s10.1), .dat .new (rp s10.2), .un]) T.x_InvalidText
 (eb_asg (vs := [2]) (f := fun (told_6 : (List Int)) => ((some told_6), p4.2)) (Eα := fun (told_6 : (List Int)) => [.dat .new (rp x), .dat .new (rp due_1), .dat .new (rp (some told_6)), .dat .new (rp p4.2), .un]) (ex_call (ct := T.ct) (ea_one (ev_var (i := 0) (m := .new) (x := x) rfl))) (fun told_6 => eg_name) (fun told_6 => (.cons .id (.cons .id (.cons .id (.cons .id (.cons .id .nil)))))))
 (fun e7 a d h1 h2 =>
 (ef_seq (E := fun (at_8 : (Option Int)) => [.dat .new (rp x), .dat .new (rp due_1), .dat .new (rp p4.1), .dat .new (rp at_8), .err a d (fsOf T.ct.f e7)]) (en_set (EvE.cast some (ev_errF (ct := T.ct) T.xf (fun c => T.nf_at c) h2 rfl))) (fun at_8 =>
 (ef_ifP (et_orP (EvT.res (r' := some (!(is_DayError e7.c))) (et_not (et_val (ev_isG (ct := T.ct) (cV := .ref T.c_DayError.a) T.ec T.k_DayError (fun u r => r) rfl))) rfl) (et_orP (EvT.res (r' := some (!(is_ValueError e7.c))) (et_not (et_val (ev_isG (ct := T.ct) (cV := .ty "ValueError") T.ec T.k_ValueError (fun u r => r) rfl))) rfl) (et_orP (et_val (ev_isG (ct := T.ct) (cV := .ref T.c_InvalidDeed.a) T.ec T.k_InvalidDeed (fun u r => r) rfl)) (et_val (ev_isG (ct := T.ct) (cV := .ref T.c_InvalidSign.a) T.ec T.k_InvalidSign (fun u r => r) rfl)))))
 (EvR.FP (er_ret ev_bl))
 (ef_end (s := (p4.1, at_8)) (.cons .id (.cons .id (.cons .id (.cons .id (.cons .un .nil)))))))))) (fun s x z => (Option.some.inj (show some Slot.un = some x from z)).symm) (fun s x z => nomatch z)) (fun s11 =>
 (er_ifS (er_ifP (et_test (EvE.res (r' := some (decide (due_1.1 = (Str.ofString "bad")))) (ev_eqS (EvE.res (r' := some due_1.1) (ev_fst (ev_var (i := 1) (m := .new) (x := due_1) rfl)) rfl) ev_str) (bsP (bsP rfl))))
 (er_cut (er_ret (EvE.res (r' := if s11.1.isNone = true then (f_law_is_number s11.2).bind fun b17 => if b17 = true then eqD (rp s11.2) (rp due_1.2) else some false else some false) (ev_andV (EvE.res (r' := some s11.1.isNone) (ev_isN (ev_var (i := 2) (m := .new) (x := s11.1) rfl)) (bsP rfl)) (ev_andV (EvE.res (r' := f_law_is_number s11.2) (ev_call1 (ev_var (i := 3) (m := .new) (x := s11.2) rfl)) (bsP rfl)) (EvE.res (r' := eqD (rp s11.2) (rp due_1.2)) (ev_eqD (ev_var (i := 3) (m := .new) (x := s11.2) rfl) (EvE.res (r' := some due_1.2) (ev_snd (ev_var (i := 1) (m := .new) (x := due_1) rfl)) rfl)) (bsP (bsP rfl))))) (bsP rfl))))
 (er_nx (er_ret (EvE.res (r' := if s11.2.isNone = true then (s11.1.bind fun v22 => reprD (rp v22)).bind fun v26 => (reprQ due_1.2).bind fun v27 => some (decide (v26 = v27)) else some false) (ev_andV (EvE.res (r' := some s11.2.isNone) (ev_isN (ev_var (i := 3) (m := .new) (x := s11.2) rfl)) (bsP rfl)) (EvE.res (r' := (s11.1.bind fun v22 => reprD (rp v22)).bind fun v26 => (reprQ due_1.2).bind fun v27 => some (decide (v26 = v27))) (ev_eqS (EvE.res (r' := s11.1.bind fun v22 => reprD (rp v22)) (ev_reprB (EvE.B (EvE.res (r' := s11.1) (EvE.un (ev_var (i := 2) (m := .new) (x := s11.1) rfl)) (bsP rfl)))) (bcP fun _ => rfl)) (EvE.res (r' := reprQ due_1.2) (ev_reprQ (EvE.res (r' := some due_1.2) (ev_snd (ev_var (i := 1) (m := .new) (x := due_1) rfl)) rfl)) (bsP rfl))) (bcP fun _ => (bcP fun _ => rfl)))) (bsP rfl)))))))))))) (.cons .sc (.cons .id (.cons .id (.cons .id (.cons .id .nil)))))
theorem ok_law_read_round (T : Tx P K mg) : FnOk P w K mg base CX0 2 T.f_law_read_round.a T.f_law_read_round.d ["text"] (sp1 K f_law_read_round .new) := by
  have sc : FnScope ["text", "words", "places", "at"] ["text"] (defScope st_law_read_round) := ⟨rfl, rfl, rfl, by decide +kernel, rfl, by decide +kernel, by decide +kernel⟩
  refine T.f_law_read_round.F.ok sc (fun vs H Q E h => spA_len h fun _ => rfl) (fun cdv A outer s H vs Q E hr h => ⟨_, (pss_cons (ps_set (i := 1) sc.nd rfl (by first | exact .inl rfl | exact .inr rfl) (pe_split (pv 0) pe_str))
 (pss_cons (ps_if (PW.pt (pw_or (pt_not (pt_val (pe_call (ok_law_is_numeral T) (hr.mono (by decide)) (by rfl) T.f_law_is_numeral.g T.f_law_is_numeral.F.kp T.f_law_is_numeral.b .nil pass0 (pa_cons (pe_ix ix_list (pv 1) pe_int (fun _ _ => rfl)) pa_nil)))) (pw_or1 (pt_cmpR op_lt (pe_callTy call_int_str (by rfl) T.n_int (by decide +kernel) (pa_cons (pe_ix ix_list (pv 1) pe_int (fun _ _ => rfl)) pa_nil)) pe_int (nomark _))))) (pss_one (ps_ret (pe_tup (pa_cons pe_str (pa_cons pe_int pa_nil))))) pss_nil)
 (pss_cons (ps_if (PW.pt (pw_or (pt_cmpR op_eq (pe_callB call_len_seq (by rfl) T.n_len (by decide +kernel) (pa_cons (pv 1) pa_nil)) pe_int (nomark _)) (pw_or1 (pt_cmpR op_ne (pe_ix ix_list (pv 1) pe_int (fun _ _ => rfl)) pe_str (nomark _))))) (pss_one (ps_ret (pe_tup (pa_cons pe_str (pa_cons pe_int pa_nil))))) pss_nil)
 (pss_cons (ps_set (i := 2) sc.nd rfl (by first | exact .inl rfl | exact .inr rfl) (pe_lst pa_nil))
 (pss_cons (ps_for PassesOwn.never rfl (pi_range2 (by rfl) T.n_range (pa_cons pe_int (pa_cons (pe_callB call_len_seq (by rfl) T.n_len (by decide +kernel) (pa_cons (pv 1) pa_nil)) pa_nil))) (pg_name (i := 3) sc.nd rfl (by first | exact .inl rfl | exact .inr rfl))
 (pss_cons (ps_if (PW.pt (pw_or (pt_not (pt_val (pe_call (ok_law_is_numeral T) (hr.mono (by decide)) (by rfl) T.f_law_is_numeral.g T.f_law_is_numeral.F.kp T.f_law_is_numeral.b .nil pass0 (pa_cons (pe_ix ix_list (pv 1) (pv 3) (fun _ _ => rfl)) pa_nil)))) (pw_or (pt_cmpR op_lt (pe_callTy call_int_str (by rfl) T.n_int (by decide +kernel) (pa_cons (pe_ix ix_list (pv 1) (pv 3) (fun _ _ => rfl)) pa_nil)) pe_int (nomark _)) (pw_or1 (pt_cmpR op_ge (pe_callTy call_int_str (by rfl) T.n_int (by decide +kernel) (pa_cons (pe_ix ix_list (pv 1) (pv 3) (fun _ _ => rfl)) pa_nil)) (pe_callTy call_int_str (by rfl) T.n_int (by decide +kernel) (pa_cons (pe_ix ix_list (pv 1) pe_int (fun _ _ => rfl)) pa_nil)) (nomark _)))))) (pss_one (ps_ret (pe_tup (pa_cons pe_str (pa_cons (pv 3) pa_nil))))) pss_nil)
 (pss_cons (ps_if (PW.pt (pw_and (pt_cmpR op_gt (pv 3) pe_int (nomark _)) (pw_and1 (pt_cmpR op_le (pe_callTy call_int_str (by rfl) T.n_int (by decide +kernel) (pa_cons (pe_ix ix_list (pv 1) (pv 3) (fun _ _ => rfl)) pa_nil)) (pe_ix ix_list (pv 2) (pe_op op_sub (pv 3) pe_int) (fun _ _ => rfl)) (nomark _))))) (pss_one (ps_ret (pe_tup (pa_cons pe_str (pa_cons (pv 3) pa_nil))))) pss_nil)
 (pss_one (ps_expr (pe_bm PySem.F.plainAttrs_list PySem.F.slot_list_append PySem.F.type_list_append mt_append (pv 2) (pa_cons (pe_callTy call_int_str (by rfl) T.n_int (by decide +kernel) (pa_cons (pe_ix ix_list (pv 1) (pv 3) (fun _ _ => rfl)) pa_nil)) pa_nil)))))))
 (pss_one (ps_ret (pe_tup (pa_cons pe_str (pa_cons (pe_tup (pa_cons (pe_callTy call_int_str (by rfl) T.n_int (by decide +kernel) (pa_cons (pe_ix ix_list (pv 1) pe_int (fun _ _ => rfl)) pa_nil)) (pa_cons (pv 2) pa_nil))) pa_nil)))))))))), of_body (fun x => ?_) (fun _ => Nat.le_of_ble_eq_true rfl) h⟩)
  exact EvR.weakL (er_seq (E := fun (words_3 : (List Str)) => [.dat .new (rp x), .dat .new (rp words_3), .un, .un]) (en_set (EvL.E (EvL.res (r' := splitS x (Str.ofString " ")) (ev_splitS (ev_var (i := 0) (m := .new) (x := x) rfl) ev_str) (bsP (bsP rfl))))) (fun words_3 =>
 (er_ifS (er_if (et_or (et_not (et_val (EvE.res (r' := (atI words_3 (0 : Int)).bind fun v6 => f_law_is_numeral v6) (ev_call1 (EvE.res (r' := atI words_3 (0 : Int)) (ev_ix (EvE.B (ev_var (i := 1) (m := .new) (x := words_3) rfl)) ev_int) (bsP (bsP rfl)))) (bcP fun _ => rfl)))) (et_test (EvE.res (r' := ((atI words_3 (0 : Int)).bind fun v10 => intS v10).bind fun v13 => some (decide (v13 < (1 : Int)))) (ev_cmpI (EvE.res (r' := (atI words_3 (0 : Int)).bind fun v10 => intS v10) (ev_intS (EvE.res (r' := atI words_3 (0 : Int)) (ev_ix (EvE.B (ev_var (i := 1) (m := .new) (x := words_3) rfl)) ev_int) (bsP (bsP rfl)))) (bcP fun _ => rfl)) ev_int) (bcP fun _ => (bsP rfl)))))
 (er_cut (er_ret (EvE.res (r' := some ((Str.ofString "bad"), (rp (0 : Int)))) (ev_pair ev_str (EvE.res (r' := some (rp (0 : Int))) (EvE.cast (fun z : Int => rp z) ev_int) rfl)) (bsP (bsP rfl)))))
 (er_nx (er_ifS (er_if (EvT.res (r' := if (decide ((words_3.length : Int) = (1 : Int))) = true then some true else (atI words_3 (1 : Int)).bind fun v24 => some (decide (v24 ≠ (Str.ofString ":")))) (et_or (et_test (EvE.res (r' := some (decide ((words_3.length : Int) = (1 : Int)))) (ev_eqI (EvE.res (r' := some (words_3.length : Int)) (ev_len (EvE.B (ev_var (i := 1) (m := .new) (x := words_3) rfl))) (bsP rfl)) ev_int) (bsP (bsP rfl)))) (et_test (EvE.res (r' := (atI words_3 (1 : Int)).bind fun v24 => some (decide (v24 ≠ (Str.ofString ":")))) (ev_neS (EvE.res (r' := atI words_3 (1 : Int)) (ev_ix (EvE.B (ev_var (i := 1) (m := .new) (x := words_3) rfl)) ev_int) (bsP (bsP rfl))) ev_str) (bcP fun _ => (bsP rfl))))) (bsP rfl))
 (er_cut (er_ret (EvE.res (r' := some ((Str.ofString "bad"), (rp (1 : Int)))) (ev_pair ev_str (EvE.res (r' := some (rp (1 : Int))) (EvE.cast (fun z : Int => rp z) ev_int) rfl)) (bsP (bsP rfl)))))
 (er_nx (er_seq (E := fun (places_28 : (List Int)) => [.dat .new (rp x), .dat .new (rp words_3), .own .new (rps places_28), .un]) (en_own (ev_list (m := .new) exs_nil)) (fun places_28 =>
 (er_seqF (T := Unit) (L := fun _ => []) (E := fun (s86 : (List Int)) => [.dat .new (rp x), .dat .new (rp words_3), .own .new (rps s86), .un]) (ef_for (E := fun (s86 : (List Int)) => [.dat .new (rp x), .dat .new (rp words_3), .own .new (rps s86), .un]) (s0 := places_28) (Eb := fun (s32 : (List Int)) (at_33 : Int) => [.dat .new (rp x), .dat .new (rp words_3), .own .new (rps s32), .dat .new (rp at_33)]) (vs := [3]) (EvI.res (r' := rangeP (2 : Int) (words_3.length : Int)) (ei_range2 ev_int (EvE.res (r' := some (words_3.length : Int)) (ev_len (EvE.B (ev_var (i := 1) (m := .new) (x := words_3) rfl))) (bsP rfl))) (bsP (bsP rfl))) (.cons .id (.cons .id (.cons .id (.cons .id .nil)))) (fun s32 at_33 => (eg_nameS (m1 := .new))) (fun s32 at_33 =>
 (ef_ifS (ef_if (et_or (et_not (et_val (EvE.res (r' := (atI words_3 at_33).bind fun v36 => f_law_is_numeral v36) (ev_call1 (EvE.res (r' := atI words_3 at_33) (ev_ix (EvE.B (ev_var (i := 1) (m := .new) (x := words_3) rfl)) (ev_var (i := 3) (m := .new) (x := at_33) rfl)) (bsP (bsP rfl)))) (bcP fun _ => rfl)))) (et_or (et_test (EvE.res (r' := ((atI words_3 at_33).bind fun v40 => intS v40).bind fun v43 => some (decide (v43 < (0 : Int)))) (ev_cmpI (EvE.res (r' := (atI words_3 at_33).bind fun v40 => intS v40) (ev_intS (EvE.res (r' := atI words_3 at_33) (ev_ix (EvE.B (ev_var (i := 1) (m := .new) (x := words_3) rfl)) (ev_var (i := 3) (m := .new) (x := at_33) rfl)) (bsP (bsP rfl)))) (bcP fun _ => rfl)) ev_int) (bcP fun _ => (bsP rfl)))) (et_test (EvE.res (r' := ((atI words_3 at_33).bind fun v47 => intS v47).bind fun v54 => ((atI words_3 (0 : Int)).bind fun v51 => intS v51).bind fun v55 => some (decide (v55 ≤ v54))) (ev_cmpI (EvE.res (r' := (atI words_3 at_33).bind fun v47 => intS v47) (ev_intS (EvE.res (r' := atI words_3 at_33) (ev_ix (EvE.B (ev_var (i := 1) (m := .new) (x := words_3) rfl)) (ev_var (i := 3) (m := .new) (x := at_33) rfl)) (bsP (bsP rfl)))) (bcP fun _ => rfl)) (EvE.res (r' := (atI words_3 (0 : Int)).bind fun v51 => intS v51) (ev_intS (EvE.res (r' := atI words_3 (0 : Int)) (ev_ix (EvE.B (ev_var (i := 1) (m := .new) (x := words_3) rfl)) ev_int) (bsP (bsP rfl)))) (bcP fun _ => rfl))) (bcP fun _ => (bcP fun _ => rfl))))))
 (ef_cutRP (er_ret (EvE.res (r' := some ((Str.ofString "bad"), (rp at_33))) (ev_pair ev_str (EvE.res (r' := some (rp at_33)) (EvE.cast (fun z : Int => rp z) (ev_var (i := 3) (m := .new) (x := at_33) rfl)) rfl)) (bsP (bsP rfl)))))
 (ef_nx (ef_ifS (ef_if (EvT.res (r' := if (decide ((2 : Int) < at_33)) = true then ((atI words_3 at_33).bind fun v65 => intS v65).bind fun v72 => (atI s32 (at_33 - (3 : Int))).bind fun v73 => some (decide (v72 ≤ v73)) else some false) (et_and (et_test (EvE.res (r' := some (decide ((2 : Int) < at_33))) (ev_cmpI (ev_var (i := 3) (m := .new) (x := at_33) rfl) ev_int) (bsP (bsP rfl)))) (et_test (EvE.res (r' := ((atI words_3 at_33).bind fun v65 => intS v65).bind fun v72 => (atI s32 (at_33 - (3 : Int))).bind fun v73 => some (decide (v72 ≤ v73))) (ev_cmpI (EvE.res (r' := (atI words_3 at_33).bind fun v65 => intS v65) (ev_intS (EvE.res (r' := atI words_3 at_33) (ev_ix (EvE.B (ev_var (i := 1) (m := .new) (x := words_3) rfl)) (ev_var (i := 3) (m := .new) (x := at_33) rfl)) (bsP (bsP rfl)))) (bcP fun _ => rfl)) (EvE.res (r' := atI s32 (at_33 - (3 : Int))) (ev_ix (ev_own (i := 2) (m := .new) (xs := s32) rfl) (EvE.res (r' := some (at_33 - (3 : Int))) (ev_arith (ev_var (i := 3) (m := .new) (x := at_33) rfl) ev_int) (bsP (bsP rfl)))) (bsP (bsP rfl)))) (bcP fun _ => (bcP fun _ => rfl))))) (bsP rfl))
 (ef_cutRP (er_ret (EvE.res (r' := some ((Str.ofString "bad"), (rp at_33))) (ev_pair ev_str (EvE.res (r' := some (rp at_33)) (EvE.cast (fun z : Int => rp z) (ev_var (i := 3) (m := .new) (x := at_33) rfl)) rfl)) (bsP (bsP rfl)))))
 (ef_nx (ef_last (ef_seq (E := fun (places_77 : (List Int)) => [.dat .new (rp x), .dat .new (rp words_3), .own .new (rps places_77), .dat .new (rp at_33)]) (en_append (i := 2) (m := .new) (xs := s32) (EvE.res (r' := (atI words_3 at_33).bind fun v81 => intS v81) (ev_intS (EvE.res (r' := atI words_3 at_33) (ev_ix (EvE.B (ev_var (i := 1) (m := .new) (x := words_3) rfl)) (ev_var (i := 3) (m := .new) (x := at_33) rfl)) (bsP (bsP rfl)))) (bcP fun _ => rfl)) rfl) (fun places_77 =>
 (ef_end (s := places_77) (.cons .id (.cons .id (.cons .id (.cons .un .nil)))))))))))))))) (fun s88 =>
 (EvR.frz (m1 := .new) (i := 2) (l := rps s88) (er_ret (EvE.res (r' := ((((atI words_3 (0 : Int)).bind fun v96 => intS v96).bind fun v99 => some (v99, s88)).map rp).bind fun v102 => some ((Str.ofString "good"), v102)) (ev_pair ev_str (EvE.cast (fun z : (Int × (List Int)) => rp z) (EvE.res (r' := ((atI words_3 (0 : Int)).bind fun v96 => intS v96).bind fun v99 => some (v99, s88)) (ev_pair (EvE.res (r' := (atI words_3 (0 : Int)).bind fun v96 => intS v96) (ev_intS (EvE.res (r' := atI words_3 (0 : Int)) (ev_ix (EvE.B (ev_var (i := 1) (m := .new) (x := words_3) rfl)) ev_int) (bsP (bsP rfl)))) (bcP fun _ => rfl)) (ev_var (i := 2) (m := .new) (x := s88) rfl)) (bcP fun _ => (bsP rfl))))) (bsP (bcP fun _ => rfl)))) rfl))))))))))))) (.cons .sc (.cons .id (.cons .id (.cons .id .nil))))
theorem ok_can_stand (T : Tx P K mg) : FnOk P w K mg base CX0 2 T.f_can_stand.a T.f_can_stand.d ["words", "at"] (sp2 K f_can_stand .new) := by
  have sc : FnScope ["words", "at"] ["words", "at"] (defScope st_can_stand) := ⟨rfl, rfl, rfl, by decide +kernel, rfl, by decide +kernel, by decide +kernel⟩
  refine T.f_can_stand.F.ok sc (fun vs H Q E h => spA_len h fun _ => rfl) (fun cdv A outer s H vs Q E hr h => ⟨_, (pss_cons (ps_if (pt_cmpR op_eq (pv 1) pe_int (nomark _)) (pss_one (ps_ret (pe_and (pe_call (ok_is_digits T) (hr.mono (by decide)) (by rfl) T.f_is_digits.g T.f_is_digits.F.kp T.f_is_digits.b .nil pass0 (pa_cons (pe_ix ix_list (pv 0) pe_int (fun _ _ => rfl)) pa_nil)) (pe_one (pe_cmpR op_ne (pe_ix ix_list (pv 0) pe_int (fun _ _ => rfl)) pe_str (nomark _)))))) pss_nil)
 (pss_cons (ps_if (pt_cmpR op_eq (pv 1) pe_int (nomark _)) (pss_one (ps_ret (pe_cmpR op_eq (pe_ix ix_list (pv 0) pe_int (fun _ _ => rfl)) pe_str (nomark _)))) pss_nil)
 (pss_cons (ps_if (PW.pt (pw_or (pt_not (pt_val (pe_call (ok_is_digits T) (hr.mono (by decide)) (by rfl) T.f_is_digits.g T.f_is_digits.F.kp T.f_is_digits.b .nil pass0 (pa_cons (pe_ix ix_list (pv 0) (pv 1) (fun _ _ => rfl)) pa_nil)))) (pw_or1 (pt_cmpR op_ge (pe_callTy call_int_str (by rfl) T.n_int (by decide +kernel) (pa_cons (pe_ix ix_list (pv 0) (pv 1) (fun _ _ => rfl)) pa_nil)) (pe_callTy call_int_str (by rfl) T.n_int (by decide +kernel) (pa_cons (pe_ix ix_list (pv 0) pe_int (fun _ _ => rfl)) pa_nil)) (nomark _))))) (pss_one (ps_ret pe_bl)) pss_nil)
 (pss_one (ps_ret (pe_or (pe_cmpR op_eq (pv 1) pe_int (nomark _)) (pe_one (pe_cmpR op_gt (pe_callTy call_int_str (by rfl) T.n_int (by decide +kernel) (pa_cons (pe_ix ix_list (pv 0) (pv 1) (fun _ _ => rfl)) pa_nil)) (pe_callTy call_int_str (by rfl) T.n_int (by decide +kernel) (pa_cons (pe_ix ix_list (pv 0) (pe_op op_sub (pv 1) pe_int) (fun _ _ => rfl)) pa_nil)) (nomark _))))))))), of_body (fun x => ?_) (fun _ => Nat.le_of_ble_eq_true rfl) h⟩)
  exact EvR.weakL (er_ifS (er_ifP (et_test (EvE.res (r' := some (decide (x.2 = (0 : Int)))) (ev_eqI (ev_var (i := 1) (m := .new) (x := x.2) rfl) ev_int) (bsP (bsP rfl))))
 (er_cut (er_ret (ev_andV (EvE.res (r' := (atI x.1 (0 : Int)).bind fun v5 => f_is_digits v5) (ev_call1 (EvE.res (r' := atI x.1 (0 : Int)) (ev_ix (EvB.sc (m1 := .new) (EvE.B (ev_var (i := 0) (m := .old) (x := x.1) rfl))) ev_int) (bsP (bsP rfl)))) (bcP fun _ => rfl)) (EvE.res (r' := (atI x.1 (0 : Int)).bind fun v10 => some (decide (v10 ≠ (Str.ofString "0")))) (ev_neS (EvE.res (r' := atI x.1 (0 : Int)) (ev_ix (EvB.sc (m1 := .new) (EvE.B (ev_var (i := 0) (m := .old) (x := x.1) rfl))) ev_int) (bsP (bsP rfl))) ev_str) (bcP fun _ => (bsP rfl))))))
 (er_nx (er_ifS (er_ifP (et_test (EvE.res (r' := some (decide (x.2 = (1 : Int)))) (ev_eqI (ev_var (i := 1) (m := .new) (x := x.2) rfl) ev_int) (bsP (bsP rfl))))
 (er_cut (er_ret (EvE.res (r' := (atI x.1 (1 : Int)).bind fun v18 => some (decide (v18 = (Str.ofString ":")))) (ev_eqS (EvE.res (r' := atI x.1 (1 : Int)) (ev_ix (EvB.sc (m1 := .new) (EvE.B (ev_var (i := 0) (m := .old) (x := x.1) rfl))) ev_int) (bsP (bsP rfl))) ev_str) (bcP fun _ => (bsP rfl)))))
 (er_nx (er_ifS (er_if (et_or (et_not (et_val (EvE.res (r' := (atI x.1 x.2).bind fun v21 => f_is_digits v21) (ev_call1 (EvE.res (r' := atI x.1 x.2) (ev_ix (EvB.sc (m1 := .new) (EvE.B (ev_var (i := 0) (m := .old) (x := x.1) rfl))) (ev_var (i := 1) (m := .new) (x := x.2) rfl)) (bsP (bsP rfl)))) (bcP fun _ => rfl)))) (et_test (EvE.res (r' := ((atI x.1 x.2).bind fun v25 => intS v25).bind fun v32 => ((atI x.1 (0 : Int)).bind fun v29 => intS v29).bind fun v33 => some (decide (v33 ≤ v32))) (ev_cmpI (EvE.res (r' := (atI x.1 x.2).bind fun v25 => intS v25) (ev_intS (EvE.res (r' := atI x.1 x.2) (ev_ix (EvB.sc (m1 := .new) (EvE.B (ev_var (i := 0) (m := .old) (x := x.1) rfl))) (ev_var (i := 1) (m := .new) (x := x.2) rfl)) (bsP (bsP rfl)))) (bcP fun _ => rfl)) (EvE.res (r' := (atI x.1 (0 : Int)).bind fun v29 => intS v29) (ev_intS (EvE.res (r' := atI x.1 (0 : Int)) (ev_ix (EvB.sc (m1 := .new) (EvE.B (ev_var (i := 0) (m := .old) (x := x.1) rfl))) ev_int) (bsP (bsP rfl)))) (bcP fun _ => rfl))) (bcP fun _ => (bcP fun _ => rfl)))))
 (er_cut (er_ret ev_bl))
 (er_nx (er_ret (EvE.res (r' := if (decide (x.2 = (2 : Int))) = true then some true else ((atI x.1 x.2).bind fun v40 => intS v40).bind fun v49 => ((atI x.1 (x.2 - (1 : Int))).bind fun v46 => intS v46).bind fun v50 => some (decide (v50 < v49))) (ev_orV (EvE.res (r' := some (decide (x.2 = (2 : Int)))) (ev_eqI (ev_var (i := 1) (m := .new) (x := x.2) rfl) ev_int) (bsP (bsP rfl))) (EvE.res (r' := ((atI x.1 x.2).bind fun v40 => intS v40).bind fun v49 => ((atI x.1 (x.2 - (1 : Int))).bind fun v46 => intS v46).bind fun v50 => some (decide (v50 < v49))) (ev_cmpI (EvE.res (r' := (atI x.1 x.2).bind fun v40 => intS v40) (ev_intS (EvE.res (r' := atI x.1 x.2) (ev_ix (EvB.sc (m1 := .new) (EvE.B (ev_var (i := 0) (m := .old) (x := x.1) rfl))) (ev_var (i := 1) (m := .new) (x := x.2) rfl)) (bsP (bsP rfl)))) (bcP fun _ => rfl)) (EvE.res (r' := (atI x.1 (x.2 - (1 : Int))).bind fun v46 => intS v46) (ev_intS (EvE.res (r' := atI x.1 (x.2 - (1 : Int))) (ev_ix (EvB.sc (m1 := .new) (EvE.B (ev_var (i := 0) (m := .old) (x := x.1) rfl))) (EvE.res (r' := some (x.2 - (1 : Int))) (ev_arith (ev_var (i := 1) (m := .new) (x := x.2) rfl) ev_int) (bsP (bsP rfl)))) (bsP (bsP rfl)))) (bcP fun _ => rfl))) (bcP fun _ => (bcP fun _ => rfl)))) (bsP rfl)))))))))))) (.cons .id (.cons .sc .nil))
theorem ok_parse_round_set (T : Tx P K mg) : FnOk P w K mg base (L2.CX P w) 3 T.f_parse_round_set.a T.f_parse_round_set.d ["text"] (spX1 K T.ct f_parse_round_set .new) := by
  have sc : FnScope ["text", "words", "at"] ["text"] (defScope st_parse_round_set) := ⟨rfl, rfl, rfl, by decide +kernel, rfl, by decide +kernel, by decide +kernel⟩
  refine T.f_parse_round_set.F.okX sc (fun vs H Q E h => spX_len h fun _ => rfl) (fun cdv A outer s H vs Q E hr h => ⟨_, (pss_cons (ps_set (i := 1) sc.nd rfl (by first | exact .inl rfl | exact .inr rfl) (pe_split (pv 0) pe_str))
 (pss_cons (ps_for (passes_of rfl) rfl (pi_range1 (by rfl) T.n_range (pa_cons (pe_callB call_len_seq (by rfl) T.n_len (by decide +kernel) (pa_cons (pv 1) pa_nil)) pa_nil)) (pg_name (i := 2) sc.nd rfl (by first | exact .inl rfl | exact .inr rfl))
 (pss_one (ps_if (pt_not (pt_val (pe_call (ok_can_stand T) (hr.mono (by decide)) (by rfl) T.f_can_stand.g T.f_can_stand.F.kp T.f_can_stand.b .nil pass0 (pa_cons (pv 1) (pa_cons (pv 2) pa_nil))))) (pss_one (ps_raiseF rfl T.o_InvalidText hr (by decide) (takes_of rfl rfl rfl rfl) (pa_cons (pv 2) pa_nil) (by rfl))) pss_nil)))
 (pss_cons (ps_if (pt_cmpR op_eq (pe_callB call_len_seq (by rfl) T.n_len (by decide +kernel) (pa_cons (pv 1) pa_nil)) pe_int (nomark _)) (pss_one (ps_raiseF rfl T.o_InvalidText hr (by decide) (takes_of rfl rfl rfl rfl) (pa_cons pe_int pa_nil) (by rfl))) pss_nil)
 (pss_one (ps_ret (pe_tup (pa_cons (pe_callTy call_int_str (by rfl) T.n_int (by decide +kernel) (pa_cons (pe_ix ix_list (pv 1) pe_int (fun _ _ => rfl)) pa_nil)) (pa_cons (pe_call (ok_numbers_of T) (hr.mono (by decide)) (by rfl) T.f_numbers_of.g T.f_numbers_of.F.kp T.f_numbers_of.b .nil pass0 (pa_cons (pe_slice sl_list (pv 1) (po_some pe_int) po_none) pa_nil)) pa_nil)))))))), of_bodyX (fun x => ?_) (fun _ => Nat.le_of_ble_eq_true rfl) h⟩)
  exact EvRX.weakL (xr_seq (E := fun (words_3 : (List Str)) => [.dat .new (rp x), .dat .new (rp words_3), .un]) (en_set (EvL.E (EvL.res (r' := splitS x (Str.ofString " ")) (ev_splitS (ev_var (i := 0) (m := .new) (x := x) rfl) ev_str) (bsP (bsP rfl))))) (fun words_3 =>
 (xr_seqF (T := Unit) (L := fun _ => []) (E := fun (s11 : Unit) => [.dat .new (rp x), .dat .new (rp words_3), .un]) (xf_for (E := fun (s11 : Unit) => [.dat .new (rp x), .dat .new (rp words_3), .un]) (s0 := ()) (Eb := fun (s6 : Unit) (at_7 : Int) => [.dat .new (rp x), .dat .new (rp words_3), .dat .new (rp at_7)]) (vs := [2]) (EvI.res (r' := rangeP 0 (words_3.length : Int)) (ei_range1 (EvE.res (r' := some (words_3.length : Int)) (ev_len (EvE.B (ev_var (i := 1) (m := .new) (x := words_3) rfl))) (bsP rfl))) (bsP rfl)) (.cons .id (.cons .id (.cons .id .nil))) (fun s6 at_7 => (eg_nameS (m1 := .new))) (fun s6 at_7 =>
 (xf_if (et_not (et_val (EvE.res (r' := f_can_stand words_3 at_7) (ev_call2 (ev_var (i := 1) (m := .new) (x := words_3) rfl) (ev_var (i := 2) (m := .new) (x := at_7) rfl)) (bsP (bsP rfl)))))
 (EvRX.F (xr_raise (ct := T.ct) (c := 0) (ev_var (i := 2) (m := .new) (x := at_7) rfl)))
 (xf_end (s := ()) (.cons .id (.cons .id (.cons .un .nil))))))) (fun s13 =>
 (xr_ifS (xr_ifP (et_test (EvE.res (r' := some (decide ((words_3.length : Int) = (1 : Int)))) (ev_eqI (EvE.res (r' := some (words_3.length : Int)) (ev_len (EvE.B (ev_var (i := 1) (m := .new) (x := words_3) rfl))) (bsP rfl)) ev_int) (bsP (bsP rfl))))
 (xr_cut (xr_raise (ct := T.ct) (c := 0) ev_int))
 (xr_nx (xr_ret (EvE.res (r' := ((atI words_3 (0 : Int)).bind fun v20 => intS v20).bind fun v26 => (f_numbers_of (cut words_3 (some (2 : Int)) none)).bind fun v27 => some (v26, v27)) (ev_pair (EvE.res (r' := (atI words_3 (0 : Int)).bind fun v20 => intS v20) (ev_intS (EvE.res (r' := atI words_3 (0 : Int)) (ev_ix (EvE.B (ev_var (i := 1) (m := .new) (x := words_3) rfl)) ev_int) (bsP (bsP rfl)))) (bcP fun _ => rfl)) (EvE.res (r' := f_numbers_of (cut words_3 (some (2 : Int)) none)) (ev_call1 (EvL.E (EvL.res (r' := some (cut words_3 (some (2 : Int)) none)) (ev_sl (EvE.B (ev_var (i := 1) (m := .new) (x := words_3) rfl)) (eo_atP ev_int) eo_no) (bsP (bsP (bsP rfl)))))) (bsP rfl))) (bcP fun _ => (bcP fun _ => rfl))))))))))) (.cons .sc (.cons .id (.cons .id .nil)))
theorem ok_law_round_reads (T : Tx P K mg) : FnOkG P w K mg base 4 T.f_law_round_reads.a T.f_law_round_reads.d ["text"] (sp1 K f_law_round_reads .new) := by
  have sc : FnScope ["text", "due", "told", "at", "error"] ["text"] (defScope st_law_round_reads) := ⟨rfl, rfl, rfl, by decide +kernel, rfl, by decide +kernel, by decide +kernel⟩
  refine L2.DL.okG T.f_law_round_reads.F sc (fun vs H Q E h => spA_len h fun _ => rfl) (fun cdv A outer s H vs Q E hG hr h => ⟨_, (pss_cons (ps_set (i := 1) sc.nd rfl (by first | exact .inl rfl | exact .inr rfl) (pe_call (ok_law_read_round T) (hr.mono (by decide)) (by rfl) T.f_law_read_round.g T.f_law_read_round.F.kp T.f_law_read_round.b .nil pass0 (pa_cons (pv 0) pa_nil)))
 (pss_cons (ps_asg (pe_tup (pa_cons pe_non (pa_cons pe_non pa_nil))) (pg_tup rfl (pgs_cons (pg_name (i := 2) sc.nd rfl (by first | exact .inl rfl | exact .inr rfl)) (pgs_cons (pg_name (i := 3) sc.nd rfl (by first | exact .inl rfl | exact .inr rfl)) pgs_nil))))
 (pss_cons (ps_tryAs (i := 4) rfl rfl sc.nd rfl rfl ⟨by rfl, by decide, .inl T.c_InvalidText.g⟩ takes0
 (fun W pn xe tk _ => (pss_one (ps_set (i := 2) sc.nd rfl (by first | exact .inl rfl | exact .inr rfl) (pe_callS (ok_parse_round_set T) (hr.mono (by decide)) (by rfl) T.f_parse_round_set.g T.f_parse_round_set.F.kp T.f_parse_round_set.b (fun σ => passAt tk σ) (pa_cons (pv 0) pa_nil)))))
 (fun a oe cls d pn hz hf => (pss_cons (ps_set (i := 3) sc.nd rfl (by first | exact .inl rfl | exact .inr rfl) (pe_xg hz hf (pv 4)))
 (pss_one (ps_if (PW.pt (pw_or (pt_not (pt_val (pe_callB (call_isG hz hf) (by rfl) T.n_isinstance (by decide +kernel) (pa_cons (pv 4) (pa_cons (pe_glob (v := .ref T.c_DayError.a) (by rfl) T.c_DayError.g rfl) pa_nil))))) (pw_or (pt_not (pt_val (pe_callB (call_isG hz hf) (by rfl) T.n_isinstance (by decide +kernel) (pa_cons (pv 4) (pa_cons (pe_bltn (v := .ty "ValueError") (by rfl) T.n_ValueError (by decide +kernel) rfl) pa_nil))))) (pw_or (pt_val (pe_callB (call_isG hz hf) (by rfl) T.n_isinstance (by decide +kernel) (pa_cons (pv 4) (pa_cons (pe_glob (v := .ref T.c_InvalidDeed.a) (by rfl) T.c_InvalidDeed.g rfl) pa_nil)))) (pw_or1 (pt_val (pe_callB (call_isG hz hf) (by rfl) T.n_isinstance (by decide +kernel) (pa_cons (pv 4) (pa_cons (pe_glob (v := .ref T.c_InvalidSign.a) (by rfl) T.c_InvalidSign.g rfl) pa_nil))))))))) (pss_one (ps_ret pe_bl)) pss_nil)))))
 (pss_cons (ps_if (pt_cmpR op_eq (pe_ix ix_tup (pv 1) pe_int (fun _ _ => rfl)) pe_str (nomark _)) (pss_one (ps_ret (pe_and (pe_cmpR op_isN (pv 2) pe_non (nomark _)) (pe_and (pe_call (ok_law_is_number T) (hr.mono (by decide)) (by rfl) T.f_law_is_number.g T.f_law_is_number.F.kp T.f_law_is_number.b .nil pass0 (pa_cons (pv 3) pa_nil)) (pe_one (pe_cmpR (op_eqD hr.units) (pv 3) (pe_ix ix_tup (pv 1) pe_int (fun _ _ => rfl)) (nomark _))))))) pss_nil)
 (pss_one (ps_ret (pe_and (pe_cmpR op_isN (pv 3) pe_non (nomark _)) (pe_one (pe_cmpR op_eq (pe_callB (call_reprG hG hr.units) (by rfl) T.n_repr (by decide +kernel) (pa_cons (pv 2) pa_nil)) (pe_callB (call_reprG hG hr.units) (by rfl) T.n_repr (by decide +kernel) (pa_cons (pe_ix ix_tup (pv 1) pe_int (fun _ _ => rfl)) pa_nil)) (nomark _)))))))))), of_body (fun x => ?_) (fun _ => Nat.le_of_ble_eq_true rfl) h⟩)
  exact EvR.weakL (er_seq (E := fun (due_1 : (Str × Dt)) => [.dat .new (rp x), .dat .new (rp due_1), .un, .un, .un]) (en_set (EvE.res (r' := f_law_read_round x) (ev_call1 (ev_var (i := 0) (m := .new) (x := x) rfl)) (bsP rfl))) (fun due_1 =>
 (er_seq (E := fun (p4 : ((Option (Int × (List Int))) × (Option Int))) => [.dat .new (rp x), .dat .new (rp due_1), .dat .new (rp p4.1), .dat .new (rp p4.2), .un]) (en_asg (vs := [2, 3]) (EvE.res (r' := some ((none : (Option (Int × (List Int)))), (none : (Option Int)))) (ev_pair ev_non ev_non) (bsP (bsP rfl))) (fun p4 => (eg_pair eg_name (eg_nameS (m1 := .new))))) (fun p4 =>
 (er_seqF (T := Unit) (L := fun _ => []) (E := fun (s30 : ((Option (Int × (List Int))) × (Option Int))) => [.dat .new (rp x), .dat .new (rp due_1), .dat .new (rp s30.1), .dat .new (rp s30.2), .un]) (ef_tryAs (E := fun (s10 : ((Option (Int × (List Int))) × (Option Int))) => [.dat .new (rp x), .dat .new (rp due_1), .dat .new (rp s10.1), .dat .new (rp s10.2), .un]) T.x_InvalidText
 (eb_asg (vs := [2]) (f := fun (told_6 : (Int × (List Int))) => ((some told_6), p4.2)) (Eα := fun (told_6 : (Int × (List Int))) => [.dat .new (rp x), .dat .new (rp due_1), .dat .new (rp (some told_6)), .dat .new (rp p4.2), .un]) (ex_call (ct := T.ct) (ea_one (ev_var (i := 0) (m := .new) (x := x) rfl))) (fun told_6 => eg_name) (fun told_6 => (.cons .id (.cons .id (.cons .id (.cons .id (.cons .id .nil)))))))
 (fun e7 a d h1 h2 =>
 (ef_seq (E := fun (at_8 : (Option Int)) => [.dat .new (rp x), .dat .new (rp due_1), .dat .new (rp p4.1), .dat .new (rp at_8), .err a d (fsOf T.ct.f e7)]) (en_set (EvE.cast some (ev_errF (ct := T.ct) T.xf (fun c => T.nf_at c) h2 rfl))) (fun at_8 =>
 (ef_ifP (et_orP (EvT.res (r' := some (!(is_DayError e7.c))) (et_not (et_val (ev_isG (ct := T.ct) (cV := .ref T.c_DayError.a) T.ec T.k_DayError (fun u r => r) rfl))) rfl) (et_orP (EvT.res (r' := some (!(is_ValueError e7.c))) (et_not (et_val (ev_isG (ct := T.ct) (cV := .ty "ValueError") T.ec T.k_ValueError (fun u r => r) rfl))) rfl) (et_orP (et_val (ev_isG (ct := T.ct) (cV := .ref T.c_InvalidDeed.a) T.ec T.k_InvalidDeed (fun u r => r) rfl)) (et_val (ev_isG (ct := T.ct) (cV := .ref T.c_InvalidSign.a) T.ec T.k_InvalidSign (fun u r => r) rfl)))))
 (EvR.FP (er_ret ev_bl))
 (ef_end (s := (p4.1, at_8)) (.cons .id (.cons .id (.cons .id (.cons .id (.cons .un .nil)))))))))) (fun s x z => (Option.some.inj (show some Slot.un = some x from z)).symm) (fun s x z => nomatch z)) (fun s11 =>
 (er_ifS (er_ifP (et_test (EvE.res (r' := some (decide (due_1.1 = (Str.ofString "bad")))) (ev_eqS (EvE.res (r' := some due_1.1) (ev_fst (ev_var (i := 1) (m := .new) (x := due_1) rfl)) rfl) ev_str) (bsP (bsP rfl))))
 (er_cut (er_ret (EvE.res (r' := if s11.1.isNone = true then (f_law_is_number s11.2).bind fun b17 => if b17 = true then eqD (rp s11.2) (rp due_1.2) else some false else some false) (ev_andV (EvE.res (r' := some s11.1.isNone) (ev_isN (ev_var (i := 2) (m := .new) (x := s11.1) rfl)) (bsP rfl)) (ev_andV (EvE.res (r' := f_law_is_number s11.2) (ev_call1 (ev_var (i := 3) (m := .new) (x := s11.2) rfl)) (bsP rfl)) (EvE.res (r' := eqD (rp s11.2) (rp due_1.2)) (ev_eqD (ev_var (i := 3) (m := .new) (x := s11.2) rfl) (EvE.res (r' := some due_1.2) (ev_snd (ev_var (i := 1) (m := .new) (x := due_1) rfl)) rfl)) (bsP (bsP rfl))))) (bsP rfl))))
 (er_nx (er_ret (EvE.res (r' := if s11.2.isNone = true then (s11.1.bind fun v22 => reprD (rp v22)).bind fun v26 => (reprQ due_1.2).bind fun v27 => some (decide (v26 = v27)) else some false) (ev_andV (EvE.res (r' := some s11.2.isNone) (ev_isN (ev_var (i := 3) (m := .new) (x := s11.2) rfl)) (bsP rfl)) (EvE.res (r' := (s11.1.bind fun v22 => reprD (rp v22)).bind fun v26 => (reprQ due_1.2).bind fun v27 => some (decide (v26 = v27))) (ev_eqS (EvE.res (r' := s11.1.bind fun v22 => reprD (rp v22)) (ev_reprT (EvE.res (r' := s11.1) (EvE.un (ev_var (i := 2) (m := .new) (x := s11.1) rfl)) (bsP rfl)) (fun x => ⟨_, rfl⟩)) (bcP fun _ => rfl)) (EvE.res (r' := reprQ due_1.2) (ev_reprQ (EvE.res (r' := some due_1.2) (ev_snd (ev_var (i := 1) (m := .new) (x := due_1) rfl)) rfl)) (bsP rfl))) (bcP fun _ => (bcP fun _ => rfl)))) (bsP rfl)))))))))))) (.cons .sc (.cons .id (.cons .id (.cons .id (.cons .id .nil)))))
theorem ok_joined_numbers (T : Tx P K mg) : FnOk P w K mg base CX0 1 T.f_joined_numbers.a T.f_joined_numbers.d ["numbers"] (sp1 K f_joined_numbers .new) := by
  have sc : FnScope ["numbers", "number"] ["numbers"] (defScope st_joined_numbers) := ⟨rfl, rfl, rfl, by decide +kernel, rfl, by decide +kernel, by decide +kernel⟩
  refine T.f_joined_numbers.F.ok sc (fun vs H Q E h => spA_len h fun _ => rfl) (fun cdv A outer s H vs Q E hr h => ⟨_, (pss_one (ps_ret (pe_join pe_str (pe_lc (own := [("number", 1)]) rfl sc.nd (pi_list (pv 0)) (blkOk_by (N := ["numbers", "number"]) (sc := defScope st_joined_numbers) (by decide +kernel)) (fun _ _ _ _ _ => (pg_name (i := 1) sc.nd rfl (by first | exact .inl rfl | exact .inr rfl))) (fun _ _ _ _ _ => pts_nil) (fun _ _ _ _ _ => (pe_callTy call_str_int (by rfl) T.n_str (by decide +kernel) (pa_cons (pv 1) pa_nil))))))), of_body (fun x => ?_) (fun _ => Nat.le_of_ble_eq_true rfl) h⟩)
  exact EvR.weakL (er_ret (EvE.res (r' := ((mapO (fun x1 => strI x1) x).bind lim).bind fun v6 => joinS (Str.ofString " ") v6) (ev_joinS ev_str (EvL.B (EvL.res (r' := (mapO (fun x1 => strI x1) x).bind lim) (ev_lcO (vs := [1]) (Eb := fun (x1 : Int) => [.dat .old (rp x), .dat .new (rp x1)]) (EvI.sc (m1 := .new) (ei_list (ev_var (i := 0) (m := .old) (x := x) rfl))) (fun x1 => (eg_nameS (m1 := .new))) (fun x1 => (EvE.res (r' := strI x1) (ev_strI (ev_var (i := 1) (m := .new) (x := x1) rfl)) (bsP rfl)))) (bsP rfl)))) (bsP (bcP fun _ => rfl)))) (.cons .id (.cons .id .nil))
theorem ok_format_piece (T : Tx P K mg) : FnOk P w K mg base CX0 2 T.f_format_piece.a T.f_format_piece.d ["piece"] (sp1 K f_format_piece .new) := by
  have sc : FnScope ["piece"] ["piece"] (defScope st_format_piece) := ⟨rfl, rfl, rfl, by decide +kernel, rfl, by decide +kernel, by decide +kernel⟩
  refine T.f_format_piece.F.ok sc (fun vs H Q E h => spA_len h fun _ => rfl) (fun cdv A outer s H vs Q E hr h => ⟨_, (pss_one (ps_ret (pe_call (ok_joined_numbers T) (hr.mono (by decide)) (by rfl) T.f_joined_numbers.g T.f_joined_numbers.F.kp T.f_joined_numbers.b .nil pass0 (pa_cons (pv 0) pa_nil)))), of_body (fun x => ?_) (fun _ => Nat.le_of_ble_eq_true rfl) h⟩)
  exact EvR.weakL (er_ret (EvE.res (r' := f_joined_numbers x) (ev_call1 (ev_var (i := 0) (m := .old) (x := x) rfl)) (bsP rfl))) (.cons .id .nil)
theorem ok_format_round_set (T : Tx P K mg) : FnOk P w K mg base CX0 1 T.f_format_round_set.a T.f_format_round_set.d ["days"] (sp1 K f_format_round_set .new) := by
  have sc : FnScope ["days", "n", "places", "place"] ["days"] (defScope st_format_round_set) := ⟨rfl, rfl, rfl, by decide +kernel, rfl, by decide +kernel, by decide +kernel⟩
  refine T.f_format_round_set.F.ok sc (fun vs H Q E h => spA_len h fun _ => rfl) (fun cdv A outer s H vs Q E hr h => ⟨_, (pss_cons (ps_asg (pv 0) (pg_tup rfl (pgs_cons (pg_name (i := 1) sc.nd rfl (by first | exact .inl rfl | exact .inr rfl)) (pgs_cons (pg_name (i := 2) sc.nd rfl (by first | exact .inl rfl | exact .inr rfl)) pgs_nil))))
 (pss_one (ps_ret (pe_join pe_str (pe_op op_cat (pe_lst (pa_cons (pe_callTy call_str_int (by rfl) T.n_str (by decide +kernel) (pa_cons (pv 1) pa_nil)) (pa_cons pe_str pa_nil))) (pe_lc (own := [("place", 3)]) rfl sc.nd (pi_list (pv 2)) (blkOk_by (N := ["days", "n", "places", "place"]) (sc := defScope st_format_round_set) (by decide +kernel)) (fun _ _ _ _ _ => (pg_name (i := 3) sc.nd rfl (by first | exact .inl rfl | exact .inr rfl))) (fun _ _ _ _ _ => pts_nil) (fun _ _ _ _ _ => (pe_callTy call_str_int (by rfl) T.n_str (by decide +kernel) (pa_cons (pv 3) pa_nil))))))))), of_body (fun x => ?_) (fun _ => Nat.le_of_ble_eq_true rfl) h⟩)
  exact EvR.weakL (er_seq (E := fun (p1 : (Int × (List Int))) => [.dat .old (rp x), .dat .new (rp p1.1), .dat .old (rp p1.2), .un]) (en_asg (vs := [1, 2]) (ev_var (i := 0) (m := .old) (x := x) rfl) (fun p1 => (eg_pair (eg_nameS (m1 := .new)) eg_name))) (fun p1 =>
 (er_ret (EvE.res (r' := (((strI p1.1).bind fun v5 => some (v5 :: ([(Str.ofString ":")] : (List Str)))).bind fun v12 => ((mapO (fun x7 => strI x7) p1.2).bind lim).bind fun v13 => lim (v12 ++ v13)).bind fun v16 => joinS (Str.ofString " ") v16) (ev_joinS ev_str (EvL.B (EvL.res (r' := ((strI p1.1).bind fun v5 => some (v5 :: ([(Str.ofString ":")] : (List Str)))).bind fun v12 => ((mapO (fun x7 => strI x7) p1.2).bind lim).bind fun v13 => lim (v12 ++ v13)) (ev_cat (EvL.B (ev_list (m := .new) (EvXs.res (r' := (strI p1.1).bind fun v5 => some (v5 :: ([(Str.ofString ":")] : (List Str)))) (exs_cons (EvE.res (r' := strI p1.1) (ev_strI (ev_var (i := 1) (m := .new) (x := p1.1) rfl)) (bsP rfl)) (EvXs.res (r' := some ([(Str.ofString ":")] : (List Str))) (exs_cons ev_str exs_nil) (bsP (bsP rfl)))) (bcP fun _ => (bsP rfl))))) (EvL.B (EvL.res (r' := (mapO (fun x7 => strI x7) p1.2).bind lim) (ev_lcO (vs := [3]) (Eb := fun (x7 : Int) => [.dat .old (rp x), .dat .new (rp p1.1), .dat .old (rp p1.2), .dat .new (rp x7)]) (EvI.sc (m1 := .new) (ei_list (ev_var (i := 2) (m := .old) (x := p1.2) rfl))) (fun x7 => (eg_nameS (m1 := .new))) (fun x7 => (EvE.res (r' := strI x7) (ev_strI (ev_var (i := 3) (m := .new) (x := x7) rfl)) (bsP rfl)))) (bsP rfl)))) (bcP fun _ => (bcP fun _ => rfl))))) (bsP (bcP fun _ => rfl)))))) (.cons .id (.cons .id (.cons .id (.cons .id .nil))))
theorem ok_law_long (T : Tx P K mg) : FnOkG P w K mg base 6 T.f_law_long.a T.f_law_long.d ["draws"] (sp1 K f_law_long .new) := by
  have sc : FnScope ["draws", "days", "at", "words", "n", "word", "text", "k", "day"] ["draws"] (defScope st_law_long) := ⟨rfl, rfl, rfl, by decide +kernel, rfl, by decide +kernel, by decide +kernel⟩
  refine L2.DL.okG T.f_law_long.F sc (fun vs H Q E h => spA_len h fun _ => rfl) (fun cdv A outer s H vs Q E hG hr h => ⟨_, (pss_cons (ps_setLc (i := 1) (own := [("k", 7)]) rfl sc.nd rfl rfl (sw_true rfl rfl rfl (by decide +kernel)) (pi_range1 (by rfl) T.n_range (pa_cons pe_int pa_nil)) (blkOk_by (N := ["draws", "days", "at", "words", "n", "word", "text", "k", "day"]) (sc := defScope st_law_long) (by decide +kernel)) (fun _ _ _ _ _ => (pg_name (i := 7) sc.nd rfl (by first | exact .inl rfl | exact .inr rfl))) (fun _ _ _ _ _ => pts_nil) (fun _ _ _ _ _ => (pe_op op_mulW (pv 7) (pe_op op_add pe_int (pe_op op_mod (pe_ix (ix_listK K ) (pv 0) pe_int (fun _ _ => rfl)) pe_int)))))
 (pss_cons (ps_set (i := 2) sc.nd rfl (by first | exact .inl rfl | exact .inr rfl) (pe_op op_add pe_int (pe_op op_mod (pe_ix ix_list (pv 0) pe_int (fun _ _ => rfl)) pe_int)))
 (pss_cons (ps_setLc (i := 3) (own := [("day", 8)]) rfl sc.nd rfl rfl (sw_true rfl rfl rfl (by decide +kernel)) (pi_list (pv 1)) (blkOk_by (N := ["draws", "days", "at", "words", "n", "word", "text", "k", "day"]) (sc := defScope st_law_long) (by decide +kernel)) (fun _ _ _ _ _ => (pg_name (i := 8) sc.nd rfl (by first | exact .inl rfl | exact .inr rfl))) (fun _ _ _ _ _ => pts_nil) (fun _ _ _ _ _ => (pe_callTy call_str_int (by rfl) T.n_str (by decide +kernel) (pa_cons (pv 8) pa_nil))))
 (pss_cons (ps_set (i := 4) sc.nd rfl (by first | exact .inl rfl | exact .inr rfl) (pe_op op_add (pe_op op_add (pe_ix ix_list (pv 1) pe_int (fun _ _ => rfl)) pe_int) (pe_op op_mod (pe_ix ix_list (pv 0) pe_int (fun _ _ => rfl)) pe_int)))
 (pss_cons (ps_if (PW.pt (pw_or (pt_cmpR op_ne (pe_call (ok_format_piece T) (hr.mono (by decide)) (by rfl) T.f_format_piece.g T.f_format_piece.F.kp T.f_format_piece.b .nil pass0 (pa_cons (pe_callTy call_list_of (by rfl) T.n_list (by decide +kernel) (pa_cons (pv 1) pa_nil)) pa_nil)) (pe_join pe_str (pv 3)) (nomark _)) (pw_or1 (pt_cmpR op_ne (pe_call (ok_format_round_set T) (hr.mono (by decide)) (by rfl) T.f_format_round_set.g T.f_format_round_set.F.kp T.f_format_round_set.b .nil pass0 (pa_cons (pe_tup (pa_cons (pv 4) (pa_cons (pe_callTy call_list_of (by rfl) T.n_list (by decide +kernel) (pa_cons (pv 1) pa_nil)) pa_nil))) pa_nil)) (pe_op op_add_str (pe_op op_add_str (pe_callTy call_str_int (by rfl) T.n_str (by decide +kernel) (pa_cons (pv 4) pa_nil)) pe_str) (pe_join pe_str (pv 3))) (nomark _))))) (pss_one (ps_ret pe_bl)) pss_nil)
 (pss_cons (ps_for PassesOwn.never rfl (pi_list (pe_lst (pa_cons (pe_ix ix_list (pv 3) (pv 2) (fun _ _ => rfl)) (pa_cons (pe_ix ix_list (pv 3) (pe_op op_sub (pv 2) pe_int) (fun _ _ => rfl)) (pa_cons pe_str (pa_cons pe_str (pa_cons pe_str (pa_cons (pe_callTy call_str_int (by rfl) T.n_str (by decide +kernel) (pa_cons (pv 4) pa_nil)) (pa_cons (pe_callTy call_str_int (by rfl) T.n_str (by decide +kernel) (pa_cons (pe_op op_add (pe_op op_add (pe_ix ix_list (pv 1) (pv 2) (fun _ _ => rfl)) pe_int) (pe_op op_mod (pe_ix ix_list (pv 0) pe_int (fun _ _ => rfl)) pe_int)) pa_nil)) pa_nil))))))))) (pg_name (i := 5) sc.nd rfl (by first | exact .inl rfl | exact .inr rfl))
 (pss_cons (ps_set (i := 6) sc.nd rfl (by first | exact .inl rfl | exact .inr rfl) (pe_join pe_str (pe_call (ok_law_with T) (hr.mono (by decide)) (by rfl) T.f_law_with.g T.f_law_with.F.kp T.f_law_with.b .nil pass0 (pa_cons (pv 3) (pa_cons (pv 2) (pa_cons (pv 5) pa_nil))))))
 (pss_one (ps_if (PW.pt (pw_or (pt_not (pt_val (pe_callG (ok_law_piece_reads T) hG (hr.mono (by decide)) (by rfl) T.f_law_piece_reads.g T.f_law_piece_reads.F.kp T.f_law_piece_reads.b .nil pass0 (pa_cons (pv 6) pa_nil)))) (pw_or1 (pt_not (pt_val (pe_callG (ok_law_round_reads T) hG (hr.mono (by decide)) (by rfl) T.f_law_round_reads.g T.f_law_round_reads.F.kp T.f_law_round_reads.b .nil pass0 (pa_cons (pe_op op_add_str (pe_op op_add_str (pe_callTy call_str_int (by rfl) T.n_str (by decide +kernel) (pa_cons (pv 4) pa_nil)) pe_str) (pv 6)) pa_nil))))))) (pss_one (ps_ret pe_bl)) pss_nil))))
 (pss_one (ps_ret pe_bl)))))))), of_body (fun x => ?_) (fun _ => Nat.le_of_ble_eq_true rfl) h⟩)
  exact EvR.weakL (er_seq (E := fun (days_15 : (List Int)) => [.dat .old (rp x), .dat .new (rp days_15), .un, .un, .un, .un, .un, .un, .un]) (en_set (EvL.E (EvL.res (r' := (rangeP 0 (200 : Int)).bind fun v14 => (mapO (fun x2 => (((atI x (12 : Int)).bind fun v6 => some (v6 % 50)).bind fun v9 => some ((1 : Int) + v9)).bind fun v12 => mulP x2 v12) v14).bind lim) (ev_lcO (vs := [7]) (Eb := fun (x2 : Int) => [.dat .old (rp x), .un, .un, .un, .un, .un, .un, .dat .new (rp x2), .un]) (EvI.res (r' := rangeP 0 (200 : Int)) (ei_range1 ev_int) (bsP rfl)) (fun x2 => (eg_nameS (m1 := .new))) (fun x2 => (EvE.res (r' := (((atI x (12 : Int)).bind fun v6 => some (v6 % 50)).bind fun v9 => some ((1 : Int) + v9)).bind fun v12 => mulP x2 v12) (ev_mul (ev_var (i := 7) (m := .new) (x := x2) rfl) (EvE.res (r' := ((atI x (12 : Int)).bind fun v6 => some (v6 % 50)).bind fun v9 => some ((1 : Int) + v9)) (ev_arith ev_int (EvE.res (r' := (atI x (12 : Int)).bind fun v6 => some (v6 % 50)) (ev_modC (EvE.res (r' := atI x (12 : Int)) (ev_ix (EvB.sc (m1 := .new) (EvE.B (ev_var (i := 0) (m := .old) (x := x) rfl))) ev_int) (bsP (bsP rfl)))) (bcP fun _ => rfl))) (bsP (bcP fun _ => rfl)))) (bsP (bcP fun _ => rfl))))) (bcP fun _ => rfl)))) (fun days_15 =>
 (er_seq (E := fun (at_23 : Int) => [.dat .old (rp x), .dat .new (rp days_15), .dat .new (rp at_23), .un, .un, .un, .un, .un, .un]) (en_set (EvE.res (r' := ((atI x (13 : Int)).bind fun v19 => some (v19 % 100)).bind fun v22 => some ((100 : Int) + v22)) (ev_arith ev_int (EvE.res (r' := (atI x (13 : Int)).bind fun v19 => some (v19 % 100)) (ev_modC (EvE.res (r' := atI x (13 : Int)) (ev_ix (EvB.sc (m1 := .new) (EvE.B (ev_var (i := 0) (m := .old) (x := x) rfl))) ev_int) (bsP (bsP rfl)))) (bcP fun _ => rfl))) (bsP (bcP fun _ => rfl)))) (fun at_23 =>
 (er_seq (E := fun (words_27 : (List Str)) => [.dat .old (rp x), .dat .new (rp days_15), .dat .new (rp at_23), .dat .new (rp words_27), .un, .un, .un, .un, .un]) (en_set (EvL.E (EvL.res (r' := (mapO (fun x24 => strI x24) days_15).bind lim) (ev_lcO (vs := [8]) (Eb := fun (x24 : Int) => [.dat .old (rp x), .dat .new (rp days_15), .dat .new (rp at_23), .un, .un, .un, .un, .un, .dat .new (rp x24)]) (ei_list (ev_var (i := 1) (m := .new) (x := days_15) rfl)) (fun x24 => (eg_nameS (m1 := .new))) (fun x24 => (EvE.res (r' := strI x24) (ev_strI (ev_var (i := 8) (m := .new) (x := x24) rfl)) (bsP rfl)))) (bsP rfl)))) (fun words_27 =>
 (er_seq (E := fun (n_41 : Int) => [.dat .old (rp x), .dat .new (rp days_15), .dat .new (rp at_23), .dat .new (rp words_27), .dat .new (rp n_41), .un, .un, .un, .un]) (en_set (EvE.res (r' := ((atI days_15 (199 : Int)).bind fun v32 => some (v32 + (1 : Int))).bind fun v39 => ((atI x (14 : Int)).bind fun v36 => some (v36 % 9)).bind fun v40 => some (v39 + v40)) (ev_arith (EvE.res (r' := (atI days_15 (199 : Int)).bind fun v32 => some (v32 + (1 : Int))) (ev_arith (EvE.res (r' := atI days_15 (199 : Int)) (ev_ix (EvE.B (ev_var (i := 1) (m := .new) (x := days_15) rfl)) ev_int) (bsP (bsP rfl))) ev_int) (bcP fun _ => (bsP rfl))) (EvE.res (r' := (atI x (14 : Int)).bind fun v36 => some (v36 % 9)) (ev_modC (EvE.res (r' := atI x (14 : Int)) (ev_ix (EvB.sc (m1 := .new) (EvE.B (ev_var (i := 0) (m := .old) (x := x) rfl))) ev_int) (bsP (bsP rfl)))) (bcP fun _ => rfl))) (bcP fun _ => (bcP fun _ => rfl)))) (fun n_41 =>
 (er_ifS (er_if (et_or (et_test (EvE.res (r' := (f_format_piece days_15).bind fun v46 => (joinS (Str.ofString " ") words_27).bind fun v47 => some (decide (v46 ≠ v47))) (ev_neS (EvE.res (r' := f_format_piece days_15) (ev_call1 (EvL.E (ev_listOf (EvE.B (ev_var (i := 1) (m := .new) (x := days_15) rfl))))) (bsP rfl)) (EvE.res (r' := joinS (Str.ofString " ") words_27) (ev_joinS ev_str (EvE.B (ev_var (i := 3) (m := .new) (x := words_27) rfl))) (bsP (bsP rfl)))) (bcP fun _ => (bcP fun _ => rfl)))) (et_test (EvE.res (r' := (f_format_round_set (n_41, days_15)).bind fun v62 => (((strI n_41).bind fun v53 => addS v53 (Str.ofString " : ")).bind fun v58 => (joinS (Str.ofString " ") words_27).bind fun v59 => addS v58 v59).bind fun v63 => some (decide (v62 ≠ v63))) (ev_neS (EvE.res (r' := f_format_round_set (n_41, days_15)) (ev_call1 (EvE.res (r' := some (n_41, days_15)) (ev_pair (ev_var (i := 4) (m := .new) (x := n_41) rfl) (EvL.E (ev_listOf (EvE.B (ev_var (i := 1) (m := .new) (x := days_15) rfl))))) (bsP (bsP rfl)))) (bsP rfl)) (EvE.res (r' := ((strI n_41).bind fun v53 => addS v53 (Str.ofString " : ")).bind fun v58 => (joinS (Str.ofString " ") words_27).bind fun v59 => addS v58 v59) (ev_addS (EvE.res (r' := (strI n_41).bind fun v53 => addS v53 (Str.ofString " : ")) (ev_addS (EvE.res (r' := strI n_41) (ev_strI (ev_var (i := 4) (m := .new) (x := n_41) rfl)) (bsP rfl)) ev_str) (bcP fun _ => (bsP rfl))) (EvE.res (r' := joinS (Str.ofString " ") words_27) (ev_joinS ev_str (EvE.B (ev_var (i := 3) (m := .new) (x := words_27) rfl))) (bsP (bsP rfl)))) (bcP fun _ => (bcP fun _ => rfl)))) (bcP fun _ => (bcP fun _ => rfl)))))
 (er_cut (er_ret ev_bl))
 (er_nx (er_seqF (T := Unit) (L := fun _ => []) (E := fun (s120 : Unit) => [.dat .old (rp x), .dat .new (rp days_15), .dat .new (rp at_23), .dat .new (rp words_27), .dat .new (rp n_41), .un, .un, .un, .un]) (ef_for (E := fun (s120 : Unit) => [.dat .old (rp x), .dat .new (rp days_15), .dat .new (rp at_23), .dat .new (rp words_27), .dat .new (rp n_41), .un, .un, .un, .un]) (s0 := ()) (Eb := fun (s101 : Unit) (word_102 : Str) => [.dat .old (rp x), .dat .new (rp days_15), .dat .new (rp at_23), .dat .new (rp words_27), .dat .new (rp n_41), .dat .new (rp word_102), .un, .un, .un]) (vs := [5]) (ei_list (EvL.E (ev_list (m := .new) (EvXs.res (r' := (atI words_27 at_23).bind fun v99 => ((atI words_27 (at_23 - (1 : Int))).bind fun v97 => (((((strI n_41).bind fun v89 => (((((atI days_15 at_23).bind fun v76 => some (v76 + (1 : Int))).bind fun v83 => ((atI x (12 : Int)).bind fun v80 => some (v80 % 50)).bind fun v84 => some (v83 + v84)).bind fun v86 => strI v86).bind fun v87 => some (v87 :: ([] : (List Str)))).bind fun l90 => some (v89 :: l90)).bind fun l92 => some ((Str.ofString "") :: l92)).bind fun l94 => some ((Str.ofString "x") :: l94)).bind fun l96 => some ((Str.ofString "-1") :: l96)).bind fun l98 => some (v97 :: l98)).bind fun l100 => some (v99 :: l100)) (exs_cons (EvE.res (r' := atI words_27 at_23) (ev_ix (EvE.B (ev_var (i := 3) (m := .new) (x := words_27) rfl)) (ev_var (i := 2) (m := .new) (x := at_23) rfl)) (bsP (bsP rfl))) (EvXs.res (r' := (atI words_27 (at_23 - (1 : Int))).bind fun v97 => (((((strI n_41).bind fun v89 => (((((atI days_15 at_23).bind fun v76 => some (v76 + (1 : Int))).bind fun v83 => ((atI x (12 : Int)).bind fun v80 => some (v80 % 50)).bind fun v84 => some (v83 + v84)).bind fun v86 => strI v86).bind fun v87 => some (v87 :: ([] : (List Str)))).bind fun l90 => some (v89 :: l90)).bind fun l92 => some ((Str.ofString "") :: l92)).bind fun l94 => some ((Str.ofString "x") :: l94)).bind fun l96 => some ((Str.ofString "-1") :: l96)).bind fun l98 => some (v97 :: l98)) (exs_cons (EvE.res (r' := atI words_27 (at_23 - (1 : Int))) (ev_ix (EvE.B (ev_var (i := 3) (m := .new) (x := words_27) rfl)) (EvE.res (r' := some (at_23 - (1 : Int))) (ev_arith (ev_var (i := 2) (m := .new) (x := at_23) rfl) ev_int) (bsP (bsP rfl)))) (bsP (bsP rfl))) (EvXs.res (r' := ((((strI n_41).bind fun v89 => (((((atI days_15 at_23).bind fun v76 => some (v76 + (1 : Int))).bind fun v83 => ((atI x (12 : Int)).bind fun v80 => some (v80 % 50)).bind fun v84 => some (v83 + v84)).bind fun v86 => strI v86).bind fun v87 => some (v87 :: ([] : (List Str)))).bind fun l90 => some (v89 :: l90)).bind fun l92 => some ((Str.ofString "") :: l92)).bind fun l94 => some ((Str.ofString "x") :: l94)).bind fun l96 => some ((Str.ofString "-1") :: l96)) (exs_cons ev_str (EvXs.res (r' := (((strI n_41).bind fun v89 => (((((atI days_15 at_23).bind fun v76 => some (v76 + (1 : Int))).bind fun v83 => ((atI x (12 : Int)).bind fun v80 => some (v80 % 50)).bind fun v84 => some (v83 + v84)).bind fun v86 => strI v86).bind fun v87 => some (v87 :: ([] : (List Str)))).bind fun l90 => some (v89 :: l90)).bind fun l92 => some ((Str.ofString "") :: l92)).bind fun l94 => some ((Str.ofString "x") :: l94)) (exs_cons ev_str (EvXs.res (r' := ((strI n_41).bind fun v89 => (((((atI days_15 at_23).bind fun v76 => some (v76 + (1 : Int))).bind fun v83 => ((atI x (12 : Int)).bind fun v80 => some (v80 % 50)).bind fun v84 => some (v83 + v84)).bind fun v86 => strI v86).bind fun v87 => some (v87 :: ([] : (List Str)))).bind fun l90 => some (v89 :: l90)).bind fun l92 => some ((Str.ofString "") :: l92)) (exs_cons ev_str (EvXs.res (r' := (strI n_41).bind fun v89 => (((((atI days_15 at_23).bind fun v76 => some (v76 + (1 : Int))).bind fun v83 => ((atI x (12 : Int)).bind fun v80 => some (v80 % 50)).bind fun v84 => some (v83 + v84)).bind fun v86 => strI v86).bind fun v87 => some (v87 :: ([] : (List Str)))).bind fun l90 => some (v89 :: l90)) (exs_cons (EvE.res (r' := strI n_41) (ev_strI (ev_var (i := 4) (m := .new) (x := n_41) rfl)) (bsP rfl)) (EvXs.res (r' := ((((atI days_15 at_23).bind fun v76 => some (v76 + (1 : Int))).bind fun v83 => ((atI x (12 : Int)).bind fun v80 => some (v80 % 50)).bind fun v84 => some (v83 + v84)).bind fun v86 => strI v86).bind fun v87 => some (v87 :: ([] : (List Str)))) (exs_cons (EvE.res (r' := (((atI days_15 at_23).bind fun v76 => some (v76 + (1 : Int))).bind fun v83 => ((atI x (12 : Int)).bind fun v80 => some (v80 % 50)).bind fun v84 => some (v83 + v84)).bind fun v86 => strI v86) (ev_strI (EvE.res (r' := ((atI days_15 at_23).bind fun v76 => some (v76 + (1 : Int))).bind fun v83 => ((atI x (12 : Int)).bind fun v80 => some (v80 % 50)).bind fun v84 => some (v83 + v84)) (ev_arith (EvE.res (r' := (atI days_15 at_23).bind fun v76 => some (v76 + (1 : Int))) (ev_arith (EvE.res (r' := atI days_15 at_23) (ev_ix (EvE.B (ev_var (i := 1) (m := .new) (x := days_15) rfl)) (ev_var (i := 2) (m := .new) (x := at_23) rfl)) (bsP (bsP rfl))) ev_int) (bcP fun _ => (bsP rfl))) (EvE.res (r' := (atI x (12 : Int)).bind fun v80 => some (v80 % 50)) (ev_modC (EvE.res (r' := atI x (12 : Int)) (ev_ix (EvB.sc (m1 := .new) (EvE.B (ev_var (i := 0) (m := .old) (x := x) rfl))) ev_int) (bsP (bsP rfl)))) (bcP fun _ => rfl))) (bcP fun _ => (bcP fun _ => rfl)))) (bcP fun _ => rfl)) exs_nil) (bcP fun _ => (bsP rfl)))) (bcP fun _ => (bcP fun _ => rfl)))) (bsP (bcP fun _ => rfl)))) (bsP (bcP fun _ => rfl)))) (bsP (bcP fun _ => rfl)))) (bcP fun _ => (bcP fun _ => rfl)))) (bcP fun _ => (bcP fun _ => rfl)))))) (.cons .id (.cons .id (.cons .id (.cons .id (.cons .id (.cons .id (.cons .id (.cons .id (.cons .id .nil))))))))) (fun s101 word_102 => (eg_nameS (m1 := .new))) (fun s101 word_102 =>
 (ef_seq (E := fun (text_109 : Str) => [.dat .old (rp x), .dat .new (rp days_15), .dat .new (rp at_23), .dat .new (rp words_27), .dat .new (rp n_41), .dat .new (rp word_102), .dat .new (rp text_109), .un, .un]) (en_set (EvE.res (r' := (f_law_with words_27 at_23 word_102).bind fun v108 => joinS (Str.ofString " ") v108) (ev_joinS ev_str (EvE.B (EvE.res (r' := f_law_with words_27 at_23 word_102) (ev_call3 (ev_var (i := 3) (m := .new) (x := words_27) rfl) (ev_var (i := 2) (m := .new) (x := at_23) rfl) (ev_var (i := 5) (m := .new) (x := word_102) rfl)) (bsP (bsP (bsP rfl)))))) (bsP (bcP fun _ => rfl)))) (fun text_109 =>
 (ef_if (et_or (et_not (et_val (EvE.res (r' := f_law_piece_reads text_109) (ev_call1 (ev_var (i := 6) (m := .new) (x := text_109) rfl)) (bsP rfl)))) (et_not (et_val (EvE.res (r' := (((strI n_41).bind fun v113 => addS v113 (Str.ofString " : ")).bind fun v116 => addS v116 text_109).bind fun v117 => f_law_round_reads v117) (ev_call1 (EvE.res (r' := ((strI n_41).bind fun v113 => addS v113 (Str.ofString " : ")).bind fun v116 => addS v116 text_109) (ev_addS (EvE.res (r' := (strI n_41).bind fun v113 => addS v113 (Str.ofString " : ")) (ev_addS (EvE.res (r' := strI n_41) (ev_strI (ev_var (i := 4) (m := .new) (x := n_41) rfl)) (bsP rfl)) ev_str) (bcP fun _ => (bsP rfl))) (ev_var (i := 6) (m := .new) (x := text_109) rfl)) (bcP fun _ => (bsP rfl)))) (bcP fun _ => rfl)))))
 (EvR.FP (er_ret ev_bl))
 (ef_end (s := ()) (.cons .id (.cons .id (.cons .id (.cons .id (.cons .id (.cons .un (.cons .un (.cons .id (.cons .id .nil))))))))))))))) (fun s122 =>
 (er_ret ev_bl)))))))))))))) (.cons .id (.cons .id (.cons .id (.cons .id (.cons .id (.cons .id (.cons .id (.cons .id (.cons .id .nil)))))))))
theorem ok_law_cell (T : Tx P K mg) : FnOk P w K mg base CX0 1 T.f_law_cell.a T.f_law_cell.d ["draws", "k"] (sp2 K f_law_cell .new) := by
  have sc : FnScope ["draws", "k"] ["draws", "k"] (defScope st_law_cell) := ⟨rfl, rfl, rfl, by decide +kernel, rfl, by decide +kernel, by decide +kernel⟩
  refine T.f_law_cell.F.ok sc (fun vs H Q E h => spA_len h fun _ => rfl) (fun cdv A outer s H vs Q E hr h => ⟨_, (pss_cons (ps_if (pt_cmpR op_lt (pv 1) (pe_callB call_len_seq (by rfl) T.n_len (by decide +kernel) (pa_cons (pv 0) pa_nil)) (nomark _)) (pss_one (ps_ret (pe_ix ix_list (pv 0) (pv 1) (fun _ _ => rfl)))) pss_nil)
 (pss_one (ps_ret (pe_op op_mod (pe_op op_add (pe_op op_add (pe_op op_mul (pe_ix ix_list (pv 0) (pe_op op_mod (pv 1) (pe_callB call_len_seq (by rfl) T.n_len (by decide +kernel) (pa_cons (pv 0) pa_nil))) (fun _ _ => rfl)) pe_int) (pe_op op_mul (pe_ix ix_list (pv 0) (pe_op op_mod (pe_op op_mul pe_int (pv 1)) (pe_callB call_len_seq (by rfl) T.n_len (by decide +kernel) (pa_cons (pv 0) pa_nil))) (fun _ _ => rfl)) pe_int)) (pe_op op_mul pe_int (pv 1))) pe_int)))), of_body (fun x => ?_) (fun _ => Nat.le_of_ble_eq_true rfl) h⟩)
  exact EvR.weakL (er_ifS (er_ifP (et_test (EvE.res (r' := some (decide (x.2 < (x.1.length : Int)))) (ev_cmpI (ev_var (i := 1) (m := .new) (x := x.2) rfl) (EvE.res (r' := some (x.1.length : Int)) (ev_len (EvB.sc (m1 := .new) (EvE.B (ev_var (i := 0) (m := .old) (x := x.1) rfl)))) (bsP rfl))) (bsP (bsP rfl))))
 (er_cut (er_ret (EvE.res (r' := atI x.1 x.2) (ev_ix (EvB.sc (m1 := .new) (EvE.B (ev_var (i := 0) (m := .old) (x := x.1) rfl))) (ev_var (i := 1) (m := .new) (x := x.2) rfl)) (bsP (bsP rfl)))))
 (er_nx (er_ret (EvE.res (r' := (((((modP x.2 (x.1.length : Int)).bind fun v11 => atI x.1 v11).bind fun v13 => some (v13 * 31)).bind fun v25 => (((modP (7 * x.2) (x.1.length : Int)).bind fun v20 => atI x.1 v20).bind fun v22 => some (v22 * 17)).bind fun v26 => some (v25 + v26)).bind fun v30 => some (v30 + (101 * x.2))).bind fun v32 => some (v32 % 1000003)) (ev_modC (EvE.res (r' := ((((modP x.2 (x.1.length : Int)).bind fun v11 => atI x.1 v11).bind fun v13 => some (v13 * 31)).bind fun v25 => (((modP (7 * x.2) (x.1.length : Int)).bind fun v20 => atI x.1 v20).bind fun v22 => some (v22 * 17)).bind fun v26 => some (v25 + v26)).bind fun v30 => some (v30 + (101 * x.2))) (ev_arith (EvE.res (r' := (((modP x.2 (x.1.length : Int)).bind fun v11 => atI x.1 v11).bind fun v13 => some (v13 * 31)).bind fun v25 => (((modP (7 * x.2) (x.1.length : Int)).bind fun v20 => atI x.1 v20).bind fun v22 => some (v22 * 17)).bind fun v26 => some (v25 + v26)) (ev_arith (EvE.res (r' := ((modP x.2 (x.1.length : Int)).bind fun v11 => atI x.1 v11).bind fun v13 => some (v13 * 31)) (ev_mulC (EvE.res (r' := (modP x.2 (x.1.length : Int)).bind fun v11 => atI x.1 v11) (ev_ix (EvB.sc (m1 := .new) (EvE.B (ev_var (i := 0) (m := .old) (x := x.1) rfl))) (EvE.res (r' := modP x.2 (x.1.length : Int)) (ev_mod (ev_var (i := 1) (m := .new) (x := x.2) rfl) (EvE.res (r' := some (x.1.length : Int)) (ev_len (EvB.sc (m1 := .new) (EvE.B (ev_var (i := 0) (m := .old) (x := x.1) rfl)))) (bsP rfl))) (bsP (bsP rfl)))) (bsP (bcP fun _ => rfl)))) (bcP fun _ => rfl)) (EvE.res (r' := ((modP (7 * x.2) (x.1.length : Int)).bind fun v20 => atI x.1 v20).bind fun v22 => some (v22 * 17)) (ev_mulC (EvE.res (r' := (modP (7 * x.2) (x.1.length : Int)).bind fun v20 => atI x.1 v20) (ev_ix (EvB.sc (m1 := .new) (EvE.B (ev_var (i := 0) (m := .old) (x := x.1) rfl))) (EvE.res (r' := modP (7 * x.2) (x.1.length : Int)) (ev_mod (EvE.res (r' := some (7 * x.2)) (ev_mulCl (ev_var (i := 1) (m := .new) (x := x.2) rfl)) (bsP rfl)) (EvE.res (r' := some (x.1.length : Int)) (ev_len (EvB.sc (m1 := .new) (EvE.B (ev_var (i := 0) (m := .old) (x := x.1) rfl)))) (bsP rfl))) (bsP (bsP rfl)))) (bsP (bcP fun _ => rfl)))) (bcP fun _ => rfl))) (bcP fun _ => (bcP fun _ => rfl))) (EvE.res (r' := some (101 * x.2)) (ev_mulCl (ev_var (i := 1) (m := .new) (x := x.2) rfl)) (bsP rfl))) (bcP fun _ => (bsP rfl)))) (bcP fun _ => rfl)))))) (.cons .id (.cons .sc .nil))
theorem ok_law_digits (T : Tx P K mg) : FnOk P w K mg base CX0 2 T.f_law_digits.a T.f_law_digits.d ["draws", "at", "most"] (sp3 K f_law_digits .new) := by
  have sc : FnScope ["draws", "at", "most", "number", "k"] ["draws", "at", "most"] (defScope st_law_digits) := ⟨rfl, rfl, rfl, by decide +kernel, rfl, by decide +kernel, by decide +kernel⟩
  refine T.f_law_digits.F.ok sc (fun vs H Q E h => spA_len h fun _ => rfl) (fun cdv A outer s H vs Q E hr h => ⟨_, (pss_cons (ps_set (i := 3) sc.nd rfl (by first | exact .inl rfl | exact .inr rfl) pe_int)
 (pss_cons (ps_for PassesOwn.never rfl (pi_range1 (by rfl) T.n_range (pa_cons pe_int pa_nil)) (pg_name (i := 4) sc.nd rfl (by first | exact .inl rfl | exact .inr rfl))
 (pss_one (ps_set (i := 3) sc.nd rfl (by first | exact .inl rfl | exact .inr rfl) (pe_op op_add (pe_op op_mul (pv 3) pe_int) (pe_call (ok_law_cell T) (hr.mono (by decide)) (by rfl) T.f_law_cell.g T.f_law_cell.F.kp T.f_law_cell.b .nil pass0 (pa_cons (pv 0) (pa_cons (pe_op op_add (pv 1) (pv 4)) pa_nil)))))))
 (pss_cons (ps_for PassesOwn.never rfl (pi_range1 (by rfl) T.n_range (pa_cons (pe_op op_sub pe_int (pv 2)) pa_nil)) (pg_name (i := 4) sc.nd rfl (by first | exact .inl rfl | exact .inr rfl))
 (pss_one (ps_set (i := 3) sc.nd rfl (by first | exact .inl rfl | exact .inr rfl) (pe_op op_fdivW (pv 3) pe_int))))
 (pss_one (ps_ret (pe_op op_mod (pv 3) (pe_op op_pow pe_int pe_int))))))), of_body (fun x => ?_) (fun _ => Nat.le_of_ble_eq_true rfl) h⟩)
  exact EvR.weakL (er_seq (E := fun (number_1 : Int) => [.dat .old (rp x.1), .dat .new (rp x.2.1), .dat .new (rp x.2.2), .dat .new (rp number_1), .un]) (en_set ev_int) (fun number_1 =>
 (er_seq (E := fun (s14 : Int) => [.dat .old (rp x.1), .dat .new (rp x.2.1), .dat .new (rp x.2.2), .dat .new (rp s14), .un]) (en_for (E := fun (s14 : Int) => [.dat .old (rp x.1), .dat .new (rp x.2.1), .dat .new (rp x.2.2), .dat .new (rp s14), .un]) (s0 := number_1) (Eb := fun (s3 : Int) (k_4 : Int) => [.dat .old (rp x.1), .dat .new (rp x.2.1), .dat .new (rp x.2.2), .dat .new (rp s3), .dat .new (rp k_4)]) (vs := [4]) (EvI.res (r' := rangeP 0 (7 : Int)) (ei_range1 ev_int) (bsP rfl)) (.cons .id (.cons .id (.cons .id (.cons .id (.cons .id .nil))))) (fun s3 k_4 => (eg_nameS (m1 := .new))) (fun s3 k_4 =>
 (en_last (en_seq (E := fun (number_13 : Int) => [.dat .old (rp x.1), .dat .new (rp x.2.1), .dat .new (rp x.2.2), .dat .new (rp number_13), .dat .new (rp k_4)]) (en_set (EvE.res (r' := (f_law_cell x.1 (x.2.1 + k_4)).bind fun v12 => some ((s3 * 1000003) + v12)) (ev_arith (EvE.res (r' := some (s3 * 1000003)) (ev_mulC (ev_var (i := 3) (m := .new) (x := s3) rfl)) (bsP rfl)) (EvE.res (r' := f_law_cell x.1 (x.2.1 + k_4)) (ev_call2 (ev_var (i := 0) (m := .old) (x := x.1) rfl) (EvE.res (r' := some (x.2.1 + k_4)) (ev_arith (ev_var (i := 1) (m := .new) (x := x.2.1) rfl) (ev_var (i := 4) (m := .new) (x := k_4) rfl)) (bsP (bsP rfl)))) (bsP (bsP rfl)))) (bsP (bcP fun _ => rfl)))) (fun number_13 =>
 (en_end (s := number_13) (.cons .id (.cons .id (.cons .id (.cons .id (.cons .un .nil))))))))))) (fun s16 =>
 (er_seq (E := fun (s24 : Int) => [.dat .old (rp x.1), .dat .new (rp x.2.1), .dat .new (rp x.2.2), .dat .new (rp s24), .un]) (en_for (E := fun (s24 : Int) => [.dat .old (rp x.1), .dat .new (rp x.2.1), .dat .new (rp x.2.2), .dat .new (rp s24), .un]) (s0 := s16) (Eb := fun (s20 : Int) (k_21 : Int) => [.dat .old (rp x.1), .dat .new (rp x.2.1), .dat .new (rp x.2.2), .dat .new (rp s20), .dat .new (rp k_21)]) (vs := [4]) (EvI.res (r' := rangeP 0 ((41 : Int) - x.2.2)) (ei_range1 (EvE.res (r' := some ((41 : Int) - x.2.2)) (ev_arith ev_int (ev_var (i := 2) (m := .new) (x := x.2.2) rfl)) (bsP (bsP rfl)))) (bsP rfl)) (.cons .id (.cons .id (.cons .id (.cons .id (.cons .id .nil))))) (fun s20 k_21 => (eg_nameS (m1 := .new))) (fun s20 k_21 =>
 (en_last (en_seq (E := fun (number_23 : Int) => [.dat .old (rp x.1), .dat .new (rp x.2.1), .dat .new (rp x.2.2), .dat .new (rp number_23), .dat .new (rp k_21)]) (en_set (EvE.res (r' := some (s20 / 10)) (ev_divC (ev_var (i := 3) (m := .new) (x := s20) rfl)) (bsP rfl))) (fun number_23 =>
 (en_end (s := number_23) (.cons .id (.cons .id (.cons .id (.cons .id (.cons .un .nil))))))))))) (fun s26 =>
 (er_ret (EvE.res (r' := modP s26 (10000000000000000000000000000000000000000 : Int)) (ev_mod (ev_var (i := 3) (m := .new) (x := s26) rfl) (ev_powV (a := 10) (b := 40) (v := 10000000000000000000000000000000000000000))) (bsP (bsP rfl)))))))))) (.cons .id (.cons .sc (.cons .sc (.cons .id (.cons .id .nil)))))
theorem ok_law_some_piece (T : Tx P K mg) : FnOk P w K mg base CX0 2 T.f_law_some_piece.a T.f_law_some_piece.d ["draws", "at", "many", "most"] (sp4 K f_law_some_piece .new) := by
  have sc : FnScope ["draws", "at", "many", "most", "days", "k"] ["draws", "at", "many", "most"] (defScope st_law_some_piece) := ⟨rfl, rfl, rfl, by decide +kernel, rfl, by decide +kernel, by decide +kernel⟩
  refine T.f_law_some_piece.F.ok sc (fun vs H Q E h => spA_len h fun _ => rfl) (fun cdv A outer s H vs Q E hr h => ⟨_, (pss_cons (ps_set (i := 4) sc.nd rfl (by first | exact .inl rfl | exact .inr rfl) (pe_lst (pa_cons pe_int pa_nil)))
 (pss_cons (ps_for PassesOwn.never rfl (pi_range1 (by rfl) T.n_range (pa_cons (pe_op op_sub (pv 2) pe_int) pa_nil)) (pg_name (i := 5) sc.nd rfl (by first | exact .inl rfl | exact .inr rfl))
 (pss_one (ps_expr (pe_bm PySem.F.plainAttrs_list PySem.F.slot_list_append PySem.F.type_list_append mt_append (pv 4) (pa_cons (pe_op op_add pe_int (pe_op op_mod (pe_call (ok_law_cell T) (hr.mono (by decide)) (by rfl) T.f_law_cell.g T.f_law_cell.F.kp T.f_law_cell.b .nil pass0 (pa_cons (pv 0) (pa_cons (pe_op op_add (pv 1) (pv 5)) pa_nil))) (pv 3))) pa_nil)))))
 (pss_one (ps_ret (pe_sortSet K (by rfl) T.n_sorted (by rfl) T.n_set (pv 4)))))), of_body (fun x => ?_) (fun _ => Nat.le_of_ble_eq_true rfl) h⟩)
  exact EvR.weakL (er_seq (E := fun (days_3 : (List Int)) => [.dat .old (rp x.1), .dat .new (rp x.2.1), .dat .new (rp x.2.2.1), .dat .new (rp x.2.2.2), .own .new (rps days_3), .un]) (en_own (ev_list (m := .new) (EvXs.res (r' := some ([(0 : Int)] : (List Int))) (exs_cons ev_int exs_nil) (bsP (bsP rfl))))) (fun days_3 =>
 (er_seq (E := fun (s22 : (List Int)) => [.dat .old (rp x.1), .dat .new (rp x.2.1), .dat .new (rp x.2.2.1), .dat .new (rp x.2.2.2), .own .new (rps s22), .un]) (en_for (E := fun (s22 : (List Int)) => [.dat .old (rp x.1), .dat .new (rp x.2.1), .dat .new (rp x.2.2.1), .dat .new (rp x.2.2.2), .own .new (rps s22), .un]) (s0 := days_3) (Eb := fun (s7 : (List Int)) (k_8 : Int) => [.dat .old (rp x.1), .dat .new (rp x.2.1), .dat .new (rp x.2.2.1), .dat .new (rp x.2.2.2), .own .new (rps s7), .dat .new (rp k_8)]) (vs := [5]) (EvI.res (r' := rangeP 0 (x.2.2.1 - (1 : Int))) (ei_range1 (EvE.res (r' := some (x.2.2.1 - (1 : Int))) (ev_arith (ev_var (i := 2) (m := .new) (x := x.2.2.1) rfl) ev_int) (bsP (bsP rfl)))) (bsP rfl)) (.cons .id (.cons .id (.cons .id (.cons .id (.cons .id (.cons .id .nil)))))) (fun s7 k_8 => (eg_nameS (m1 := .new))) (fun s7 k_8 =>
 (en_last (en_seq (E := fun (days_9 : (List Int)) => [.dat .old (rp x.1), .dat .new (rp x.2.1), .dat .new (rp x.2.2.1), .dat .new (rp x.2.2.2), .own .new (rps days_9), .dat .new (rp k_8)]) (en_append (i := 4) (m := .new) (xs := s7) (EvE.res (r' := ((f_law_cell x.1 (x.2.1 + k_8)).bind fun v16 => modP v16 x.2.2.2).bind fun v19 => some ((1 : Int) + v19)) (ev_arith ev_int (EvE.res (r' := (f_law_cell x.1 (x.2.1 + k_8)).bind fun v16 => modP v16 x.2.2.2) (ev_mod (EvE.res (r' := f_law_cell x.1 (x.2.1 + k_8)) (ev_call2 (ev_var (i := 0) (m := .old) (x := x.1) rfl) (EvE.res (r' := some (x.2.1 + k_8)) (ev_arith (ev_var (i := 1) (m := .new) (x := x.2.1) rfl) (ev_var (i := 5) (m := .new) (x := k_8) rfl)) (bsP (bsP rfl)))) (bsP (bsP rfl))) (ev_var (i := 3) (m := .new) (x := x.2.2.2) rfl)) (bcP fun _ => (bsP rfl)))) (bsP (bcP fun _ => rfl))) rfl) (fun days_9 =>
 (en_end (s := days_9) (.cons .id (.cons .id (.cons .id (.cons .id (.cons .id (.cons .un .nil)))))))))))) (fun s24 =>
 (er_ret (EvL.E (EvL.res (r' := sortSetL s24) (ev_sortSetL (ev_own (i := 4) (m := .new) (xs := s24) rfl)) (bsP rfl)))))))) (.cons .id (.cons .sc (.cons .sc (.cons .sc (.cons .id (.cons .id .nil))))))
theorem ok_law_worlds (T : Tx P K mg) : FnOk P w K mg base CX0 3 T.f_law_worlds.a T.f_law_worlds.d ["draws"] (sp1 K f_law_worlds .new) := by
  have sc : FnScope ["draws", "piece", "n", "big", "places", "day", "k"] ["draws"] (defScope st_law_worlds) := ⟨rfl, rfl, rfl, by decide +kernel, rfl, by decide +kernel, by decide +kernel⟩
  refine T.f_law_worlds.F.ok sc (fun vs H Q E h => spA_len h fun _ => rfl) (fun cdv A outer s H vs Q E hr h => ⟨_, (pss_cons (ps_set (i := 1) sc.nd rfl (by first | exact .inl rfl | exact .inr rfl) (pe_call (ok_law_some_piece T) (hr.mono (by decide)) (by rfl) T.f_law_some_piece.g T.f_law_some_piece.F.kp T.f_law_some_piece.b .nil pass0 (pa_cons (pv 0) (pa_cons pe_int (pa_cons (pe_op op_add pe_int (pe_op op_mod (pe_ix ix_list (pv 0) pe_int (fun _ _ => rfl)) pe_int)) (pa_cons pe_int pa_nil))))))
 (pss_cons (ps_set (i := 2) sc.nd rfl (by first | exact .inl rfl | exact .inr rfl) (pe_op op_add pe_int (pe_op op_mod (pe_ix ix_list (pv 0) pe_int (fun _ _ => rfl)) pe_int)))
 (pss_cons (ps_if (pt_cmpR op_eq (pe_op op_mod (pe_ix ix_list (pv 0) pe_int (fun _ _ => rfl)) pe_int) pe_int (nomark _)) (pss_cons (ps_setLc (i := 1) (own := [("day", 5)]) rfl sc.nd rfl rfl (sw_true rfl rfl rfl (by decide +kernel)) (pi_list (pv 1)) (blkOk_by (N := ["draws", "piece", "n", "big", "places", "day", "k"]) (sc := defScope st_law_worlds) (by decide +kernel)) (fun _ _ _ _ _ => (pg_name (i := 5) sc.nd rfl (by first | exact .inl rfl | exact .inr rfl))) (fun _ _ _ _ _ => pts_nil) (fun _ _ _ _ _ => (pe_op op_mulW (pv 5) (pe_op op_add pe_int (pe_op op_mod (pe_op op_mul (pe_ix (ix_listK K ) (pv 0) pe_int (fun _ _ => rfl)) pe_int) (pe_op op_pow pe_int pe_int))))))
 (pss_one (ps_set (i := 2) sc.nd rfl (by first | exact .inl rfl | exact .inr rfl) (pe_op op_add pe_int (pe_op op_mod (pe_op op_mul (pe_ix ix_list (pv 0) pe_int (fun _ _ => rfl)) pe_int) (pe_op op_pow pe_int pe_int)))))) pss_nil)
 (pss_cons (ps_if (pt_cmpR op_eq (pe_op op_mod (pe_ix ix_list (pv 0) pe_int (fun _ _ => rfl)) pe_int) pe_int (nomark _)) (pss_cons (ps_set (i := 3) sc.nd rfl (by first | exact .inl rfl | exact .inr rfl) (pe_call (ok_law_digits T) (hr.mono (by decide)) (by rfl) T.f_law_digits.g T.f_law_digits.F.kp T.f_law_digits.b .nil pass0 (pa_cons (pv 0) (pa_cons pe_int (pa_cons (pe_op op_add pe_int (pe_op op_mod (pe_ix ix_list (pv 0) pe_int (fun _ _ => rfl)) pe_int)) pa_nil)))))
 (pss_cons (ps_set (i := 1) sc.nd rfl (by first | exact .inl rfl | exact .inr rfl) (pe_sortSet K (by rfl) T.n_sorted (by rfl) T.n_set (pe_lst (pa_cons pe_int (pa_cons (pe_op op_add pe_int (pe_ix ix_list (pv 0) pe_int (fun _ _ => rfl))) (pa_cons (pe_op op_add pe_int (pe_op op_mod (pv 3) (pe_op op_sub (pe_op op_pow pe_int pe_int) pe_int))) (pa_cons (pe_op op_pow pe_int pe_int) pa_nil)))))))
 (pss_one (ps_set (i := 2) sc.nd rfl (by first | exact .inl rfl | exact .inr rfl) (pe_op op_add pe_int (pe_op op_mod (pv 3) (pe_op op_sub (pe_op op_pow pe_int pe_int) pe_int))))))) pss_nil)
 (pss_cons (ps_set (i := 4) sc.nd rfl (by first | exact .inl rfl | exact .inr rfl) (pe_sortSet K (by rfl) T.n_sorted (by rfl) T.n_set (pe_lc (own := [("k", 6)]) rfl sc.nd (pi_range1 (by rfl) T.n_range (pa_cons (pe_op op_mod (pe_ix ix_list (pv 0) pe_int (fun _ _ => rfl)) pe_int) pa_nil)) (blkOk_by (N := ["draws", "piece", "n", "big", "places", "day", "k"]) (sc := defScope st_law_worlds) (by decide +kernel)) (fun _ _ _ _ _ => (pg_name (i := 6) sc.nd rfl (by first | exact .inl rfl | exact .inr rfl))) (fun _ _ _ _ _ => pts_nil) (fun _ _ _ _ _ => (pe_op op_mod (pe_op op_mul (pe_call (ok_law_cell T) (hr.mono (by decide)) (by rfl) T.f_law_cell.g T.f_law_cell.F.kp T.f_law_cell.b .nil pass0 (pa_cons (pv 0) (pa_cons (pe_op op_add pe_int (pv 6)) pa_nil))) pe_int) (pv 2))))))
 (pss_one (ps_ret (pe_tup (pa_cons (pv 1) (pa_cons (pe_tup (pa_cons (pv 2) (pa_cons (pv 4) pa_nil))) pa_nil)))))))))), of_body (fun x => ?_) (fun _ => Nat.le_of_ble_eq_true rfl) h⟩)
  exact EvR.weakL (er_seq (E := fun (piece_13 : (List Int)) => [.dat .old (rp x), .dat .new (rp piece_13), .un, .un, .un, .un, .un]) (en_set (EvE.res (r' := (((atI x (0 : Int)).bind fun v4 => some (v4 % 8)).bind fun v7 => some ((1 : Int) + v7)).bind fun v12 => f_law_some_piece x (20 : Int) v12 (60 : Int)) (ev_call4 (ev_var (i := 0) (m := .old) (x := x) rfl) ev_int (EvE.res (r' := ((atI x (0 : Int)).bind fun v4 => some (v4 % 8)).bind fun v7 => some ((1 : Int) + v7)) (ev_arith ev_int (EvE.res (r' := (atI x (0 : Int)).bind fun v4 => some (v4 % 8)) (ev_modC (EvE.res (r' := atI x (0 : Int)) (ev_ix (EvB.sc (m1 := .new) (EvE.B (ev_var (i := 0) (m := .old) (x := x) rfl))) ev_int) (bsP (bsP rfl)))) (bcP fun _ => rfl))) (bsP (bcP fun _ => rfl))) ev_int) (bsP (bsP (bcP fun _ => (bsP rfl)))))) (fun piece_13 =>
 (er_seq (E := fun (n_21 : Int) => [.dat .old (rp x), .dat .new (rp piece_13), .dat .new (rp n_21), .un, .un, .un, .un]) (en_set (EvE.res (r' := ((atI x (1 : Int)).bind fun v17 => some (v17 % 24)).bind fun v20 => some ((1 : Int) + v20)) (ev_arith ev_int (EvE.res (r' := (atI x (1 : Int)).bind fun v17 => some (v17 % 24)) (ev_modC (EvE.res (r' := atI x (1 : Int)) (ev_ix (EvB.sc (m1 := .new) (EvE.B (ev_var (i := 0) (m := .old) (x := x) rfl))) ev_int) (bsP (bsP rfl)))) (bcP fun _ => rfl))) (bsP (bcP fun _ => rfl)))) (fun n_21 =>
 (er_seq (E := fun (s134 : ((List Int) × Int)) => [.dat .old (rp x), .dat .new (rp s134.1), .dat .new (rp s134.2), .un, .un, .un, .un]) (en_if (et_test (EvE.res (r' := ((atI x (2 : Int)).bind fun v25 => some (v25 % 8)).bind fun v28 => some (decide (v28 = (5 : Int)))) (ev_eqI (EvE.res (r' := (atI x (2 : Int)).bind fun v25 => some (v25 % 8)) (ev_modC (EvE.res (r' := atI x (2 : Int)) (ev_ix (EvB.sc (m1 := .new) (EvE.B (ev_var (i := 0) (m := .old) (x := x) rfl))) ev_int) (bsP (bsP rfl)))) (bcP fun _ => rfl)) ev_int) (bcP fun _ => (bsP rfl))))
 (en_seq (E := fun (piece_44 : (List Int)) => [.dat .old (rp x), .dat .new (rp piece_44), .dat .new (rp n_21), .un, .un, .un, .un]) (en_set (EvL.E (EvL.res (r' := (mapO (fun x29 => ((((atI x (8 : Int)).bind fun v33 => some (v33 * 999)).bind fun v36 => modP v36 (1000000000 : Int)).bind fun v39 => some ((1 : Int) + v39)).bind fun v42 => mulP x29 v42) piece_13).bind lim) (ev_lcO (vs := [5]) (Eb := fun (x29 : Int) => [.dat .old (rp x), .dat .new (rp piece_13), .dat .new (rp n_21), .un, .un, .dat .new (rp x29), .un]) (ei_list (ev_var (i := 1) (m := .new) (x := piece_13) rfl)) (fun x29 => (eg_nameS (m1 := .new))) (fun x29 => (EvE.res (r' := ((((atI x (8 : Int)).bind fun v33 => some (v33 * 999)).bind fun v36 => modP v36 (1000000000 : Int)).bind fun v39 => some ((1 : Int) + v39)).bind fun v42 => mulP x29 v42) (ev_mul (ev_var (i := 5) (m := .new) (x := x29) rfl) (EvE.res (r' := (((atI x (8 : Int)).bind fun v33 => some (v33 * 999)).bind fun v36 => modP v36 (1000000000 : Int)).bind fun v39 => some ((1 : Int) + v39)) (ev_arith ev_int (EvE.res (r' := ((atI x (8 : Int)).bind fun v33 => some (v33 * 999)).bind fun v36 => modP v36 (1000000000 : Int)) (ev_mod (EvE.res (r' := (atI x (8 : Int)).bind fun v33 => some (v33 * 999)) (ev_mulC (EvE.res (r' := atI x (8 : Int)) (ev_ix (EvB.sc (m1 := .new) (EvE.B (ev_var (i := 0) (m := .old) (x := x) rfl))) ev_int) (bsP (bsP rfl)))) (bcP fun _ => rfl)) (ev_powV (a := 10) (b := 9) (v := 1000000000))) (bcP fun _ => (bsP rfl)))) (bsP (bcP fun _ => rfl)))) (bsP (bcP fun _ => rfl))))) (bsP rfl)))) (fun piece_44 =>
 (en_last (en_seq (E := fun (n_55 : Int) => [.dat .old (rp x), .dat .new (rp piece_44), .dat .new (rp n_55), .un, .un, .un, .un]) (en_set (EvE.res (r' := (((atI x (1 : Int)).bind fun v48 => some (v48 * 97)).bind fun v51 => modP v51 (1000000 : Int)).bind fun v54 => some ((1 : Int) + v54)) (ev_arith ev_int (EvE.res (r' := ((atI x (1 : Int)).bind fun v48 => some (v48 * 97)).bind fun v51 => modP v51 (1000000 : Int)) (ev_mod (EvE.res (r' := (atI x (1 : Int)).bind fun v48 => some (v48 * 97)) (ev_mulC (EvE.res (r' := atI x (1 : Int)) (ev_ix (EvB.sc (m1 := .new) (EvE.B (ev_var (i := 0) (m := .old) (x := x) rfl))) ev_int) (bsP (bsP rfl)))) (bcP fun _ => rfl)) (ev_powV (a := 10) (b := 6) (v := 1000000))) (bcP fun _ => (bsP rfl)))) (bsP (bcP fun _ => rfl)))) (fun n_55 =>
 (en_end (s := (piece_44, n_55)) (.cons .id (.cons .id (.cons .id (.cons .id (.cons .id (.cons .id (.cons .id .nil)))))))))))))
 (en_end (s := (piece_13, n_21)) (.cons .id (.cons .id (.cons .id (.cons .id (.cons .id (.cons .id (.cons .id .nil))))))))) (fun s57 =>
 (er_seq (E := fun (s133 : ((List Int) × Int)) => [.dat .old (rp x), .dat .new (rp s133.1), .dat .new (rp s133.2), .un, .un, .un, .un]) (en_if (et_test (EvE.res (r' := ((atI x (2 : Int)).bind fun v61 => some (v61 % 8)).bind fun v64 => some (decide (v64 = (6 : Int)))) (ev_eqI (EvE.res (r' := (atI x (2 : Int)).bind fun v61 => some (v61 % 8)) (ev_modC (EvE.res (r' := atI x (2 : Int)) (ev_ix (EvB.sc (m1 := .new) (EvE.B (ev_var (i := 0) (m := .old) (x := x) rfl))) ev_int) (bsP (bsP rfl)))) (bcP fun _ => rfl)) ev_int) (bcP fun _ => (bsP rfl))))
 (en_seq (E := fun (big_76 : Int) => [.dat .old (rp x), .dat .new (rp s57.1), .dat .new (rp s57.2), .dat .new (rp big_76), .un, .un, .un]) (en_set (EvE.res (r' := (((atI x (9 : Int)).bind fun v68 => some (v68 % 40)).bind fun v71 => some ((1 : Int) + v71)).bind fun v75 => f_law_digits x (40 : Int) v75) (ev_call3 (ev_var (i := 0) (m := .old) (x := x) rfl) ev_int (EvE.res (r' := ((atI x (9 : Int)).bind fun v68 => some (v68 % 40)).bind fun v71 => some ((1 : Int) + v71)) (ev_arith ev_int (EvE.res (r' := (atI x (9 : Int)).bind fun v68 => some (v68 % 40)) (ev_modC (EvE.res (r' := atI x (9 : Int)) (ev_ix (EvB.sc (m1 := .new) (EvE.B (ev_var (i := 0) (m := .old) (x := x) rfl))) ev_int) (bsP (bsP rfl)))) (bcP fun _ => rfl))) (bsP (bcP fun _ => rfl)))) (bsP (bsP (bcP fun _ => rfl))))) (fun big_76 =>
 (en_seq (E := fun (piece_98 : (List Int)) => [.dat .old (rp x), .dat .new (rp piece_98), .dat .new (rp s57.2), .dat .new (rp big_76), .un, .un, .un]) (en_set (EvL.E (EvL.res (r' := ((((atI x (8 : Int)).bind fun v81 => some ((1 : Int) + v81)).bind fun v93 => (((modP big_76 ((10000000000000000000000000000000000000000 : Int) - (2 : Int))).bind fun v88 => some ((1 : Int) + v88)).bind fun v91 => some (v91 :: ([(1000000000000000000000000000000000000000 : Int)] : (List Int)))).bind fun l94 => some (v93 :: l94)).bind fun l96 => some ((0 : Int) :: l96)).bind fun v97 => sortSetL v97) (ev_sortSetL (EvL.B (ev_list (m := .new) (EvXs.res (r' := (((atI x (8 : Int)).bind fun v81 => some ((1 : Int) + v81)).bind fun v93 => (((modP big_76 ((10000000000000000000000000000000000000000 : Int) - (2 : Int))).bind fun v88 => some ((1 : Int) + v88)).bind fun v91 => some (v91 :: ([(1000000000000000000000000000000000000000 : Int)] : (List Int)))).bind fun l94 => some (v93 :: l94)).bind fun l96 => some ((0 : Int) :: l96)) (exs_cons ev_int (EvXs.res (r' := ((atI x (8 : Int)).bind fun v81 => some ((1 : Int) + v81)).bind fun v93 => (((modP big_76 ((10000000000000000000000000000000000000000 : Int) - (2 : Int))).bind fun v88 => some ((1 : Int) + v88)).bind fun v91 => some (v91 :: ([(1000000000000000000000000000000000000000 : Int)] : (List Int)))).bind fun l94 => some (v93 :: l94)) (exs_cons (EvE.res (r' := (atI x (8 : Int)).bind fun v81 => some ((1 : Int) + v81)) (ev_arith ev_int (EvE.res (r' := atI x (8 : Int)) (ev_ix (EvB.sc (m1 := .new) (EvE.B (ev_var (i := 0) (m := .old) (x := x) rfl))) ev_int) (bsP (bsP rfl)))) (bsP (bcP fun _ => rfl))) (EvXs.res (r' := ((modP big_76 ((10000000000000000000000000000000000000000 : Int) - (2 : Int))).bind fun v88 => some ((1 : Int) + v88)).bind fun v91 => some (v91 :: ([(1000000000000000000000000000000000000000 : Int)] : (List Int)))) (exs_cons (EvE.res (r' := (modP big_76 ((10000000000000000000000000000000000000000 : Int) - (2 : Int))).bind fun v88 => some ((1 : Int) + v88)) (ev_arith ev_int (EvE.res (r' := modP big_76 ((10000000000000000000000000000000000000000 : Int) - (2 : Int))) (ev_mod (ev_var (i := 3) (m := .new) (x := big_76) rfl) (EvE.res (r' := some ((10000000000000000000000000000000000000000 : Int) - (2 : Int))) (ev_arith (ev_powV (a := 10) (b := 40) (v := 10000000000000000000000000000000000000000)) ev_int) (bsP (bsP rfl)))) (bsP (bsP rfl)))) (bsP (bcP fun _ => rfl))) (EvXs.res (r' := some ([(1000000000000000000000000000000000000000 : Int)] : (List Int))) (exs_cons (ev_powV (a := 10) (b := 39) (v := 1000000000000000000000000000000000000000)) exs_nil) (bsP (bsP rfl)))) (bcP fun _ => (bsP rfl)))) (bcP fun _ => (bcP fun _ => rfl)))) (bsP (bcP fun _ => rfl)))))) (bcP fun _ => rfl)))) (fun piece_98 =>
 (en_last (en_seq (E := fun (n_106 : Int) => [.dat .old (rp x), .dat .new (rp piece_98), .dat .new (rp n_106), .dat .new (rp big_76), .un, .un, .un]) (en_set (EvE.res (r' := (modP big_76 ((10000000000000000000000000000000000000000 : Int) - (2 : Int))).bind fun v105 => some ((1 : Int) + v105)) (ev_arith ev_int (EvE.res (r' := modP big_76 ((10000000000000000000000000000000000000000 : Int) - (2 : Int))) (ev_mod (ev_var (i := 3) (m := .new) (x := big_76) rfl) (EvE.res (r' := some ((10000000000000000000000000000000000000000 : Int) - (2 : Int))) (ev_arith (ev_powV (a := 10) (b := 40) (v := 10000000000000000000000000000000000000000)) ev_int) (bsP (bsP rfl)))) (bsP (bsP rfl)))) (bsP (bcP fun _ => rfl)))) (fun n_106 =>
 (en_end (s := (piece_98, n_106)) (.cons .id (.cons .id (.cons .id (.cons .un (.cons .id (.cons .id (.cons .id .nil)))))))))))))))
 (en_end (s := (s57.1, s57.2)) (.cons .id (.cons .id (.cons .id (.cons .id (.cons .id (.cons .id (.cons .id .nil))))))))) (fun s108 =>
 (er_seq (E := fun (places_128 : (List Int)) => [.dat .old (rp x), .dat .new (rp s108.1), .dat .new (rp s108.2), .un, .dat .new (rp places_128), .un, .un]) (en_set (EvL.E (EvL.res (r' := ((((atI x (10 : Int)).bind fun v112 => some (v112 % 9)).bind fun v114 => rangeP 0 v114).bind fun v126 => (mapO (fun x115 => ((f_law_cell x ((30 : Int) + x115)).bind fun v121 => some (v121 * 7919)).bind fun v124 => modP v124 s108.2) v126).bind lim).bind fun v127 => sortSetL v127) (ev_sortSetL (EvL.B (EvL.res (r' := (((atI x (10 : Int)).bind fun v112 => some (v112 % 9)).bind fun v114 => rangeP 0 v114).bind fun v126 => (mapO (fun x115 => ((f_law_cell x ((30 : Int) + x115)).bind fun v121 => some (v121 * 7919)).bind fun v124 => modP v124 s108.2) v126).bind lim) (ev_lcO (vs := [6]) (Eb := fun (x115 : Int) => [.dat .old (rp x), .dat .new (rp s108.1), .dat .new (rp s108.2), .un, .un, .un, .dat .new (rp x115)]) (EvI.res (r' := ((atI x (10 : Int)).bind fun v112 => some (v112 % 9)).bind fun v114 => rangeP 0 v114) (ei_range1 (EvE.res (r' := (atI x (10 : Int)).bind fun v112 => some (v112 % 9)) (ev_modC (EvE.res (r' := atI x (10 : Int)) (ev_ix (EvB.sc (m1 := .new) (EvE.B (ev_var (i := 0) (m := .old) (x := x) rfl))) ev_int) (bsP (bsP rfl)))) (bcP fun _ => rfl))) (bcP fun _ => rfl)) (fun x115 => (eg_nameS (m1 := .new))) (fun x115 => (EvE.res (r' := ((f_law_cell x ((30 : Int) + x115)).bind fun v121 => some (v121 * 7919)).bind fun v124 => modP v124 s108.2) (ev_mod (EvE.res (r' := (f_law_cell x ((30 : Int) + x115)).bind fun v121 => some (v121 * 7919)) (ev_mulC (EvE.res (r' := f_law_cell x ((30 : Int) + x115)) (ev_call2 (ev_var (i := 0) (m := .old) (x := x) rfl) (EvE.res (r' := some ((30 : Int) + x115)) (ev_arith ev_int (ev_var (i := 6) (m := .new) (x := x115) rfl)) (bsP (bsP rfl)))) (bsP (bsP rfl)))) (bcP fun _ => rfl)) (ev_var (i := 2) (m := .new) (x := s108.2) rfl)) (bcP fun _ => (bsP rfl))))) (bcP fun _ => rfl)))) (bcP fun _ => rfl)))) (fun places_128 =>
 (er_ret (EvE.res (r' := some (s108.1, (s108.2, places_128))) (ev_pair (ev_var (i := 1) (m := .new) (x := s108.1) rfl) (EvE.res (r' := some (s108.2, places_128)) (ev_pair (ev_var (i := 2) (m := .new) (x := s108.2) rfl) (ev_var (i := 4) (m := .new) (x := places_128) rfl)) (bsP (bsP rfl)))) (bsP (bsP rfl)))))))))))))) (.cons .id (.cons .id (.cons .id (.cons .id (.cons .id (.cons .id (.cons .id .nil)))))))
theorem ok_law (T : Tx P K mg) : FnOkG P w K mg base 7 T.f_law.a T.f_law.d ["script"] (sp1 K f_law .new) := by
  have sc : FnScope ["script", "draws", "piece", "days", "passed", "texts", "told", "near", "text", "other", "day", "place"] ["script"] (defScope st_law) := ⟨rfl, rfl, rfl, by decide +kernel, rfl, by decide +kernel, by decide +kernel⟩
  refine L2.DL.okG T.f_law.F sc (fun vs H Q E h => spA_len h fun _ => rfl) (fun cdv A outer s H vs Q E hG hr h => ⟨_, (pss_cons (ps_set (i := 1) sc.nd rfl (by first | exact .inl rfl | exact .inr rfl) (pe_call (ok_law_draws T) (hr.mono (by decide)) (by rfl) T.f_law_draws.g T.f_law_draws.F.kp T.f_law_draws.b .nil pass0 (pa_cons (pv 0) (pa_cons pe_int pa_nil))))
 (pss_cons (ps_asg (pe_call (ok_law_worlds T) (hr.mono (by decide)) (by rfl) T.f_law_worlds.g T.f_law_worlds.F.kp T.f_law_worlds.b .nil pass0 (pa_cons (pv 1) pa_nil)) (pg_tup rfl (pgs_cons (pg_name (i := 2) sc.nd rfl (by first | exact .inl rfl | exact .inr rfl)) (pgs_cons (pg_name (i := 3) sc.nd rfl (by first | exact .inl rfl | exact .inr rfl)) pgs_nil))))
 (pss_cons (ps_set (i := 4) sc.nd rfl (by first | exact .inl rfl | exact .inr rfl) (pe_lst (pa_cons (pe_callTy call_list_of (by rfl) T.n_list (by decide +kernel) (pa_cons (pv 2) pa_nil)) (pa_cons (pe_tup (pa_cons (pe_ix ix_tup (pv 3) pe_int (fun _ _ => rfl)) (pa_cons (pe_callTy call_list_of (by rfl) T.n_list (by decide +kernel) (pa_cons (pe_ix ix_tup (pv 3) pe_int (fun _ _ => rfl)) pa_nil)) pa_nil))) pa_nil))))
 (pss_cons (ps_set (i := 5) sc.nd rfl (by first | exact .inl rfl | exact .inr rfl) (pe_lst (pa_cons (pe_join pe_str (pe_lc (own := [("day", 10)]) rfl sc.nd (pi_list (pv 2)) (blkOk_by (N := ["script", "draws", "piece", "days", "passed", "texts", "told", "near", "text", "other", "day", "place"]) (sc := defScope st_law) (by decide +kernel)) (fun _ _ _ _ _ => (pg_name (i := 10) sc.nd rfl (by first | exact .inl rfl | exact .inr rfl))) (fun _ _ _ _ _ => pts_nil) (fun _ _ _ _ _ => (pe_callTy call_str_int (by rfl) T.n_str (by decide +kernel) (pa_cons (pv 10) pa_nil))))) (pa_cons (pe_join pe_str (pe_op op_cat (pe_lst (pa_cons (pe_callTy call_str_int (by rfl) T.n_str (by decide +kernel) (pa_cons (pe_ix ix_tup (pv 3) pe_int (fun _ _ => rfl)) pa_nil)) (pa_cons pe_str pa_nil))) (pe_lc (own := [("place", 11)]) rfl sc.nd (pi_list (pe_ix ix_tup (pv 3) pe_int (fun _ _ => rfl))) (blkOk_by (N := ["script", "draws", "piece", "days", "passed", "texts", "told", "near", "text", "other", "day", "place"]) (sc := defScope st_law) (by decide +kernel)) (fun _ _ _ _ _ => (pg_name (i := 11) sc.nd rfl (by first | exact .inl rfl | exact .inr rfl))) (fun _ _ _ _ _ => pts_nil) (fun _ _ _ _ _ => (pe_callTy call_str_int (by rfl) T.n_str (by decide +kernel) (pa_cons (pv 11) pa_nil)))))) pa_nil))))
 (pss_cons (ps_set (i := 6) sc.nd rfl (by first | exact .inl rfl | exact .inr rfl) (pv 5))
 (pss_cons (ps_set (i := 7) sc.nd rfl (by first | exact .inl rfl | exact .inr rfl) (pe_and (pe_cmpR op_le (pe_ix ix_list (pv 2) (pe_un un_neg pe_int) (fun _ _ => rfl)) (pe_op op_pow pe_int pe_int) (nomark _)) (pe_one (pe_cmpR op_le (pe_ix ix_tup (pv 3) pe_int (fun _ _ => rfl)) (pe_op op_pow pe_int pe_int) (nomark _)))))
 (pss_cons (ps_if (pt_val (pv 7)) (pss_one (ps_set (i := 6) sc.nd rfl (by first | exact .inl rfl | exact .inr rfl) (pe_lst (pa_cons (pe_call (ok_format_piece T) (hr.mono (by decide)) (by rfl) T.f_format_piece.g T.f_format_piece.F.kp T.f_format_piece.b .nil pass0 (pa_cons (pe_ix ix_list (pv 4) pe_int (fun _ _ => rfl)) pa_nil)) (pa_cons (pe_call (ok_format_round_set T) (hr.mono (by decide)) (by rfl) T.f_format_round_set.g T.f_format_round_set.F.kp T.f_format_round_set.b .nil pass0 (pa_cons (pe_ix ix_list (pv 4) pe_int (fun _ _ => rfl)) pa_nil)) pa_nil))))) pss_nil)
 (pss_cons (ps_if (PW.pt (pw_and (pt_val (pv 7)) (pw_and1 (PW.pt (pw_or (pt_cmpR (op_neD hr.units) (pv 6) (pv 5) (nomark _)) (pw_or (pt_cmpR (op_neD hr.units) (pv 4) (pe_lst (pa_cons (pv 2) (pa_cons (pv 3) pa_nil))) (nomark _)) (pw_or (pt_not (pt_val (pe_callB call_isi (by rfl) T.n_isinstance (by decide +kernel) (pa_cons (pe_ix ix_list (pv 6) pe_int (fun _ _ => rfl)) (pa_cons (pe_bltn (v := .ty "str") (by rfl) T.n_str (by decide +kernel) rfl) pa_nil))))) (pw_or1 (pt_not (pt_val (pe_callB call_isi (by rfl) T.n_isinstance (by decide +kernel) (pa_cons (pe_ix ix_list (pv 6) pe_int (fun _ _ => rfl)) (pa_cons (pe_bltn (v := .ty "str") (by rfl) T.n_str (by decide +kernel) rfl) pa_nil))))))))))))) (pss_one (ps_ret pe_bl)) pss_nil)
 (pss_cons (ps_for PassesOwn.never rfl (pi_list (pv 5)) (pg_name (i := 8) sc.nd rfl (by first | exact .inl rfl | exact .inr rfl))
 (pss_one (ps_for PassesOwn.never rfl (pi_list (pe_call (ok_law_bent T) (hr.mono (by decide)) (by rfl) T.f_law_bent.g T.f_law_bent.F.kp T.f_law_bent.b .nil pass0 (pa_cons (pv 8) (pa_cons (pv 1) pa_nil)))) (pg_name (i := 9) sc.nd rfl (by first | exact .inl rfl | exact .inr rfl))
 (pss_one (ps_if (PW.pt (pw_or (pt_not (pt_val (pe_callG (ok_law_piece_reads T) hG (hr.mono (by decide)) (by rfl) T.f_law_piece_reads.g T.f_law_piece_reads.F.kp T.f_law_piece_reads.b .nil pass0 (pa_cons (pv 9) pa_nil)))) (pw_or1 (pt_not (pt_val (pe_callG (ok_law_round_reads T) hG (hr.mono (by decide)) (by rfl) T.f_law_round_reads.g T.f_law_round_reads.F.kp T.f_law_round_reads.b .nil pass0 (pa_cons (pv 9) pa_nil))))))) (pss_one (ps_ret pe_bl)) pss_nil)))))
 (pss_cons (ps_if (PW.pt (pw_or (pt_cmpR op_ne (pe_callB (call_reprG hG hr.units) (by rfl) T.n_repr (by decide +kernel) (pa_cons (pe_call (ok_parse_piece T) (hr.mono (by decide)) (by rfl) T.f_parse_piece.g T.f_parse_piece.F.kp T.f_parse_piece.b .nil passL (pa_cons (pe_ix ix_list (pv 5) pe_int (fun _ _ => rfl)) pa_nil)) pa_nil)) (pe_callB (call_reprG hG hr.units) (by rfl) T.n_repr (by decide +kernel) (pa_cons (pv 2) pa_nil)) (nomark _)) (pw_or1 (pt_cmpR op_ne (pe_callB (call_reprG hG hr.units) (by rfl) T.n_repr (by decide +kernel) (pa_cons (pe_call (ok_parse_round_set T) (hr.mono (by decide)) (by rfl) T.f_parse_round_set.g T.f_parse_round_set.F.kp T.f_parse_round_set.b .nil passL (pa_cons (pe_ix ix_list (pv 5) pe_int (fun _ _ => rfl)) pa_nil)) pa_nil)) (pe_callB (call_reprG hG hr.units) (by rfl) T.n_repr (by decide +kernel) (pa_cons (pv 3) pa_nil)) (nomark _))))) (pss_one (ps_ret pe_bl)) pss_nil)
 (pss_cons (ps_if (PW.pt (pw_and (pt_cmpR op_eq (pe_op op_mod (pe_ix ix_list (pv 1) pe_int (fun _ _ => rfl)) pe_int) pe_int (nomark _)) (pw_and1 (pt_not (pt_val (pe_callG (ok_law_long T) hG (hr.mono (by decide)) (by rfl) T.f_law_long.g T.f_law_long.F.kp T.f_law_long.b .nil pass0 (pa_cons (pv 1) pa_nil))))))) (pss_one (ps_ret pe_bl)) pss_nil)
 (pss_one (ps_ret (pe_and (pe_callG (ok_law_piece_reads T) hG (hr.mono (by decide)) (by rfl) T.f_law_piece_reads.g T.f_law_piece_reads.F.kp T.f_law_piece_reads.b .nil pass0 (pa_cons (pe_ix ix_list (pv 5) pe_int (fun _ _ => rfl)) pa_nil)) (pe_one (pe_callG (ok_law_round_reads T) hG (hr.mono (by decide)) (by rfl) T.f_law_round_reads.g T.f_law_round_reads.F.kp T.f_law_round_reads.b .nil pass0 (pa_cons (pe_ix ix_list (pv 5) pe_int (fun _ _ => rfl)) pa_nil))))))))))))))))), of_body (fun x => ?_) (fun _ => Nat.le_of_ble_eq_true rfl) h⟩)
  exact EvR.weakL (er_seq (E := fun (draws_3 : (List Int)) => [.dat .old (rp x), .dat .new (rp draws_3), .un, .un, .un, .un, .un, .un, .un, .un, .un, .un]) (en_set (EvE.res (r' := f_law_draws x (60 : Int)) (ev_call2 (ev_var (i := 0) (m := .old) (x := x) rfl) ev_int) (bsP (bsP rfl)))) (fun draws_3 =>
 (er_seq (E := fun (p4 : ((List Int) × (Int × (List Int)))) => [.dat .old (rp x), .dat .new (rp draws_3), .dat .new (rp p4.1), .dat .new (rp p4.2), .un, .un, .un, .un, .un, .un, .un, .un]) (en_asg (vs := [2, 3]) (EvE.res (r' := f_law_worlds draws_3) (ev_call1 (ev_var (i := 1) (m := .new) (x := draws_3) rfl)) (bsP rfl)) (fun p4 => (eg_pair eg_name eg_name))) (fun p4 =>
 (er_seq (E := fun (passed_11 : (List Dt)) => [.dat .old (rp x), .dat .new (rp draws_3), .dat .new (rp p4.1), .dat .new (rp p4.2), .dat .new (rp passed_11), .un, .un, .un, .un, .un, .un, .un]) (en_set (EvL.E (ev_list (m := .new) (EvXs.res (r' := some ([(rp p4.1), (rp (p4.2.1, p4.2.2))] : (List Dt))) (exs_cons (EvE.res (r' := some (rp p4.1)) (EvE.cast (fun z : (List Int) => rp z) (EvL.E (ev_listOf (EvE.B (ev_var (i := 2) (m := .new) (x := p4.1) rfl))))) rfl) (EvXs.res (r' := some ([(rp (p4.2.1, p4.2.2))] : (List Dt))) (exs_cons (EvE.res (r' := some (rp (p4.2.1, p4.2.2))) (EvE.cast (fun z : (Int × (List Int)) => rp z) (EvE.res (r' := some (p4.2.1, p4.2.2)) (ev_pair (EvE.res (r' := some p4.2.1) (ev_fst (ev_var (i := 3) (m := .new) (x := p4.2) rfl)) rfl) (EvL.E (ev_listOf (EvE.B (EvE.res (r' := some p4.2.2) (ev_snd (ev_var (i := 3) (m := .new) (x := p4.2) rfl)) rfl))))) (bsP (bsP rfl)))) rfl) exs_nil) (bsP (bsP rfl)))) (bsP (bsP rfl)))))) (fun passed_11 =>
 (er_seq (E := fun (texts_37 : (List Str)) => [.dat .old (rp x), .dat .new (rp draws_3), .dat .new (rp p4.1), .dat .new (rp p4.2), .dat .new (rp passed_11), .dat .new (rp texts_37), .un, .un, .un, .un, .un, .un]) (en_set (EvL.E (ev_list (m := .new) (EvXs.res (r' := (((mapO (fun x12 => strI x12) p4.1).bind lim).bind fun v17 => joinS (Str.ofString " ") v17).bind fun v35 => (((((strI p4.2.1).bind fun v21 => some (v21 :: ([(Str.ofString ":")] : (List Str)))).bind fun v28 => ((mapO (fun x23 => strI x23) p4.2.2).bind lim).bind fun v29 => lim (v28 ++ v29)).bind fun v32 => joinS (Str.ofString " ") v32).bind fun v33 => some (v33 :: ([] : (List Str)))).bind fun l36 => some (v35 :: l36)) (exs_cons (EvE.res (r' := ((mapO (fun x12 => strI x12) p4.1).bind lim).bind fun v17 => joinS (Str.ofString " ") v17) (ev_joinS ev_str (EvL.B (EvL.res (r' := (mapO (fun x12 => strI x12) p4.1).bind lim) (ev_lcO (vs := [10]) (Eb := fun (x12 : Int) => [.dat .old (rp x), .dat .new (rp draws_3), .dat .new (rp p4.1), .dat .new (rp p4.2), .dat .new (rp passed_11), .un, .un, .un, .un, .un, .dat .new (rp x12), .un]) (ei_list (ev_var (i := 2) (m := .new) (x := p4.1) rfl)) (fun x12 => (eg_nameS (m1 := .new))) (fun x12 => (EvE.res (r' := strI x12) (ev_strI (ev_var (i := 10) (m := .new) (x := x12) rfl)) (bsP rfl)))) (bsP rfl)))) (bsP (bcP fun _ => rfl))) (EvXs.res (r' := ((((strI p4.2.1).bind fun v21 => some (v21 :: ([(Str.ofString ":")] : (List Str)))).bind fun v28 => ((mapO (fun x23 => strI x23) p4.2.2).bind lim).bind fun v29 => lim (v28 ++ v29)).bind fun v32 => joinS (Str.ofString " ") v32).bind fun v33 => some (v33 :: ([] : (List Str)))) (exs_cons (EvE.res (r' := (((strI p4.2.1).bind fun v21 => some (v21 :: ([(Str.ofString ":")] : (List Str)))).bind fun v28 => ((mapO (fun x23 => strI x23) p4.2.2).bind lim).bind fun v29 => lim (v28 ++ v29)).bind fun v32 => joinS (Str.ofString " ") v32) (ev_joinS ev_str (EvL.B (EvL.res (r' := ((strI p4.2.1).bind fun v21 => some (v21 :: ([(Str.ofString ":")] : (List Str)))).bind fun v28 => ((mapO (fun x23 => strI x23) p4.2.2).bind lim).bind fun v29 => lim (v28 ++ v29)) (ev_cat (EvL.B (ev_list (m := .new) (EvXs.res (r' := (strI p4.2.1).bind fun v21 => some (v21 :: ([(Str.ofString ":")] : (List Str)))) (exs_cons (EvE.res (r' := strI p4.2.1) (ev_strI (EvE.res (r' := some p4.2.1) (ev_fst (ev_var (i := 3) (m := .new) (x := p4.2) rfl)) rfl)) (bsP rfl)) (EvXs.res (r' := some ([(Str.ofString ":")] : (List Str))) (exs_cons ev_str exs_nil) (bsP (bsP rfl)))) (bcP fun _ => (bsP rfl))))) (EvL.B (EvL.res (r' := (mapO (fun x23 => strI x23) p4.2.2).bind lim) (ev_lcO (vs := [11]) (Eb := fun (x23 : Int) => [.dat .old (rp x), .dat .new (rp draws_3), .dat .new (rp p4.1), .dat .new (rp p4.2), .dat .new (rp passed_11), .un, .un, .un, .un, .un, .un, .dat .new (rp x23)]) (ei_list (EvE.res (r' := some p4.2.2) (ev_snd (ev_var (i := 3) (m := .new) (x := p4.2) rfl)) rfl)) (fun x23 => (eg_nameS (m1 := .new))) (fun x23 => (EvE.res (r' := strI x23) (ev_strI (ev_var (i := 11) (m := .new) (x := x23) rfl)) (bsP rfl)))) (bsP rfl)))) (bcP fun _ => (bcP fun _ => rfl))))) (bsP (bcP fun _ => rfl))) exs_nil) (bcP fun _ => (bsP rfl)))) (bcP fun _ => (bcP fun _ => rfl)))))) (fun texts_37 =>
 (er_seq (E := fun (told_38 : (List Str)) => [.dat .old (rp x), .dat .new (rp draws_3), .dat .new (rp p4.1), .dat .new (rp p4.2), .dat .new (rp passed_11), .dat .new (rp texts_37), .dat .new (rp told_38), .un, .un, .un, .un, .un]) (en_set (ev_var (i := 5) (m := .new) (x := texts_37) rfl)) (fun told_38 =>
 (er_seq (E := fun (near_47 : Bool) => [.dat .old (rp x), .dat .new (rp draws_3), .dat .new (rp p4.1), .dat .new (rp p4.2), .dat .new (rp passed_11), .dat .new (rp texts_37), .dat .new (rp told_38), .dat .new (rp near_47), .un, .un, .un, .un]) (en_set (ev_andV (EvE.res (r' := (atI p4.1 (-(1 : Int))).bind fun v43 => some (decide (v43 ≤ (1000000000000 : Int)))) (ev_cmpI (EvE.res (r' := atI p4.1 (-(1 : Int))) (ev_ix (EvE.B (ev_var (i := 2) (m := .new) (x := p4.1) rfl)) ev_neg) (bsP (bsP rfl))) (ev_powV (a := 10) (b := 12) (v := 1000000000000))) (bcP fun _ => (bsP rfl))) (EvE.res (r' := some (decide (p4.2.1 ≤ (1000000 : Int)))) (ev_cmpI (EvE.res (r' := some p4.2.1) (ev_fst (ev_var (i := 3) (m := .new) (x := p4.2) rfl)) rfl) (ev_powV (a := 10) (b := 6) (v := 1000000))) (bsP (bsP rfl))))) (fun near_47 =>
 (er_seq (E := fun (s140 : (List Str)) => [.dat .old (rp x), .dat .new (rp draws_3), .dat .new (rp p4.1), .dat .new (rp p4.2), .dat .new (rp passed_11), .dat .new (rp texts_37), .dat .new (rp s140), .dat .new (rp near_47), .un, .un, .un, .un]) (en_ifP (et_val (ev_var (i := 7) (m := .new) (x := near_47) rfl))
 (en_last (en_seq (E := fun (told_60 : (List Str)) => [.dat .old (rp x), .dat .new (rp draws_3), .dat .new (rp p4.1), .dat .new (rp p4.2), .dat .new (rp passed_11), .dat .new (rp texts_37), .dat .new (rp told_60), .dat .new (rp near_47), .un, .un, .un, .un]) (en_set (EvL.E (ev_list (m := .new) (EvXs.res (r' := (((atI passed_11 (0 : Int)).bind fun v50 => (un : Dt → Option (List Int)) v50).bind fun v51 => f_format_piece v51).bind fun v58 => ((((atI passed_11 (1 : Int)).bind fun v54 => (un : Dt → Option (Int × (List Int))) v54).bind fun v55 => f_format_round_set v55).bind fun v56 => some (v56 :: ([] : (List Str)))).bind fun l59 => some (v58 :: l59)) (exs_cons (EvE.res (r' := ((atI passed_11 (0 : Int)).bind fun v50 => (un : Dt → Option (List Int)) v50).bind fun v51 => f_format_piece v51) (ev_call1 (EvE.res (r' := (atI passed_11 (0 : Int)).bind fun v50 => (un : Dt → Option (List Int)) v50) (ev_unD (EvE.res (r' := atI passed_11 (0 : Int)) (ev_ix (EvE.B (ev_var (i := 4) (m := .new) (x := passed_11) rfl)) ev_int) (bsP (bsP rfl)))) (bcP fun _ => rfl))) (bcP fun _ => rfl)) (EvXs.res (r' := (((atI passed_11 (1 : Int)).bind fun v54 => (un : Dt → Option (Int × (List Int))) v54).bind fun v55 => f_format_round_set v55).bind fun v56 => some (v56 :: ([] : (List Str)))) (exs_cons (EvE.res (r' := ((atI passed_11 (1 : Int)).bind fun v54 => (un : Dt → Option (Int × (List Int))) v54).bind fun v55 => f_format_round_set v55) (ev_call1 (EvE.res (r' := (atI passed_11 (1 : Int)).bind fun v54 => (un : Dt → Option (Int × (List Int))) v54) (ev_unD (EvE.res (r' := atI passed_11 (1 : Int)) (ev_ix (EvE.B (ev_var (i := 4) (m := .new) (x := passed_11) rfl)) ev_int) (bsP (bsP rfl)))) (bcP fun _ => rfl))) (bcP fun _ => rfl)) exs_nil) (bcP fun _ => (bsP rfl)))) (bcP fun _ => (bcP fun _ => rfl)))))) (fun told_60 =>
 (en_end (s := told_60) (.cons .id (.cons .id (.cons .id (.cons .id (.cons .id (.cons .id (.cons .id (.cons .id (.cons .id (.cons .id (.cons .id (.cons .id .nil))))))))))))))))
 (en_end (s := told_38) (.cons .id (.cons .id (.cons .id (.cons .id (.cons .id (.cons .id (.cons .id (.cons .id (.cons .id (.cons .id (.cons .id (.cons .id .nil)))))))))))))) (fun s62 =>
 (er_ifS (er_if (EvT.res (r' := if near_47 = true then ((eqD (rp s62) (rp texts_37)).map fun b => !b).bind fun b81 => if b81 = true then some true else ((eqD (rp passed_11) (rp ([(rp p4.1), (rp p4.2)] : (List Dt)))).map fun b => !b).bind fun b80 => if b80 = true then some true else (((atI s62 (0 : Int)).bind fun v74 => some true).map fun b => !b).bind fun b79 => if b79 = true then some true else ((atI s62 (1 : Int)).bind fun v78 => some true).map fun b => !b else some false) (et_and (et_val (ev_var (i := 7) (m := .new) (x := near_47) rfl)) (et_or (et_test (EvE.res (r' := (eqD (rp s62) (rp texts_37)).map fun b => !b) (ev_neL (EvE.B (ev_var (i := 6) (m := .new) (x := s62) rfl)) (EvE.B (ev_var (i := 5) (m := .new) (x := texts_37) rfl))) (bsP (bsP rfl)))) (et_or (et_test (EvE.res (r' := (eqD (rp passed_11) (rp ([(rp p4.1), (rp p4.2)] : (List Dt)))).map fun b => !b) (ev_neL (EvE.B (ev_var (i := 4) (m := .new) (x := passed_11) rfl)) (EvL.B (ev_list (m := .new) (EvXs.res (r' := some ([(rp p4.1), (rp p4.2)] : (List Dt))) (exs_cons (EvE.res (r' := some (rp p4.1)) (EvE.cast (fun z : (List Int) => rp z) (ev_var (i := 2) (m := .new) (x := p4.1) rfl)) rfl) (EvXs.res (r' := some ([(rp p4.2)] : (List Dt))) (exs_cons (EvE.res (r' := some (rp p4.2)) (EvE.cast (fun z : (Int × (List Int)) => rp z) (ev_var (i := 3) (m := .new) (x := p4.2) rfl)) rfl) exs_nil) (bsP (bsP rfl)))) (bsP (bsP rfl)))))) (bsP (bsP rfl)))) (et_or (et_not (et_val (EvE.res (r' := (atI s62 (0 : Int)).bind fun v74 => some true) (ev_isi (n := "str") (EvE.res (r' := atI s62 (0 : Int)) (ev_ix (EvE.B (ev_var (i := 6) (m := .new) (x := s62) rfl)) ev_int) (bsP (bsP rfl)))) (bcP fun _ => rfl)))) (et_not (et_val (EvE.res (r' := (atI s62 (1 : Int)).bind fun v78 => some true) (ev_isi (n := "str") (EvE.res (r' := atI s62 (1 : Int)) (ev_ix (EvE.B (ev_var (i := 6) (m := .new) (x := s62) rfl)) ev_int) (bsP (bsP rfl)))) (bcP fun _ => rfl)))))))) (bsP rfl))
 (er_cut (er_ret ev_bl))
 (er_nx (er_seqF (T := Unit) (L := fun _ => []) (E := fun (s94 : Unit) => [.dat .old (rp x), .dat .new (rp draws_3), .dat .new (rp p4.1), .dat .new (rp p4.2), .dat .new (rp passed_11), .dat .new (rp texts_37), .dat .new (rp s62), .dat .new (rp near_47), .un, .un, .un, .un]) (ef_forP (E := fun (s94 : Unit) => [.dat .old (rp x), .dat .new (rp draws_3), .dat .new (rp p4.1), .dat .new (rp p4.2), .dat .new (rp passed_11), .dat .new (rp texts_37), .dat .new (rp s62), .dat .new (rp near_47), .un, .un, .un, .un]) (s0 := ()) (Eb := fun (s83 : Unit) (text_84 : Str) => [.dat .old (rp x), .dat .new (rp draws_3), .dat .new (rp p4.1), .dat .new (rp p4.2), .dat .new (rp passed_11), .dat .new (rp texts_37), .dat .new (rp s62), .dat .new (rp near_47), .dat .new (rp text_84), .un, .un, .un]) (vs := [8]) (ei_list (ev_var (i := 5) (m := .new) (x := texts_37) rfl)) (.cons .id (.cons .id (.cons .id (.cons .id (.cons .id (.cons .id (.cons .id (.cons .id (.cons .id (.cons .id (.cons .id (.cons .id .nil)))))))))))) (fun s83 text_84 => (eg_nameS (m1 := .new))) (fun s83 text_84 =>
 (ef_last (ef_seqF (E := fun (s91 : Unit) => [.dat .old (rp x), .dat .new (rp draws_3), .dat .new (rp p4.1), .dat .new (rp p4.2), .dat .new (rp passed_11), .dat .new (rp texts_37), .dat .new (rp s62), .dat .new (rp near_47), .dat .new (rp text_84), .un, .un, .un]) (ef_for (E := fun (s91 : Unit) => [.dat .old (rp x), .dat .new (rp draws_3), .dat .new (rp p4.1), .dat .new (rp p4.2), .dat .new (rp passed_11), .dat .new (rp texts_37), .dat .new (rp s62), .dat .new (rp near_47), .dat .new (rp text_84), .un, .un, .un]) (s0 := ()) (Eb := fun (s87 : Unit) (other_88 : Str) => [.dat .old (rp x), .dat .new (rp draws_3), .dat .new (rp p4.1), .dat .new (rp p4.2), .dat .new (rp passed_11), .dat .new (rp texts_37), .dat .new (rp s62), .dat .new (rp near_47), .dat .new (rp text_84), .dat .new (rp other_88), .un, .un]) (vs := [9]) (ei_list (EvE.res (r' := f_law_bent text_84 draws_3) (ev_call2 (ev_var (i := 8) (m := .new) (x := text_84) rfl) (ev_var (i := 1) (m := .new) (x := draws_3) rfl)) (bsP (bsP rfl)))) (.cons .id (.cons .id (.cons .id (.cons .id (.cons .id (.cons .id (.cons .id (.cons .id (.cons .id (.cons .id (.cons .id (.cons .id .nil)))))))))))) (fun s87 other_88 => (eg_nameS (m1 := .new))) (fun s87 other_88 =>
 (ef_if (et_or (et_not (et_val (EvE.res (r' := f_law_piece_reads other_88) (ev_call1 (ev_var (i := 9) (m := .new) (x := other_88) rfl)) (bsP rfl)))) (et_not (et_val (EvE.res (r' := f_law_round_reads other_88) (ev_call1 (ev_var (i := 9) (m := .new) (x := other_88) rfl)) (bsP rfl)))))
 (EvR.FP (er_ret ev_bl))
 (ef_end (s := ()) (.cons .id (.cons .id (.cons .id (.cons .id (.cons .id (.cons .id (.cons .id (.cons .id (.cons .id (.cons .un (.cons .id (.cons .id .nil)))))))))))))))) (fun s93 =>
 (ef_end (s := ()) (.cons .id (.cons .id (.cons .id (.cons .id (.cons .id (.cons .id (.cons .id (.cons .id (.cons .un (.cons .id (.cons .id (.cons .id .nil)))))))))))))))))) (fun s96 =>
 (er_ifS (er_if (et_or (et_test (EvE.res (r' := ((((atI texts_37 (0 : Int)).bind f_parse_piece).bind Rz.val).bind fun v103 => reprD (rp v103)).bind fun v107 => (reprD (rp p4.1)).bind fun v108 => some (decide (v107 ≠ v108))) (ev_neS (EvE.res (r' := (((atI texts_37 (0 : Int)).bind f_parse_piece).bind Rz.val).bind fun v103 => reprD (rp v103)) (ev_reprB (EvE.B (ev_callX (ea_one (EvE.res (r' := atI texts_37 (0 : Int)) (ev_ix (EvE.B (ev_var (i := 5) (m := .new) (x := texts_37) rfl)) ev_int) (bsP (bsP rfl))))))) (bcP fun _ => rfl)) (EvE.res (r' := reprD (rp p4.1)) (ev_reprB (EvE.B (ev_var (i := 2) (m := .new) (x := p4.1) rfl))) (bsP rfl))) (bcP fun _ => (bcP fun _ => rfl)))) (et_test (EvE.res (r' := ((((atI texts_37 (1 : Int)).bind f_parse_round_set).bind Rz.val).bind fun v115 => reprD (rp v115)).bind fun v119 => (reprD (rp p4.2)).bind fun v120 => some (decide (v119 ≠ v120))) (ev_neS (EvE.res (r' := (((atI texts_37 (1 : Int)).bind f_parse_round_set).bind Rz.val).bind fun v115 => reprD (rp v115)) (ev_reprT (ev_callX (ea_one (EvE.res (r' := atI texts_37 (1 : Int)) (ev_ix (EvE.B (ev_var (i := 5) (m := .new) (x := texts_37) rfl)) ev_int) (bsP (bsP rfl))))) (fun x => ⟨_, rfl⟩)) (bcP fun _ => rfl)) (EvE.res (r' := reprD (rp p4.2)) (ev_reprT (ev_var (i := 3) (m := .new) (x := p4.2) rfl) (fun x => ⟨_, rfl⟩)) (bsP rfl))) (bcP fun _ => (bcP fun _ => rfl)))))
 (er_cut (er_ret ev_bl))
 (er_nx (er_ifS (er_if (et_and (et_test (EvE.res (r' := ((atI draws_3 (11 : Int)).bind fun v125 => some (v125 % 32)).bind fun v128 => some (decide (v128 = (5 : Int)))) (ev_eqI (EvE.res (r' := (atI draws_3 (11 : Int)).bind fun v125 => some (v125 % 32)) (ev_modC (EvE.res (r' := atI draws_3 (11 : Int)) (ev_ix (EvE.B (ev_var (i := 1) (m := .new) (x := draws_3) rfl)) ev_int) (bsP (bsP rfl)))) (bcP fun _ => rfl)) ev_int) (bcP fun _ => (bsP rfl)))) (et_not (et_val (EvE.res (r' := f_law_long draws_3) (ev_call1 (ev_var (i := 1) (m := .new) (x := draws_3) rfl)) (bsP rfl)))))
 (er_cut (er_ret ev_bl))
 (er_nx (er_ret (ev_andV (EvE.res (r' := (atI texts_37 (0 : Int)).bind fun v132 => f_law_piece_reads v132) (ev_call1 (EvE.res (r' := atI texts_37 (0 : Int)) (ev_ix (EvE.B (ev_var (i := 5) (m := .new) (x := texts_37) rfl)) ev_int) (bsP (bsP rfl)))) (bcP fun _ => rfl)) (EvE.res (r' := (atI texts_37 (1 : Int)).bind fun v135 => f_law_round_reads v135) (ev_call1 (EvE.res (r' := atI texts_37 (1 : Int)) (ev_ix (EvE.B (ev_var (i := 5) (m := .new) (x := texts_37) rfl)) ev_int) (bsP (bsP rfl)))) (bcP fun _ => rfl))))))))))))))))))))))))))))) (.cons .id (.cons .id (.cons .id (.cons .id (.cons .id (.cons .id (.cons .id (.cons .id (.cons .id (.cons .id (.cons .id (.cons .id .nil))))))))))))
end
theorem law_sp {K : PySem.W.Frag} {H : Hp} {a : Addr} {ns : List Int} (hp : f_law ⟨ns⟩ = some true) (hS : SqL K H a (ns.map V.int)) : sp1 K f_law .new [.ref a] H (fun v _ => v = .bl true) fun _ _ _ => False := by
  refine ⟨H, ⟨ns⟩, true, .refl _, .cons ?_ .nil, hp, fun u C' H' _ r => r.bl_⟩
  simp only [rp, Rp.rp, Rep]
  exact ⟨a, rfl, hS⟩
theorem law_fn {P : Program} {w : World} {K : PySem.W.Frag} {mg : Str → Option Value} {fa : Addr} {T : Tx P K mg} (h : mg "law" = some (.ref fa)) :
    ∃ fd : FuncData, (∀ (s : Shared) (u : Value), BindsTo s fd ⟨[u], []⟩ [("script", u)]) ∧ ∀ base : Heap, K.In base → base.Ns mainGlobals mg → FnOkG P w K mg base 7 fa fd ["script"] (sp1 K f_law .new) := by
  have e := h.symm.trans T.f_law.g
  cases e
  exact ⟨T.f_law.d, fun s u => T.f_law.b1 s u rfl, fun base _ _ => ok_law T⟩
/-! ### the end -/
end L2.DL.K89
open PySem PySem.Spec PyProof.Rows L2 L2.DL L2.DL.K89
theorem PySem.Challenge.cw_daysround_k89_texts_of_pieces_and_round_holds : PySem.Challenge.rw_daysround_k89_texts_of_pieces_and_round.Holds := by
  w_on; o_law; k_head; (case hw => w_witness2)
  k_fill
  refine walk_ofG (l := PySem.Challenge.rw_daysround_k89_texts_of_pieces_and_round) (n := 63) (k := 7) (x := "script") (sp := fun w => sp1 _ f_law .new) rfl (by decide) rfl ⟨rfl, by decide, by decide⟩ (fun w h Y => PySem.W.kIn_of Y) ?F (fun w H a ns hl _ hS => law_sp (plain_law ns hl) hS)
  case F =>
    intro w mg fa h KX G hmg
    refine' law_fn (T := {
      toTxC := mkC (PySem.W.mg_of KX G ?gc0) (PySem.W.mg_of KX G ?gc1) (PySem.W.mg_of KX G ?gc2) (PySem.W.mg_of KX G ?gc3) (own_mk KX G (cls_mk ?oxL3 ?orv3 ?osa3 ?oga3 ?ogg3 ?oiC3 ?otI3 ?okC3 ?oex3 ?ove3 ?oty3 ?ohd3 ?osup3 ?oown3 ?oany3 ?onsu3 (by decide +kernel)) ?oA3 ?onN3 ?ol13 ?oc13 ?olc3 ?ole3 ?ohv3 ?ohf3 ?ohp3 (by decide) (by decide) rfl rfl rfl ?ohb3) ⟨?fa3, ?fb3, ?fc3, ?fd3, ?fe3, ?ff3, ?fg3, ?fh3⟩ (PySem.W.exm_ref ?xa_InvalidText_InvalidText ?xb_InvalidText_InvalidText ?xc_InvalidText_InvalidText ?xd_InvalidText_InvalidText) ?kt_InvalidText_DayError ?kt_InvalidText_InvalidDeed ?kt_InvalidText_InvalidSign ?kt_InvalidText_ValueError,
      f_law_with := at_mk KX G ?a0 ?l0 ?c0 ?k0 (fun _ _ _ _ _ _ us hl => match us, hl with | [_, _, _], _ => rfl),
      f_law_bent := at_mk KX G ?a1 ?l1 ?c1 ?k1 (fun _ _ _ _ _ _ us hl => match us, hl with | [_, _], _ => rfl),
      f_law_draws := at_mk KX G ?a2 ?l2 ?c2 ?k2 (fun _ _ _ _ _ _ us hl => match us, hl with | [_, _], _ => rfl),
      f_law_is_number := at_mk KX G ?a3 ?l3 ?c3 ?k3 (fun _ _ _ _ _ _ us hl => match us, hl with | [_], _ => rfl),
      f_law_is_numeral := at_mk KX G ?a4 ?l4 ?c4 ?k4 (fun _ _ _ _ _ _ us hl => match us, hl with | [_], _ => rfl),
      f_law_read_piece := at_mk KX G ?a5 ?l5 ?c5 ?k5 (fun _ _ _ _ _ _ us hl => match us, hl with | [_], _ => rfl),
      f_is_digits := at_mk KX G ?a6 ?l6 ?c6 ?k6 (fun _ _ _ _ _ _ us hl => match us, hl with | [_], _ => rfl),
      f_is_numeral := at_mk KX G ?a7 ?l7 ?c7 ?k7 (fun _ _ _ _ _ _ us hl => match us, hl with | [_], _ => rfl),
      f_can_follow := at_mk KX G ?a8 ?l8 ?c8 ?k8 (fun _ _ _ _ _ _ us hl => match us, hl with | [_, _], _ => rfl),
      f_numbers_of := at_mk KX G ?a9 ?l9 ?c9 ?k9 (fun _ _ _ _ _ _ us hl => match us, hl with | [_], _ => rfl),
      f_parse_piece := at_mk KX G ?a10 ?l10 ?c10 ?k10 (fun _ _ _ _ _ _ us hl => match us, hl with | [_], _ => rfl),
      f_law_piece_reads := at_mk KX G ?a11 ?l11 ?c11 ?k11 (fun _ _ _ _ _ _ us hl => match us, hl with | [_], _ => rfl),
      f_law_read_round := at_mk KX G ?a12 ?l12 ?c12 ?k12 (fun _ _ _ _ _ _ us hl => match us, hl with | [_], _ => rfl),
      f_can_stand := at_mk KX G ?a13 ?l13 ?c13 ?k13 (fun _ _ _ _ _ _ us hl => match us, hl with | [_, _], _ => rfl),
      f_parse_round_set := at_mk KX G ?a14 ?l14 ?c14 ?k14 (fun _ _ _ _ _ _ us hl => match us, hl with | [_], _ => rfl),
      f_law_round_reads := at_mk KX G ?a15 ?l15 ?c15 ?k15 (fun _ _ _ _ _ _ us hl => match us, hl with | [_], _ => rfl),
      f_joined_numbers := at_mk KX G ?a16 ?l16 ?c16 ?k16 (fun _ _ _ _ _ _ us hl => match us, hl with | [_], _ => rfl),
      f_format_piece := at_mk KX G ?a17 ?l17 ?c17 ?k17 (fun _ _ _ _ _ _ us hl => match us, hl with | [_], _ => rfl),
      f_format_round_set := at_mk KX G ?a18 ?l18 ?c18 ?k18 (fun _ _ _ _ _ _ us hl => match us, hl with | [_], _ => rfl),
      f_law_long := at_mk KX G ?a19 ?l19 ?c19 ?k19 (fun _ _ _ _ _ _ us hl => match us, hl with | [_], _ => rfl),
      f_law_cell := at_mk KX G ?a20 ?l20 ?c20 ?k20 (fun _ _ _ _ _ _ us hl => match us, hl with | [_, _], _ => rfl),
      f_law_digits := at_mk KX G ?a21 ?l21 ?c21 ?k21 (fun _ _ _ _ _ _ us hl => match us, hl with | [_, _, _], _ => rfl),
      f_law_some_piece := at_mk KX G ?a22 ?l22 ?c22 ?k22 (fun _ _ _ _ _ _ us hl => match us, hl with | [_, _, _, _], _ => rfl),
      f_law_worlds := at_mk KX G ?a23 ?l23 ?c23 ?k23 (fun _ _ _ _ _ _ us hl => match us, hl with | [_], _ => rfl),
      f_law := at_mk KX G ?a24 ?l24 ?c24 ?k24 (fun _ _ _ _ _ _ us hl => match us, hl with | [_], _ => rfl),
      v_DIGITS := gs_mk KX G ?gv0,
      v_MOST_DIGITS := gi_mk KX G ?gv1,
      n_ValueError := PySem.W.mg_none_of KX G ?z0,
      n_abs := PySem.W.mg_none_of KX G ?z1,
      n_bool := PySem.W.mg_none_of KX G ?z2,
      n_int := PySem.W.mg_none_of KX G ?z3,
      n_isinstance := PySem.W.mg_none_of KX G ?z4,
      n_len := PySem.W.mg_none_of KX G ?z5,
      n_list := PySem.W.mg_none_of KX G ?z6,
      n_range := PySem.W.mg_none_of KX G ?z7,
      n_repr := PySem.W.mg_none_of KX G ?z8,
      n_set := PySem.W.mg_none_of KX G ?z9,
      n_sorted := PySem.W.mg_none_of KX G ?z10,
      n_str := PySem.W.mg_none_of KX G ?z11 }) hmg
    (case a0 => k_is); (case l0 => k_is); (case c0 => k_is); (case k0 => k_is); (case a1 => k_is); (case l1 => k_is); (case c1 => k_is); (case k1 => k_is); (case a2 => k_is); (case l2 => k_is); (case c2 => k_is); (case k2 => k_is); (case a3 => k_is); (case l3 => k_is); (case c3 => k_is); (case k3 => k_is); (case a4 => k_is); (case l4 => k_is); (case c4 => k_is); (case k4 => k_is); (case a5 => k_is); (case l5 => k_is); (case c5 => k_is); (case k5 => k_is); (case a6 => k_is); (case l6 => k_is); (case c6 => k_is); (case k6 => k_is); (case a7 => k_is); (case l7 => k_is); (case c7 => k_is); (case k7 => k_is); (case a8 => k_is); (case l8 => k_is); (case c8 => k_is); (case k8 => k_is); (case a9 => k_is); (case l9 => k_is); (case c9 => k_is); (case k9 => k_is); (case a10 => k_is); (case l10 => k_is); (case c10 => k_is); (case k10 => k_is); (case a11 => k_is); (case l11 => k_is); (case c11 => k_is); (case k11 => k_is); (case a12 => k_is); (case l12 => k_is); (case c12 => k_is); (case k12 => k_is); (case a13 => k_is); (case l13 => k_is); (case c13 => k_is); (case k13 => k_is); (case a14 => k_is); (case l14 => k_is); (case c14 => k_is); (case k14 => k_is); (case a15 => k_is); (case l15 => k_is); (case c15 => k_is); (case k15 => k_is); (case a16 => k_is); (case l16 => k_is); (case c16 => k_is); (case k16 => k_is); (case a17 => k_is); (case l17 => k_is); (case c17 => k_is); (case k17 => k_is); (case a18 => k_is); (case l18 => k_is); (case c18 => k_is); (case k18 => k_is); (case a19 => k_is); (case l19 => k_is); (case c19 => k_is); (case k19 => k_is); (case a20 => k_is); (case l20 => k_is); (case c20 => k_is); (case k20 => k_is); (case a21 => k_is); (case l21 => k_is); (case c21 => k_is); (case k21 => k_is); (case a22 => k_is); (case l22 => k_is); (case c22 => k_is); (case k22 => k_is); (case a23 => k_is); (case l23 => k_is); (case c23 => k_is); (case k23 => k_is); (case a24 => k_is); (case l24 => k_is); (case c24 => k_is); (case k24 => k_is); (case gv0 => k_is); (case gv1 => k_is); (case gc0 => k_is); (case gc1 => k_is); (case gc2 => k_is); (case gc3 => k_is); (case oA3 => k_is); (case oxL3 => k_is); (case osa3 => k_is); (case oga3 => k_is); (case ogg3 => k_is); (case oiC3 => k_is); (case otI3 => k_is); (case okC3 => k_is); (case oex3 => k_is); (case ove3 => k_is); (case oty3 => k_is); (case ohd3 => k_is); (case osup3 => ks_is); (case oown3 => k_is); (case oany3 => k_is); (case onsu3 => k_is); (case onN3 => k_is); (case ol13 => k_is); (case oc13 => k_is); (case olc3 => k_is); (case ole3 => k_is); (case orv3 => decide +kernel); (case ohv3 => rfl); (case ohf3 => decide +kernel); (case ohp3 => decide +kernel); (case ohb3 => intro dV kV doc pm an cd cc ct e1 e2 a b; subst e1 e2; rfl); (case fa3 => k_is); (case fb3 => k_is); (case fc3 => k_is); (case fd3 => k_is); (case fe3 => k_is); (case ff3 => k_is); (case fg3 => k_is); (case fh3 => k_is); (case xa_InvalidText_InvalidText => k_is); (case xb_InvalidText_InvalidText => k_is); (case xc_InvalidText_InvalidText => k_is); (case xd_InvalidText_InvalidText => k_is); (case kt_InvalidText_DayError => kit_is); (case kt_InvalidText_InvalidDeed => kit_is); (case kt_InvalidText_InvalidSign => kit_is); (case kt_InvalidText_ValueError => kit_is); (case z0 => k_is); (case z1 => k_is); (case z2 => k_is); (case z3 => k_is); (case z4 => k_is); (case z5 => k_is); (case z6 => k_is); (case z7 => k_is); (case z8 => k_is); (case z9 => k_is); (case z10 => k_is); (case z11 => k_is)
