import PyProof.Rows.All
import Wide.All
import OpenK.AllK
import Wide.FinOn
import HandS.ForMost
import HandS.Wide
import HandS.Flow
import HandS.IsInst
import HandS.TupLe
import HandS.Style
import HandS.SortInts
import PySem.Challenge.RW_daysround_k81_periods_of_words
set_option Elab.async false
set_option linter.all false
set_option maxRecDepth 100000
set_option maxHeartbeats 4000000
set_option autoImplicit false
/-! DL1: data over the hand layer: values as trees, ownership, readings by data. -/
namespace L2.DL
open PySem PySem.Spec PyProof.Rows

inductive Dt where
  | non | bl (b : Bool) | int (i : Int) | str (s : Str) | lst (l : List Dt) | tup (l : List Dt) | frz (l : List Int)

section
variable (K : PySem.W.Frag)
mutual
def Rep (H : Hp) : Dt → V → Prop
  | .non, v => v = .non
  | .bl b, v => v = .bl b
  | .int i, v => v = .int i
  | .str s, v => v = .str s
  | .lst l, v => ∃ a vs, v = .ref a ∧ H a = some (.lst vs) ∧ RepL H l vs
  | .tup l, v => ∃ a vs, v = .ref a ∧ H a = some (.tup vs) ∧ RepL H l vs
  | .frz l, v => ∃ a, v = .ref a ∧ SqL K H a (l.map V.int)
def RepL (H : Hp) : List Dt → List V → Prop
  | [], vs => vs = []
  | d :: ds, vs => ∃ v r, vs = v :: r ∧ Rep H d v ∧ RepL H ds r
end
end
section
variable {K : PySem.W.Frag} {H H' : Hp}
mutual
theorem Rep.mono (h : Same H H') : ∀ (d : Dt) (v : V), Rep K H d v → Rep K H' d v
  | .non, v, r => by simp only [Rep] at r ⊢; exact r
  | .bl _, v, r => by simp only [Rep] at r ⊢; exact r
  | .int _, v, r => by simp only [Rep] at r ⊢; exact r
  | .str _, v, r => by simp only [Rep] at r ⊢; exact r
  | .lst l, v, r => by
    simp only [Rep] at r ⊢
    obtain ⟨a, vs, e, e2, q⟩ := r
    exact ⟨a, vs, e, h _ _ e2, RepL.mono h l vs q⟩
  | .tup l, v, r => by
    simp only [Rep] at r ⊢
    obtain ⟨a, vs, e, e2, q⟩ := r
    exact ⟨a, vs, e, h _ _ e2, RepL.mono h l vs q⟩
  | .frz l, v, r => by
    simp only [Rep] at r ⊢
    obtain ⟨a, e, q⟩ := r
    exact ⟨a, e, h.seq q⟩
theorem RepL.mono (h : Same H H') : ∀ (ds : List Dt) (vs : List V), RepL K H ds vs → RepL K H' ds vs
  | [], vs, r => by simp only [RepL] at r ⊢; exact r
  | d :: ds, vs, r => by
    simp only [RepL] at r ⊢
    obtain ⟨v, q, e, r1, r2⟩ := r
    exact ⟨v, q, e, Rep.mono h d v r1, RepL.mono h ds q r2⟩
end
theorem RepL.nil : RepL K H [] [] := by simp only [RepL]
theorem RepL.nil_iff {vs : List V} (h : RepL K H [] vs) : vs = [] := by simp only [RepL] at h; exact h
theorem RepL.cons {d : Dt} {ds : List Dt} {v : V} {vs : List V} (h1 : Rep K H d v) (h2 : RepL K H ds vs) : RepL K H (d :: ds) (v :: vs) := by
  simp only [RepL]
  exact ⟨v, vs, rfl, h1, h2⟩
theorem RepL.uncons {d : Dt} {ds : List Dt} {vs : List V} (h : RepL K H (d :: ds) vs) : ∃ v r, vs = v :: r ∧ Rep K H d v ∧ RepL K H ds r := by
  simp only [RepL] at h
  exact h
theorem RepL.length : ∀ {ds : List Dt} {vs : List V}, RepL K H ds vs → vs.length = ds.length
  | [], vs, h => by rw [h.nil_iff]; rfl
  | d :: ds, vs, h => by
    obtain ⟨v, r, rfl, _, h2⟩ := h.uncons
    rw [List.length_cons, List.length_cons, h2.length]
theorem RepL.append : ∀ {ds es : List Dt} {vs us : List V}, RepL K H ds vs → RepL K H es us → RepL K H (ds ++ es) (vs ++ us)
  | [], es, vs, us, h, h' => by rw [h.nil_iff]; exact h'
  | d :: ds, es, vs, us, h, h' => by
    obtain ⟨v, r, rfl, h1, h2⟩ := h.uncons
    exact .cons h1 (h2.append h')
theorem RepL.get : ∀ {ds : List Dt} {vs : List V} {i : Nat} {d : Dt}, RepL K H ds vs → ds[i]? = some d → ∃ v, vs[i]? = some v ∧ Rep K H d v
  | [], vs, i, d, h, e => by simp at e
  | d :: ds, vs, 0, d', h, e => by
    obtain ⟨v, r, rfl, h1, h2⟩ := h.uncons
    simp at e
    subst e
    exact ⟨v, rfl, h1⟩
  | d :: ds, vs, i + 1, d', h, e => by
    obtain ⟨v, r, rfl, h1, h2⟩ := h.uncons
    obtain ⟨w, e1, e2⟩ := h2.get (i := i) (d := d') (by simpa using e)
    exact ⟨w, by simpa using e1, e2⟩
theorem RepL.at : ∀ {ds : List Dt} {vs : List V} {i : Nat} {v : V}, RepL K H ds vs → vs[i]? = some v → ∃ d, ds[i]? = some d ∧ Rep K H d v
  | [], vs, i, v, h, e => by rw [h.nil_iff] at e; simp at e
  | d :: ds, vs, 0, v', h, e => by
    obtain ⟨v, r, rfl, h1, h2⟩ := h.uncons
    simp at e
    subst e
    exact ⟨d, rfl, h1⟩
  | d :: ds, vs, i + 1, v', h, e => by
    obtain ⟨v, r, rfl, h1, h2⟩ := h.uncons
    obtain ⟨w, e1, e2⟩ := h2.at (i := i) (v := v') (by simpa using e)
    exact ⟨w, by simpa using e1, e2⟩
theorem RepL.take : ∀ {ds : List Dt} {vs : List V} (n : Nat), RepL K H ds vs → RepL K H (ds.take n) (vs.take n)
  | ds, vs, 0, h => .nil
  | [], vs, n + 1, h => by rw [h.nil_iff]; exact .nil
  | d :: ds, vs, n + 1, h => by
    obtain ⟨v, r, rfl, h1, h2⟩ := h.uncons
    exact .cons h1 (h2.take n)
theorem RepL.drop : ∀ {ds : List Dt} {vs : List V} (n : Nat), RepL K H ds vs → RepL K H (ds.drop n) (vs.drop n)
  | ds, vs, 0, h => h
  | [], vs, n + 1, h => by rw [h.nil_iff]; exact .nil
  | d :: ds, vs, n + 1, h => by
    obtain ⟨v, r, rfl, h1, h2⟩ := h.uncons
    exact h2.drop n
theorem RepL.set : ∀ {ds : List Dt} {vs : List V} {d : Dt} {v : V} (n : Nat), RepL K H ds vs → Rep K H d v → RepL K H (ds.set n d) (vs.set n v)
  | [], vs, d, v, n, h, h' => by rw [h.nil_iff]; exact .nil
  | e :: ds, vs, d, v, 0, h, h' => by
    obtain ⟨v', r, rfl, h1, h2⟩ := h.uncons
    exact .cons h' h2
  | e :: ds, vs, d, v, n + 1, h, h' => by
    obtain ⟨v', r, rfl, h1, h2⟩ := h.uncons
    exact .cons h1 (h2.set n h')
theorem RepL.reverse : ∀ {ds : List Dt} {vs : List V}, RepL K H ds vs → RepL K H ds.reverse vs.reverse
  | [], vs, h => by rw [h.nil_iff]; exact .nil
  | d :: ds, vs, h => by
    obtain ⟨v, r, rfl, h1, h2⟩ := h.uncons
    rw [List.reverse_cons, List.reverse_cons]
    exact h2.reverse.append (.cons h1 .nil)
theorem RepL.rep {ds : List Dt} {vs : List V} (h : RepL K H ds vs) : ∀ n : Nat, RepL K H (List.replicate n ds).flatten (List.replicate n vs).flatten
  | 0 => .nil
  | n + 1 => by
    rw [List.replicate_succ, List.replicate_succ, List.flatten_cons, List.flatten_cons]
    exact h.append (h.rep n)
theorem RepL.dropLast {ds : List Dt} {vs : List V} (h : RepL K H ds vs) : RepL K H ds.dropLast vs.dropLast := by
  rw [List.dropLast_eq_take, List.dropLast_eq_take, h.length]
  exact h.take _
end

/-! ### heaps -/
/-- from the clean part C of the heap H on: nothing that was tracked is changed, what comes into the clean part is new -/
structure Ext (C H C' H' : Hp) : Prop where
  c : Same C C'
  h : Same H H'
  s : Same C' H'
  f : ∀ a, H a ≠ none → C a = none → C' a = none
theorem Ext.refl {C H : Hp} (s : Same C H) : Ext C H C H := ⟨.refl _, .refl _, s, fun _ _ e => e⟩
theorem some_of {H : Hp} {a : Addr} (h : H a ≠ none) : ∃ o, H a = some o := by
  cases e : H a with
  | none => exact absurd e h
  | some o => exact ⟨o, rfl⟩
theorem Same.ne {H H' : Hp} (h : Same H H') {a : Addr} (e : H a ≠ none) : H' a ≠ none := by
  obtain ⟨o, q⟩ := some_of e
  rw [h _ _ q]
  simp
theorem Ext.trans {C H C1 H1 C2 H2 : Hp} (x : Ext C H C1 H1) (y : Ext C1 H1 C2 H2) : Ext C H C2 H2 :=
  ⟨x.c.trans y.c, x.h.trans y.h, y.s, fun a e n => y.f a (Same.ne x.h e) (x.f a e n)⟩
/-- which part of the clean heap a datum stands in: anywhere, or in what is new since the entry -/
inductive Md | new | old
def part (m : Md) (Ht C : Hp) : Hp := match m with
  | .old => C
  | .new => fun a => if (Ht a).isNone = true then C a else none
theorem part_mono {m : Md} {Ht C C' : Hp} (h : Same C C') : Same (part m Ht C) (part m Ht C') := by
  cases m with
  | old => exact h
  | new =>
    intro a o e
    simp only [part] at e ⊢
    split at e
    · rename_i q
      rw [if_pos q]
      exact h _ _ e
    · cases e
theorem part_le {m : Md} {Ht C : Hp} : Same (part m Ht C) C := by
  cases m with
  | old => exact .refl _
  | new =>
    intro a o e
    simp only [part] at e
    split at e
    · exact e
    · cases e
theorem part_new {m : Md} {Ht C : Hp} : Same (part .new Ht C) (part m Ht C) := by
  cases m with
  | old => exact part_le
  | new => exact .refl _
theorem part_at {m : Md} {Ht C : Hp} {a : Addr} {o : HO} (h : C a = some o) (n : Ht a = none) : part m Ht C a = some o := by
  cases m with
  | old => exact h
  | new => simp only [part, n, Option.isNone_none, if_true]; exact h
theorem same_upd {H : Hp} {p : Addr} {o : HO} (h : H p = none) : Same H (upd H p o) := fun b x e => by
  rw [upd_ne (ne_of_none e h)]
  exact e
theorem free_of {H H' : Hp} (h : Same H H') {a : Addr} (e : H' a = none) : H a = none := Same.free h e

/-! ### what the slots hold -/
inductive Slot where
  /-- nothing is known -/
  | un
  /-- a datum -/
  | dat (m : Md) (d : Dt)
  /-- a list that nobody else holds; its items are data -/
  | own (m : Md) (l : List Dt)
abbrev En := List Slot
section
variable (K : PySem.W.Frag)
def SlotOk (Ht C H : Hp) (o : Option (Option V)) : Slot → Prop
  | .un => True
  | .dat m d => ∃ v, o = some (some v) ∧ Rep K (part m Ht C) d v
  | .own m l => ∃ a vs, o = some (some (.ref a)) ∧ Ht a = none ∧ C a = none ∧ H a = some (.lst vs) ∧ RepL K (part m Ht C) l vs
structure EnvI (Ht C0 C H : Hp) (σ : St) (ρ : En) : Prop where
  ext : Ext C0 Ht C H
  len : σ.length = ρ.length
  ok : ∀ (i : Nat) (s : Slot), ρ[i]? = some s → SlotOk K Ht C H σ[i]? s
  sep : ∀ (i j : Nat) (a : Addr) (mi : Md) (li : List Dt) (mj : Md) (lj : List Dt), i ≠ j → ρ[i]? = some (.own mi li) → ρ[j]? = some (.own mj lj) → σ[i]? = some (some (.ref a)) → σ[j]? ≠ some (some (.ref a))
end
section
variable {K : PySem.W.Frag} {Ht C0 C H C' H' : Hp} {σ : St} {ρ : En}
theorem SlotOk.ext {o : Option (Option V)} {s : Slot} (x : Ext C H C' H') (h : SlotOk K Ht C H o s) : SlotOk K Ht C' H' o s := by
  cases s with
  | un => trivial
  | dat m d =>
    obtain ⟨v, e, r⟩ := h
    exact ⟨v, e, r.mono (part_mono x.c)⟩
  | own m l =>
    obtain ⟨a, vs, e, h1, h2, h3, r⟩ := h
    exact ⟨a, vs, e, h1, x.f a (by rw [h3]; simp) h2, x.h _ _ h3, r.mono (part_mono x.c)⟩
theorem EnvI.to (I : EnvI K Ht C0 C H σ ρ) (x : Ext C H C' H') : EnvI K Ht C0 C' H' σ ρ :=
  ⟨I.ext.trans x, I.len, fun i s e => (I.ok i s e).ext x, I.sep⟩
theorem EnvI.sub (I : EnvI K Ht C0 C H σ ρ) : Same C H := I.ext.s
theorem EnvI.same (I : EnvI K Ht C0 C H σ ρ) : Ext C H C H := .refl I.sub
theorem get_set {α : Type} {l : List α} {i j : Nat} {x y : α} (h : (l.set i x)[j]? = some y) : (j = i ∧ y = x) ∨ (j ≠ i ∧ l[j]? = some y) := by
  by_cases e : i = j
  · subst e
    by_cases q : i < l.length
    · rw [List.getElem?_set_self q] at h
      exact .inl ⟨Eq.refl _, (Option.some.inj h).symm⟩
    · rw [List.getElem?_eq_none (by rw [List.length_set]; omega)] at h
      cases h
  · rw [List.getElem?_set_ne e] at h
    exact .inr ⟨fun q => e q.symm, h⟩
/-- a slot is stored: a datum -/
theorem EnvI.set (I : EnvI K Ht C0 C H σ ρ) {i : Nat} {m : Md} {d : Dt} {v : V} (r : Rep K (part m Ht C) d v) : EnvI K Ht C0 C H (σ.set i (some v)) (ρ.set i (.dat m d)) := by
  refine ⟨I.ext, by rw [List.length_set, List.length_set]; exact I.len, fun j s e => ?_, fun j k a mi li mj lj n e1 e2 e3 e4 => ?_⟩
  · rcases get_set e with ⟨rfl, rfl⟩ | ⟨n, e⟩
    · have hj : j < ρ.length := by
        have := (List.getElem?_eq_some_iff.mp e).1
        rwa [List.length_set] at this
      refine ⟨v, ?_, r⟩
      rw [List.getElem?_set_self (by rw [I.len]; exact hj)]
    · rw [List.getElem?_set_ne (Ne.symm n)]
      exact I.ok j s e
  · rcases get_set e1 with ⟨_, q⟩ | ⟨n1, e1⟩
    · cases q
    · rcases get_set e2 with ⟨_, q⟩ | ⟨n2, e2⟩
      · cases q
      · rw [List.getElem?_set_ne (Ne.symm n1)] at e3
        rw [List.getElem?_set_ne (Ne.symm n2)] at e4
        exact I.sep j k a mi li mj lj n e1 e2 e3 e4
/-- a new list is stored, owned -/
theorem EnvI.setOwn (I : EnvI K Ht C0 C H σ ρ) {i : Nat} {m : Md} {l : List Dt} {a : Addr} {vs : List V} (hn : Ht a = none) (hc : C a = none) (ha : H a = some (.lst vs)) (r : RepL K (part m Ht C) l vs)
    (hs : ∀ (j : Nat) mj lj, j ≠ i → ρ[j]? = some (.own mj lj) → σ[j]? ≠ some (some (.ref a))) : EnvI K Ht C0 C H (σ.set i (some (.ref a))) (ρ.set i (.own m l)) := by
  refine ⟨I.ext, by rw [List.length_set, List.length_set]; exact I.len, fun j s e => ?_, fun j k b mi li mj lj n e1 e2 e3 e4 => ?_⟩
  · rcases get_set e with ⟨rfl, rfl⟩ | ⟨n, e⟩
    · have hj : j < ρ.length := by
        have := (List.getElem?_eq_some_iff.mp e).1
        rwa [List.length_set] at this
      refine ⟨a, vs, ?_, hn, hc, ha, r⟩
      rw [List.getElem?_set_self (by rw [I.len]; exact hj)]
    · rw [List.getElem?_set_ne (Ne.symm n)]
      exact I.ok j s e
  · rcases get_set e1 with ⟨rfl, q⟩ | ⟨n1, f1⟩
    · rcases get_set e2 with ⟨rfl, _⟩ | ⟨n2, e2⟩
      · exact n (Eq.refl _)
      · have hj : j < σ.length := by
          have := (List.getElem?_eq_some_iff.mp e3).1
          rwa [List.length_set] at this
        rw [List.getElem?_set_self hj] at e3
        cases e3
        rw [List.getElem?_set_ne (Ne.symm n2)] at e4
        exact hs k mj lj n2 e2 e4
    · rw [List.getElem?_set_ne (Ne.symm n1)] at e3
      rcases get_set e2 with ⟨rfl, q⟩ | ⟨n2, e2⟩
      · have hk : k < σ.length := by
          have := (List.getElem?_eq_some_iff.mp e4).1
          rwa [List.length_set] at this
        rw [List.getElem?_set_self hk] at e4
        cases e4
        exact hs j mi li n1 f1 e3
      · rw [List.getElem?_set_ne (Ne.symm n2)] at e4
        exact I.sep j k b mi li mj lj n f1 e2 e3 e4
/-- slots forgotten -/
theorem EnvI.forget (I : EnvI K Ht C0 C H σ ρ) {σ' : St} {ρ' : En} (hl : σ'.length = ρ'.length) (h : ∀ (i : Nat) (s : Slot), ρ'[i]? = some s → s = .un ∨ (ρ[i]? = some s ∧ σ'[i]? = σ[i]?)) : EnvI K Ht C0 C H σ' ρ' := by
  refine ⟨I.ext, hl, fun i s e => ?_, fun i j a mi li mj lj n e1 e2 e3 e4 => ?_⟩
  · rcases h i s e with rfl | ⟨e', q⟩
    · trivial
    · rw [q]
      exact I.ok i s e'
  · rcases h i _ e1 with q | ⟨e1', q1⟩
    · cases q
    · rcases h j _ e2 with q | ⟨e2', q2⟩
      · cases q
      · exact I.sep i j a mi li mj lj n e1' e2' (q1 ▸ e3) (q2 ▸ e4)
/-- a list owned becomes a datum -/
theorem EnvI.freeze (I : EnvI K Ht C0 C H σ ρ) {i : Nat} {m : Md} {l : List Dt} (hi : ρ[i]? = some (.own m l)) : ∃ C', EnvI K Ht C0 C' H σ (ρ.set i (.dat m (.lst l))) ∧ Same C C' := by
  obtain ⟨a, vs, e, hn, hc, ha, r⟩ := I.ok i _ hi
  have sc : Same C (upd C a (.lst vs)) := same_upd hc
  have hil : i < ρ.length := (List.getElem?_eq_some_iff.mp hi).1
  refine ⟨upd C a (.lst vs), ⟨⟨I.ext.c.trans sc, I.ext.h, fun b o q => ?_, fun b h1 h2 => ?_⟩, by rw [List.length_set]; exact I.len, fun j s q => ?_, fun j k b mi li mj lj n e1 e2 e3 e4 => ?_⟩, sc⟩
  · by_cases hb : b = a
    · subst hb
      rw [upd_same] at q
      cases q
      exact ha
    · rw [upd_ne hb] at q
      exact I.sub _ _ q
  · have nb : b ≠ a := fun z => by rw [z] at h1; exact h1 hn
    rw [upd_ne nb]
    exact I.ext.f b h1 h2
  · rcases get_set q with ⟨rfl, rfl⟩ | ⟨n, q⟩
    · refine ⟨.ref a, e, ?_⟩
      simp only [Rep]
      exact ⟨a, vs, Eq.refl _, part_at upd_same hn, r.mono (part_mono sc)⟩
    · have hs := I.ok j s q
      cases s with
      | un => trivial
      | dat m' d' =>
        obtain ⟨v, e1, r1⟩ := hs
        exact ⟨v, e1, r1.mono (part_mono sc)⟩
      | own m' l' =>
        obtain ⟨b, us, e1, h1, h2, h3, r1⟩ := hs
        refine ⟨b, us, e1, h1, ?_, h3, r1.mono (part_mono sc)⟩
        have nb : b ≠ a := fun z => I.sep i j a m l m' l' (Ne.symm n) hi q e (z ▸ e1)
        rw [upd_ne nb]
        exact h2
  · rcases get_set e1 with ⟨_, q⟩ | ⟨n1, e1⟩
    · cases q
    · rcases get_set e2 with ⟨_, q⟩ | ⟨n2, e2⟩
      · cases q
      · exact I.sep j k b mi li mj lj n e1 e2 e3 e4
/-- a list owned is changed -/
theorem EnvI.write (I : EnvI K Ht C0 C H σ ρ) {i : Nat} {m : Md} {l l' : List Dt} {a : Addr} {vs : List V} (hi : ρ[i]? = some (.own m l)) (ha : σ[i]? = some (some (.ref a))) (r : RepL K (part m Ht C) l' vs) :
    EnvI K Ht C0 C (upd H a (.lst vs)) σ (ρ.set i (.own m l')) := by
  obtain ⟨a', us, e, hn, hc, ha', _⟩ := I.ok i _ hi
  rw [ha] at e
  cases e
  refine ⟨⟨I.ext.c, fun b o q => ?_, fun b o q => ?_, I.ext.f⟩, by rw [List.length_set]; exact I.len, fun j s q => ?_, fun j k b mi li mj lj n e1 e2 e3 e4 => ?_⟩
  · rw [upd_ne (ne_of_none q hn)]
    exact I.ext.h _ _ q
  · rw [upd_ne (ne_of_none q hc)]
    exact I.ext.s _ _ q
  · rcases get_set q with ⟨rfl, rfl⟩ | ⟨n, q⟩
    · exact ⟨a, vs, ha, hn, hc, upd_same, r⟩
    · have hs := I.ok j s q
      cases s with
      | un => trivial
      | dat m' d' => exact hs
      | own m' l2 =>
        obtain ⟨b, us', e1, h1, h2, h3, r1⟩ := hs
        refine ⟨b, us', e1, h1, h2, ?_, r1⟩
        have nb : b ≠ a := fun z => I.sep i j a m l m' l2 (Ne.symm n) hi q ha (z ▸ e1)
        rw [upd_ne nb]
        exact h3
  · rcases get_set e1 with ⟨rfl, q⟩ | ⟨n1, f1⟩
    · cases q
      rcases get_set e2 with ⟨rfl, _⟩ | ⟨n2, e2⟩
      · exact absurd (Eq.refl _) n
      · exact I.sep j k b m l mj lj n hi e2 e3 e4
    · rcases get_set e2 with ⟨rfl, q⟩ | ⟨n2, e2⟩
      · cases q
        exact I.sep j k b mi li m l n f1 hi e3 e4
      · exact I.sep j k b mi li mj lj n f1 e2 e3 e4
end
end L2.DL

/-! DL2: typed data, the judgements of expressions. -/
namespace L2.DL
open PySem PySem.Spec PyProof.Rows

/-! ### typed data -/
class Rp (α : Type) where
  rp : α → Dt
abbrev rp {α : Type} [Rp α] (x : α) : Dt := Rp.rp x
instance : Rp Dt := ⟨fun d => d⟩
instance : Rp Int := ⟨.int⟩
instance : Rp Bool := ⟨.bl⟩
instance : Rp Str := ⟨.str⟩
instance : Rp Unit := ⟨fun _ => .non⟩
instance {α : Type} [Rp α] : Rp (List α) := ⟨fun l => .lst (l.map rp)⟩
instance {α β : Type} [Rp α] [Rp β] : Rp (α × β) := ⟨fun p => .tup [rp p.1, rp p.2]⟩
instance {α : Type} [Rp α] : Rp (Option α) := ⟨fun o => match o with | none => .non | some x => rp x⟩
instance {α β : Type} [Rp α] [Rp β] : Rp (α ⊕ β) := ⟨fun o => match o with | .inl x => rp x | .inr x => rp x⟩
structure T3 (α β γ : Type) where
  mk ::
  p : α
  q : β
  r : γ
  deriving DecidableEq
structure T4 (α β γ δ : Type) where
  mk ::
  p : α
  q : β
  r : γ
  s : δ
  deriving DecidableEq
structure TupL (α : Type) where
  mk ::
  l : List α
  deriving DecidableEq
structure Scr where
  mk ::
  l : List Int
instance {α β γ : Type} [Rp α] [Rp β] [Rp γ] : Rp (T3 α β γ) := ⟨fun t => .tup [rp t.p, rp t.q, rp t.r]⟩
instance {α β γ δ : Type} [Rp α] [Rp β] [Rp γ] [Rp δ] : Rp (T4 α β γ δ) := ⟨fun t => .tup [rp t.p, rp t.q, rp t.r, rp t.s]⟩
instance {α : Type} [Rp α] : Rp (TupL α) := ⟨fun t => .tup (t.l.map rp)⟩
instance : Rp Scr := ⟨fun s => .frz s.l⟩
abbrev rps {α : Type} [Rp α] (l : List α) : List Dt := l.map rp

class Scal (α : Type) [Rp α] : Prop where
  ok : ∀ (K : PySem.W.Frag) (H H' : Hp) (x : α) (v : V), Rep K H (rp x) v → Rep K H' (rp x) v
instance : Scal Int := ⟨fun K H H' x v h => by simp only [rp, Rp.rp, Rep] at h ⊢; exact h⟩
instance : Scal Bool := ⟨fun K H H' x v h => by simp only [rp, Rp.rp, Rep] at h ⊢; exact h⟩
instance : Scal Str := ⟨fun K H H' x v h => by simp only [rp, Rp.rp, Rep] at h ⊢; exact h⟩
instance : Scal Unit := ⟨fun K H H' x v h => by simp only [rp, Rp.rp, Rep] at h ⊢; exact h⟩
instance {α : Type} [Rp α] [Scal α] : Scal (Option α) := ⟨fun K H H' x v h => by
  cases x with
  | none => simp only [rp, Rp.rp, Rep] at h ⊢; exact h
  | some x => exact Scal.ok (α := α) K H H' x v h⟩
instance {α β : Type} [Rp α] [Rp β] [Scal α] [Scal β] : Scal (α ⊕ β) := ⟨fun K H H' x v h => by
  cases x with
  | inl x => exact Scal.ok (α := α) K H H' x v h
  | inr x => exact Scal.ok (α := β) K H H' x v h⟩
theorem RepL.scal {α : Type} [Rp α] [Scal α] {K : PySem.W.Frag} {H H' : Hp} : ∀ {xs : List α} {vs : List V}, RepL K H (rps xs) vs → RepL K H' (rps xs) vs
  | [], vs, h => by rw [h.nil_iff]; exact .nil
  | x :: xs, vs, h => by
    obtain ⟨v, r, rfl, h1, h2⟩ := h.uncons
    exact .cons (Scal.ok K H H' x v h1) h2.scal

section
variable (K : PySem.W.Frag)
/-- an expression gives a datum -/
def EvE {α : Type} [Rp α] (t : TE) (ρ : En) (m : Md) (r : Option α) : Prop :=
  ∀ (Ht C0 C H : Hp) (σ : St), EnvI K Ht C0 C H σ ρ → ∀ x, r = some x → ∀ Q : VK, (∀ v C' H', Ext C H C' H' → Rep K (part m Ht C') (rp x) v → Q v H') → t σ H Q
/-- .. a new list that nobody holds -/
def EvL {α : Type} [Rp α] (t : TE) (ρ : En) (m : Md) (r : Option (List α)) : Prop :=
  ∀ (Ht C0 C H : Hp) (σ : St), EnvI K Ht C0 C H σ ρ → ∀ xs, r = some xs → ∀ Q : VK,
    (∀ a vs C' H', Ext C H C' H' → H a = none → C' a = none → H' a = some (.lst vs) → RepL K (part m Ht C') (rps xs) vs → Q (.ref a) H') → t σ H Q
/-- .. a list that may be read -/
def EvB {α : Type} [Rp α] (t : TE) (ρ : En) (m : Md) (r : Option (List α)) : Prop :=
  ∀ (Ht C0 C H : Hp) (σ : St), EnvI K Ht C0 C H σ ρ → ∀ xs, r = some xs → ∀ Q : VK,
    (∀ a vs C' H', Ext C H C' H' → H' a = some (.lst vs) → RepL K (part m Ht C') (rps xs) vs → Q (.ref a) H') → t σ H Q
/-- a test -/
def EvT (t : TT) (ρ : En) (r : Option Bool) : Prop :=
  ∀ (Ht C0 C H : Hp) (σ : St), EnvI K Ht C0 C H σ ρ → ∀ b, r = some b → ∀ Q : Bool → Hp → Prop, (∀ C' H', Ext C H C' H' → Q b H') → t σ H Q
/-- arguments -/
def EvA {A : Type} (ds : A → List Dt) (t : TA) (ρ : En) (r : Option A) : Prop :=
  ∀ (Ht C0 C H : Hp) (σ : St), EnvI K Ht C0 C H σ ρ → ∀ x, r = some x → ∀ Q : List V → Hp → Prop, (∀ vs C' H', Ext C H C' H' → RepL K C' (ds x) vs → Q vs H') → t σ H Q
/-- a part of a slice -/
def EvO (t : TO) (ρ : En) (r : Option (Option Int)) : Prop :=
  ∀ (Ht C0 C H : Hp) (σ : St), EnvI K Ht C0 C H σ ρ → ∀ x, r = some x → ∀ Q : Option Int → Hp → Prop, (∀ C' H', Ext C H C' H' → Q x H') → t σ H Q
end
section
variable {K : PySem.W.Frag} {t ta tb : TE} {ρ : En} {m m1 m2 : Md}
variable {α β γ : Type} [Rp α] [Rp β] [Rp γ]
theorem some_bind {A B : Type} {r : Option A} {f : A → Option B} {y : B} (h : r.bind f = some y) : ∃ x, r = some x ∧ f x = some y := Option.bind_eq_some_iff.mp h
theorem some_map {A B : Type} {r : Option A} {f : A → B} {y : B} (h : r.map f = some y) : ∃ x, r = some x ∧ f x = y := Option.map_eq_some_iff.mp h
theorem EvE.B {r : Option (List α)} (h : EvE K t ρ m r) : EvB K t ρ m r := fun Ht C0 C H σ I xs e Q q => by
  refine h Ht C0 C H σ I xs e Q fun v C' H' x rv => ?_
  simp only [rp, Rp.rp, Rep] at rv
  obtain ⟨a, vs, rfl, h1, h2⟩ := rv
  exact q a vs C' H' x (x.s _ _ (part_le _ _ h1)) h2
theorem EvL.B {r : Option (List α)} (h : EvL K t ρ m r) : EvB K t ρ m r := fun Ht C0 C H σ I xs e Q q =>
  h Ht C0 C H σ I xs e Q fun a vs C' H' x _ _ h2 h3 => q a vs C' H' x h2 h3
theorem EvL.E {r : Option (List α)} (h : EvL K t ρ m r) : EvE K t ρ m r := fun Ht C0 C H σ I xs e Q q => by
  refine h Ht C0 C H σ I xs e Q fun a vs C' H' x hn hc ha rv => ?_
  have sc : Same C' (upd C' a (.lst vs)) := same_upd hc
  refine q (.ref a) (upd C' a (.lst vs)) H' ⟨x.c.trans sc, x.h, fun b o e => ?_, fun b h1 h2 => ?_⟩ ?_
  · by_cases hb : b = a
    · subst hb
      rw [upd_same] at e
      cases e
      exact ha
    · rw [upd_ne hb] at e
      exact x.s _ _ e
  · have nb : b ≠ a := fun z => by rw [z] at h1; exact h1 hn
    rw [upd_ne nb]
    exact x.f b h1 h2
  · simp only [rp, Rp.rp, Rep]
    exact ⟨a, vs, rfl, part_at upd_same (free_of I.ext.h hn), rv.mono (part_mono sc)⟩
/-- from anywhere -/
theorem EvE.old {r : Option α} (h : EvE K t ρ m r) : EvE K t ρ .old r := fun Ht C0 C H σ I x e Q q =>
  h Ht C0 C H σ I x e Q fun v C' H' y rv => q v C' H' y (rv.mono part_le)
theorem EvL.old {r : Option (List α)} (h : EvL K t ρ m r) : EvL K t ρ .old r := fun Ht C0 C H σ I x e Q q =>
  h Ht C0 C H σ I x e Q fun a vs C' H' y hn hc ha rv => q a vs C' H' y hn hc ha (rv.mono part_le)
theorem EvB.old {r : Option (List α)} (h : EvB K t ρ m r) : EvB K t ρ .old r := fun Ht C0 C H σ I x e Q q =>
  h Ht C0 C H σ I x e Q fun a vs C' H' y ha rv => q a vs C' H' y ha (rv.mono part_le)
theorem EvE.sc [Scal α] {r : Option α} (h : EvE K t ρ m r) : EvE K t ρ m1 r := fun Ht C0 C H σ I x e Q q =>
  h Ht C0 C H σ I x e Q fun v C' H' y rv => q v C' H' y (Scal.ok K _ _ x v rv)
theorem EvL.sc [Scal α] {r : Option (List α)} (h : EvL K t ρ m r) : EvL K t ρ m1 r := fun Ht C0 C H σ I x e Q q =>
  h Ht C0 C H σ I x e Q fun a vs C' H' y hn hc ha rv => q a vs C' H' y hn hc ha rv.scal
theorem EvB.sc [Scal α] {r : Option (List α)} (h : EvB K t ρ m r) : EvB K t ρ m1 r := fun Ht C0 C H σ I x e Q q =>
  h Ht C0 C H σ I x e Q fun a vs C' H' y ha rv => q a vs C' H' y ha rv.scal
/-- the same datum under another type -/
theorem EvE.cast {r : Option α} (f : α → β) (h : EvE K t ρ m r) (e : ∀ x, rp (f x) = rp x := by intro _; rfl) : EvE K t ρ m (r.map f) := fun Ht C0 C H σ I x e' Q q => by
  obtain ⟨y, ey, rfl⟩ := some_map e'
  refine h Ht C0 C H σ I y ey Q fun v C' H' z rv => q v C' H' z ?_
  rw [e y]
  exact rv
theorem EvE.res {r r' : Option α} (h : EvE K t ρ m r) (e : r' = r) : EvE K t ρ m r' := e ▸ h
theorem EvL.res {r r' : Option (List α)} (h : EvL K t ρ m r) (e : r' = r) : EvL K t ρ m r' := e ▸ h
theorem EvB.res {r r' : Option (List α)} (h : EvB K t ρ m r) (e : r' = r) : EvB K t ρ m r' := e ▸ h

/-! ### names, constants -/
theorem ev_var {i : Nat} {x : α} (h : ρ[i]? = some (.dat m (rp x)) := by rfl) : EvE K (tVar i) ρ m (some x) := fun Ht C0 C H σ I y e Q q => by
  cases e
  obtain ⟨v, e1, r⟩ := I.ok i _ h
  exact ⟨v, e1, q v C H I.same r⟩
theorem ev_own {i : Nat} {xs : List α} (h : ρ[i]? = some (.own m (rps xs)) := by rfl) : EvB K (tVar i) ρ m (some xs) := fun Ht C0 C H σ I y e Q q => by
  cases e
  obtain ⟨a, vs, e1, _, _, h3, r⟩ := I.ok i _ h
  exact ⟨.ref a, e1, q a vs C H I.same h3 r⟩
theorem ev_c {v : V} {x : α} (h : ∀ H, Rep K H (rp x) v) : EvE K (tC v) ρ m (some x) := fun Ht C0 C H σ I y e Q q => by
  cases e
  exact q v C H I.same (h _)
theorem ev_int {i : Int} : EvE K (tC (.int i)) ρ .new (some i) := ev_c fun H => by simp only [rp, Rp.rp, Rep]
theorem ev_bl {b : Bool} : EvE K (tC (.bl b)) ρ .new (some b) := ev_c fun H => by simp only [rp, Rp.rp, Rep]
theorem ev_str {s : Str} : EvE K (tC (.str s)) ρ .new (some s) := ev_c fun H => by simp only [rp, Rp.rp, Rep]
theorem ev_non {A : Type} [Rp A] : EvE K (tC .non) ρ .new (some (none : Option A)) := ev_c fun H => by simp only [rp, Rp.rp, Rep]
theorem ev_nonD : EvE K (tC .non) ρ .new (some Dt.non) := ev_c fun H => by simp only [rp, Rp.rp, Rep]

/-! ### ints -/
theorem Rep.int_ {H : Hp} {i : Int} {v : V} (h : Rep K H (rp i) v) : v = .int i := by simp only [rp, Rp.rp, Rep] at h; exact h
theorem Rep.bl_ {H : Hp} {i : Bool} {v : V} (h : Rep K H (rp i) v) : v = .bl i := by simp only [rp, Rp.rp, Rep] at h; exact h
theorem Rep.str_ {H : Hp} {i : Str} {v : V} (h : Rep K H (rp i) v) : v = .str i := by simp only [rp, Rp.rp, Rep] at h; exact h
theorem Rep.ofInt {H : Hp} {i : Int} : Rep K H (rp i) (.int i) := by simp only [rp, Rp.rp, Rep]
theorem Rep.ofBl {H : Hp} {i : Bool} : Rep K H (rp i) (.bl i) := by simp only [rp, Rp.rp, Rep]
theorem Rep.ofStr {H : Hp} {i : Str} : Rep K H (rp i) (.str i) := by simp only [rp, Rp.rp, Rep]
/-- two values in a row -/
theorem ev_two {r : R2} {ra : Option α} {rb : Option β} {f : α → β → Option γ} (ha : EvE K ta ρ m1 ra) (hb : EvE K tb ρ m2 rb)
    (h : ∀ (Ht C H : Hp) (x : α) (y : β) (z : γ) (v u : V) (Q : VK), Same C H → f x y = some z → Rep K (part m1 Ht C) (rp x) v → Rep K (part m2 Ht C) (rp y) u →
      (∀ w C' H', Ext C H C' H' → Rep K (part m Ht C') (rp z) w → Q w H') → r v u H Q) : EvE K (tOp r ta tb) ρ m (ra.bind fun x => rb.bind fun y => f x y) := fun Ht C0 C H σ I z e Q q => by
  obtain ⟨x, ex, e⟩ := some_bind e
  obtain ⟨y, ey, e⟩ := some_bind e
  refine ha Ht C0 C H σ I x ex _ fun v C1 H1 x1 r1 => ?_
  refine hb Ht C0 C1 H1 σ (I.to x1) y ey _ fun u C2 H2 x2 r2 => ?_
  exact h Ht C2 H2 x y z v u Q x2.s e (r1.mono (part_mono x2.c)) r2 fun w C' H' x3 r3 => q w C' H' ((x1.trans x2).trans x3) r3
theorem ev_arith {g : Int → Int → Int} {ra rb : Option Int} (ha : EvE K ta ρ m1 ra) (hb : EvE K tb ρ m2 rb) : EvE K (tOp (rI0 fun i j => .int (g i j)) ta tb) ρ .new (ra.bind fun x => rb.bind fun y => some (g x y)) :=
  ev_two ha hb fun Ht C H x y z v u Q s e r1 r2 q => by
    cases e
    rw [r1.int_, r2.int_]
    exact ⟨x, y, rfl, rfl, q _ C H (.refl s) .ofInt⟩
theorem ev_arithC {g : Int → Int → Int} {P : Int → Int → Prop} {ra rb : Option Int} {f : Int → Int → Option Int} (hf : ∀ x y z, f x y = some z → P x y ∧ z = g x y) (ha : EvE K ta ρ m1 ra) (hb : EvE K tb ρ m2 rb) : EvE K (tOp (rI P fun i j => .int (g i j)) ta tb) ρ .new (ra.bind fun x => rb.bind fun y => f x y) :=
  ev_two ha hb fun Ht C H x y z v u Q s e r1 r2 q => by
    rw [r1.int_, r2.int_]
    obtain ⟨p, rfl⟩ := hf x y z e
    exact ⟨x, y, rfl, rfl, p, q _ C H (.refl s) .ofInt⟩
theorem ev_cmpI {g : Int → Int → Bool} {ra rb : Option Int} (ha : EvE K ta ρ m1 ra) (hb : EvE K tb ρ m2 rb) : EvE K (tOp (rI0 fun i j => .bl (g i j)) ta tb) ρ .new (ra.bind fun x => rb.bind fun y => some (g x y)) :=
  ev_two ha hb fun Ht C H x y z v u Q s e r1 r2 q => by
    cases e
    rw [r1.int_, r2.int_]
    exact ⟨x, y, rfl, rfl, q _ C H (.refl s) .ofBl⟩
/-- a product of numbers of at most 4096 bits -/
@[irreducible] def mulP (x y : Int) : Option Int := if x.natAbs < 2 ^ 4096 ∧ y.natAbs < 2 ^ 4096 then some (x * y) else none
/-- a quotient by a positive divisor of at most 4096 bits -/
@[irreducible] def divP (x y : Int) : Option Int := if 0 < y ∧ y < 2 ^ 4096 then some (x / y) else none
@[irreducible] def modP (x y : Int) : Option Int := if 0 < y then some (x % y) else none
theorem mulP_def (x y : Int) : mulP x y = if x.natAbs < 2 ^ 4096 ∧ y.natAbs < 2 ^ 4096 then some (x * y) else none := by unfold mulP; rfl
theorem divP_def (x y : Int) : divP x y = if 0 < y ∧ y < 2 ^ 4096 then some (x / y) else none := by unfold divP; rfl
theorem modP_def (x y : Int) : modP x y = if 0 < y then some (x % y) else none := by unfold modP; rfl
theorem some_if {A : Type} {c : Prop} [Decidable c] {x y : A} (h : (if c then some x else none) = some y) : c ∧ x = y := by
  split at h
  · rename_i hc
    exact ⟨hc, Option.some.inj h⟩
  · cases h
theorem ev_mul {ra rb : Option Int} (ha : EvE K ta ρ m1 ra) (hb : EvE K tb ρ m2 rb) : EvE K (tOp (rI CMulW fun i j => .int (i * j)) ta tb) ρ .new (ra.bind fun x => rb.bind fun y => mulP x y) :=
  ev_arithC (fun x y z h => by
    rw [mulP_def] at h
    obtain ⟨⟨h1, h2⟩, e⟩ := some_if h
    exact ⟨wide_mul h1 h2 (by decide) (by decide) (by decide), e.symm⟩) ha hb
theorem ev_div {ra rb : Option Int} (ha : EvE K ta ρ m1 ra) (hb : EvE K tb ρ m2 rb) : EvE K (tOp (rI CDivW fun i j => .int (i / j)) ta tb) ρ .new (ra.bind fun x => rb.bind fun y => divP x y) :=
  ev_arithC (fun x y z h => by
    rw [divP_def] at h
    obtain ⟨⟨h1, h2⟩, e⟩ := some_if h
    exact ⟨wide_div (b := 4096) h1 (by omega) (by decide) (by decide), e.symm⟩) ha hb
theorem ev_mod {ra rb : Option Int} (ha : EvE K ta ρ m1 ra) (hb : EvE K tb ρ m2 rb) : EvE K (tOp (rI (fun _ j => 0 < j) fun i j => .int (i % j)) ta tb) ρ .new (ra.bind fun x => rb.bind fun y => modP x y) :=
  ev_arithC (fun x y z h => by
    rw [modP_def] at h
    obtain ⟨h1, e⟩ := some_if h
    exact ⟨h1, e.symm⟩) ha hb
theorem bsP {A B : Type} {x : A} {f : A → Option B} {y : Option B} (h : y = f x) : y = (some x).bind f := h
theorem bcP {A B : Type} {r : Option A} {f g : A → Option B} (h : ∀ v, f v = g v) : r.bind f = r.bind g := congrArg r.bind (funext h)
/-- by a written number -/
theorem ev_divC {ra : Option Int} {k : Int} (ha : EvE K ta ρ m1 ra) (h : 0 < k ∧ k.natAbs.log2 < 9000 := by decide) : EvE K (tOp (rI CDivW fun i j => .int (i / j)) ta (tC (.int k))) ρ .new (ra.bind fun x => some (x / k)) :=
  ev_arithC (rb := some k) (f := fun x y => if y = k then some (x / y) else none) (fun x y z e => by obtain ⟨rfl, e2⟩ := some_if e; exact ⟨h, e2.symm⟩) ha ev_int |>.res (by
    cases ra <;> simp)
theorem ev_modC {ra : Option Int} {k : Int} (ha : EvE K ta ρ m1 ra) (h : 0 < k := by decide) : EvE K (tOp (rI (fun _ j => 0 < j) fun i j => .int (i % j)) ta (tC (.int k))) ρ .new (ra.bind fun x => some (x % k)) :=
  ev_arithC (rb := some k) (f := fun x y => if y = k then some (x % y) else none) (fun x y z e => by obtain ⟨rfl, e2⟩ := some_if e; exact ⟨h, e2.symm⟩) ha ev_int |>.res (by
    cases ra <;> simp)
theorem ev_mulC {ra : Option Int} {k : Int} (ha : EvE K ta ρ m1 ra) (h : CMul 0 k := by first | exact .inr (by decide) | exact .inl (by decide)) (h2 : -(2 ^ 64) < k ∧ k < 2 ^ 64 := by decide) : EvE K (tOp (rI CMul fun i j => .int (i * j)) ta (tC (.int k))) ρ .new (ra.bind fun x => some (x * k)) :=
  ev_arithC (rb := some k) (f := fun x y => if y = k then some (x * y) else none) (fun x y z e => by obtain ⟨rfl, e2⟩ := some_if e; exact ⟨.inr h2, e2.symm⟩) ha ev_int |>.res (by
    cases ra <;> simp)
theorem ev_mulCl {rb : Option Int} {k : Int} (hb : EvE K tb ρ m1 rb) (h2 : -(2 ^ 64) < k ∧ k < 2 ^ 64 := by decide) : EvE K (tOp (rI CMul fun i j => .int (i * j)) (tC (.int k)) tb) ρ .new (rb.bind fun x => some (k * x)) :=
  ev_arithC (ra := some k) (f := fun x y => if x = k then some (x * y) else none) (fun x y z e => by obtain ⟨rfl, e2⟩ := some_if e; exact ⟨.inl h2, e2.symm⟩) ev_int hb |>.res (by
    cases rb <;> simp)
theorem ev_pow {a b : Int} (h : 0 ≤ b ∧ b ≤ 1000000 ∧ a.natAbs < 2 ^ 64 := by decide) : EvE K (tOp (rI CPow fun i j => .int (i ^ j.toNat)) (tC (.int a)) (tC (.int b))) ρ .new (some (a ^ b.toNat)) :=
  ev_arithC (ra := some a) (rb := some b) (f := fun x y => if x = a ∧ y = b then some (x ^ y.toNat) else none) (fun x y z e => by obtain ⟨⟨rfl, rfl⟩, e2⟩ := some_if e; exact ⟨h, e2.symm⟩) ev_int ev_int |>.res (by simp)
theorem ev_un {g : Int → Int} {ra : Option Int} (ha : EvE K ta ρ m1 ra) : EvE K (tUn (rU fun i => .int (g i)) ta) ρ .new (ra.bind fun x => some (g x)) := fun Ht C0 C H σ I z e Q q => by
  obtain ⟨x, ex, e⟩ := some_bind e
  cases e
  refine ha Ht C0 C H σ I x ex _ fun v C1 H1 x1 r1 => ?_
  rw [r1.int_]
  exact ⟨x, rfl, q _ C1 H1 x1 .ofInt⟩
theorem ev_neg {k : Int} : EvE K (tUn (rU fun i => .int (-i)) (tC (.int k))) ρ .new (some (-k)) := ev_un (ra := some k) ev_int

/-! ### tests -/
theorem et_test {r : Option Bool} (h : EvE K t ρ m r) : EvT K (tTest t) ρ r := fun Ht C0 C H σ I b e Q q =>
  h Ht C0 C H σ I b e _ fun v C' H' x rv => ⟨b, rv.bl_, q C' H' x⟩
theorem et_val {r : Option Bool} (h : EvE K t ρ m r) : EvT K (tB t) ρ r := fun Ht C0 C H σ I b e Q q =>
  h Ht C0 C H σ I b e _ fun v C' H' x rv => ⟨b, rv.bl_, q C' H' x⟩
variable {u v : TT} {ra rb : Option Bool}
theorem et_not (h : EvT K u ρ ra) : EvT K (tNot u) ρ (ra.map fun b => !b) := fun Ht C0 C H σ I b e Q q => by
  obtain ⟨c, ec, rfl⟩ := some_map e
  exact h Ht C0 C H σ I c ec _ fun C' H' x => q C' H' x
theorem et_and (h1 : EvT K u ρ ra) (h2 : EvT K v ρ rb) : EvT K (tAnd u v) ρ (ra.bind fun b => if b = true then rb else some false) := fun Ht C0 C H σ I b e Q q => by
  obtain ⟨c, ec, e⟩ := some_bind e
  refine h1 Ht C0 C H σ I c ec _ fun C' H' x => ?_
  cases c with
  | false => rw [if_neg Bool.false_ne_true] at e; cases e; exact iteF (q C' H' x)
  | true => rw [if_pos rfl] at e; exact iteT (h2 Ht C0 C' H' σ (I.to x) b e _ fun C2 H2 x2 => q C2 H2 (x.trans x2))
theorem et_or (h1 : EvT K u ρ ra) (h2 : EvT K v ρ rb) : EvT K (tOr u v) ρ (ra.bind fun b => if b = true then some true else rb) := fun Ht C0 C H σ I b e Q q => by
  obtain ⟨c, ec, e⟩ := some_bind e
  refine h1 Ht C0 C H σ I c ec _ fun C' H' x => ?_
  cases c with
  | true => rw [if_pos rfl] at e; cases e; exact iteT (q C' H' x)
  | false => rw [if_neg Bool.false_ne_true] at e; exact iteF (h2 Ht C0 C' H' σ (I.to x) b e _ fun C2 H2 x2 => q C2 H2 (x.trans x2))
theorem EvT.res {r r' : Option Bool} (h : EvT K u ρ r) (e : r' = r) : EvT K u ρ r' := e ▸ h
/-- both without a fault -/
theorem et_andP {a b : Bool} (h1 : EvT K u ρ (some a)) (h2 : EvT K v ρ (some b)) : EvT K (tAnd u v) ρ (some (a && b)) := (et_and h1 h2).res (by cases a <;> rfl)
theorem et_orP {a b : Bool} (h1 : EvT K u ρ (some a)) (h2 : EvT K v ρ (some b)) : EvT K (tOr u v) ρ (some (a || b)) := (et_or h1 h2).res (by cases a <;> rfl)
/-- as values -/
theorem ev_andV {ra rb : Option Bool} (h1 : EvE K ta ρ m1 ra) (h2 : EvE K tb ρ m2 rb) : EvE K (tAndV ta tb) ρ .new (ra.bind fun b => if b = true then rb else some false) := fun Ht C0 C H σ I b e Q q => by
  obtain ⟨c, ec, e⟩ := some_bind e
  refine h1 Ht C0 C H σ I c ec _ fun v C' H' x rv => ⟨c, rv.bl_, ?_⟩
  cases c with
  | false => rw [if_neg Bool.false_ne_true] at e; cases e; exact iteF (q _ C' H' x .ofBl)
  | true => rw [if_pos rfl] at e; exact iteT (h2 Ht C0 C' H' σ (I.to x) b e _ fun w C2 H2 x2 r2 => q w C2 H2 (x.trans x2) (Scal.ok K _ _ b w r2))
theorem ev_orV {ra rb : Option Bool} (h1 : EvE K ta ρ m1 ra) (h2 : EvE K tb ρ m2 rb) : EvE K (tOrV ta tb) ρ .new (ra.bind fun b => if b = true then some true else rb) := fun Ht C0 C H σ I b e Q q => by
  obtain ⟨c, ec, e⟩ := some_bind e
  refine h1 Ht C0 C H σ I c ec _ fun v C' H' x rv => ⟨c, rv.bl_, ?_⟩
  cases c with
  | true => rw [if_pos rfl] at e; cases e; exact iteT (q _ C' H' x .ofBl)
  | false => rw [if_neg Bool.false_ne_true] at e; exact iteF (h2 Ht C0 C' H' σ (I.to x) b e _ fun w C2 H2 x2 r2 => q w C2 H2 (x.trans x2) (Scal.ok K _ _ b w r2))
theorem ev_andVP {a b : Bool} (h1 : EvE K ta ρ m1 (some a)) (h2 : EvE K tb ρ m2 (some b)) : EvE K (tAndV ta tb) ρ .new (some (a && b)) := (ev_andV h1 h2).res (by cases a <;> rfl)
theorem ev_orVP {a b : Bool} (h1 : EvE K ta ρ m1 (some a)) (h2 : EvE K tb ρ m2 (some b)) : EvE K (tOrV ta tb) ρ .new (some (a || b)) := (ev_orV h1 h2).res (by cases a <;> rfl)
theorem ev_notV {ra : Option Bool} (h1 : EvE K ta ρ m1 ra) : EvE K (tNotV ta) ρ .new (ra.map fun b => !b) := fun Ht C0 C H σ I b e Q q => by
  obtain ⟨c, ec, rfl⟩ := some_map e
  exact h1 Ht C0 C H σ I c ec _ fun v C' H' x rv => ⟨c, rv.bl_, q _ C' H' x .ofBl⟩
/-- a if t else b -/
theorem ev_if {rc : Option Bool} {ra rb : Option α} (hc : EvT K u ρ rc) (h1 : EvE K ta ρ m ra) (h2 : EvE K tb ρ m rb) : EvE K (tIf u ta tb) ρ m (rc.bind fun c => if c = true then ra else rb) := fun Ht C0 C H σ I x e Q q => by
  obtain ⟨c, ec, e⟩ := some_bind e
  refine hc Ht C0 C H σ I c ec _ fun C' H' y => ?_
  cases c with
  | true => rw [if_pos rfl] at e; exact iteT (h1 Ht C0 C' H' σ (I.to y) x e _ fun w C2 H2 x2 r2 => q w C2 H2 (y.trans x2) r2)
  | false => rw [if_neg Bool.false_ne_true] at e; exact iteF (h2 Ht C0 C' H' σ (I.to y) x e _ fun w C2 H2 x2 r2 => q w C2 H2 (y.trans x2) r2)
/-- equal numbers, texts, bools -/
theorem ev_eqI {ra rb : Option Int} (ha : EvE K ta ρ m1 ra) (hb : EvE K tb ρ m2 rb) : EvE K (tOp rEq ta tb) ρ .new (ra.bind fun x => rb.bind fun y => some (decide (x = y))) :=
  ev_two ha hb fun Ht C H x y z v u Q s e r1 r2 q => by
    cases e
    rw [r1.int_, r2.int_]
    exact ⟨rfl, q _ C H (.refl s) (by simp only [rp, Rp.rp, Rep, V.int.injEq])⟩
theorem ev_neI {ra rb : Option Int} (ha : EvE K ta ρ m1 ra) (hb : EvE K tb ρ m2 rb) : EvE K (tOp rNe ta tb) ρ .new (ra.bind fun x => rb.bind fun y => some (decide (x ≠ y))) :=
  ev_two ha hb fun Ht C H x y z v u Q s e r1 r2 q => by
    cases e
    rw [r1.int_, r2.int_]
    exact ⟨rfl, q _ C H (.refl s) (by simp only [rp, Rp.rp, Rep, V.int.injEq, ne_eq, decide_not])⟩
theorem ev_eqS {ra rb : Option Str} (ha : EvE K ta ρ m1 ra) (hb : EvE K tb ρ m2 rb) : EvE K (tOp rEq ta tb) ρ .new (ra.bind fun x => rb.bind fun y => some (decide (x = y))) :=
  ev_two ha hb fun Ht C H x y z v u Q s e r1 r2 q => by
    cases e
    rw [r1.str_, r2.str_]
    exact ⟨rfl, q _ C H (.refl s) (by simp only [rp, Rp.rp, Rep, V.str.injEq])⟩
theorem ev_neS {ra rb : Option Str} (ha : EvE K ta ρ m1 ra) (hb : EvE K tb ρ m2 rb) : EvE K (tOp rNe ta tb) ρ .new (ra.bind fun x => rb.bind fun y => some (decide (x ≠ y))) :=
  ev_two ha hb fun Ht C H x y z v u Q s e r1 r2 q => by
    cases e
    rw [r1.str_, r2.str_]
    exact ⟨rfl, q _ C H (.refl s) (by simp only [rp, Rp.rp, Rep, V.str.injEq, ne_eq, decide_not])⟩
theorem ev_eqB {ra rb : Option Bool} (ha : EvE K ta ρ m1 ra) (hb : EvE K tb ρ m2 rb) : EvE K (tOp rEq ta tb) ρ .new (ra.bind fun x => rb.bind fun y => some (decide (x = y))) :=
  ev_two ha hb fun Ht C H x y z v u Q s e r1 r2 q => by
    cases e
    rw [r1.bl_, r2.bl_]
    exact ⟨rfl, q _ C H (.refl s) (by simp only [rp, Rp.rp, Rep, V.bl.injEq])⟩
theorem ev_neB {ra rb : Option Bool} (ha : EvE K ta ρ m1 ra) (hb : EvE K tb ρ m2 rb) : EvE K (tOp rNe ta tb) ρ .new (ra.bind fun x => rb.bind fun y => some (decide (x ≠ y))) :=
  ev_two ha hb fun Ht C H x y z v u Q s e r1 r2 q => by
    cases e
    rw [r1.bl_, r2.bl_]
    exact ⟨rfl, q _ C H (.refl s) (by simp only [rp, Rp.rp, Rep, V.bl.injEq, ne_eq, decide_not])⟩
end
end L2.DL

/-! DL3: lists, tuples, slices, comprehensions, built-ins, by data. -/
namespace L2.DL
open PySem PySem.Spec PyProof.Rows

/-- a list that Python can hold -/
@[irreducible] def lim {α : Type} (l : List α) : Option (List α) := if l.length ≤ 16777216 then some l else none
theorem lim_def {α : Type} (l : List α) : lim l = if l.length ≤ 16777216 then some l else none := by unfold lim; rfl
theorem lim_of {α : Type} {l : List α} (h : l.length ≤ 16777216) : lim l = some l := by rw [lim_def, if_pos h]
theorem of_lim {α : Type} {l r : List α} (h : lim l = some r) : l.length ≤ sizeLine ∧ r = l := by
  rw [lim_def] at h
  obtain ⟨a, b⟩ := some_if h
  exact ⟨by rw [sizeLine_eq]; exact a, b.symm⟩
def cut {α : Type} (xs : List α) (lo hi : Option Int) : List α := (xs.drop (HT.sIx xs.length 0 lo)).take (HT.sIx xs.length xs.length hi - HT.sIx xs.length 0 lo)
def rangeL (lo hi : Int) : List Int := (List.range (hi - lo).toNat).map fun (k : Nat) => lo + (k : Int)
@[irreducible] def rangeP (lo hi : Int) : Option (List Int) := if -(2 ^ 62) ≤ lo ∧ lo < 2 ^ 62 ∧ -(2 ^ 62) ≤ hi ∧ hi < 2 ^ 62 then some (rangeL lo hi) else none
theorem rangeP_def (lo hi : Int) : rangeP lo hi = if -(2 ^ 62) ≤ lo ∧ lo < 2 ^ 62 ∧ -(2 ^ 62) ≤ hi ∧ hi < 2 ^ 62 then some (rangeL lo hi) else none := by unfold rangeP; rfl
/-- all or nothing -/
def mapO {α β : Type} (f : α → Option β) : List α → Option (List β)
  | [] => some []
  | x :: xs => (f x).bind fun y => (mapO f xs).bind fun ys => some (y :: ys)
def compM {α β : Type} (p : α → Option Bool) (f : α → Option β) : List α → Option (List β)
  | [] => some []
  | x :: xs => (p x).bind fun b => if b = true then (f x).bind fun y => (compM p f xs).bind fun ys => some (y :: ys) else compM p f xs
theorem compM_map {α β : Type} {f : α → β} : ∀ xs : List α, compM (fun _ => some true) (fun x => some (f x)) xs = some (xs.map f)
  | [] => rfl
  | x :: xs => by
    simp only [compM, compM_map xs, Option.bind_some, if_true, List.map_cons]
theorem compM_mapO {α β : Type} {f : α → Option β} : ∀ xs : List α, compM (fun _ => some true) f xs = mapO f xs
  | [] => rfl
  | x :: xs => by
    simp only [compM, mapO, compM_mapO xs, Option.bind_some, if_true]
theorem compM_filter {α β : Type} {p : α → Bool} {f : α → β} : ∀ xs : List α, compM (fun x => some (p x)) (fun x => some (f x)) xs = some ((xs.filter p).map f)
  | [] => rfl
  | x :: xs => by
    cases h : p x <;> simp [compM, compM_filter xs, h]

section
variable {K : PySem.W.Frag} {t ta tb te : TE} {ρ : En} {m m1 m2 : Md}
variable {α β γ : Type} [Rp α] [Rp β] [Rp γ]
theorem rep_lst {H : Hp} {xs : List α} {v : V} (h : Rep K H (rp xs) v) : ∃ a vs, v = .ref a ∧ H a = some (.lst vs) ∧ RepL K H (rps xs) vs := by
  simp only [rp, Rp.rp, Rep] at h
  exact h
theorem rep_pair {H : Hp} {p : α × β} {v : V} (h : Rep K H (rp p) v) : ∃ a x y, v = .ref a ∧ H a = some (.tup [x, y]) ∧ Rep K H (rp p.1) x ∧ Rep K H (rp p.2) y := by
  simp only [rp, Rp.rp, Rep] at h
  obtain ⟨a, vs, e, h1, h2⟩ := h
  obtain ⟨x, r, rfl, r1, h2⟩ := h2.uncons
  obtain ⟨y, r', rfl, r2, h2⟩ := h2.uncons
  rw [h2.nil_iff] at h1
  exact ⟨a, x, y, e, h1, r1, r2⟩
theorem rep_t3 {H : Hp} {p : T3 α β γ} {v : V} (h : Rep K H (rp p) v) : ∃ a x y z, v = .ref a ∧ H a = some (.tup [x, y, z]) ∧ Rep K H (rp p.p) x ∧ Rep K H (rp p.q) y ∧ Rep K H (rp p.r) z := by
  simp only [rp, Rp.rp, Rep] at h
  obtain ⟨a, vs, e, h1, h2⟩ := h
  obtain ⟨x, r, rfl, r1, h2⟩ := h2.uncons
  obtain ⟨y, r', rfl, r2, h2⟩ := h2.uncons
  obtain ⟨z, r', rfl, r3, h2⟩ := h2.uncons
  rw [h2.nil_iff] at h1
  exact ⟨a, x, y, z, e, h1, r1, r2, r3⟩
theorem rep_tupL {H : Hp} {p : TupL α} {v : V} (h : Rep K H (rp p) v) : ∃ a vs, v = .ref a ∧ H a = some (.tup vs) ∧ RepL K H (rps p.l) vs := by
  simp only [rp, Rp.rp, Rep] at h
  exact h

/-! ### subscripts -/
theorem atI_rep {H : Hp} {xs : List α} {vs : List V} {i : Int} {x : α} (h : RepL K H (rps xs) vs) (e : atI xs i = some x) : ∃ v, atI vs i = some v ∧ Rep K H (rp x) v := by
  have hl : vs.length = xs.length := by rw [h.length, List.length_map]
  unfold atI at e ⊢
  rw [hl]
  obtain ⟨j, ej, e⟩ := some_bind e
  rw [ej]
  obtain ⟨v, e1, e2⟩ := h.get (i := j) (d := rp x) (by rw [rps, List.getElem?_map, e]; rfl)
  exact ⟨v, e1, e2⟩
theorem ev_ix {ra : Option (List α)} {rb : Option Int} (ha : EvB K ta ρ m ra) (hb : EvE K tb ρ m2 rb) : EvE K (tOp (rIxL K) ta tb) ρ m (ra.bind fun xs => rb.bind fun i => atI xs i) := fun Ht C0 C H σ I z e Q q => by
  obtain ⟨xs, ex, e⟩ := some_bind e
  obtain ⟨i, ei, e⟩ := some_bind e
  refine ha Ht C0 C H σ I xs ex _ fun a vs C1 H1 x1 h1 r1 => ?_
  refine hb Ht C0 C1 H1 σ (I.to x1) i ei _ fun u C2 H2 x2 r2 => ?_
  rw [r2.int_]
  obtain ⟨v, ev, rv⟩ := atI_rep (r1.mono (part_mono x2.c)) e
  exact ⟨a, vs, i, v, rfl, rfl, .of (x2.h _ _ h1), ev, q v C2 H2 (x1.trans x2) rv⟩
theorem ev_ixT {ra : Option (TupL α)} {rb : Option Int} (ha : EvE K ta ρ m ra) (hb : EvE K tb ρ m2 rb) : EvE K (tOp (rIxT K) ta tb) ρ m (ra.bind fun xs => rb.bind fun i => atI xs.l i) :=
  ev_two ha hb fun Ht C H x y z v u Q s e r1 r2 q => by
    obtain ⟨a, vs, rfl, h1, h2⟩ := rep_tupL r1
    rw [r2.int_]
    obtain ⟨w, ev, rv⟩ := atI_rep h2 e
    exact ⟨a, vs, y, w, rfl, rfl, .of (s _ _ (part_le _ _ h1)), ev, q w C H (.refl s) rv⟩
theorem ev_fst {ra : Option (α × β)} (ha : EvE K ta ρ m ra) : EvE K (tOp (rIxT K) ta (tC (.int 0))) ρ m (ra.map fun p => p.1) :=
  (ev_two (f := fun (p : α × β) (i : Int) => if i = 0 then some p.1 else none) ha (ev_int (i := 0)) fun Ht C H x y z v u Q s e r1 r2 q => by
    obtain ⟨rfl, rfl⟩ := some_if e
    obtain ⟨a, x1, y1, rfl, h1, h2, h3⟩ := rep_pair r1
    rw [r2.int_]
    exact ⟨a, _, 0, x1, rfl, rfl, .of (s _ _ (part_le _ _ h1)), atI_nat (j := 0) rfl, q x1 C H (.refl s) h2⟩).res (by cases ra <;> rfl)
theorem ev_snd {ra : Option (α × β)} (ha : EvE K ta ρ m ra) : EvE K (tOp (rIxT K) ta (tC (.int 1))) ρ m (ra.map fun p => p.2) :=
  (ev_two (f := fun (p : α × β) (i : Int) => if i = 1 then some p.2 else none) ha (ev_int (i := 1)) fun Ht C H x y z v u Q s e r1 r2 q => by
    obtain ⟨rfl, rfl⟩ := some_if e
    obtain ⟨a, x1, y1, rfl, h1, h2, h3⟩ := rep_pair r1
    rw [r2.int_]
    exact ⟨a, _, 1, y1, rfl, rfl, .of (s _ _ (part_le _ _ h1)), atI_nat (j := 1) rfl, q y1 C H (.refl s) h3⟩).res (by cases ra <;> rfl)
theorem ev_3a {ra : Option (T3 α β γ)} (ha : EvE K ta ρ m ra) : EvE K (tOp (rIxT K) ta (tC (.int 0))) ρ m (ra.map fun p => p.p) :=
  (ev_two (f := fun (p : T3 α β γ) (i : Int) => if i = 0 then some p.p else none) ha (ev_int (i := 0)) fun Ht C H x y z v u Q s e r1 r2 q => by
    obtain ⟨rfl, rfl⟩ := some_if e
    obtain ⟨a, x1, y1, z1, rfl, h1, h2, h3, h4⟩ := rep_t3 r1
    rw [r2.int_]
    exact ⟨a, _, 0, x1, rfl, rfl, .of (s _ _ (part_le _ _ h1)), atI_nat (j := 0) rfl, q x1 C H (.refl s) h2⟩).res (by cases ra <;> rfl)
theorem ev_3b {ra : Option (T3 α β γ)} (ha : EvE K ta ρ m ra) : EvE K (tOp (rIxT K) ta (tC (.int 1))) ρ m (ra.map fun p => p.q) :=
  (ev_two (f := fun (p : T3 α β γ) (i : Int) => if i = 1 then some p.q else none) ha (ev_int (i := 1)) fun Ht C H x y z v u Q s e r1 r2 q => by
    obtain ⟨rfl, rfl⟩ := some_if e
    obtain ⟨a, x1, y1, z1, rfl, h1, h2, h3, h4⟩ := rep_t3 r1
    rw [r2.int_]
    exact ⟨a, _, 1, y1, rfl, rfl, .of (s _ _ (part_le _ _ h1)), atI_nat (j := 1) rfl, q y1 C H (.refl s) h3⟩).res (by cases ra <;> rfl)
theorem ev_3c {ra : Option (T3 α β γ)} (ha : EvE K ta ρ m ra) : EvE K (tOp (rIxT K) ta (tC (.int 2))) ρ m (ra.map fun p => p.r) :=
  (ev_two (f := fun (p : T3 α β γ) (i : Int) => if i = 2 then some p.r else none) ha (ev_int (i := 2)) fun Ht C H x y z v u Q s e r1 r2 q => by
    obtain ⟨rfl, rfl⟩ := some_if e
    obtain ⟨a, x1, y1, z1, rfl, h1, h2, h3, h4⟩ := rep_t3 r1
    rw [r2.int_]
    exact ⟨a, _, 2, z1, rfl, rfl, .of (s _ _ (part_le _ _ h1)), atI_nat (j := 2) rfl, q z1 C H (.refl s) h4⟩).res (by cases ra <;> rfl)

/-! ### new lists and tuples -/
/-- the end of a rule that makes a new list -/
theorem new_list {Ht C H C1 H1 : Hp} {xs : List α} {vs : List V} {p : Addr} {Q : VK} (x : Ext C H C1 H1) (hp : H1 p = none) (r : RepL K (part m Ht C1) (rps xs) vs)
    (q : ∀ a vs C' H', Ext C H C' H' → H a = none → C' a = none → H' a = some (.lst vs) → RepL K (part m Ht C') (rps xs) vs → Q (.ref a) H') : Q (.ref p) (upd H1 p (.lst vs)) :=
  q p vs C1 (upd H1 p (.lst vs)) ⟨x.c, x.h.trans (same_upd hp), x.s.trans (same_upd hp), fun a h1 h2 => x.f a h1 h2⟩ (free_of x.h hp) (free_of x.s hp) upd_same r
/-- the new object joins the clean part -/
theorem new_clean {C H C1 H1 : Hp} {p : Addr} {o : HO} (x : Ext C H C1 H1) (hp : H1 p = none) : Ext C H (upd C1 p o) (upd H1 p o) :=
  ⟨x.c.trans (same_upd (free_of x.s hp)), x.h.trans (same_upd hp), fun b u e => by
    by_cases hb : b = p
    · subst hb
      rw [upd_same] at e ⊢
      exact e
    · rw [upd_ne hb] at e ⊢
      exact x.s _ _ e, fun b h1 h2 => by
    have nb : b ≠ p := fun z => by rw [z] at h1; exact h1 (free_of x.h hp)
    rw [upd_ne nb]
    exact x.f b h1 h2⟩
/-- the items of a display, from the left -/
def EvX (K : PySem.W.Frag) (t : TA) (ρ : En) (m : Md) (r : Option (List Dt)) : Prop :=
  ∀ (Ht C0 C H : Hp) (σ : St), EnvI K Ht C0 C H σ ρ → ∀ ds, r = some ds → ∀ Q : List V → Hp → Prop, (∀ vs C' H', Ext C H C' H' → RepL K (part m Ht C') ds vs → Q vs H') → t σ H Q
theorem ex_nil : EvX K tNil ρ m (some []) := fun Ht C0 C H σ I ds e Q q => by
  cases e
  exact q [] C H I.same .nil
theorem ex_cons {t : TA} {ra : Option α} {rb : Option (List Dt)} (ha : EvE K ta ρ m ra) (hb : EvX K t ρ m rb) : EvX K (tCons ta t) ρ m (ra.bind fun x => rb.bind fun ds => some (rp x :: ds)) := fun Ht C0 C H σ I ds e Q q => by
  obtain ⟨x, ex, e⟩ := some_bind e
  obtain ⟨y, ey, e⟩ := some_bind e
  cases e
  refine ha Ht C0 C H σ I x ex _ fun v C1 H1 x1 r1 => ?_
  refine hb Ht C0 C1 H1 σ (I.to x1) y ey _ fun u C2 H2 x2 r2 => ?_
  exact q (v :: u) C2 H2 (x1.trans x2) (.cons (r1.mono (part_mono x2.c)) r2)
/-- .. typed, n of them -/
def EvXs (K : PySem.W.Frag) {α : Type} [Rp α] (t : TA) (ρ : En) (m : Md) (n : Nat) (r : Option (List α)) : Prop := EvX K t ρ m (r.map rps) ∧ ∀ xs, r = some xs → xs.length = n
theorem exs_nil : EvXs K (α := α) tNil ρ m 0 (some []) := ⟨ex_nil, fun xs e => by cases e; rfl⟩
theorem exs_cons {t : TA} {n : Nat} {ra : Option α} {rb : Option (List α)} (ha : EvE K ta ρ m ra) (hb : EvXs K t ρ m n rb) : EvXs K (tCons ta t) ρ m (n + 1) (ra.bind fun x => rb.bind fun ds => some (x :: ds)) := by
  refine ⟨?_, fun xs e => ?_⟩
  · have h := ex_cons ha hb.1
    cases ra with
    | none => exact h
    | some x =>
      cases rb with
      | none => exact h
      | some y => exact h
  · obtain ⟨x, ex, e⟩ := some_bind e
    obtain ⟨y, ey, e⟩ := some_bind e
    cases e
    rw [List.length_cons, hb.2 y ey]
theorem ev_list {t : TA} {n : Nat} {r : Option (List α)} (h : EvXs K t ρ m n r) (hn : n ≤ 1000 := by decide) : EvL K (tLst t) ρ m r := fun Ht C0 C H σ I xs e Q q => by
  refine h.1 Ht C0 C H σ I (rps xs) (by rw [e]; rfl) _ fun vs C1 H1 x1 r1 => ⟨?_, fun p hp => new_list x1 hp r1 q⟩
  rw [r1.length, List.length_map, h.2 xs e]
  exact Nat.le_trans hn (by decide)
theorem ev_tup {t : TA} {r : Option (List Dt)} {rz : Option γ} (f : List Dt → γ) (h : EvX K t ρ m r) (hz : rz = r.map f) (hd : ∀ ds, r = some ds → rp (f ds) = .tup ds ∧ ds.length ≤ 1000) : EvE K (tTup t) ρ m rz := fun Ht C0 C H σ I z e Q q => by
  rw [hz] at e
  obtain ⟨ds, e2, rfl⟩ := some_map e
  refine h Ht C0 C H σ I ds e2 _ fun vs C1 H1 x1 r1 => ⟨?_, fun p hp => ?_⟩
  · rw [r1.length]
    exact Nat.le_trans (hd ds e2).2 (by decide)
  · refine q (.ref p) (upd C1 p (.tup vs)) _ (new_clean x1 hp) ?_
    rw [(hd ds e2).1]
    simp only [Rep]
    exact ⟨p, vs, rfl, part_at upd_same (free_of (I.ext.h.trans x1.h) hp), r1.mono (part_mono (same_upd (free_of x1.s hp)))⟩
theorem ev_pair {ra : Option α} {rb : Option β} (ha : EvE K ta ρ m ra) (hb : EvE K tb ρ m rb) : EvE K (tTup (tCons ta (tCons tb tNil))) ρ m (ra.bind fun x => rb.bind fun y => some (x, y)) := fun Ht C0 C H σ I z e Q q => by
  obtain ⟨x, ex, e⟩ := some_bind e
  obtain ⟨y, ey, e⟩ := some_bind e
  cases e
  refine ha Ht C0 C H σ I x ex _ fun v C1 H1 x1 r1 => ?_
  refine hb Ht C0 C1 H1 σ (I.to x1) y ey _ fun u C2 H2 x2 r2 => ⟨(by show 2 ≤ sizeLine; decide), fun p hp => ?_⟩
  refine q (.ref p) (upd C2 p (.tup [v, u])) _ (new_clean (x1.trans x2) hp) ?_
  simp only [rp, Rp.rp, Rep]
  have s2 := same_upd (o := .tup [v, u]) (free_of x2.s hp)
  exact ⟨p, _, rfl, part_at upd_same (free_of (I.ext.h.trans (x1.h.trans x2.h)) hp), .cons (r1.mono (part_mono (x2.c.trans s2))) (.cons (r2.mono (part_mono s2)) .nil)⟩
theorem ev_trip {tc : TE} {ra : Option α} {rb : Option β} {rc : Option γ} (ha : EvE K ta ρ m ra) (hb : EvE K tb ρ m rb) (hc : EvE K tc ρ m rc) : EvE K (tTup (tCons ta (tCons tb (tCons tc tNil)))) ρ m (ra.bind fun x => rb.bind fun y => rc.bind fun z => some (T3.mk x y z)) := fun Ht C0 C H σ I z e Q q => by
  obtain ⟨x, ex, e⟩ := some_bind e
  obtain ⟨y, ey, e⟩ := some_bind e
  obtain ⟨z, ez, e⟩ := some_bind e
  cases e
  refine ha Ht C0 C H σ I x ex _ fun v C1 H1 x1 r1 => ?_
  refine hb Ht C0 C1 H1 σ (I.to x1) y ey _ fun u C2 H2 x2 r2 => ?_
  refine hc Ht C0 C2 H2 σ ((I.to x1).to x2) z ez _ fun w C3 H3 x3 r3 => ⟨(by show 3 ≤ sizeLine; decide), fun p hp => ?_⟩
  refine q (.ref p) (upd C3 p (.tup [v, u, w])) _ (new_clean ((x1.trans x2).trans x3) hp) ?_
  simp only [rp, Rp.rp, Rep]
  have s3 := same_upd (o := .tup [v, u, w]) (free_of x3.s hp)
  exact ⟨p, _, rfl, part_at upd_same (free_of (I.ext.h.trans ((x1.h.trans x2.h).trans x3.h)) hp), .cons (r1.mono (part_mono ((x2.c.trans x3.c).trans s3))) (.cons (r2.mono (part_mono (x3.c.trans s3))) (.cons (r3.mono (part_mono s3)) .nil))⟩

/-! ### slices -/
theorem eo_no : EvO K tNoPart ρ (some none) := fun Ht C0 C H σ I x e Q q => by
  cases e
  exact q C H I.same
theorem eo_at {ra : Option Int} (ha : EvE K ta ρ m ra) : EvO K (tPart ta) ρ (ra.map some) := fun Ht C0 C H σ I x e Q q => by
  obtain ⟨i, ei, rfl⟩ := some_map e
  exact ha Ht C0 C H σ I i ei _ fun v C1 H1 x1 r1 => ⟨i, r1.int_, q C1 H1 x1⟩
theorem eo_atP {x : Int} (ha : EvE K ta ρ m (some x)) : EvO K (tPart ta) ρ (some (some x)) := eo_at ha
theorem cut_rep {H : Hp} {xs : List α} {vs : List V} {lo hi : Option Int} (h : RepL K H (rps xs) vs) : RepL K H (rps (cut xs lo hi)) (cutV vs lo hi) := by
  have hl : vs.length = xs.length := by rw [h.length, List.length_map]
  unfold cut cutV
  rw [hl, rps, List.map_take, List.map_drop]
  exact (h.drop _).take _
theorem ev_sl {tl th : TO} {ra : Option (List α)} {rl rh : Option (Option Int)} (ha : EvB K ta ρ m ra) (hl : EvO K tl ρ rl) (hh : EvO K th ρ rh) : EvL K (tSl (rSlL K) ta tl th) ρ m (ra.bind fun xs => rl.bind fun lo => rh.bind fun hi => some (cut xs lo hi)) := fun Ht C0 C H σ I z e Q q => by
  obtain ⟨xs, ex, e⟩ := some_bind e
  obtain ⟨lo, el, e⟩ := some_bind e
  obtain ⟨hi, eh, e⟩ := some_bind e
  cases e
  refine ha Ht C0 C H σ I xs ex _ fun a vs C1 H1 x1 h1 r1 => ?_
  refine hl Ht C0 C1 H1 σ (I.to x1) lo el _ fun C2 H2 x2 => ?_
  refine hh Ht C0 C2 H2 σ ((I.to x1).to x2) hi eh _ fun C3 H3 x3 => ?_
  exact ⟨a, vs, rfl, .of (x3.h _ _ (x2.h _ _ h1)), fun p hp => new_list ((x1.trans x2).trans x3) hp (cut_rep (r1.mono (part_mono (x2.c.trans x3.c)))) q⟩
theorem RepL.ints {H : Hp} : ∀ ns : List Int, RepL K H (rps ns) (ns.map V.int)
  | [] => .nil
  | n :: ns => .cons .ofInt (RepL.ints ns)
theorem RepL.ints_eq {H : Hp} : ∀ {ns : List Int} {vs : List V}, RepL K H (rps ns) vs → vs = ns.map V.int
  | [], vs, h => h.nil_iff
  | n :: ns, vs, h => by
    obtain ⟨v, r, rfl, h1, h2⟩ := h.uncons
    rw [h1.int_, h2.ints_eq]
    rfl
/-- of the script -/
theorem ev_slS {tl th : TO} {ra : Option Scr} {rl rh : Option (Option Int)} (ha : EvE K ta ρ m ra) (hl : EvO K tl ρ rl) (hh : EvO K th ρ rh) : EvL K (tSl (rSlL K) ta tl th) ρ .new (ra.bind fun xs => rl.bind fun lo => rh.bind fun hi => some (cut xs.l lo hi)) := fun Ht C0 C H σ I z e Q q => by
  obtain ⟨xs, ex, e⟩ := some_bind e
  obtain ⟨lo, el, e⟩ := some_bind e
  obtain ⟨hi, eh, e⟩ := some_bind e
  cases e
  refine ha Ht C0 C H σ I xs ex _ fun v C1 H1 x1 r1 => ?_
  refine hl Ht C0 C1 H1 σ (I.to x1) lo el _ fun C2 H2 x2 => ?_
  refine hh Ht C0 C2 H2 σ ((I.to x1).to x2) hi eh _ fun C3 H3 x3 => ?_
  simp only [rp, Rp.rp, Rep] at r1
  obtain ⟨a, rfl, r1⟩ := r1
  exact ⟨a, _, rfl, ((((part_le.trans x1.s).trans x2.h).trans x3.h)).seq r1, fun p hp => new_list ((x1.trans x2).trans x3) hp (cut_rep (RepL.ints xs.l)) q⟩

/-! ### + and * of lists -/
theorem ev_cat {ra rb : Option (List α)} (ha : EvB K ta ρ m ra) (hb : EvB K tb ρ m rb) : EvL K (tOp rCat ta tb) ρ m (ra.bind fun x => rb.bind fun y => lim (x ++ y)) := fun Ht C0 C H σ I z e Q q => by
  obtain ⟨x, ex, e⟩ := some_bind e
  obtain ⟨y, ey, e⟩ := some_bind e
  obtain ⟨hz, rfl⟩ := of_lim e
  refine ha Ht C0 C H σ I x ex _ fun a vs C1 H1 x1 h1 r1 => ?_
  refine hb Ht C0 C1 H1 σ (I.to x1) y ey _ fun b us C2 H2 x2 h2 r2 => ?_
  refine ⟨a, b, vs, us, rfl, rfl, x2.h _ _ h1, h2, ?_, fun p hp => new_list (x1.trans x2) hp ?_ q⟩
  · rw [r1.length, r2.length, List.length_map, List.length_map, ← List.length_append]
    exact hz
  · rw [rps, List.map_append]
    exact (r1.mono (part_mono x2.c)).append r2
/-- xs * k -/
@[irreducible] def repP {α : Type} (xs : List α) (k : Int) : Option (List α) := if -(2 ^ 63) ≤ k ∧ k < 2 ^ 63 ∧ xs.length * k.toNat ≤ 16777216 then some (List.replicate k.toNat xs).flatten else none
theorem repP_def {α : Type} (xs : List α) (k : Int) : repP xs k = if -(2 ^ 63) ≤ k ∧ k < 2 ^ 63 ∧ xs.length * k.toNat ≤ 16777216 then some (List.replicate k.toNat xs).flatten else none := by unfold repP; rfl
theorem ev_rep {ra : Option (List α)} {rb : Option Int} (ha : EvB K ta ρ m ra) (hb : EvE K tb ρ m2 rb) : EvL K (tOp rRep ta tb) ρ m (ra.bind fun x => rb.bind fun y => repP x y) := fun Ht C0 C H σ I z e Q q => by
  obtain ⟨x, ex, e⟩ := some_bind e
  obtain ⟨y, ey, e⟩ := some_bind e
  rw [repP_def] at e
  obtain ⟨⟨h1', h2', h3'⟩, rfl⟩ := some_if e
  refine ha Ht C0 C H σ I x ex _ fun a vs C1 H1 x1 h1 r1 => ?_
  refine hb Ht C0 C1 H1 σ (I.to x1) y ey _ fun b C2 H2 x2 r2 => ?_
  rw [r2.int_]
  refine ⟨a, y, vs, rfl, rfl, x2.h _ _ h1, h1', h2', ?_, fun p hp => new_list (x1.trans x2) hp ?_ q⟩
  · rw [r1.length, List.length_map, sizeLine_eq]
    exact h3'
  · rw [rps, List.map_flatten, List.map_replicate]
    exact (r1.mono (part_mono x2.c)).rep _

/-! ### built-ins -/
abbrev rLen (K : PySem.W.Frag) : List V → Hp → VK → Prop := fun xs H Q => ∃ p ys, xs = [.ref p] ∧ (SqL K H p ys ∨ SqT K H p ys) ∧ Q (.int ys.length) H
theorem ev_len {ra : Option (List α)} (ha : EvB K ta ρ m ra) : EvE K (tCB (rLen K) (tCons ta tNil)) ρ .new (ra.bind fun x => some (x.length : Int)) := fun Ht C0 C H σ I z e Q q => by
  obtain ⟨x, ex, e⟩ := some_bind e
  cases e
  refine ha Ht C0 C H σ I x ex _ fun a vs C1 H1 x1 h1 r1 => ⟨a, vs, rfl, .inl (.of h1), ?_⟩
  refine q _ C1 H1 x1 ?_
  rw [r1.length, List.length_map]
  exact .ofInt
theorem ev_lenT {ra : Option (TupL α)} (ha : EvE K ta ρ m ra) : EvE K (tCB (rLen K) (tCons ta tNil)) ρ .new (ra.bind fun x => some (x.l.length : Int)) := fun Ht C0 C H σ I z e Q q => by
  obtain ⟨x, ex, e⟩ := some_bind e
  cases e
  refine ha Ht C0 C H σ I x ex _ fun v C1 H1 x1 r1 => ?_
  obtain ⟨a, vs, rfl, h1, h2⟩ := rep_tupL r1
  refine ⟨a, vs, rfl, .inr (.of (x1.s _ _ (part_le _ _ h1))), q _ C1 H1 x1 ?_⟩
  rw [h2.length, List.length_map]
  exact .ofInt
/-- one argument, an int -/
theorem ev_one {r : List V → Hp → VK → Prop} {ra : Option α} {f : α → Option β} (ha : EvE K ta ρ m1 ra)
    (h : ∀ (Ht C H : Hp) (x : α) (y : β) (v : V) (Q : VK), Same C H → f x = some y → Rep K (part m1 Ht C) (rp x) v → (∀ w C' H', Ext C H C' H' → Rep K (part m Ht C') (rp y) w → Q w H') → r [v] H Q) :
    EvE K (tCB r (tCons ta tNil)) ρ m (ra.bind f) := fun Ht C0 C H σ I z e Q q => by
  obtain ⟨x, ex, e⟩ := some_bind e
  refine ha Ht C0 C H σ I x ex _ fun v C1 H1 x1 r1 => ?_
  exact h Ht C1 H1 x z v Q x1.s e r1 fun w C' H' x2 r2 => q w C' H' (x1.trans x2) r2
theorem ev_abs {ra : Option Int} (ha : EvE K ta ρ m1 ra) : EvE K (tCB (fun xs H Q => ∃ i, xs = [.int i] ∧ Q (.int (if i < 0 then -i else i)) H) (tCons ta tNil)) ρ .new (ra.bind fun x => some (if x < 0 then -x else x)) :=
  ev_one ha fun Ht C H x y v Q s e r q => by
    cases e
    rw [r.int_]
    exact ⟨x, rfl, q _ C H (.refl s) .ofInt⟩
theorem ev_intI {ra : Option Int} (ha : EvE K ta ρ m1 ra) : EvE K (tCB (fun xs H Q => (∃ i, xs = [.int i] ∧ Q (.int i) H) ∨ ∃ k, xs = [.bl k] ∧ Q (.int (if k then 1 else 0)) H) (tCons ta tNil)) ρ .new ra :=
  (ev_one (f := fun x => some x) ha fun Ht C H x y v Q s e r q => by
    cases e
    rw [r.int_]
    exact .inl ⟨x, rfl, q _ C H (.refl s) .ofInt⟩).res (by cases ra <;> rfl)
theorem ev_intB {ra : Option Bool} (ha : EvE K ta ρ m1 ra) : EvE K (tCB (fun xs H Q => (∃ i, xs = [.int i] ∧ Q (.int i) H) ∨ ∃ k, xs = [.bl k] ∧ Q (.int (if k then 1 else 0)) H) (tCons ta tNil)) ρ .new (ra.bind fun b => some (if b = true then (1 : Int) else 0)) :=
  ev_one ha fun Ht C H x y v Q s e r q => by
    cases e
    rw [r.bl_]
    exact .inr ⟨x, rfl, q _ C H (.refl s) .ofInt⟩
theorem ev_maxI2 {ra rb : Option Int} (ha : EvE K ta ρ m1 ra) (hb : EvE K tb ρ m2 rb) : EvE K (tCB (fun xs H Q => ∃ i j, xs = [.int i, .int j] ∧ Q (.int (if j > i then j else i)) H) (tCons ta (tCons tb tNil))) ρ .new (ra.bind fun x => rb.bind fun y => some (if y > x then y else x)) := fun Ht C0 C H σ I z e Q q => by
  obtain ⟨x, ex, e⟩ := some_bind e
  obtain ⟨y, ey, e⟩ := some_bind e
  cases e
  refine ha Ht C0 C H σ I x ex _ fun v C1 H1 x1 r1 => ?_
  refine hb Ht C0 C1 H1 σ (I.to x1) y ey _ fun u C2 H2 x2 r2 => ?_
  rw [r1.int_, r2.int_]
  exact ⟨x, y, rfl, q _ C2 H2 (x1.trans x2) .ofInt⟩
theorem ev_minI2 {ra rb : Option Int} (ha : EvE K ta ρ m1 ra) (hb : EvE K tb ρ m2 rb) : EvE K (tCB (fun xs H Q => ∃ i j, xs = [.int i, .int j] ∧ Q (.int (if j < i then j else i)) H) (tCons ta (tCons tb tNil))) ρ .new (ra.bind fun x => rb.bind fun y => some (if y < x then y else x)) := fun Ht C0 C H σ I z e Q q => by
  obtain ⟨x, ex, e⟩ := some_bind e
  obtain ⟨y, ey, e⟩ := some_bind e
  cases e
  refine ha Ht C0 C H σ I x ex _ fun v C1 H1 x1 r1 => ?_
  refine hb Ht C0 C1 H1 σ (I.to x1) y ey _ fun u C2 H2 x2 r2 => ?_
  rw [r1.int_, r2.int_]
  exact ⟨x, y, rfl, q _ C2 H2 (x1.trans x2) .ofInt⟩
/-- one argument, a list of ints, read -/
theorem ev_oneB {r : List V → Hp → VK → Prop} {ra : Option (List α)} {f : List α → Option β} (ha : EvB K ta ρ m1 ra)
    (h : ∀ (Ht C H : Hp) (x : List α) (y : β) (a : Addr) (vs : List V) (Q : VK), Same C H → f x = some y → H a = some (.lst vs) → RepL K (part m1 Ht C) (rps x) vs → (∀ w C' H', Ext C H C' H' → Rep K (part m Ht C') (rp y) w → Q w H') → r [.ref a] H Q) :
    EvE K (tCB r (tCons ta tNil)) ρ m (ra.bind f) := fun Ht C0 C H σ I z e Q q => by
  obtain ⟨x, ex, e⟩ := some_bind e
  refine ha Ht C0 C H σ I x ex _ fun a vs C1 H1 x1 h1 r1 => ?_
  exact h Ht C1 H1 x z a vs Q x1.s e h1 r1 fun w C' H' x2 r2 => q w C' H' (x1.trans x2) r2
theorem ev_sum {ra : Option (List Int)} (ha : EvB K ta ρ m1 ra) : EvE K (tCB (rSum K) (tCons ta tNil)) ρ .new (ra.bind fun x => some x.sum) :=
  ev_oneB ha fun Ht C H x y a vs Q s e h r q => by
    cases e
    rw [r.ints_eq] at h
    exact ⟨a, x, rfl, .of h, q _ C H (.refl s) .ofInt⟩
/-- the greatest, the least number of a list -/
def maxL : List Int → Option Int
  | [] => none
  | x :: xs => some (xs.foldl (fun a b => if b > a then b else a) x)
def minL : List Int → Option Int
  | [] => none
  | x :: xs => some (xs.foldl (fun a b => if b < a then b else a) x)
theorem maxL_spec {xs : List Int} {y : Int} (h : maxL xs = some y) : y ∈ xs ∧ ∀ z ∈ xs, z ≤ y := by
  cases xs with
  | nil => cases h
  | cons x xs =>
    have e : xs.foldl (fun a b => if b > a then b else a) x = y := Option.some.inj h
    have key : ∀ (l : List Int) (x : Int), l.foldl (fun a b => if b > a then b else a) x ∈ x :: l ∧ x ≤ l.foldl (fun a b => if b > a then b else a) x ∧ ∀ z ∈ l, z ≤ l.foldl (fun a b => if b > a then b else a) x := by
      intro l
      induction l with
      | nil => intro x; exact ⟨List.mem_cons_self, Int.le_refl _, fun z hz => absurd hz (by simp)⟩
      | cons b l ih =>
        intro x
        rw [List.foldl_cons]
        obtain ⟨i1, i2, i3⟩ := ih (if b > x then b else x)
        refine ⟨?_, ?_, fun z hz => ?_⟩
        · rcases List.mem_cons.mp i1 with i1 | i1
          · rw [i1]
            split
            · exact List.mem_cons_of_mem _ List.mem_cons_self
            · exact List.mem_cons_self
          · exact List.mem_cons_of_mem _ (List.mem_cons_of_mem _ i1)
        · refine Int.le_trans ?_ i2
          split <;> omega
        · rcases List.mem_cons.mp hz with rfl | hz
          · refine Int.le_trans ?_ i2
            split <;> omega
          · exact i3 z hz
    obtain ⟨k1, k2, k3⟩ := key xs x
    rw [e] at k1 k2 k3
    exact ⟨k1, fun z hz => (List.mem_cons.mp hz).elim (fun e => e ▸ k2) (k3 z)⟩
theorem minL_spec {xs : List Int} {y : Int} (h : minL xs = some y) : y ∈ xs ∧ ∀ z ∈ xs, y ≤ z := by
  cases xs with
  | nil => cases h
  | cons x xs =>
    have e : xs.foldl (fun a b => if b < a then b else a) x = y := Option.some.inj h
    have key : ∀ (l : List Int) (x : Int), l.foldl (fun a b => if b < a then b else a) x ∈ x :: l ∧ l.foldl (fun a b => if b < a then b else a) x ≤ x ∧ ∀ z ∈ l, l.foldl (fun a b => if b < a then b else a) x ≤ z := by
      intro l
      induction l with
      | nil => intro x; exact ⟨List.mem_cons_self, Int.le_refl _, fun z hz => absurd hz (by simp)⟩
      | cons b l ih =>
        intro x
        rw [List.foldl_cons]
        obtain ⟨i1, i2, i3⟩ := ih (if b < x then b else x)
        refine ⟨?_, ?_, fun z hz => ?_⟩
        · rcases List.mem_cons.mp i1 with i1 | i1
          · rw [i1]
            split
            · exact List.mem_cons_of_mem _ List.mem_cons_self
            · exact List.mem_cons_self
          · exact List.mem_cons_of_mem _ (List.mem_cons_of_mem _ i1)
        · refine Int.le_trans i2 ?_
          split <;> omega
        · rcases List.mem_cons.mp hz with rfl | hz
          · refine Int.le_trans i2 ?_
            split <;> omega
          · exact i3 z hz
    obtain ⟨k1, k2, k3⟩ := key xs x
    rw [e] at k1 k2 k3
    exact ⟨k1, fun z hz => (List.mem_cons.mp hz).elim (fun e => e ▸ k2) (k3 z)⟩
theorem ev_max {ra : Option (List Int)} (ha : EvB K ta ρ m1 ra) : EvE K (tCB (rMax K) (tCons ta tNil)) ρ .new (ra.bind maxL) :=
  ev_oneB ha fun Ht C H x y a vs Q s e h r q => by
    rw [r.ints_eq] at h
    obtain ⟨k1, k2⟩ := maxL_spec e
    refine ⟨a, x, rfl, .of h, List.length_pos_of_mem k1, fun z h1 h2 => ?_⟩
    have ez : z = y := by have := k2 z h1; have := h2 y k1; omega
    rw [ez]
    exact q _ C H (.refl s) .ofInt
theorem ev_min {ra : Option (List Int)} (ha : EvB K ta ρ m1 ra) : EvE K (tCB (rMin K) (tCons ta tNil)) ρ .new (ra.bind minL) :=
  ev_oneB ha fun Ht C H x y a vs Q s e h r q => by
    rw [r.ints_eq] at h
    obtain ⟨k1, k2⟩ := minL_spec e
    refine ⟨a, x, rfl, .of h, List.length_pos_of_mem k1, fun z h1 h2 => ?_⟩
    have ez : z = y := by have := k2 z h1; have := h2 y k1; omega
    rw [ez]
    exact q _ C H (.refl s) .ofInt
/-- list(xs): a new list -/
abbrev rListOf (K : PySem.W.Frag) : List V → Hp → VK → Prop := fun xs H Q => ∃ p ys, xs = [.ref p] ∧ (SqL K H p ys ∨ SqT K H p ys) ∧ ∀ l, H l = none → Q (.ref l) (upd H l (.lst ys))
theorem ev_listOf {ra : Option (List α)} (ha : EvB K ta ρ m ra) : EvL K (tCB (rListOf K) (tCons ta tNil)) ρ m ra := fun Ht C0 C H σ I x ex Q q => by
  refine ha Ht C0 C H σ I x ex _ fun a vs C1 H1 x1 h1 r1 => ⟨a, vs, rfl, .inl (.of h1), fun p hp => new_list x1 hp r1 q⟩
theorem ev_listOfT {ra : Option (TupL α)} (ha : EvE K ta ρ m ra) : EvL K (tCB (rListOf K) (tCons ta tNil)) ρ m (ra.map TupL.l) := fun Ht C0 C H σ I z e Q q => by
  obtain ⟨x, ex, rfl⟩ := some_map e
  refine ha Ht C0 C H σ I x ex _ fun v C1 H1 x1 r1 => ?_
  obtain ⟨a, vs, rfl, h1, h2⟩ := rep_tupL r1
  exact ⟨a, vs, rfl, .inr (.of (x1.s _ _ (part_le _ _ h1))), fun p hp => new_list x1 hp h2 q⟩
/-- tuple(xs): a new tuple -/
abbrev rTupOf (K : PySem.W.Frag) : List V → Hp → VK → Prop := fun xs H Q => ∃ p ys, xs = [.ref p] ∧ ((SqL K H p ys ∧ ∀ l, H l = none → Q (.ref l) (upd H l (.tup ys))) ∨ (SqT K H p ys ∧ Q (.ref p) H))
theorem ev_tupOf {ra : Option (List α)} (ha : EvB K ta ρ m ra) : EvE K (tCB (rTupOf K) (tCons ta tNil)) ρ m (ra.map TupL.mk) := fun Ht C0 C H σ I z e Q q => by
  obtain ⟨x, ex, rfl⟩ := some_map e
  refine ha Ht C0 C H σ I x ex _ fun a vs C1 H1 x1 h1 r1 => ⟨a, vs, rfl, .inl ⟨.of h1, fun p hp => ?_⟩⟩
  refine q (.ref p) (upd C1 p (.tup vs)) _ (new_clean x1 hp) ?_
  simp only [rp, Rp.rp, Rep]
  exact ⟨p, vs, rfl, part_at upd_same (free_of (I.ext.h.trans x1.h) hp), r1.mono (part_mono (same_upd (free_of x1.s hp)))⟩

/-! ### isinstance -/
def isTyN (n t : String) : Bool := t == n || (t == "bool" && n == "int")
def tyName : Dt → String
  | .non => "NoneType"
  | .bl _ => "bool"
  | .int _ => "int"
  | .str _ => "str"
  | .lst _ => "list"
  | .tup _ => "tuple"
  | .frz _ => "list"
def isTy (n : String) (d : Dt) : Bool := isTyN n (tyName d)
def tyNames : List String := ["NoneType", "bool", "int", "str", "list", "tuple"]
theorem tyName_in (d : Dt) : tyName d ∈ tyNames := by cases d <;> simp [tyName, tyNames]
theorem rep_ty {H H' : Hp} (hs : Same H H') : ∀ {d : Dt} {v : V}, (∀ l, d ≠ .frz l) → Rep K H d v → TyX K H' v (.type (tyName d))
  | .non, v, _, h => by simp only [Rep] at h; subst h; exact .base .non
  | .bl _, v, _, h => by simp only [Rep] at h; subst h; exact .base (.bl _)
  | .int _, v, _, h => by simp only [Rep] at h; subst h; exact .base (.int _)
  | .str _, v, _, h => by simp only [Rep] at h; subst h; exact .base (.str _)
  | .lst _, v, _, h => by
    simp only [Rep] at h
    obtain ⟨a, vs, rfl, e, _⟩ := h
    exact .base (.lst (hs _ _ e))
  | .tup _, v, _, h => by
    simp only [Rep] at h
    obtain ⟨a, vs, rfl, e, _⟩ := h
    exact .base (.tup (hs _ _ e))
  | .frz l, v, n, h => absurd rfl (n l)
def noFrz : Dt → Bool
  | .frz _ => false
  | _ => true
theorem ev_isi {n : String} {ra : Option α} (ha : EvE K ta ρ m1 ra) (hk : ∀ t ∈ tyNames, kitB t n = some (isTyN n t) := by decide +kernel) :
    EvE K (tCB (rIsi K) (tCons ta (tCons (tC (.ty n)) tNil))) ρ .new (ra.bind fun x => if noFrz (rp x) = true then some (isTy n (rp x)) else none) := fun Ht C0 C H σ I z e Q q => by
  obtain ⟨x, ex, e⟩ := some_bind e
  obtain ⟨hf, rfl⟩ := some_if e
  refine ha Ht C0 C H σ I x ex _ fun v C1 H1 x1 r1 => ?_
  refine ⟨v, .ty n, .type (tyName (rp x)), .type n, isTy n (rp x), rfl, .ty n, rep_ty (part_le.trans x1.s) (fun l e => ?_) r1, kit_ty (hk _ (tyName_in (rp x))), q _ C1 H1 x1 .ofBl⟩
  rw [e] at hf
  cases hf

/-! ### == of data -/
mutual
def toPy : Dt → PyData
  | .non => .none
  | .bl b => .bool b
  | .int i => .int i
  | .str s => .str s
  | .lst l => .list (toPyL l)
  | .tup l => .tuple (toPyL l)
  | .frz l => .list (l.map .int)
def toPyL : List Dt → List PyData
  | [] => []
  | d :: ds => toPy d :: toPyL ds
end
theorem dpInts {H : Hp} : ∀ l : List Int, DpAll K H (l.map V.int) (l.map PyData.int)
  | [] => .nil
  | i :: l => .cons (.int i) (dpInts l)
mutual
theorem rep_dp {H : Hp} : ∀ (d : Dt) (v : V), Rep K H d v → Dp K H v (toPy d)
  | .non, v, h => by simp only [Rep] at h; subst h; exact .non
  | .bl _, v, h => by simp only [Rep] at h; subst h; exact .bl _
  | .int _, v, h => by simp only [Rep] at h; subst h; exact .int _
  | .str _, v, h => by simp only [Rep] at h; subst h; exact .str _
  | .lst l, v, h => by
    simp only [Rep] at h
    obtain ⟨a, vs, rfl, e, r⟩ := h
    simp only [toPy]
    exact .lst (.of e) (rep_dpL l vs r)
  | .tup l, v, h => by
    simp only [Rep] at h
    obtain ⟨a, vs, rfl, e, r⟩ := h
    simp only [toPy]
    exact .tup (.of e) (rep_dpL l vs r)
  | .frz l, v, h => by
    simp only [Rep] at h
    obtain ⟨a, rfl, e⟩ := h
    simp only [toPy]
    exact .lst e (dpInts l)
theorem rep_dpL {H : Hp} : ∀ (ds : List Dt) (vs : List V), RepL K H ds vs → DpAll K H vs (toPyL ds)
  | [], vs, h => by rw [h.nil_iff]; exact .nil
  | d :: ds, vs, h => by
    obtain ⟨v, r, rfl, h1, h2⟩ := h.uncons
    exact .cons (rep_dp d v h1) (rep_dpL ds r h2)
end
def eqD (x y : Dt) : Option Bool := if SeqAt.shaped (toPy x) = true ∧ SeqAt.shaped (toPy y) = true then some (PyData.eqv (toPy x) (toPy y)) else none
theorem ev_eqD {ra : Option α} {rb : Option β} (ha : EvE K ta ρ m1 ra) (hb : EvE K tb ρ m2 rb) : EvE K (tOp (rEqD K) ta tb) ρ .new (ra.bind fun x => rb.bind fun y => eqD (rp x) (rp y)) :=
  ev_two ha hb fun Ht C H x y z v u Q s e r1 r2 q => by
    obtain ⟨⟨h1, h2⟩, rfl⟩ := some_if e
    exact ⟨_, _, rep_dp _ _ (r1.mono (part_le.trans s)), rep_dp _ _ (r2.mono (part_le.trans s)), h1, h2, q _ C H (.refl s) .ofBl⟩
theorem ev_neD {ra : Option α} {rb : Option β} (ha : EvE K ta ρ m1 ra) (hb : EvE K tb ρ m2 rb) : EvE K (tOp (rNeD K) ta tb) ρ .new (ra.bind fun x => rb.bind fun y => (eqD (rp x) (rp y)).map fun b => !b) :=
  ev_two ha hb fun Ht C H x y z v u Q s e r1 r2 q => by
    obtain ⟨b, eb, rfl⟩ := some_map e
    obtain ⟨⟨h1, h2⟩, rfl⟩ := some_if eb
    exact ⟨_, _, rep_dp _ _ (r1.mono (part_le.trans s)), rep_dp _ _ (r2.mono (part_le.trans s)), h1, h2, q _ C H (.refl s) .ofBl⟩
/-- .. of lists that are read -/
theorem ev_eqB' {ra : Option (List α)} {rb : Option (List β)} {neg : Bool} (ha : EvB K ta ρ m1 ra) (hb : EvB K tb ρ m2 rb) {r : R2} (hr : r = if neg then rNeD K else rEqD K) : EvE K (tOp r ta tb) ρ .new (ra.bind fun x => rb.bind fun y => (eqD (rp x) (rp y)).map fun b => b != neg) := fun Ht C0 C H σ I z e Q q => by
  obtain ⟨x, ex, e⟩ := some_bind e
  obtain ⟨y, ey, e⟩ := some_bind e
  obtain ⟨b, eb, rfl⟩ := some_map e
  obtain ⟨⟨k1, k2⟩, rfl⟩ := some_if eb
  refine ha Ht C0 C H σ I x ex _ fun a vs C1 H1 x1 h1 r1 => ?_
  refine hb Ht C0 C1 H1 σ (I.to x1) y ey _ fun c us C2 H2 x2 h2 r2 => ?_
  have d1 : Dp K H2 (.ref a) (toPy (rp x)) := by
    refine rep_dp _ _ ?_
    simp only [rp, Rp.rp, Rep]
    exact ⟨a, vs, rfl, x2.h _ _ h1, r1.mono ((part_mono x2.c).trans (part_le.trans x2.s))⟩
  have d2 : Dp K H2 (.ref c) (toPy (rp y)) := by
    refine rep_dp _ _ ?_
    simp only [rp, Rp.rp, Rep]
    exact ⟨c, us, rfl, h2, r2.mono (part_le.trans x2.s)⟩
  subst hr
  cases neg with
  | false => exact ⟨_, _, d1, d2, k1, k2, by have := q _ C2 H2 (x1.trans x2) (.ofBl (i := PyData.eqv (toPy (rp x)) (toPy (rp y)) != false)); rwa [Bool.bne_false] at this⟩
  | true => exact ⟨_, _, d1, d2, k1, k2, by have := q _ C2 H2 (x1.trans x2) (.ofBl (i := PyData.eqv (toPy (rp x)) (toPy (rp y)) != true)); rwa [Bool.bne_true] at this⟩
theorem ev_eqL {ra : Option (List α)} {rb : Option (List β)} (ha : EvB K ta ρ m1 ra) (hb : EvB K tb ρ m2 rb) : EvE K (tOp (rEqD K) ta tb) ρ .new (ra.bind fun x => rb.bind fun y => eqD (rp x) (rp y)) :=
  (ev_eqB' (neg := false) ha hb rfl).res (by cases ra <;> cases rb <;> simp)
theorem ev_neL {ra : Option (List α)} {rb : Option (List β)} (ha : EvB K ta ρ m1 ra) (hb : EvB K tb ρ m2 rb) : EvE K (tOp (rNeD K) ta tb) ρ .new (ra.bind fun x => rb.bind fun y => (eqD (rp x) (rp y)).map fun b => !b) :=
  (ev_eqB' (neg := true) ha hb rfl).res (by cases ra <;> cases rb <;> simp)
/-- is None -/
theorem ev_isN {ra : Option (Option α)} (ha : EvE K ta ρ m1 ra) (hn : ∀ H (x : α), ¬ Rep K H (rp x) .non := by intro H x; simp [rp, Rp.rp, Rep]) : EvE K (tOp (fun x y H Q => y = .non ∧ Q (.bl (decide (x = .non))) H) ta (tC .non)) ρ .new (ra.bind fun x => some x.isNone) := fun Ht C0 C H σ I z e Q q => by
  obtain ⟨x, ex, e⟩ := some_bind e
  cases e
  refine ha Ht C0 C H σ I x ex _ fun v C1 H1 x1 r1 => ⟨rfl, q _ C1 H1 x1 ?_⟩
  cases x with
  | none =>
    simp only [rp, Rp.rp, Rep] at r1 ⊢
    simp [r1]
  | some y =>
    have nv : v ≠ .non := fun z => hn (part m1 Ht C1) y (z ▸ r1)
    simp only [rp, Rp.rp, Rep]
    simp [nv]
theorem ev_notN {ra : Option (Option α)} (ha : EvE K ta ρ m1 ra) (hn : ∀ H (x : α), ¬ Rep K H (rp x) .non := by intro H x; simp [rp, Rp.rp, Rep]) : EvE K (tOp (fun x y H Q => y = .non ∧ Q (.bl (!decide (x = .non))) H) ta (tC .non)) ρ .new (ra.bind fun x => some x.isSome) := fun Ht C0 C H σ I z e Q q => by
  obtain ⟨x, ex, e⟩ := some_bind e
  cases e
  refine ha Ht C0 C H σ I x ex _ fun v C1 H1 x1 r1 => ⟨rfl, q _ C1 H1 x1 ?_⟩
  cases x with
  | none =>
    simp only [rp, Rp.rp, Rep] at r1 ⊢
    simp [r1]
  | some y =>
    have nv : v ≠ .non := fun z => hn (part m1 Ht C1) y (z ▸ r1)
    simp only [rp, Rp.rp, Rep]
    simp [nv]
/-- x in xs: ints -/
theorem eqV_int {i j : Int} : eqV (.int i) (.int j) = decide (i = j) := by
  rw [eqV]
  exact Bool.beq_eq_decide_eq ..
theorem inV_ints (i : Int) : ∀ xs : List Int, inV (.int i) (xs.map V.int) = decide (i ∈ xs)
  | [] => by simp [inV]
  | x :: xs => by
    have ih := inV_ints i xs
    unfold inV at ih ⊢
    rw [List.map_cons, List.any_cons, ih, eqV_int]
    by_cases h : x = i
    · subst h; simp
    · have h' : ¬ i = x := fun e => h e.symm
      simp [h, h']
theorem flat_ints : ∀ xs : List Int, (xs.map V.int).all flatV = true
  | [] => rfl
  | x :: xs => by rw [List.map_cons, List.all_cons, flat_ints xs]; rfl
theorem ev_inI {ra : Option Int} {rb : Option (List Int)} (ha : EvE K ta ρ m1 ra) (hb : EvB K tb ρ m2 rb) : EvE K (tOp (rIn K false) ta tb) ρ .new (ra.bind fun x => rb.bind fun xs => some (decide (x ∈ xs))) := fun Ht C0 C H σ I z e Q q => by
  obtain ⟨x, ex, e⟩ := some_bind e
  obtain ⟨y, ey, e⟩ := some_bind e
  cases e
  refine ha Ht C0 C H σ I x ex _ fun v C1 H1 x1 r1 => ?_
  refine hb Ht C0 C1 H1 σ (I.to x1) y ey _ fun c us C2 H2 x2 h2 r2 => ?_
  rw [r1.int_]
  rw [r2.ints_eq] at h2
  refine ⟨c, _, rfl, .inl (.of h2), rfl, flat_ints y, ?_⟩
  rw [inV_ints]
  exact q _ C2 H2 (x1.trans x2) .ofBl
theorem ev_ninI {ra : Option Int} {rb : Option (List Int)} (ha : EvE K ta ρ m1 ra) (hb : EvB K tb ρ m2 rb) : EvE K (tOp (rIn K true) ta tb) ρ .new (ra.bind fun x => rb.bind fun xs => some (decide (x ∉ xs))) := fun Ht C0 C H σ I z e Q q => by
  obtain ⟨x, ex, e⟩ := some_bind e
  obtain ⟨y, ey, e⟩ := some_bind e
  cases e
  refine ha Ht C0 C H σ I x ex _ fun v C1 H1 x1 r1 => ?_
  refine hb Ht C0 C1 H1 σ (I.to x1) y ey _ fun c us C2 H2 x2 h2 r2 => ?_
  rw [r1.int_]
  rw [r2.ints_eq] at h2
  refine ⟨c, _, rfl, .inl (.of h2), rfl, flat_ints y, ?_⟩
  rw [inV_ints]
  have := q _ C2 H2 (x1.trans x2) (.ofBl (i := decide (x ∉ y)))
  simpa using this
end
end L2.DL

/-! DL4: what is walked, comprehensions, statements, defs, by data. -/
namespace L2.DL
open PySem PySem.Spec PyProof.Rows

/-! ### weaker environments -/
inductive SlotW : Slot → Slot → Prop
  | id {s : Slot} : SlotW s s
  | un {s : Slot} : SlotW s .un
  | old {m : Md} {d : Dt} : SlotW (.dat m d) (.dat .old d)
  | sc {m m' : Md} {α : Type} [Rp α] [Scal α] {x : α} : SlotW (.dat m (rp x)) (.dat m' (rp x))
  | oldO {m : Md} {l : List Dt} : SlotW (.own m l) (.own .old l)
  | scO {m m' : Md} {α : Type} [Rp α] [Scal α] {x : List α} : SlotW (.own m (rps x)) (.own m' (rps x))
inductive EnvW : En → En → Prop
  | nil : EnvW [] []
  | cons {s s' : Slot} {ρ ρ' : En} : SlotW s s' → EnvW ρ ρ' → EnvW (s :: ρ) (s' :: ρ')
theorem EnvW.refl : ∀ {ρ : En}, EnvW ρ ρ
  | [] => .nil
  | _ :: _ => .cons .id EnvW.refl
theorem EnvW.at : ∀ {ρ ρ' : En} {i : Nat} {s' : Slot}, EnvW ρ ρ' → ρ'[i]? = some s' → ∃ s, ρ[i]? = some s ∧ SlotW s s'
  | _, _, i, s', .nil, e => by simp at e
  | _, _, 0, s', .cons h t, e => by
    simp at e
    subst e
    exact ⟨_, rfl, h⟩
  | _, _, i + 1, s', .cons h t, e => by
    obtain ⟨s, e1, e2⟩ := t.at (i := i) (s' := s') (by simpa using e)
    exact ⟨s, by simpa using e1, e2⟩
theorem EnvW.len : ∀ {ρ ρ' : En}, EnvW ρ ρ' → ρ.length = ρ'.length
  | _, _, .nil => rfl
  | _, _, .cons h t => by rw [List.length_cons, List.length_cons, t.len]
section
variable {K : PySem.W.Frag} {Ht C0 C H : Hp} {σ : St} {ρ ρ' : En}
theorem SlotOk.weak {o : Option (Option V)} {s s' : Slot} (w : SlotW s s') (h : SlotOk K Ht C H o s) : SlotOk K Ht C H o s' := by
  cases w with
  | id => exact h
  | un => trivial
  | old =>
    obtain ⟨v, e, r⟩ := h
    exact ⟨v, e, r.mono part_le⟩
  | sc =>
    obtain ⟨v, e, r⟩ := h
    exact ⟨v, e, Scal.ok K _ _ _ v r⟩
  | oldO =>
    obtain ⟨a, vs, e, h1, h2, h3, r⟩ := h
    exact ⟨a, vs, e, h1, h2, h3, r.mono part_le⟩
  | scO =>
    obtain ⟨a, vs, e, h1, h2, h3, r⟩ := h
    exact ⟨a, vs, e, h1, h2, h3, r.scal⟩
theorem SlotW.own {s : Slot} {m : Md} {l : List Dt} (w : SlotW s (.own m l)) : ∃ m', s = .own m' l := by
  cases w with
  | id => exact ⟨m, rfl⟩
  | oldO => exact ⟨_, rfl⟩
  | scO => exact ⟨_, rfl⟩
theorem EnvI.weak (I : EnvI K Ht C0 C H σ ρ) (w : EnvW ρ ρ') : EnvI K Ht C0 C H σ ρ' := by
  refine ⟨I.ext, I.len.trans w.len, fun i s' e => ?_, fun i j a mi li mj lj n e1 e2 e3 e4 => ?_⟩
  · obtain ⟨s, e1, w1⟩ := w.at e
    exact (I.ok i s e1).weak w1
  · obtain ⟨s1, f1, w1⟩ := w.at e1
    obtain ⟨s2, f2, w2⟩ := w.at e2
    obtain ⟨m1, rfl⟩ := w1.own
    obtain ⟨m2, rfl⟩ := w2.own
    exact I.sep i j a _ _ _ _ n f1 f2 e3 e4
end

/-! ### targets -/
def EvG (K : PySem.W.Frag) (g : TG) (m : Md) (d : Dt) (ρ ρ' : En) (vs : List Nat) : Prop :=
  ∀ (Ht C0 C H : Hp) (σ : St) (v : V), EnvI K Ht C0 C H σ ρ → Rep K (part m Ht C) d v → ∀ Q : St → Hp → Prop,
    (∀ σ', EnvI K Ht C0 C H σ' ρ' → (∀ j, j ∉ vs → σ'[j]? = σ[j]?) → σ'.length = σ.length → Q σ' H) → g v σ H Q
section
variable {K : PySem.W.Frag} {ρ ρ' ρ2 : En} {m m1 m2 : Md}
variable {α β γ : Type} [Rp α] [Rp β] [Rp γ]
theorem eg_name {i : Nat} {d : Dt} : EvG K (gName i) m d ρ (ρ.set i (.dat m d)) [i] := fun Ht C0 C H σ v I r Q q => by
  refine q _ (I.set r) (fun j hj => ?_) (List.length_set ..)
  rw [List.getElem?_set_ne (fun e => hj (by simp [e]))]
theorem eg_nameS [Scal α] {i : Nat} {x : α} : EvG K (gName i) m (rp x) ρ (ρ.set i (.dat m1 (rp x))) [i] := fun Ht C0 C H σ v I r Q q => by
  refine q _ (I.set (Scal.ok K _ _ x v r)) (fun j hj => ?_) (List.length_set ..)
  rw [List.getElem?_set_ne (fun e => hj (by simp [e]))]
theorem EvG.weak {g : TG} {d : Dt} {vs : List Nat} (h : EvG K g m d ρ ρ' vs) (w : EnvW ρ' ρ2) : EvG K g m d ρ ρ2 vs := fun Ht C0 C H σ v I r Q q =>
  h Ht C0 C H σ v I r Q fun σ' I' e1 e2 => q σ' (I'.weak w) e1 e2
/-- a, b = a pair -/
theorem eg_pair {g1 g2 : TG} {x : α × β} {v1 v2 : List Nat} (h1 : EvG K g1 m (rp x.1) ρ ρ' v1) (h2 : EvG K g2 m (rp x.2) ρ' ρ2 v2) : EvG K (gTup K 2 (gCons g1 (gCons g2 gNil))) m (rp x) ρ ρ2 (v1 ++ v2) := fun Ht C0 C H σ v I r Q q => by
  obtain ⟨a, u, w, rfl, e, r1, r2⟩ := rep_pair r
  refine ⟨a, [u, w], rfl, .of (I.sub _ _ (part_le _ _ e)), rfl, u, [w], rfl, ?_⟩
  refine h1 Ht C0 C H σ u I r1 _ fun σ1 I1 e1 l1 => ⟨w, [], rfl, ?_⟩
  refine h2 Ht C0 C H σ1 w I1 r2 _ fun σ2 I2 e2 l2 => ⟨rfl, q σ2 I2 (fun j hj => ?_) (l2.trans l1)⟩
  rw [e2 j fun z => hj (List.mem_append_right _ z), e1 j fun z => hj (List.mem_append_left _ z)]
theorem eg_trip {g1 g2 g3 : TG} {x : T3 α β γ} {ρ3 : En} {v1 v2 v3 : List Nat} (h1 : EvG K g1 m (rp x.p) ρ ρ' v1) (h2 : EvG K g2 m (rp x.q) ρ' ρ2 v2) (h3 : EvG K g3 m (rp x.r) ρ2 ρ3 v3) :
    EvG K (gTup K 3 (gCons g1 (gCons g2 (gCons g3 gNil)))) m (rp x) ρ ρ3 (v1 ++ (v2 ++ v3)) := fun Ht C0 C H σ v I r Q q => by
  obtain ⟨a, u, w, w3, rfl, e, r1, r2, r3⟩ := rep_t3 r
  refine ⟨a, [u, w, w3], rfl, .of (I.sub _ _ (part_le _ _ e)), rfl, u, [w, w3], rfl, ?_⟩
  refine h1 Ht C0 C H σ u I r1 _ fun σ1 I1 e1 l1 => ⟨w, [w3], rfl, ?_⟩
  refine h2 Ht C0 C H σ1 w I1 r2 _ fun σ2 I2 e2 l2 => ⟨w3, [], rfl, ?_⟩
  refine h3 Ht C0 C H σ2 w3 I2 r3 _ fun σ3 I3 e3 l3 => ⟨rfl, q σ3 I3 (fun j hj => ?_) (l3.trans (l2.trans l1))⟩
  rw [e3 j fun z => hj (List.mem_append_right _ (List.mem_append_right _ z)), e2 j fun z => hj (List.mem_append_right _ (List.mem_append_left _ z)), e1 j fun z => hj (List.mem_append_left _ z)]
end

/-! ### what is walked -/
structure ItOk (K : PySem.W.Frag) (J : It) (Ht Ci : Hp) (m : Md) (ds : List Dt) : Prop where
  go : ∀ (i : Nat) (C H : Hp) (d : Dt), ds[i]? = some d → Same Ci C → Same C H → Same Ht H → J.go i H ∧ ∀ x H', J.yld i H x H' → ∃ C', Ext C H C' H' ∧ Rep K (part m Ht C') d x
  stop : ∀ (C H : Hp), Same Ci C → Same C H → J.stop ds.length H
def EvI (K : PySem.W.Frag) {α : Type} [Rp α] (w : TI) (ρ : En) (m : Md) (r : Option (List α)) : Prop :=
  ∀ (Ht C0 C H : Hp) (σ : St), EnvI K Ht C0 C H σ ρ → ∀ xs, r = some xs → ∀ R : It → Hp → Prop, (∀ J C' H', Ext C H C' H' → ItOk K J Ht C' m (rps xs) → R J H') → w σ H R
section
variable {K : PySem.W.Frag} {ta tb : TE} {ρ : En} {m m1 m2 : Md}
variable {α β γ : Type} [Rp α] [Rp β] [Rp γ]
theorem ei_list {ra : Option (List α)} (ha : EvE K ta ρ m ra) : EvI K (iList K ta) ρ m ra := fun Ht C0 C H σ I xs ex R q => by
  refine ha Ht C0 C H σ I xs ex _ fun v C1 H1 x1 r1 => ?_
  obtain ⟨a, vs, rfl, e, r⟩ := rep_lst r1
  have ec : C1 a = some (.lst vs) := part_le _ _ e
  refine ⟨a, rfl, ⟨vs, .of (x1.s _ _ ec)⟩, q _ C1 H1 x1 ⟨fun i C2 H2 d ed hc hs _ => ?_, fun C2 H2 hc hs => ⟨vs, .of (hs _ _ (hc _ _ ec)), ?_⟩⟩⟩
  · obtain ⟨u, eu, ru⟩ := r.get ed
    have s2 : SqL K H2 a vs := .of (hs _ _ (hc _ _ ec))
    refine ⟨⟨vs, u, s2, eu⟩, fun x H' y => ?_⟩
    obtain ⟨rfl, y⟩ := y
    have e2 := y vs s2
    rw [eu] at e2
    cases e2
    exact ⟨C2, .refl hs, ru.mono (part_mono hc)⟩
  · rw [r.length]
    exact Nat.le_refl _
theorem ei_tup {ra : Option (TupL α)} (ha : EvE K ta ρ m ra) : EvI K (iTup K ta) ρ m (ra.map TupL.l) := fun Ht C0 C H σ I xs ex R q => by
  obtain ⟨t, et, rfl⟩ := some_map ex
  refine ha Ht C0 C H σ I t et _ fun v C1 H1 x1 r1 => ?_
  obtain ⟨a, vs, rfl, e, r⟩ := rep_tupL r1
  have ec : C1 a = some (.tup vs) := part_le _ _ e
  refine ⟨a, rfl, ⟨vs, .of (x1.s _ _ ec)⟩, q _ C1 H1 x1 ⟨fun i C2 H2 d ed hc hs _ => ?_, fun C2 H2 hc hs => ⟨vs, .of (hs _ _ (hc _ _ ec)), ?_⟩⟩⟩
  · obtain ⟨u, eu, ru⟩ := r.get ed
    have s2 : SqT K H2 a vs := .of (hs _ _ (hc _ _ ec))
    refine ⟨⟨vs, u, s2, eu⟩, fun x H' y => ?_⟩
    obtain ⟨rfl, y⟩ := y
    have e2 := y vs s2
    rw [eu] at e2
    cases e2
    exact ⟨C2, .refl hs, ru.mono (part_mono hc)⟩
  · rw [r.length]
    exact Nat.le_refl _
theorem rangeL_length (lo hi : Int) : (rangeL lo hi).length = (hi - lo).toNat := by simp [rangeL]
theorem rangeL_get {lo hi : Int} {i : Nat} {d : Dt} (h : (rps (rangeL lo hi))[i]? = some d) : i < (hi - lo).toNat ∧ d = .int (lo + i) := by
  have hl : i < (rps (rangeL lo hi)).length := (List.getElem?_eq_some_iff.mp h).1
  rw [List.length_map, rangeL_length] at hl
  refine ⟨hl, ?_⟩
  rw [rps, rangeL, List.map_map, List.getElem?_map, List.getElem?_range hl] at h
  exact (Option.some.inj h).symm
theorem it_range {Ht C : Hp} {lo hi : Int} : ItOk K (Itr lo (hi - lo).toNat) Ht C m (rps (rangeL lo hi)) := by
  refine ⟨fun i C2 H2 d ed hc hs _ => ?_, fun C2 H2 hc hs => ?_⟩
  · obtain ⟨hi', rfl⟩ := rangeL_get ed
    refine ⟨hi', fun x H' y => ?_⟩
    obtain ⟨rfl, rfl⟩ := y
    exact ⟨C2, .refl hs, by simp only [Rep]⟩
  · show _ ≤ _
    rw [List.length_map, rangeL_length]
    exact Nat.le_refl _
theorem ei_range1 {ra : Option Int} (ha : EvE K ta ρ m1 ra) : EvI K (iRng1 (tCons ta tNil)) ρ .new (ra.bind fun n => rangeP 0 n) := fun Ht C0 C H σ I xs ex R q => by
  obtain ⟨n, en, ex⟩ := some_bind ex
  rw [rangeP_def] at ex
  obtain ⟨⟨h1, h2, h3, h4⟩, rfl⟩ := some_if ex
  refine ha Ht C0 C H σ I n en _ fun v C1 H1 x1 r1 => ?_
  rw [r1.int_]
  refine ⟨n, rfl, h3, h4, q _ C1 H1 x1 ?_⟩
  have := it_range (K := K) (m := .new) (Ht := Ht) (C := C1) (lo := 0) (hi := n)
  rwa [Int.sub_zero] at this
theorem ei_range2 {ra rb : Option Int} (ha : EvE K ta ρ m1 ra) (hb : EvE K tb ρ m2 rb) : EvI K (iRng2 (tCons ta (tCons tb tNil))) ρ .new (ra.bind fun l => rb.bind fun n => rangeP l n) := fun Ht C0 C H σ I xs ex R q => by
  obtain ⟨l, el, ex⟩ := some_bind ex
  obtain ⟨n, en, ex⟩ := some_bind ex
  rw [rangeP_def] at ex
  obtain ⟨⟨h1, h2, h3, h4⟩, rfl⟩ := some_if ex
  refine ha Ht C0 C H σ I l el _ fun v C1 H1 x1 r1 => ?_
  refine hb Ht C0 C1 H1 σ (I.to x1) n en _ fun u C2 H2 x2 r2 => ?_
  rw [r1.int_, r2.int_]
  exact ⟨l, n, rfl, ⟨h1, h2, h3, h4⟩, q _ C2 H2 (x1.trans x2) it_range⟩
theorem EvI.sc [Scal α] {w : TI} {r : Option (List α)} (h : EvI K w ρ m r) : EvI K w ρ m1 r := fun Ht C0 C H σ I xs ex R q =>
  h Ht C0 C H σ I xs ex R fun J C' H' x ok => q J C' H' x ⟨fun i C2 H2 d ed hc hs ht => by
    obtain ⟨g, y⟩ := ok.go i C2 H2 d ed hc hs ht
    refine ⟨g, fun x H3 hy => ?_⟩
    obtain ⟨C3, x3, r3⟩ := y x H3 hy
    refine ⟨C3, x3, ?_⟩
    rw [rps, List.getElem?_map] at ed
    obtain ⟨z, _, rfl⟩ := some_map ed
    exact Scal.ok K _ _ z x r3, ok.stop⟩
theorem EvI.res {w : TI} {r r' : Option (List α)} (h : EvI K w ρ m r) (e : r' = r) : EvI K w ρ m r' := e ▸ h
end

/-! ### comprehensions -/
def wipeE (ρ : En) : List Nat → En
  | [] => ρ
  | v :: vs => (wipeE ρ vs).set v .un
section
variable {K : PySem.W.Frag} {Ht C0 C H : Hp} {σ : St} {ρ : En}
theorem wipeE_at : ∀ {vs : List Nat} {i : Nat} {s : Slot}, (wipeE ρ vs)[i]? = some s → s = .un ∨ (i ∉ vs ∧ ρ[i]? = some s)
  | [], i, s, h => .inr ⟨by simp, h⟩
  | v :: vs, i, s, h => by
    rcases get_set h with ⟨rfl, rfl⟩ | ⟨n, h⟩
    · exact .inl rfl
    · rcases wipeE_at h with rfl | ⟨h1, h2⟩
      · exact .inl rfl
      · exact .inr ⟨fun z => (List.mem_cons.mp z).elim n h1, h2⟩
theorem wipeE_length : ∀ vs : List Nat, (wipeE ρ vs).length = ρ.length
  | [] => rfl
  | v :: vs => by unfold wipeE; rw [List.length_set, wipeE_length vs]
theorem EnvI.wipe (I : EnvI K Ht C0 C H σ ρ) (vs : List Nat) : EnvI K Ht C0 C H (wipe σ vs) (wipeE ρ vs) := by
  refine I.forget (by rw [wipe_length, wipeE_length]; exact I.len) fun i s e => ?_
  rcases wipeE_at e with rfl | ⟨h1, h2⟩
  · exact .inl rfl
  · exact .inr ⟨h2, wipe_out h1⟩
theorem wipe_in : ∀ {vs : List Nat} {i : Nat}, i ∈ vs → (wipe σ vs)[i]? = if i < σ.length then some none else none
  | v :: vs, i, h => by
    unfold L2.wipe
    by_cases e : v = i
    · subst e
      by_cases hv : v < σ.length
      · rw [List.getElem?_set_self (by rw [wipe_length]; exact hv), if_pos hv]
      · rw [List.getElem?_eq_none (by rw [List.length_set, wipe_length]; omega), if_neg hv]
    · rw [List.getElem?_set_ne e]
      exact wipe_in ((List.mem_cons.mp h).elim (fun z => absurd z.symm e) id)
theorem wipe_eq {σ' : St} {vs : List Nat} (h : ∀ j, j ∉ vs → σ'[j]? = (wipe σ vs)[j]?) (hl : σ'.length = σ.length) : wipe σ' vs = wipe σ vs := by
  refine List.ext_getElem? fun i => ?_
  by_cases hi : i ∈ vs
  · rw [wipe_in hi, wipe_in hi, hl]
  · rw [wipe_out hi, h i hi]
end
section
variable {K : PySem.W.Frag} {te : TE} {ρ : En} {m mi : Md} {w : TI} {g : TG} {tt : TT}
variable {α β γ : Type} [Rp α] [Rp β] [Rp γ]
theorem et_yes : EvT K tYes ρ (some true) := fun Ht C0 C H σ I b e Q q => by
  cases e
  exact q C H I.same
theorem ev_lc {vs : List Nat} {rx : Option (List α)} {p : α → Option Bool} {f : α → Option β} {Eb : α → En} (hi : EvI K w ρ mi rx) (hg : ∀ x, EvG K g mi (rp x) (wipeE ρ vs) (Eb x) vs)
    (ht : ∀ x, EvT K tt (Eb x) (p x)) (he : ∀ x, EvE K te (Eb x) m (f x)) : EvL K (tLc w g tt te vs) ρ m (rx.bind fun xs => (compM p f xs).bind lim) := fun Ht C0 C H σ I z e Q q => by
  obtain ⟨xs, ex, e⟩ := some_bind e
  obtain ⟨all, ea, e⟩ := some_bind e
  obtain ⟨hz, rfl⟩ := of_lim e
  refine hi Ht C0 C H σ I xs ex _ fun J C1 H1 x1 ok => fun D hD => ?_
  refine ⟨fun i n Hc => n = xs.length - i ∧ i ≤ xs.length ∧ ∃ Cc ys acc rest, Ext C1 H1 Cc Hc ∧ Cc D = none ∧ Hc D = some (.lst acc) ∧ RepL K (part m Ht Cc) (rps ys) acc ∧ compM p f (xs.drop i) = some rest ∧ ys ++ rest = z,
    ⟨xs.length, rfl, Nat.zero_le _, C1, [], [], z, ⟨.refl _, same_upd hD, x1.s.trans (same_upd hD), fun a _ h => h⟩, free_of x1.s hD, upd_same, .nil, ea, rfl⟩, ?_⟩
  rintro i n Hc ⟨rfl, hi', Cc, ys, acc, rest, xc, cD, hDc, ra, er, eq⟩
  by_cases hlt : i < xs.length
  · have ed : (rps xs)[i]? = some (rp xs[i]) := by rw [rps, List.getElem?_map, List.getElem?_eq_getElem hlt]; rfl
    obtain ⟨go, yl⟩ := ok.go i Cc Hc _ ed xc.c xc.s (I.ext.h.trans (x1.h.trans xc.h))
    refine .inr ⟨go, fun H' => ∃ Cc ys acc rest, Ext C1 H1 Cc H' ∧ Cc D = none ∧ H' D = some (.lst acc) ∧ RepL K (part m Ht Cc) (rps ys) acc ∧ compM p f (xs.drop (i + 1)) = some rest ∧ ys ++ rest = z,
      fun H' h => ⟨xs.length - (i + 1), by omega, rfl, hlt, h⟩, fun x H' hy => ?_⟩
    obtain ⟨C2, x2, r2⟩ := yl x H' hy
    have dn : Hc D ≠ none := by rw [hDc]; simp
    rw [List.drop_eq_getElem_cons hlt] at er
    obtain ⟨b, eb, er⟩ := some_bind er
    have I2 := ((I.to x1).to (xc.trans x2)).wipe vs
    refine hg xs[i] Ht C0 C2 H' (wipe σ vs) x I2 r2 _ fun σ3 I3 e3 l3 => ⟨wipe_eq e3 (l3.trans (wipe_length _ _)), ?_⟩
    refine ht xs[i] Ht C0 C2 H' σ3 I3 b eb _ fun C4 H4 x4 => ?_
    have xa := (xc.trans x2).trans x4
    cases b with
    | false =>
      rw [if_neg Bool.false_ne_true] at er
      exact iteF ⟨C4, ys, acc, rest, xa, x4.f D (Same.ne x2.h dn) (x2.f D dn cD), x4.h _ _ (x2.h _ _ hDc), ra.mono (part_mono (x2.c.trans x4.c)), er, eq⟩
    | true =>
      rw [if_pos rfl] at er
      obtain ⟨y, ey, er⟩ := some_bind er
      obtain ⟨rest', er', er⟩ := some_bind er
      cases er
      refine iteT (he xs[i] Ht C0 C4 H4 σ3 (I3.to x4) y ey _ fun v C5 H5 x5 r5 => ?_)
      have xb := xa.trans x5
      have hl : acc.length < sizeLine := by
        rw [ra.length, List.length_map]
        have hzz := hz
        rw [← eq, List.length_append, List.length_cons] at hzz
        omega
      refine ⟨acc, x5.h _ _ (x4.h _ _ (x2.h _ _ hDc)), hl, C5, ys ++ [y], acc ++ [v], rest', ⟨xb.c, fun a o ha => ?_, fun a o ha => ?_, xb.f⟩, ?_, upd_same, ?_, er', by rw [← eq, List.append_assoc]; rfl⟩
      · rw [upd_ne (ne_of_none ha hD)]
        exact xb.h _ _ ha
      · have c5 : C5 D = none := x5.f D (Same.ne x4.h (Same.ne x2.h dn)) (x4.f D (Same.ne x2.h dn) (x2.f D dn cD))
        rw [upd_ne (ne_of_none ha c5)]
        exact xb.s _ _ ha
      · exact x5.f D (Same.ne x4.h (Same.ne x2.h dn)) (x4.f D (Same.ne x2.h dn) (x2.f D dn cD))
      · rw [rps, List.map_append]
        exact (ra.mono (part_mono ((x2.c.trans x4.c).trans x5.c))).append (.cons r5 .nil)
  · have hie : i = xs.length := by omega
    subst hie
    rw [List.drop_length] at er
    cases er
    rw [List.append_nil] at eq
    subst eq
    have st := ok.stop Cc Hc xc.c xc.s
    rw [List.length_map] at st
    refine .inl ⟨st, q D acc Cc Hc (x1.trans xc) (free_of x1.h hD) cD hDc ra⟩
/-- .. its plain forms -/
theorem ev_lcM {vs : List Nat} {rx : Option (List α)} {f : α → β} {Eb : α → En} (hi : EvI K w ρ mi rx) (hg : ∀ x, EvG K g mi (rp x) (wipeE ρ vs) (Eb x) vs) (he : ∀ x, EvE K te (Eb x) m (some (f x))) :
    EvL K (tLc w g tYes te vs) ρ m (rx.bind fun xs => lim (xs.map f)) :=
  (ev_lc (p := fun _ => some true) (f := fun x => some (f x)) hi hg (fun _ => et_yes) he).res (by cases rx <;> simp [compM_map])
theorem ev_lcO {vs : List Nat} {rx : Option (List α)} {f : α → Option β} {Eb : α → En} (hi : EvI K w ρ mi rx) (hg : ∀ x, EvG K g mi (rp x) (wipeE ρ vs) (Eb x) vs) (he : ∀ x, EvE K te (Eb x) m (f x)) :
    EvL K (tLc w g tYes te vs) ρ m (rx.bind fun xs => (mapO f xs).bind lim) :=
  (ev_lc (p := fun _ => some true) hi hg (fun _ => et_yes) he).res (by cases rx <;> simp [compM_mapO])
theorem ev_lcF {vs : List Nat} {rx : Option (List α)} {p : α → Bool} {f : α → β} {Eb : α → En} (hi : EvI K w ρ mi rx) (hg : ∀ x, EvG K g mi (rp x) (wipeE ρ vs) (Eb x) vs) (ht : ∀ x, EvT K tt (Eb x) (some (p x))) (he : ∀ x, EvE K te (Eb x) m (some (f x))) :
    EvL K (tLc w g tt te vs) ρ m (rx.bind fun xs => lim ((xs.filter p).map f)) :=
  (ev_lc (p := fun x => some (p x)) (f := fun x => some (f x)) hi hg ht he).res (by cases rx <;> simp [compM_filter])
end

/-! ### statements -/
section
variable (K : PySem.W.Frag)
/-- what holds at every state of an environment, later -/
def Thn (Ht C0 C : Hp) (ρ : En) (P : St → Hp → Prop) : Prop := ∀ C' H' σ', EnvI K Ht C0 C' H' σ' ρ → Same C C' → P σ' H'
/-- a statement goes on -/
def EvN {S : Type} (t : TS) (ρ : En) (E : S → En) (o : Option S) : Prop :=
  ∀ (Ht C0 C H : Hp) (σ : St), EnvI K Ht C0 C H σ ρ → ∀ s, o = some s → ∀ D : Ends, Thn K Ht C0 C (E s) D.nx → t D σ H
/-- .. returns -/
def EvR {R : Type} [Rp R] (t : TS) (ρ : En) (m : Md) (o : Option R) : Prop :=
  ∀ (Ht C0 C H : Hp) (σ : St), EnvI K Ht C0 C H σ ρ → ∀ r, o = some r → ∀ D : Ends, (∀ v C' H', Ext C0 Ht C' H' → Rep K (part m Ht C') (rp r) v → D.rt v H') → t D σ H
end
/-- where a statement leads: on, out of the loop, to its next turn, back -/
inductive Fl (S T R : Type) where
  | nx (s : S) | bk (t : T) | ct (t : T) | rt (r : R)
def FlOk (K : PySem.W.Frag) {S T R : Type} [Rp R] (Ht C0 C : Hp) (E : S → En) (L : T → En) (m : Md) (D : Ends) : Fl S T R → Prop
  | .nx s => Thn K Ht C0 C (E s) D.nx
  | .bk s => Thn K Ht C0 C (L s) D.bk
  | .ct s => Thn K Ht C0 C (L s) D.ct
  | .rt r => ∀ v C' H', Ext C0 Ht C' H' → Rep K (part m Ht C') (rp r) v → D.rt v H'
/-- .. any of these -/
def EvF (K : PySem.W.Frag) {S T R : Type} [Rp R] (t : TS) (ρ : En) (E : S → En) (L : T → En) (m : Md) (o : Option (Fl S T R)) : Prop :=
  ∀ (Ht C0 C H : Hp) (σ : St), EnvI K Ht C0 C H σ ρ → ∀ f, o = some f → ∀ D : Ends, FlOk K Ht C0 C E L m D f → t D σ H
def Fl.seq {S S2 T R : Type} (o : Option (Fl S T R)) (f : S → Option (Fl S2 T R)) : Option (Fl S2 T R) := o.bind fun x => match x with
  | .nx s => f s
  | .bk s => some (.bk s)
  | .ct s => some (.ct s)
  | .rt r => some (.rt r)
/-- a loop's turns, that may leave -/
def forL {α S T R : Type} (f : S → α → Option (Fl S S R)) : List α → S → Option (Fl S T R)
  | [], s => some (.nx s)
  | x :: xs, s => (f s x).bind fun o => match o with
    | .nx s' => forL f xs s'
    | .ct s' => forL f xs s'
    | .bk s' => some (.nx s')
    | .rt r => some (.rt r)
def whileL {S T R : Type} (c : S → Option Bool) (f : S → Option (Fl S S R)) : Nat → S → Option (Fl S T R)
  | 0, _ => none
  | n + 1, s => (c s).bind fun b => if b = true then (f s).bind fun o => match o with
    | .nx s' => whileL c f n s'
    | .ct s' => whileL c f n s'
    | .bk s' => some (.nx s')
    | .rt r => some (.rt r)
    else some (.nx s)
def whileN {S : Type} (c : S → Option Bool) (f : S → Option S) : Nat → S → Option S
  | 0, _ => none
  | n + 1, s => (c s).bind fun b => if b = true then (f s).bind fun s' => whileN c f n s' else some s
/-- what comes behind a statement that may have returned -/
def Fl.ret {S T R : Type} (o : Option (Fl S T R)) (f : S → Option R) : Option R := o.bind fun x => match x with
  | .nx s => f s
  | .rt r => some r
  | _ => none

section
variable {K : PySem.W.Frag} {t u v : TS} {te ta tb : TE} {ρ ρ' : En} {m m1 m2 mi : Md} {S S2 T R : Type} [Rp R] {E : S → En} {E2 : S2 → En} {L : T → En}
variable {α β γ : Type} [Rp α] [Rp β] [Rp γ]
theorem Thn.next {Ht C0 C C1 : Hp} {P : St → Hp → Prop} (h : Thn K Ht C0 C ρ P) (s : Same C C1) : Thn K Ht C0 C1 ρ P := fun C' H' σ' I s' => h C' H' σ' I (s.trans s')
theorem Thn.wk {Ht C0 C : Hp} {P : St → Hp → Prop} (h : Thn K Ht C0 C ρ' P) (w : EnvW ρ ρ') : Thn K Ht C0 C ρ P := fun C' H' σ' I s' => h C' H' σ' (I.weak w) s'

theorem EvN.weakL {o : Option S} (h : EvN K t ρ' E o) (w : EnvW ρ ρ') : EvN K t ρ E o := fun Ht C0 C H σ I => h Ht C0 C H σ (I.weak w)
theorem EvR.weakL {o : Option R} (h : EvR K t ρ' m o) (w : EnvW ρ ρ') : EvR K t ρ m o := fun Ht C0 C H σ I => h Ht C0 C H σ (I.weak w)
theorem EvF.weakL {o : Option (Fl S T R)} (h : EvF K t ρ' E L m o) (w : EnvW ρ ρ') : EvF K t ρ E L m o := fun Ht C0 C H σ I => h Ht C0 C H σ (I.weak w)
theorem EvN.res {o o' : Option S} (h : EvN K t ρ E o) (e : o' = o) : EvN K t ρ E o' := e ▸ h
theorem EvR.res {o o' : Option R} (h : EvR K t ρ m o) (e : o' = o) : EvR K t ρ m o' := e ▸ h
theorem EvF.res {o o' : Option (Fl S T R)} (h : EvF K t ρ E L m o) (e : o' = o) : EvF K t ρ E L m o' := e ▸ h
/-- to another form of the environment -/
theorem EvN.to {o : Option S} (h : EvN K t ρ E o) (f : S → S2) (w : ∀ s, EnvW (E s) (E2 (f s))) : EvN K t ρ E2 (o.map f) := fun Ht C0 C H σ I s e D q => by
  obtain ⟨s', es, rfl⟩ := some_map e
  exact h Ht C0 C H σ I s' es D (q.wk (w s'))
/-- a list held becomes a datum -/
theorem freeze_same {Ht C0 C H : Hp} {σ : St} (I : EnvI K Ht C0 C H σ ρ) {i : Nat} {m : Md} {l : List Dt} (hi : ρ[i]? = some (.own m l)) : ∃ C', EnvI K Ht C0 C' H σ (ρ.set i (.dat m (.lst l))) ∧ Same C C' := I.freeze hi
theorem EvN.frz {o : Option S} {i : Nat} {l : List Dt} (h : EvN K t (ρ.set i (.dat m (.lst l))) E o) (hi : ρ[i]? = some (.own m l) := by rfl) : EvN K t ρ E o := fun Ht C0 C H σ I s e D q => by
  obtain ⟨C', I', s'⟩ := freeze_same I hi
  exact h Ht C0 C' H σ I' s e D (q.next s')
theorem EvR.frz {o : Option R} {i : Nat} {l : List Dt} (h : EvR K t (ρ.set i (.dat m1 (.lst l))) m o) (hi : ρ[i]? = some (.own m1 l) := by rfl) : EvR K t ρ m o := fun Ht C0 C H σ I => by
  obtain ⟨C', I', s'⟩ := freeze_same I hi
  exact h Ht C0 C' H σ I'
theorem EvF.frz {o : Option (Fl S T R)} {i : Nat} {l : List Dt} (h : EvF K t (ρ.set i (.dat m1 (.lst l))) E L m o) (hi : ρ[i]? = some (.own m1 l) := by rfl) : EvF K t ρ E L m o := fun Ht C0 C H σ I f e D q => by
  obtain ⟨C', I', s'⟩ := freeze_same I hi
  refine h Ht C0 C' H σ I' f e D ?_
  cases f with
  | nx s => exact Thn.next q s'
  | bk s => exact Thn.next q s'
  | ct s => exact Thn.next q s'
  | rt r => exact q
/-- between the forms -/
theorem EvN.F {o : Option S} (h : EvN K t ρ E o) : EvF K t ρ E L m (o.map Fl.nx : Option (Fl S T R)) := fun Ht C0 C H σ I f e D q => by
  obtain ⟨s, es, rfl⟩ := some_map e
  exact h Ht C0 C H σ I s es D q
theorem EvR.F {o : Option R} (h : EvR K t ρ m o) : EvF K t ρ E L m (o.map Fl.rt : Option (Fl S T R)) := fun Ht C0 C H σ I f e D q => by
  obtain ⟨s, es, rfl⟩ := some_map e
  exact h Ht C0 C H σ I s es D q
/-- a body's end -/
theorem en_nil : EvN K tNext ρ (fun _ : Unit => ρ) (some ()) := fun Ht C0 C H σ I s e D q => q C H σ I (.refl _)
theorem en_end {s : S} (w : EnvW ρ (E s)) : EvN K tNext ρ E (some s) := fun Ht C0 C H σ I s' e D q => by
  cases e
  exact q C H σ (I.weak w) (.refl _)
theorem ef_end {s : S} (w : EnvW ρ (E s)) : EvF K tNext ρ E L m (some (.nx s : Fl S T R)) := fun Ht C0 C H σ I s' e D q => by
  cases e
  exact q C H σ (I.weak w) (.refl _)
theorem ef_bk {s : T} (w : EnvW ρ (L s)) : EvF K tBreak ρ E L m (some (.bk s : Fl S T R)) := fun Ht C0 C H σ I s' e D q => by
  cases e
  exact q C H σ (I.weak w) (.refl _)
theorem ef_ct {s : T} (w : EnvW ρ (L s)) : EvF K tCont ρ E L m (some (.ct s : Fl S T R)) := fun Ht C0 C H σ I s' e D q => by
  cases e
  exact q C H σ (I.weak w) (.refl _)
/-- one after the other -/
theorem en_seq {o : Option S} {f : S → Option S2} (h1 : EvN K t ρ E o) (h2 : ∀ s, EvN K u (E s) E2 (f s)) : EvN K (tSeq t u) ρ E2 (o.bind f) := fun Ht C0 C H σ I s e D q => by
  obtain ⟨s1, e1, e⟩ := some_bind e
  exact h1 Ht C0 C H σ I s1 e1 _ fun C' H' σ' I' s' => h2 s1 Ht C0 C' H' σ' I' s e D (q.next s')
theorem er_seq {o : Option S} {f : S → Option R} (h1 : EvN K t ρ E o) (h2 : ∀ s, EvR K u (E s) m (f s)) : EvR K (tSeq t u) ρ m (o.bind f) := fun Ht C0 C H σ I s e D q => by
  obtain ⟨s1, e1, e⟩ := some_bind e
  exact h1 Ht C0 C H σ I s1 e1 _ fun C' H' σ' I' _ => h2 s1 Ht C0 C' H' σ' I' s e D q
theorem er_seqF {o : Option (Fl S T R)} {f : S → Option R} (h1 : EvF K t ρ E L m o) (h2 : ∀ s, EvR K u (E s) m (f s)) : EvR K (tSeq t u) ρ m (Fl.ret o f) := fun Ht C0 C H σ I s e D q => by
  obtain ⟨s1, e1, e⟩ := some_bind e
  cases s1 with
  | nx s1 => exact h1 Ht C0 C H σ I _ e1 _ fun C' H' σ' I' _ => h2 s1 Ht C0 C' H' σ' I' s e D q
  | rt r => cases e; exact h1 Ht C0 C H σ I _ e1 _ q
  | bk s1 => cases e
  | ct s1 => cases e
theorem ef_seq {o : Option S} {f : S → Option (Fl S2 T R)} (h1 : EvN K t ρ E o) (h2 : ∀ s, EvF K u (E s) E2 L m (f s)) : EvF K (tSeq t u) ρ E2 L m (o.bind f) := fun Ht C0 C H σ I s e D q => by
  obtain ⟨s1, e1, e⟩ := some_bind e
  refine h1 Ht C0 C H σ I s1 e1 _ fun C' H' σ' I' s' => h2 s1 Ht C0 C' H' σ' I' s e D ?_
  cases s with
  | nx s => exact Thn.next q s'
  | bk s => exact Thn.next q s'
  | ct s => exact Thn.next q s'
  | rt r => exact q
theorem ef_seqF {o : Option (Fl S T R)} {f : S → Option (Fl S2 T R)} (h1 : EvF K t ρ E L m o) (h2 : ∀ s, EvF K u (E s) E2 L m (f s)) : EvF K (tSeq t u) ρ E2 L m (Fl.seq o f) := fun Ht C0 C H σ I s e D q => by
  obtain ⟨s1, e1, e⟩ := some_bind e
  cases s1 with
  | nx s1 =>
    refine h1 Ht C0 C H σ I _ e1 _ fun C' H' σ' I' s' => h2 s1 Ht C0 C' H' σ' I' s e D ?_
    cases s with
    | nx s => exact Thn.next q s'
    | bk s => exact Thn.next q s'
    | ct s => exact Thn.next q s'
    | rt r => exact q
  | rt r => cases e; exact h1 Ht C0 C H σ I _ e1 { D with nx := u D } q
  | bk s1 => cases e; exact h1 Ht C0 C H σ I _ e1 { D with nx := u D } q
  | ct s1 => cases e; exact h1 Ht C0 C H σ I _ e1 { D with nx := u D } q
/-- a return ends a block -/
theorem er_cut {o : Option R} (h : EvR K t ρ m o) : EvR K (tSeq t u) ρ m o := fun Ht C0 C H σ I s e D q => h Ht C0 C H σ I s e _ q
theorem er_nx {o : Option R} (h : EvR K u ρ m o) : EvR K (tSeq tNext u) ρ m o := fun Ht C0 C H σ I s e D q => h Ht C0 C H σ I s e D q
theorem ef_cutR {o : Option R} (h : EvR K t ρ m o) : EvF K (tSeq t u) ρ E L m (o.map Fl.rt : Option (Fl S T R)) := fun Ht C0 C H σ I f e D q => by
  obtain ⟨s, es, rfl⟩ := some_map e
  exact h Ht C0 C H σ I s es _ q
theorem ef_cutB {s : T} (w : EnvW ρ (L s)) : EvF K (tSeq tBreak u) ρ E L m (some (.bk s : Fl S T R)) := fun Ht C0 C H σ I s' e D q => by
  cases e
  exact q C H σ (I.weak w) (.refl _)
theorem ef_cutC {s : T} (w : EnvW ρ (L s)) : EvF K (tSeq tCont u) ρ E L m (some (.ct s : Fl S T R)) := fun Ht C0 C H σ I s' e D q => by
  cases e
  exact q C H σ (I.weak w) (.refl _)
theorem ef_nx {o : Option (Fl S T R)} (h : EvF K u ρ E L m o) : EvF K (tSeq tNext u) ρ E L m o := fun Ht C0 C H σ I s e D q => h Ht C0 C H σ I s e D q
theorem en_nx {o : Option S} (h : EvN K u ρ E o) : EvN K (tSeq tNext u) ρ E o := fun Ht C0 C H σ I s e D q => h Ht C0 C H σ I s e D q
/-- blocks are read from the left -/
theorem er_assoc {o : Option R} {w : TS} (h : EvR K (tSeq t (tSeq u w)) ρ m o) : EvR K (tSeq (tSeq t u) w) ρ m o := h
theorem ef_assoc {o : Option (Fl S T R)} {w : TS} (h : EvF K (tSeq t (tSeq u w)) ρ E L m o) : EvF K (tSeq (tSeq t u) w) ρ E L m o := h
theorem en_assoc {o : Option S} {w : TS} (h : EvN K (tSeq t (tSeq u w)) ρ E o) : EvN K (tSeq (tSeq t u) w) ρ E o := h
/-- return -/
theorem er_ret {o : Option R} (h : EvE K te ρ m o) : EvR K (tRet te) ρ m o := fun Ht C0 C H σ I r e D q =>
  h Ht C0 C H σ I r e _ fun v C' H' x rv => q v C' H' (I.ext.trans x) rv
theorem er_retN {A : Type} [Rp A] : EvR K tRetN ρ m (some (none : Option A)) := fun Ht C0 C H σ I r e D q => by
  cases e
  exact q .non C H I.ext (by simp only [rp, Rp.rp, Rep])
/-- name = a datum -/
theorem en_set {i : Nat} {ra : Option α} (h : EvE K te ρ m ra) : EvN K (tAsg te (gName i)) ρ (fun x => ρ.set i (.dat m (rp x))) ra := fun Ht C0 C H σ I x e D q =>
  h Ht C0 C H σ I x e _ fun v C' H' y rv => q C' H' _ ((I.to y).set rv) y.c
/-- name = a new list -/
theorem en_own {i : Nat} {ra : Option (List α)} (h : EvL K te ρ m ra) : EvN K (tAsg te (gName i)) ρ (fun x => ρ.set i (.own m (rps x))) ra := fun Ht C0 C H σ I x e D q => by
  refine h Ht C0 C H σ I x e _ fun a vs C' H' y hn hc ha rv => q C' H' _ ((I.to y).setOwn (free_of I.ext.h hn) hc ha rv fun j mj lj _ e1 e2 => ?_) y.c
  obtain ⟨b, us, e3, _, _, h3, _⟩ := I.ok j _ e1
  rw [e2] at e3
  cases e3
  rw [h3] at hn
  cases hn
/-- a target = a datum -/
theorem en_asg {g : TG} {ra : Option α} {vs : List Nat} {E : α → En} (h : EvE K te ρ m ra) (hg : ∀ x, EvG K g m (rp x) ρ (E x) vs) : EvN K (tAsg te g) ρ E ra := fun Ht C0 C H σ I x e D q =>
  h Ht C0 C H σ I x e _ fun v C' H' y rv => hg x Ht C0 C' H' σ v (I.to y) rv _ fun σ' I' _ _ => q C' H' σ' I' y.c
/-- a, b = x, y -/
theorem en_par {i j : Nat} {ra : Option α} {rb : Option β} (ha : EvE K ta ρ m1 ra) (hb : EvE K tb ρ m2 rb) : EvN K (tPar i j (tCons ta (tCons tb tNil))) ρ (fun p : α × β => (ρ.set i (.dat m1 (rp p.1))).set j (.dat m2 (rp p.2))) (ra.bind fun x => rb.bind fun y => some (x, y)) := fun Ht C0 C H σ I p e D q => by
  obtain ⟨x, ex, e⟩ := some_bind e
  obtain ⟨y, ey, e⟩ := some_bind e
  cases e
  refine ha Ht C0 C H σ I x ex _ fun v C1 H1 x1 r1 => ?_
  refine hb Ht C0 C1 H1 σ (I.to x1) y ey _ fun w C2 H2 x2 r2 => ⟨v, w, rfl, q C2 H2 _ ?_ (x1.c.trans x2.c)⟩
  exact (((I.to x1).to x2).set (r1.mono (part_mono x2.c))).set r2
/-! if -/
variable {c : TT} {rc : Option Bool}
theorem en_if {o1 o2 : Option S} (hc : EvT K c ρ rc) (h1 : EvN K t ρ E o1) (h2 : EvN K u ρ E o2) : EvN K (tIfS c t u) ρ E (rc.bind fun b => if b = true then o1 else o2) := fun Ht C0 C H σ I s e D q => by
  obtain ⟨b, eb, e⟩ := some_bind e
  refine hc Ht C0 C H σ I b eb _ fun C' H' x => ?_
  cases b with
  | true => rw [if_pos rfl] at e; exact iteT (h1 Ht C0 C' H' σ (I.to x) s e D (q.next x.c))
  | false => rw [if_neg Bool.false_ne_true] at e; exact iteF (h2 Ht C0 C' H' σ (I.to x) s e D (q.next x.c))
theorem er_if {o1 o2 : Option R} (hc : EvT K c ρ rc) (h1 : EvR K t ρ m o1) (h2 : EvR K u ρ m o2) : EvR K (tIfS c t u) ρ m (rc.bind fun b => if b = true then o1 else o2) := fun Ht C0 C H σ I s e D q => by
  obtain ⟨b, eb, e⟩ := some_bind e
  refine hc Ht C0 C H σ I b eb _ fun C' H' x => ?_
  cases b with
  | true => rw [if_pos rfl] at e; exact iteT (h1 Ht C0 C' H' σ (I.to x) s e D q)
  | false => rw [if_neg Bool.false_ne_true] at e; exact iteF (h2 Ht C0 C' H' σ (I.to x) s e D q)
theorem ef_if {o1 o2 : Option (Fl S T R)} (hc : EvT K c ρ rc) (h1 : EvF K t ρ E L m o1) (h2 : EvF K u ρ E L m o2) : EvF K (tIfS c t u) ρ E L m (rc.bind fun b => if b = true then o1 else o2) := fun Ht C0 C H σ I s e D q => by
  obtain ⟨b, eb, e⟩ := some_bind e
  refine hc Ht C0 C H σ I b eb _ fun C' H' x => ?_
  have q' : FlOk K Ht C0 C' E L m D s := by
    cases s with
    | nx s => exact Thn.next q x.c
    | bk s => exact Thn.next q x.c
    | ct s => exact Thn.next q x.c
    | rt r => exact q
  cases b with
  | true => rw [if_pos rfl] at e; exact iteT (h1 Ht C0 C' H' σ (I.to x) s e D q')
  | false => rw [if_neg Bool.false_ne_true] at e; exact iteF (h2 Ht C0 C' H' σ (I.to x) s e D q')
/-- what follows an if, pushed into both its ways -/
theorem er_ifS {w : TS} {o : Option R} (h : EvR K (tIfS c (tSeq t w) (tSeq u w)) ρ m o) : EvR K (tSeq (tIfS c t u) w) ρ m o := h
theorem ef_ifS {w : TS} {o : Option (Fl S T R)} (h : EvF K (tIfS c (tSeq t w) (tSeq u w)) ρ E L m o) : EvF K (tSeq (tIfS c t u) w) ρ E L m o := h
theorem en_ifS {w : TS} {o : Option S} (h : EvN K (tIfS c (tSeq t w) (tSeq u w)) ρ E o) : EvN K (tSeq (tIfS c t u) w) ρ E o := h
end

/-! ### loops -/
section
variable {K : PySem.W.Frag} {t : TS} {ρ : En} {m mi : Md} {S T R : Type} [Rp R] {E : S → En} {L : T → En}
variable {α : Type} [Rp α] {w : TI} {g : TG} {c : TT}
theorem en_for {vs : List Nat} {rx : Option (List α)} {s0 : S} {f : S → α → Option S} {Eb : S → α → En} (hi : EvI K w ρ mi rx) (h0 : EnvW ρ (E s0)) (hg : ∀ s x, EvG K g mi (rp x) (E s) (Eb s x) vs)
    (hb : ∀ s x, EvN K t (Eb s x) E (f s x)) : EvN K (tFor w g t) ρ E (rx.bind fun xs => xs.foldlM f s0) := fun Ht C0 C H σ I fin e D q => by
  obtain ⟨xs, ex, e⟩ := some_bind e
  refine hi Ht C0 C H σ I xs ex _ fun J C1 H1 x1 ok => ?_
  refine ⟨fun i n σ' Hc => n = xs.length - i ∧ i ≤ xs.length ∧ ∃ s Cc, EnvI K Ht C0 Cc Hc σ' (E s) ∧ Same C1 Cc ∧ (xs.drop i).foldlM f s = some fin, ⟨xs.length, rfl, Nat.zero_le _, s0, C1, (I.to x1).weak h0, .refl _, e⟩, ?_⟩
  rintro i n σ' Hc ⟨rfl, hi', s, Cc, Ic, sc, er⟩
  by_cases hlt : i < xs.length
  · have ed : (rps xs)[i]? = some (rp xs[i]) := by rw [rps, List.getElem?_map, List.getElem?_eq_getElem hlt]; rfl
    obtain ⟨go, yl⟩ := ok.go i Cc Hc _ ed sc Ic.sub Ic.ext.h
    refine .inr ⟨go, fun σ2 H2 => ∃ s Cc, EnvI K Ht C0 Cc H2 σ2 (E s) ∧ Same C1 Cc ∧ (xs.drop (i + 1)).foldlM f s = some fin, fun σ2 H2 h => ⟨xs.length - (i + 1), by omega, rfl, hlt, h⟩, fun x H2 hy => ?_⟩
    obtain ⟨C2, x2, r2⟩ := yl x H2 hy
    rw [List.drop_eq_getElem_cons hlt, List.foldlM_cons] at er
    obtain ⟨s2, e2, er⟩ := some_bind er
    refine hg s xs[i] Ht C0 C2 H2 σ' x (Ic.to x2) r2 _ fun σ3 I3 _ _ => ?_
    exact hb s xs[i] Ht C0 C2 H2 σ3 I3 s2 e2 _ fun C4 H4 σ4 I4 s4 => ⟨s2, C4, I4, (sc.trans x2.c).trans s4, er⟩
  · have hie : i = xs.length := by omega
    subst hie
    rw [List.drop_length] at er
    cases er
    have st := ok.stop Cc Hc sc Ic.sub
    rw [List.length_map] at st
    exact .inl ⟨st, q Cc Hc σ' Ic (x1.c.trans sc)⟩
theorem ef_for {vs : List Nat} {rx : Option (List α)} {s0 : S} {f : S → α → Option (Fl S S R)} {Eb : S → α → En} (hi : EvI K w ρ mi rx) (h0 : EnvW ρ (E s0)) (hg : ∀ s x, EvG K g mi (rp x) (E s) (Eb s x) vs)
    (hb : ∀ s x, EvF K t (Eb s x) E E m (f s x)) : EvF K (tFor w g t) ρ E L m (rx.bind fun xs => forL f xs s0) := fun Ht C0 C H σ I fin e D q => by
  obtain ⟨xs, ex, e⟩ := some_bind e
  refine hi Ht C0 C H σ I xs ex _ fun J C1 H1 x1 ok => ?_
  refine ⟨fun i n σ' Hc => n = xs.length - i ∧ i ≤ xs.length ∧ ∃ s Cc, EnvI K Ht C0 Cc Hc σ' (E s) ∧ Same C1 Cc ∧ forL f (xs.drop i) s = some fin, ⟨xs.length, rfl, Nat.zero_le _, s0, C1, (I.to x1).weak h0, .refl _, e⟩, ?_⟩
  rintro i n σ' Hc ⟨rfl, hi', s, Cc, Ic, sc, er⟩
  by_cases hlt : i < xs.length
  · have ed : (rps xs)[i]? = some (rp xs[i]) := by rw [rps, List.getElem?_map, List.getElem?_eq_getElem hlt]; rfl
    obtain ⟨go, yl⟩ := ok.go i Cc Hc _ ed sc Ic.sub Ic.ext.h
    refine .inr ⟨go, fun σ2 H2 => ∃ s Cc, EnvI K Ht C0 Cc H2 σ2 (E s) ∧ Same C1 Cc ∧ forL f (xs.drop (i + 1)) s = some fin, fun σ2 H2 h => ⟨xs.length - (i + 1), by omega, rfl, hlt, h⟩, fun x H2 hy => ?_⟩
    obtain ⟨C2, x2, r2⟩ := yl x H2 hy
    rw [List.drop_eq_getElem_cons hlt] at er
    obtain ⟨o, e2, er⟩ := some_bind er
    refine hg s xs[i] Ht C0 C2 H2 σ' x (Ic.to x2) r2 _ fun σ3 I3 _ _ => ?_
    refine hb s xs[i] Ht C0 C2 H2 σ3 I3 o e2 _ ?_
    have sc2 := sc.trans x2.c
    cases o with
    | nx s2 => exact fun C4 H4 σ4 I4 s4 => ⟨s2, C4, I4, sc2.trans s4, er⟩
    | ct s2 => exact fun C4 H4 σ4 I4 s4 => ⟨s2, C4, I4, sc2.trans s4, er⟩
    | bk s2 => cases er; exact fun C4 H4 σ4 I4 s4 => q C4 H4 σ4 I4 (x1.c.trans (sc2.trans s4))
    | rt r => cases er; exact q
  · have hie : i = xs.length := by omega
    subst hie
    rw [List.drop_length] at er
    cases er
    have st := ok.stop Cc Hc sc Ic.sub
    rw [List.length_map] at st
    exact .inl ⟨st, q Cc Hc σ' Ic (x1.c.trans sc)⟩
theorem en_while {n : Nat} {s0 : S} {cf : S → Option Bool} {f : S → Option S} (h0 : EnvW ρ (E s0)) (hc : ∀ s, EvT K c (E s) (cf s)) (hb : ∀ s, EvN K t (E s) E (f s)) : EvN K (tWhile c t) ρ E (whileN cf f n s0) := fun Ht C0 C H σ I fin e D q => by
  refine ⟨fun k σ' Hc => ∃ s Cc, EnvI K Ht C0 Cc Hc σ' (E s) ∧ Same C Cc ∧ whileN cf f k s = some fin, ⟨n, s0, C, I.weak h0, .refl _, e⟩, ?_⟩
  rintro k σ' Hc ⟨s, Cc, Ic, sc, er⟩
  cases k with
  | zero => cases er
  | succ k =>
    obtain ⟨b, eb, er⟩ := some_bind er
    refine hc s Ht C0 Cc Hc σ' Ic b eb _ fun C2 H2 x2 => ?_
    cases b with
    | true =>
      rw [if_pos rfl] at er
      obtain ⟨s2, e2, er⟩ := some_bind er
      refine iteT ⟨fun σ3 H3 => ∃ s Cc, EnvI K Ht C0 Cc H3 σ3 (E s) ∧ Same C Cc ∧ whileN cf f k s = some fin, fun σ3 H3 h => ⟨k, Nat.lt_succ_self k, h⟩, ?_⟩
      exact hb s Ht C0 C2 H2 σ' (Ic.to x2) s2 e2 _ fun C4 H4 σ4 I4 s4 => ⟨s2, C4, I4, (sc.trans x2.c).trans s4, er⟩
    | false =>
      rw [if_neg Bool.false_ne_true] at er
      cases er
      exact iteF (q C2 H2 σ' (Ic.to x2) (sc.trans x2.c))
theorem ef_while {n : Nat} {s0 : S} {cf : S → Option Bool} {f : S → Option (Fl S S R)} (h0 : EnvW ρ (E s0)) (hc : ∀ s, EvT K c (E s) (cf s)) (hb : ∀ s, EvF K t (E s) E E m (f s)) : EvF K (tWhile c t) ρ E L m (whileL cf f n s0) := fun Ht C0 C H σ I fin e D q => by
  refine ⟨fun k σ' Hc => ∃ s Cc, EnvI K Ht C0 Cc Hc σ' (E s) ∧ Same C Cc ∧ whileL cf f k s = some fin, ⟨n, s0, C, I.weak h0, .refl _, e⟩, ?_⟩
  rintro k σ' Hc ⟨s, Cc, Ic, sc, er⟩
  cases k with
  | zero => cases er
  | succ k =>
    obtain ⟨b, eb, er⟩ := some_bind er
    refine hc s Ht C0 Cc Hc σ' Ic b eb _ fun C2 H2 x2 => ?_
    have sc2 := sc.trans x2.c
    cases b with
    | true =>
      rw [if_pos rfl] at er
      obtain ⟨o, e2, er⟩ := some_bind er
      refine iteT ⟨fun σ3 H3 => ∃ s Cc, EnvI K Ht C0 Cc H3 σ3 (E s) ∧ Same C Cc ∧ whileL cf f k s = some fin, fun σ3 H3 h => ⟨k, Nat.lt_succ_self k, h⟩, ?_⟩
      refine hb s Ht C0 C2 H2 σ' (Ic.to x2) o e2 _ ?_
      cases o with
      | nx s2 => exact fun C4 H4 σ4 I4 s4 => ⟨s2, C4, I4, sc2.trans s4, er⟩
      | ct s2 => exact fun C4 H4 σ4 I4 s4 => ⟨s2, C4, I4, sc2.trans s4, er⟩
      | bk s2 => cases er; exact fun C4 H4 σ4 I4 s4 => q C4 H4 σ4 I4 (sc2.trans s4)
      | rt r => cases er; exact q
    | false =>
      rw [if_neg Bool.false_ne_true] at er
      cases er
      exact iteF (q C2 H2 σ' (Ic.to x2) sc2)
/-- a loop without a return -/
def Fl.go {S T : Type} (o : Option (Fl S T Empty)) : Option S := o.bind fun x => match x with
  | .nx s => some s
  | _ => none
instance : Rp Empty := ⟨fun e => nomatch e⟩
theorem EvF.N {o : Option (Fl S T Empty)} (h : EvF K t ρ E L m o) : EvN K t ρ E (Fl.go o) := fun Ht C0 C H σ I s e D q => by
  obtain ⟨f, ef, e⟩ := some_bind e
  cases f with
  | nx s' => cases e; exact h Ht C0 C H σ I _ ef D q
  | rt r => cases e
  | bk s' => cases e
  | ct s' => cases e
end

/-! ### lists changed in place -/
section
variable {K : PySem.W.Frag} {te ta tb : TE} {ρ : En} {m m1 m2 : Md}
variable {α β : Type} [Rp α] [Rp β]
theorem en_append {i : Nat} {xs : List α} {ra : Option α} (h : EvE K te ρ m ra) (hi : ρ[i]? = some (.own m (rps xs)) := by rfl) :
    EvN K (tDrop (tBM K "list" rAppend (tVar i) (tCons te tNil))) ρ (fun x => ρ.set i (.own m (rps x))) (ra.bind fun x => lim (xs ++ [x])) := fun Ht C0 C H σ I z e D q => by
  obtain ⟨x, ex, e⟩ := some_bind e
  obtain ⟨hz, rfl⟩ := of_lim e
  obtain ⟨a, vs, e1, hn, hc, ha, rv⟩ := I.ok i _ hi
  refine ⟨.ref a, e1, .inl ⟨rfl, _, .of ha⟩, h Ht C0 C H σ I x ex _ fun v C1 H1 x1 r1 => ?_⟩
  have I1 := I.to x1
  refine ⟨a, vs, v, rfl, rfl, x1.h _ _ ha, ?_, q C1 _ σ (I1.write hi e1 ?_) x1.c⟩
  · rw [List.length_append, List.length_singleton] at hz
    rw [rv.length, List.length_map]
    omega
  · rw [rps, List.map_append]
    exact (rv.mono (part_mono x1.c)).append (.cons r1 .nil)
/-- xs[i] = e -/
def setP {α : Type} (xs : List α) (i : Int) (x : α) : Option (List α) := (ixN xs.length i).map fun j => xs.set j x
theorem en_setix {i : Nat} {xs : List α} {rk : Option Int} {ra : Option α} (h : EvE K te ρ m ra) (hk : EvE K tb ρ m2 rk) (hi : ρ[i]? = some (.own m (rps xs)) := by rfl) :
    EvN K (tAsg te (gSub (tVar i) tb rSetL)) ρ (fun x => ρ.set i (.own m (rps x))) (ra.bind fun x => rk.bind fun k => setP xs k x) := fun Ht C0 C H σ I z e D q => by
  obtain ⟨x, ex, e⟩ := some_bind e
  obtain ⟨k, ek, e⟩ := some_bind e
  obtain ⟨j, ej, rfl⟩ := some_map e
  refine h Ht C0 C H σ I x ex _ fun v C1 H1 x1 r1 => ?_
  obtain ⟨a, vs, e1, hn, hc, ha, rv⟩ := (I.to x1).ok i _ hi
  refine ⟨.ref a, e1, hk Ht C0 C1 H1 σ (I.to x1) k ek _ fun u C2 H2 x2 r2 => ?_⟩
  rw [r2.int_]
  refine ⟨a, vs, k, j, rfl, rfl, x2.h _ _ ha, by rw [rv.length, List.length_map]; exact ej, q C2 _ σ (((I.to x1).to x2).write hi e1 ?_) (x1.c.trans x2.c)⟩
  rw [rps, List.map_set]
  exact (rv.mono (part_mono x2.c)).set j (r1.mono (part_mono x2.c))
end

/-! ### defs -/
/-- a def's promise by data: from the arguments' data, in the clean part, the value of f, in what is new (or anywhere) -/
def spA (K : PySem.W.Frag) {A R : Type} [Rp R] (ds : A → List Dt) (f : A → Option R) (m : Md) : Sp := fun vs H Q _ => ∃ (C : Hp) (x : A) (r : R), Same C H ∧ RepL K C (ds x) vs ∧ f x = some r ∧
  ∀ u C' H', Ext C H C' H' → Rep K (part m H C') (rp r) u → Q u H'
section
variable {K : PySem.W.Frag} {A R : Type} [Rp R] {ds : A → List Dt} {f : A → Option R} {m m1 m2 m3 m4 m5 m6 : Md} {ρ : En} {E : XK} {t : TA}
theorem ev_callA {ra : Option A} (h : EvA K ds t ρ ra) : EvE K (tCall (spA K ds f m) [] E t) ρ m (ra.bind f) := fun Ht C0 C H σ I z e Q q => by
  obtain ⟨x, ex, e⟩ := some_bind e
  refine h Ht C0 C H σ I x ex _ fun vs C1 H1 x1 r1 => ?_
  rw [List.append_nil]
  refine ⟨C1, x, z, x1.s, r1, e, fun u C' H' y ru => q u C' H' (x1.trans y) (ru.mono ?_)⟩
  cases m with
  | old => exact .refl _
  | new =>
    intro a o ha
    simp only [part] at ha ⊢
    split at ha
    · rename_i hn
      have hn' : H1 a = none := by simpa using hn
      rw [free_of (I.ext.h.trans x1.h) hn']
      exact ha
    · cases ha
variable {a1 a2 a3 a4 a5 a6 : Type} [Rp a1] [Rp a2] [Rp a3] [Rp a4] [Rp a5] [Rp a6] {t1 t2 t3 t4 t5 t6 : TE}
abbrev sp1 (K : PySem.W.Frag) (f : a1 → Option R) (m : Md) : Sp := spA K (fun x : a1 => [rp x]) f m
abbrev sp2 (K : PySem.W.Frag) (f : a1 → a2 → Option R) (m : Md) : Sp := spA K (fun x : a1 × a2 => [rp x.1, rp x.2]) (fun x => f x.1 x.2) m
abbrev sp3 (K : PySem.W.Frag) (f : a1 → a2 → a3 → Option R) (m : Md) : Sp := spA K (fun x : a1 × a2 × a3 => [rp x.1, rp x.2.1, rp x.2.2]) (fun x => f x.1 x.2.1 x.2.2) m
abbrev sp4 (K : PySem.W.Frag) (f : a1 → a2 → a3 → a4 → Option R) (m : Md) : Sp := spA K (fun x : a1 × a2 × a3 × a4 => [rp x.1, rp x.2.1, rp x.2.2.1, rp x.2.2.2]) (fun x => f x.1 x.2.1 x.2.2.1 x.2.2.2) m
abbrev sp5 (K : PySem.W.Frag) (f : a1 → a2 → a3 → a4 → a5 → Option R) (m : Md) : Sp := spA K (fun x : a1 × a2 × a3 × a4 × a5 => [rp x.1, rp x.2.1, rp x.2.2.1, rp x.2.2.2.1, rp x.2.2.2.2]) (fun x => f x.1 x.2.1 x.2.2.1 x.2.2.2.1 x.2.2.2.2) m
theorem ea_cons {A' : Type} {ds' : A' → List Dt} {r1 : Option a1} {r2 : Option A'} {te : TE} (h1 : EvE K te ρ m1 r1) (h2 : EvA K ds' t ρ r2) : EvA K (fun x : a1 × A' => rp x.1 :: ds' x.2) (tCons te t) ρ (r1.bind fun x => r2.bind fun y => some (x, y)) := fun Ht C0 C H σ I z e Q q => by
  obtain ⟨x, ex, e⟩ := some_bind e
  obtain ⟨y, ey, e⟩ := some_bind e
  cases e
  refine h1 Ht C0 C H σ I x ex _ fun v C1 H1 x1 q1 => ?_
  refine h2 Ht C0 C1 H1 σ (I.to x1) y ey _ fun vs C2 H2 x2 q2 => q (v :: vs) C2 H2 (x1.trans x2) (.cons (q1.mono (part_le.trans x2.c)) q2)
theorem ea_one {r1 : Option a1} {te : TE} (h1 : EvE K te ρ m1 r1) : EvA K (fun x : a1 => [rp x]) (tCons te tNil) ρ r1 := fun Ht C0 C H σ I z e Q q =>
  h1 Ht C0 C H σ I z e _ fun v C1 H1 x1 q1 => q [v] C1 H1 x1 (.cons (q1.mono part_le) .nil)
theorem ev_call1 {f : a1 → Option R} {r1 : Option a1} (h1 : EvE K t1 ρ m1 r1) : EvE K (tCall (sp1 K f m) [] E (tCons t1 tNil)) ρ m (r1.bind f) := ev_callA (ea_one h1)
theorem ev_call2 {f : a1 → a2 → Option R} {r1 : Option a1} {r2 : Option a2} (h1 : EvE K t1 ρ m1 r1) (h2 : EvE K t2 ρ m2 r2) : EvE K (tCall (sp2 K f m) [] E (tCons t1 (tCons t2 tNil))) ρ m (r1.bind fun x => r2.bind fun y => f x y) :=
  (ev_callA (ea_cons h1 (ea_one h2))).res (by cases r1 <;> cases r2 <;> rfl)
theorem ev_call3 {f : a1 → a2 → a3 → Option R} {r1 : Option a1} {r2 : Option a2} {r3 : Option a3} (h1 : EvE K t1 ρ m1 r1) (h2 : EvE K t2 ρ m2 r2) (h3 : EvE K t3 ρ m3 r3) : EvE K (tCall (sp3 K f m) [] E (tCons t1 (tCons t2 (tCons t3 tNil)))) ρ m (r1.bind fun x => r2.bind fun y => r3.bind fun z => f x y z) :=
  (ev_callA (ea_cons h1 (ea_cons h2 (ea_one h3)))).res (by cases r1 <;> cases r2 <;> cases r3 <;> rfl)
theorem ev_call4 {f : a1 → a2 → a3 → a4 → Option R} {r1 : Option a1} {r2 : Option a2} {r3 : Option a3} {r4 : Option a4} (h1 : EvE K t1 ρ m1 r1) (h2 : EvE K t2 ρ m2 r2) (h3 : EvE K t3 ρ m3 r3) (h4 : EvE K t4 ρ m4 r4) : EvE K (tCall (sp4 K f m) [] E (tCons t1 (tCons t2 (tCons t3 (tCons t4 tNil))))) ρ m (r1.bind fun x => r2.bind fun y => r3.bind fun z => r4.bind fun w => f x y z w) :=
  (ev_callA (ea_cons h1 (ea_cons h2 (ea_cons h3 (ea_one h4))))).res (by cases r1 <;> cases r2 <;> cases r3 <;> cases r4 <;> rfl)
theorem ev_call5 {f : a1 → a2 → a3 → a4 → a5 → Option R} {r1 : Option a1} {r2 : Option a2} {r3 : Option a3} {r4 : Option a4} {r5 : Option a5} (h1 : EvE K t1 ρ m1 r1) (h2 : EvE K t2 ρ m2 r2) (h3 : EvE K t3 ρ m3 r3) (h4 : EvE K t4 ρ m4 r4) (h5 : EvE K t5 ρ m5 r5) : EvE K (tCall (sp5 K f m) [] E (tCons t1 (tCons t2 (tCons t3 (tCons t4 (tCons t5 tNil)))))) ρ m (r1.bind fun x => r2.bind fun y => r3.bind fun z => r4.bind fun w => r5.bind fun v => f x y z w v) :=
  (ev_callA (ea_cons h1 (ea_cons h2 (ea_cons h3 (ea_cons h4 (ea_one h5)))))).res (by cases r1 <;> cases r2 <;> cases r3 <;> cases r4 <;> cases r5 <;> rfl)
/-- a list of flat things that a def hands back new may be held -/
theorem EvE.L {α : Type} [Rp α] [Scal α] {te : TE} {sp : Sp} {r : Option (List α)} (h : ∀ (Ht C0 C H : Hp) (σ : St), EnvI K Ht C0 C H σ ρ → ∀ x, r = some x → ∀ Q : VK, (∀ v C' H', Ext C H C' H' → Rep K (part .new H C') (rp x) v → Q v H') → te σ H Q) : EvL K te ρ m r := fun Ht C0 C H σ I xs e Q q => by
  refine h Ht C0 C H σ I xs e Q fun v C' H' x rv => ?_
  obtain ⟨a, vs, rfl, h1, h2⟩ := rep_lst rv
  have hn : H a = none := by
    simp only [part] at h1
    split at h1
    · rename_i z; simpa using z
    · cases h1
  -- the clean part as it was
  exact q a vs C H' ⟨.refl _, x.h, I.sub.trans x.h, fun _ _ z => z⟩ hn (free_of I.sub hn) (x.s _ _ (part_le _ _ h1)) h2.scal
theorem ev_callL {α : Type} [Rp α] [Scal α] {f : A → Option (List α)} {ra : Option A} (h : EvA K ds t ρ ra) : EvL K (tCall (spA K ds f .new) [] E t) ρ m (ra.bind f) := fun Ht C0 C H σ I z e Q q => by
  obtain ⟨x, ex, e⟩ := some_bind e
  refine h Ht C0 C H σ I x ex _ fun vs C1 H1 x1 r1 => ?_
  rw [List.append_nil]
  refine ⟨C1, x, z, x1.s, r1, e, fun u C' H' y ru => ?_⟩
  obtain ⟨a, us, rfl, h1, h2⟩ := rep_lst ru
  have hn : H1 a = none := by
    simp only [part] at h1
    split at h1
    · rename_i z; simpa using z
    · cases h1
  exact q a us C1 H' ⟨x1.c, x1.h.trans y.h, x1.s.trans y.h, x1.f⟩ (free_of x1.h hn) (free_of x1.s hn) (y.s _ _ (part_le _ _ h1)) h2.scal
theorem ev_callL1 {α : Type} [Rp α] [Scal α] {f : a1 → Option (List α)} {r1 : Option a1} (h1 : EvE K t1 ρ m1 r1) : EvL K (tCall (sp1 K f .new) [] E (tCons t1 tNil)) ρ m (r1.bind f) := ev_callL (ea_one h1)
theorem ev_callL2 {α : Type} [Rp α] [Scal α] {f : a1 → a2 → Option (List α)} {r1 : Option a1} {r2 : Option a2} (h1 : EvE K t1 ρ m1 r1) (h2 : EvE K t2 ρ m2 r2) : EvL K (tCall (sp2 K f .new) [] E (tCons t1 (tCons t2 tNil))) ρ m (r1.bind fun x => r2.bind fun y => f x y) :=
  (ev_callL (ea_cons h1 (ea_one h2))).res (by cases r1 <;> cases r2 <;> rfl)
theorem ev_callL3 {α : Type} [Rp α] [Scal α] {f : a1 → a2 → a3 → Option (List α)} {r1 : Option a1} {r2 : Option a2} {r3 : Option a3} (h1 : EvE K t1 ρ m1 r1) (h2 : EvE K t2 ρ m2 r2) (h3 : EvE K t3 ρ m3 r3) : EvL K (tCall (sp3 K f .new) [] E (tCons t1 (tCons t2 (tCons t3 tNil)))) ρ m (r1.bind fun x => r2.bind fun y => r3.bind fun z => f x y z) :=
  (ev_callL (ea_cons h1 (ea_cons h2 (ea_one h3)))).res (by cases r1 <;> cases r2 <;> cases r3 <;> rfl)
theorem ev_callL4 {α : Type} [Rp α] [Scal α] {f : a1 → a2 → a3 → a4 → Option (List α)} {r1 : Option a1} {r2 : Option a2} {r3 : Option a3} {r4 : Option a4} (h1 : EvE K t1 ρ m1 r1) (h2 : EvE K t2 ρ m2 r2) (h3 : EvE K t3 ρ m3 r3) (h4 : EvE K t4 ρ m4 r4) : EvL K (tCall (sp4 K f .new) [] E (tCons t1 (tCons t2 (tCons t3 (tCons t4 tNil))))) ρ m (r1.bind fun x => r2.bind fun y => r3.bind fun z => r4.bind fun w => f x y z w) :=
  (ev_callL (ea_cons h1 (ea_cons h2 (ea_cons h3 (ea_one h4))))).res (by cases r1 <;> cases r2 <;> cases r3 <;> cases r4 <;> rfl)
/-- a body's reading, from its promise -/
theorem of_body {N : List Str} {tb : TS} {vs : List V} {H : Hp} {Q : VK} {E : XK} (hb : ∀ x : A, EvR K tb ((ds x).map (.dat .old) ++ List.replicate (N.length - (ds x).length) .un) m (f x)) (hN : ∀ x, (ds x).length ≤ N.length) (h : spA K ds f m vs H Q E) :
    tb { nx := fun _ H' => Q .non H', rt := Q } (start N vs) H := by
  obtain ⟨C, x, r, s, ra, ef, q⟩ := h
  have hl := ra.length
  refine hb x H C C H (start N vs) ⟨.refl s, ?_, fun i sl e => ?_, fun i j a mi li mj lj n e1 _ _ => ?_⟩ r ef _ fun v C' H' y rv => q v C' H' y rv
  · unfold start
    rw [List.length_append, List.length_append, List.length_map, List.length_map, List.length_replicate, List.length_replicate, hl]
  · by_cases hi : i < (ds x).length
    · rw [List.getElem?_append_left (by rw [List.length_map]; exact hi), List.getElem?_map] at e
      obtain ⟨d, ed, rfl⟩ := some_map e
      obtain ⟨v, ev, rv⟩ := ra.get ed
      refine ⟨v, ?_, rv⟩
      unfold start
      rw [List.getElem?_append_left (by rw [List.length_map, hl]; exact hi), List.getElem?_map, ev]
      rfl
    · rw [List.getElem?_append_right (by rw [List.length_map]; omega), List.getElem?_replicate] at e
      split at e
      · cases e; trivial
      · cases e
  · by_cases hi : i < (ds x).length
    · rw [List.getElem?_append_left (by rw [List.length_map]; exact hi), List.getElem?_map] at e1
      obtain ⟨d, ed, z⟩ := some_map e1
      cases z
    · rw [List.getElem?_append_right (by rw [List.length_map]; omega), List.getElem?_replicate] at e1
      split at e1
      · cases e1
      · cases e1
theorem spA_len {n : Nat} {vs : List V} {H : Hp} {Q : VK} {E : XK} (h : spA K ds f m vs H Q E) (hn : ∀ x, (ds x).length = n) : vs.length = n := by
  obtain ⟨C, x, r, s, ra, _⟩ := h
  rw [ra.length, hn]
end
end L2.DL

/-! DL5: further rules. -/
namespace L2.DL
open PySem PySem.Spec PyProof.Rows

/-! ### defs of the text -/
structure DefAt (K : PySem.W.Frag) (mg : Str → Option Value) (x : Str) (st : Stmt) (ps : List Str) where
  a : Addr
  d : FuncData
  F : Fun K x x st a d
  g : mg x = some (.ref a)
  b : Binds K d ps []
  b1 : ∀ (s : Shared) (u : Value), ps.length = 1 → BindsTo s d ⟨[u], []⟩ (ps.zip [u])
def at_mk {K : PySem.W.Frag} {h : Heap} {mg : Str → Option Value} {x : Str} {st : Stmt} {ps : List Str} {f : Addr} {od an : Option Addr} {sl : Array (Option Value)} {oc kV dc pm cd ct : Value} (X : K.In h) (G : h.Ns mainGlobals mg)
    (a : PySem.W.nsIn K mainGlobals x = some (some (.ref f))) (l : K.lookup f = some ⟨oc, od, .func (PySem.W.fnOf x x (defArgs st) (defBody st) (defScope st) .none kV dc pm an cd ct), sl⟩) (c : PySem.W.codeIn K cd x = true) (k : PySem.W.keepIn K (.ref f) = true)
    (hb : ∀ (kV doc pm : Value) (an : Option Addr) (cdv ct : Value) (us : List Value), us.length = ps.length → bindArgs (PySem.W.fnOf x x (defArgs st) (defBody st) (defScope st) .none kV doc pm an cdv ct) ⟨us, []⟩ = pure (ps.zip us)) : DefAt K mg x st ps :=
  ⟨f, _, fun_mk l c k, PySem.W.mg_of X G a, (fun_mk l c k).binds hb, fun s u e => .of_eq (hb _ _ _ _ _ _ [u] e.symm)⟩

section
variable {K : PySem.W.Frag} {t u : TS} {te ta tb tc td : TE} {ρ : En} {m m1 m2 m3 m4 : Md} {S T R : Type} [Rp R] {E : S → En} {L : T → En}
variable {α β γ δ : Type} [Rp α] [Rp β] [Rp γ] [Rp δ]
/-- the last statement of a block -/
theorem en_last {o : Option S} (h : EvN K (tSeq t tNext) ρ E o) : EvN K t ρ E o := h
theorem ef_last {o : Option (Fl S T R)} (h : EvF K (tSeq t tNext) ρ E L m o) : EvF K t ρ E L m o := h
theorem ev_unit : EvE K (tC .non) ρ .new (some ()) := ev_c fun H => by simp only [rp, Rp.rp, Rep]
theorem ev_isB {ra rb : Option Bool} (ha : EvE K ta ρ m1 ra) (hb : EvE K tb ρ m2 rb) : EvE K (tOp (fun x y H Q => ∃ a b, x = .bl a ∧ y = .bl b ∧ Q (.bl (decide (a = b))) H) ta tb) ρ .new (ra.bind fun x => rb.bind fun y => some (decide (x = y))) :=
  ev_two ha hb fun Ht C H x y z v u Q s e r1 r2 q => by
    cases e
    rw [r1.bl_, r2.bl_]
    exact ⟨x, y, rfl, rfl, q _ C H (.refl s) .ofBl⟩
theorem ev_notB {ra rb : Option Bool} (ha : EvE K ta ρ m1 ra) (hb : EvE K tb ρ m2 rb) : EvE K (tOp (fun x y H Q => ∃ a b, x = .bl a ∧ y = .bl b ∧ Q (.bl (!decide (a = b))) H) ta tb) ρ .new (ra.bind fun x => rb.bind fun y => some (decide (x ≠ y))) :=
  ev_two ha hb fun Ht C H x y z v u Q s e r1 r2 q => by
    cases e
    rw [r1.bl_, r2.bl_]
    exact ⟨x, y, rfl, rfl, q _ C H (.refl s) (by simp only [rp, Rp.rp, Rep, ne_eq, decide_not])⟩
theorem ev_revSl {ra : Option (List α)} (ha : EvB K ta ρ m ra) : EvL K (tRevL K ta) ρ m (ra.bind fun x => some x.reverse) := fun Ht C0 C H σ I z e Q q => by
  obtain ⟨x, ex, e⟩ := some_bind e
  cases e
  refine ha Ht C0 C H σ I x ex _ fun a vs C1 H1 x1 h1 r1 => ⟨a, vs, rfl, .of h1, fun p hp => new_list x1 hp ?_ q⟩
  rw [rps, List.map_reverse]
  exact r1.reverse
/-- xs.extend(ys) -/
theorem en_extend {i : Nat} {xs : List α} {ra : Option (List α)} (h : EvE K te ρ m ra) (hi : ρ[i]? = some (.own m (rps xs)) := by rfl) :
    EvN K (tDrop (tBM K "list" rExtend (tVar i) (tCons te tNil))) ρ (fun x => ρ.set i (.own m (rps x))) (ra.bind fun x => lim (xs ++ x)) := fun Ht C0 C H σ I z e D q => by
  obtain ⟨x, ex, e⟩ := some_bind e
  obtain ⟨hz, rfl⟩ := of_lim e
  obtain ⟨a, vs, e1, hn, hc, ha, rv⟩ := I.ok i _ hi
  refine ⟨.ref a, e1, .inl ⟨rfl, _, .of ha⟩, h Ht C0 C H σ I x ex _ fun v C1 H1 x1 r1 => ?_⟩
  obtain ⟨b, us, rfl, hb, rb⟩ := rep_lst r1
  have I1 := I.to x1
  refine ⟨a, b, vs, us, rfl, rfl, x1.h _ _ ha, x1.s _ _ (part_le _ _ hb), ?_, q C1 _ σ (I1.write hi e1 ?_) x1.c⟩
  · rw [rv.length, rb.length, List.length_map, List.length_map, ← List.length_append]
    exact hz
  · rw [rps, List.map_append]
    exact (rv.mono (part_mono x1.c)).append rb
end
section
variable {K : PySem.W.Frag} {ta tb tc td : TE} {ρ : En} {m : Md}
variable {α β γ δ : Type} [Rp α] [Rp β] [Rp γ] [Rp δ]
/-- four of them -/
theorem ev_quad {ra : Option α} {rb : Option β} {rc : Option γ} {rd : Option δ} (ha : EvE K ta ρ m ra) (hb : EvE K tb ρ m rb) (hc : EvE K tc ρ m rc) (hd : EvE K td ρ m rd) : EvE K (tTup (tCons ta (tCons tb (tCons tc (tCons td tNil))))) ρ m (ra.bind fun x => rb.bind fun y => rc.bind fun z => rd.bind fun w => some (T4.mk x y z w)) := fun Ht C0 C H σ I z e Q q => by
  obtain ⟨x, ex, e⟩ := some_bind e
  obtain ⟨y, ey, e⟩ := some_bind e
  obtain ⟨z, ez, e⟩ := some_bind e
  obtain ⟨w, ew, e⟩ := some_bind e
  cases e
  refine ha Ht C0 C H σ I x ex _ fun v1 C1 H1 x1 r1 => ?_
  refine hb Ht C0 C1 H1 σ (I.to x1) y ey _ fun v2 C2 H2 x2 r2 => ?_
  refine hc Ht C0 C2 H2 σ ((I.to x1).to x2) z ez _ fun v3 C3 H3 x3 r3 => ?_
  refine hd Ht C0 C3 H3 σ (((I.to x1).to x2).to x3) w ew _ fun v4 C4 H4 x4 r4 => ⟨(by show 4 ≤ sizeLine; decide), fun p hp => ?_⟩
  have xx := ((x1.trans x2).trans x3).trans x4
  refine q (.ref p) (upd C4 p (.tup [v1, v2, v3, v4])) _ (new_clean xx hp) ?_
  simp only [rp, Rp.rp, Rep]
  have s4 := same_upd (o := .tup [v1, v2, v3, v4]) (free_of x4.s hp)
  have c34 := x4.c.trans s4
  have c234 := x3.c.trans c34
  exact ⟨p, _, rfl, part_at upd_same (free_of (I.ext.h.trans xx.h) hp), .cons (r1.mono (part_mono (x2.c.trans c234))) (.cons (r2.mono (part_mono c234)) (.cons (r3.mono (part_mono c34)) (.cons (r4.mono (part_mono s4)) .nil)))⟩
theorem rep_t4 {H : Hp} {p : T4 α β γ δ} {v : V} (h : Rep K H (rp p) v) : ∃ a x y z w, v = .ref a ∧ H a = some (.tup [x, y, z, w]) ∧ Rep K H (rp p.p) x ∧ Rep K H (rp p.q) y ∧ Rep K H (rp p.r) z ∧ Rep K H (rp p.s) w := by
  simp only [rp, Rp.rp, Rep] at h
  obtain ⟨a, vs, e, h1, h2⟩ := h
  obtain ⟨x, r, rfl, r1, h2⟩ := h2.uncons
  obtain ⟨y, r', rfl, r2, h2⟩ := h2.uncons
  obtain ⟨z, r', rfl, r3, h2⟩ := h2.uncons
  obtain ⟨w, r', rfl, r4, h2⟩ := h2.uncons
  rw [h2.nil_iff] at h1
  exact ⟨a, x, y, z, w, e, h1, r1, r2, r3, r4⟩
theorem eg_quad {g1 g2 g3 g4 : TG} {x : T4 α β γ δ} {ρ1 ρ2 ρ3 ρ4 : En} {v1 v2 v3 v4 : List Nat} (h1 : EvG K g1 m (rp x.p) ρ ρ1 v1) (h2 : EvG K g2 m (rp x.q) ρ1 ρ2 v2) (h3 : EvG K g3 m (rp x.r) ρ2 ρ3 v3) (h4 : EvG K g4 m (rp x.s) ρ3 ρ4 v4) :
    EvG K (gTup K 4 (gCons g1 (gCons g2 (gCons g3 (gCons g4 gNil))))) m (rp x) ρ ρ4 (v1 ++ (v2 ++ (v3 ++ v4))) := fun Ht C0 C H σ v I r Q q => by
  obtain ⟨a, u1, u2, u3, u4, rfl, e, r1, r2, r3, r4⟩ := rep_t4 r
  refine ⟨a, [u1, u2, u3, u4], rfl, .of (I.sub _ _ (part_le _ _ e)), rfl, u1, [u2, u3, u4], rfl, ?_⟩
  refine h1 Ht C0 C H σ u1 I r1 _ fun σ1 I1 e1 l1 => ⟨u2, [u3, u4], rfl, ?_⟩
  refine h2 Ht C0 C H σ1 u2 I1 r2 _ fun σ2 I2 e2 l2 => ⟨u3, [u4], rfl, ?_⟩
  refine h3 Ht C0 C H σ2 u3 I2 r3 _ fun σ3 I3 e3 l3 => ⟨u4, [], rfl, ?_⟩
  refine h4 Ht C0 C H σ3 u4 I3 r4 _ fun σ4 I4 e4 l4 => ⟨rfl, q σ4 I4 (fun j hj => ?_) (l4.trans (l3.trans (l2.trans l1)))⟩
  simp only [List.mem_append, not_or] at hj
  rw [e4 j hj.2.2.2, e3 j hj.2.2.1, e2 j hj.2.1, e1 j hj.1]
end

/-! ### lists that are held, lent to a call whose answer is new -/
open Classical in
noncomputable def wOwn (σ : St) (ρ : En) (C H : Hp) : Hp := fun a => if (∃ (i : Nat) (m : Md) (l : List Dt), ρ[i]? = some (.own m l) ∧ σ[i]? = some (some (.ref a))) then H a else C a
def EvP (K : PySem.W.Frag) {α : Type} [Rp α] (t : TE) (ρ : En) (r : Option α) : Prop :=
  ∀ (Ht C0 C H : Hp) (σ : St), EnvI K Ht C0 C H σ ρ → ∀ x, r = some x → ∀ Q : VK, (∀ v C' H', Ext C H C' H' → Rep K (wOwn σ ρ C' H') (rp x) v → Q v H') → t σ H Q
section
variable {K : PySem.W.Frag} {t t1 t2 t3 t4 t5 : TE} {ta : TA} {ρ : En} {m m1 m2 m3 : Md} {E : XK}
variable {α R A : Type} [Rp α] [Rp R]
theorem wOwn_c {Ht C0 C H : Hp} {σ : St} (I : EnvI K Ht C0 C H σ ρ) : Same C (wOwn σ ρ C H) := fun a o e => by
  unfold wOwn
  split
  · exact I.sub _ _ e
  · exact e
theorem wOwn_h {Ht C0 C H : Hp} {σ : St} (I : EnvI K Ht C0 C H σ ρ) : Same (wOwn σ ρ C H) H := fun a o e => by
  unfold wOwn at e
  split at e
  · exact e
  · exact I.sub _ _ e
theorem wOwn_x {C H C' H' : Hp} {σ : St} (x : Ext C H C' H') : Same (wOwn σ ρ C H) (wOwn σ ρ C' H') := fun a o e => by
  unfold wOwn at e ⊢
  split at e
  · rename_i hh; rw [if_pos hh]; exact x.h _ _ e
  · rename_i hh; rw [if_neg hh]; exact x.c _ _ e
theorem EvE.P {r : Option α} (h : EvE K t ρ m r) : EvP K t ρ r := fun Ht C0 C H σ I x e Q q =>
  h Ht C0 C H σ I x e Q fun v C' H' y rv => q v C' H' y (rv.mono (part_le.trans (wOwn_c (I.to y))))
theorem ep_own {i : Nat} {xs : List α} (h : ρ[i]? = some (.own m (rps xs)) := by rfl) : EvP K (tVar i) ρ (some xs) := fun Ht C0 C H σ I y e Q q => by
  cases e
  obtain ⟨a, vs, e1, _, _, h3, r⟩ := I.ok i _ h
  refine ⟨.ref a, e1, q _ C H I.same ?_⟩
  simp only [rp, Rp.rp, Rep]
  refine ⟨a, vs, rfl, ?_, r.mono (part_le.trans (wOwn_c I))⟩
  unfold wOwn
  rw [if_pos ⟨i, m, _, h, e1⟩]
  exact h3
def EvPs (K : PySem.W.Frag) {A : Type} (ds : A → List Dt) (t : TA) (ρ : En) (r : Option A) : Prop :=
  ∀ (Ht C0 C H : Hp) (σ : St), EnvI K Ht C0 C H σ ρ → ∀ x, r = some x → ∀ Q : List V → Hp → Prop, (∀ vs C' H', Ext C H C' H' → RepL K (wOwn σ ρ C' H') (ds x) vs → Q vs H') → t σ H Q
theorem ep_one {r : Option α} (h : EvP K t ρ r) : EvPs K (fun x : α => [rp x]) (tCons t tNil) ρ r := fun Ht C0 C H σ I z e Q q =>
  h Ht C0 C H σ I z e _ fun v C1 H1 x1 q1 => q [v] C1 H1 x1 (.cons q1 .nil)
theorem ep_cons {ds : A → List Dt} {r : Option α} {r2 : Option A} (h1 : EvP K t ρ r) (h2 : EvPs K ds ta ρ r2) : EvPs K (fun x : α × A => rp x.1 :: ds x.2) (tCons t ta) ρ (r.bind fun x => r2.bind fun y => some (x, y)) := fun Ht C0 C H σ I z e Q q => by
  obtain ⟨x, ex, e⟩ := some_bind e
  obtain ⟨y, ey, e⟩ := some_bind e
  cases e
  refine h1 Ht C0 C H σ I x ex _ fun v C1 H1 x1 q1 => ?_
  refine h2 Ht C0 C1 H1 σ (I.to x1) y ey _ fun vs C2 H2 x2 q2 => q (v :: vs) C2 H2 (x1.trans x2) (.cons (q1.mono (wOwn_x x2)) q2)
/-- what a call with an answer that is new leaves -/
theorem lent {Ht C0 C H C' H' : Hp} {σ : St} (I : EnvI K Ht C0 C H σ ρ) (x : Ext (wOwn σ ρ C H) H C' H') : ∃ C2, Ext C H C2 H' ∧ Same (part .new H C') (part .new Ht C2) := by
  refine ⟨fun a => if (H a).isNone = true then C' a else C a, ⟨fun a o e => ?_, x.h, fun a o e => ?_, fun a h1 h2 => ?_⟩, fun a o e => ?_⟩
  · have : ¬ (H a).isNone = true := by rw [I.sub _ _ e]; simp
    rw [if_neg this]
    exact e
  · split at e
    · exact x.s _ _ e
    · exact x.h _ _ (I.sub _ _ e)
  · have : ¬ (H a).isNone = true := by simpa using h1
    rw [if_neg this]
    exact h2
  · simp only [part] at e ⊢
    split at e
    · rename_i hn
      have hn' : H a = none := by simpa using hn
      rw [free_of I.ext.h hn']
      simp only [Option.isNone_none, if_true]
      rw [if_pos hn]
      exact e
    · cases e
theorem ev_callP {ds : A → List Dt} {f : A → Option R} {ra : Option A} (h : EvPs K ds ta ρ ra) : EvE K (tCall (spA K ds f .new) [] E ta) ρ .new (ra.bind f) := fun Ht C0 C H σ I z e Q q => by
  obtain ⟨x, ex, e⟩ := some_bind e
  refine h Ht C0 C H σ I x ex _ fun vs C1 H1 x1 r1 => ?_
  rw [List.append_nil]
  have I1 := I.to x1
  refine ⟨wOwn σ ρ C1 H1, x, z, wOwn_h I1, r1, e, fun u C' H' y ru => ?_⟩
  obtain ⟨C2, x2, s2⟩ := lent I1 y
  exact q u C2 H' (x1.trans x2) (ru.mono s2)
theorem ev_callPL {α : Type} [Rp α] [Scal α] {ds : A → List Dt} {f : A → Option (List α)} {ra : Option A} (h : EvPs K ds ta ρ ra) : EvL K (tCall (spA K ds f .new) [] E ta) ρ m (ra.bind f) := fun Ht C0 C H σ I z e Q q => by
  obtain ⟨x, ex, e⟩ := some_bind e
  refine h Ht C0 C H σ I x ex _ fun vs C1 H1 x1 r1 => ?_
  rw [List.append_nil]
  have I1 := I.to x1
  refine ⟨wOwn σ ρ C1 H1, x, z, wOwn_h I1, r1, e, fun u C' H' y ru => ?_⟩
  obtain ⟨a, us, rfl, h1, h2⟩ := rep_lst ru
  have hn : H1 a = none := by
    simp only [part] at h1
    split at h1
    · rename_i z; simpa using z
    · cases h1
  exact q a us C1 H' ⟨x1.c, x1.h.trans y.h, x1.s.trans y.h, x1.f⟩ (free_of x1.h hn) (free_of x1.s hn) (y.s _ _ (part_le _ _ h1)) h2.scal
variable {a1 a2 a3 a4 a5 : Type} [Rp a1] [Rp a2] [Rp a3] [Rp a4] [Rp a5]
theorem ev_callP1 {f : a1 → Option R} {r1 : Option a1} (h1 : EvP K t1 ρ r1) : EvE K (tCall (sp1 K f .new) [] E (tCons t1 tNil)) ρ .new (r1.bind f) := ev_callP (ep_one h1)
theorem ev_callP2 {f : a1 → a2 → Option R} {r1 : Option a1} {r2 : Option a2} (h1 : EvP K t1 ρ r1) (h2 : EvP K t2 ρ r2) : EvE K (tCall (sp2 K f .new) [] E (tCons t1 (tCons t2 tNil))) ρ .new (r1.bind fun x => r2.bind fun y => f x y) :=
  (ev_callP (ep_cons h1 (ep_one h2))).res (by cases r1 <;> cases r2 <;> rfl)
theorem ev_callP3 {f : a1 → a2 → a3 → Option R} {r1 : Option a1} {r2 : Option a2} {r3 : Option a3} (h1 : EvP K t1 ρ r1) (h2 : EvP K t2 ρ r2) (h3 : EvP K t3 ρ r3) : EvE K (tCall (sp3 K f .new) [] E (tCons t1 (tCons t2 (tCons t3 tNil)))) ρ .new (r1.bind fun x => r2.bind fun y => r3.bind fun z => f x y z) :=
  (ev_callP (ep_cons h1 (ep_cons h2 (ep_one h3)))).res (by cases r1 <;> cases r2 <;> cases r3 <;> rfl)
theorem ev_callP4 {f : a1 → a2 → a3 → a4 → Option R} {r1 : Option a1} {r2 : Option a2} {r3 : Option a3} {r4 : Option a4} (h1 : EvP K t1 ρ r1) (h2 : EvP K t2 ρ r2) (h3 : EvP K t3 ρ r3) (h4 : EvP K t4 ρ r4) : EvE K (tCall (sp4 K f .new) [] E (tCons t1 (tCons t2 (tCons t3 (tCons t4 tNil))))) ρ .new (r1.bind fun x => r2.bind fun y => r3.bind fun z => r4.bind fun w => f x y z w) :=
  (ev_callP (ep_cons h1 (ep_cons h2 (ep_cons h3 (ep_one h4))))).res (by cases r1 <;> cases r2 <;> cases r3 <;> cases r4 <;> rfl)
theorem ev_callPL1 {α : Type} [Rp α] [Scal α] {f : a1 → Option (List α)} {r1 : Option a1} (h1 : EvP K t1 ρ r1) : EvL K (tCall (sp1 K f .new) [] E (tCons t1 tNil)) ρ m (r1.bind f) := ev_callPL (ep_one h1)
theorem ev_callPL2 {α : Type} [Rp α] [Scal α] {f : a1 → a2 → Option (List α)} {r1 : Option a1} {r2 : Option a2} (h1 : EvP K t1 ρ r1) (h2 : EvP K t2 ρ r2) : EvL K (tCall (sp2 K f .new) [] E (tCons t1 (tCons t2 tNil))) ρ m (r1.bind fun x => r2.bind fun y => f x y) :=
  (ev_callPL (ep_cons h1 (ep_one h2))).res (by cases r1 <;> cases r2 <;> rfl)
end
end L2.DL
namespace L2.DL
theorem ten18 : (10 : Int) ^ (18 : Int).toNat = 1000000000000000000 := by decide +kernel
theorem ten9 : (10 : Int) ^ (9 : Int).toNat = 1000000000 := by decide +kernel
theorem ten12 : (10 : Int) ^ (12 : Int).toNat = 1000000000000 := by decide +kernel
theorem ten6 : (10 : Int) ^ (6 : Int).toNat = 1000000 := by decide +kernel
theorem map_bind_ {A B : Type} (f : A → B) (x : Option A) : x.map f = x.bind fun a => some (f a) := by cases x <;> rfl
theorem bind_some_ {A : Type} (x : Option A) : (x.bind fun a => some a) = x := by cases x <;> rfl
end L2.DL
namespace L2.DL
open PySem PySem.Spec PyProof.Rows
section
variable {K : PySem.W.Frag} {t u : TS} {ρ : En} {m mi : Md} {S T R : Type} [Rp R] {E : S → En} {L : T → En} {α : Type} [Rp α] {c : TT} {w : TI} {g : TG} {ta : TA}
theorem EvXs.res {n : Nat} {r r' : Option (List α)} (h : EvXs K ta ρ m n r) (e : r' = r) : EvXs K ta ρ m n r' := e ▸ h
theorem en_ifP {b : Bool} {o1 o2 : Option S} (hc : EvT K c ρ (some b)) (h1 : EvN K t ρ E o1) (h2 : EvN K u ρ E o2) : EvN K (tIfS c t u) ρ E (if b = true then o1 else o2) := en_if hc h1 h2
theorem er_ifP {b : Bool} {o1 o2 : Option R} (hc : EvT K c ρ (some b)) (h1 : EvR K t ρ m o1) (h2 : EvR K u ρ m o2) : EvR K (tIfS c t u) ρ m (if b = true then o1 else o2) := er_if hc h1 h2
theorem ef_ifP {b : Bool} {o1 o2 : Option (Fl S T R)} (hc : EvT K c ρ (some b)) (h1 : EvF K t ρ E L m o1) (h2 : EvF K u ρ E L m o2) : EvF K (tIfS c t u) ρ E L m (if b = true then o1 else o2) := ef_if hc h1 h2
theorem en_forP {vs : List Nat} {xs : List α} {s0 : S} {f : S → α → Option S} {Eb : S → α → En} (hi : EvI K w ρ mi (some xs)) (h0 : EnvW ρ (E s0)) (hg : ∀ s x, EvG K g mi (rp x) (E s) (Eb s x) vs)
    (hb : ∀ s x, EvN K t (Eb s x) E (f s x)) : EvN K (tFor w g t) ρ E (xs.foldlM f s0) := en_for hi h0 hg hb
theorem ef_forP {vs : List Nat} {xs : List α} {s0 : S} {f : S → α → Option (Fl S S R)} {Eb : S → α → En} (hi : EvI K w ρ mi (some xs)) (h0 : EnvW ρ (E s0)) (hg : ∀ s x, EvG K g mi (rp x) (E s) (Eb s x) vs)
    (hb : ∀ s x, EvF K t (Eb s x) E E m (f s x)) : EvF K (tFor w g t) ρ E L m (forL f xs s0) := ef_for hi h0 hg hb
theorem EvR.FP {r : R} (h : EvR K t ρ m (some r)) : EvF K t ρ E L m (some (.rt r : Fl S T R)) := EvR.F h
theorem ef_cutRP {r : R} (h : EvR K t ρ m (some r)) : EvF K (tSeq t u) ρ E L m (some (.rt r : Fl S T R)) := ef_cutR h
theorem ev_powV {a b v : Int} (h : 0 ≤ b ∧ b ≤ 1000000 ∧ a.natAbs < 2 ^ 64 := by decide) (hv : a ^ b.toNat = v := by decide +kernel) : EvE K (tOp (rI CPow fun i j => .int (i ^ j.toNat)) (tC (.int a)) (tC (.int b))) ρ .new (some v) := hv ▸ ev_pow h
end
end L2.DL

namespace L2.DL
open PySem PySem.Spec PyProof.Rows

/-! ## plain laws: what a mirror returns -/
def Rets {α : Type} (m : Option α) (Q : α → Prop) : Prop := ∃ x, m = some x ∧ Q x
section
variable {α β γ : Type} {m : Option α} {Q : α → Prop} {R : β → Prop}
theorem Rets.pure {x : α} (h : Q x) : Rets (some x) Q := ⟨x, rfl, h⟩
theorem Rets.bind {f : α → Option β} (h : Rets m Q) (k : ∀ x, Q x → Rets (f x) R) : Rets (m.bind f) R := by
  obtain ⟨x, rfl, q⟩ := h
  exact k x q
theorem Rets.some {x : α} {f : α → Option β} (k : Rets (f x) R) : Rets ((some x).bind f) R := k
theorem Rets.mono {Q' : α → Prop} (h : Rets m Q) (k : ∀ x, Q x → Q' x) : Rets m Q' := by
  obtain ⟨x, rfl, q⟩ := h
  exact ⟨x, rfl, k x q⟩
theorem Rets.ite {c : Prop} [Decidable c] {a b : Option α} (h1 : c → Rets a Q) (h2 : ¬ c → Rets b Q) : Rets (if c then a else b) Q := by
  split
  · exact h1 ‹_›
  · exact h2 ‹_›
theorem Rets.fold {f : β → α → Option β} (I : Nat → β → Prop) {N : Nat} : ∀ (l : List α) (k : Nat) (s : β), k + l.length ≤ N → I k s → (∀ k s x, x ∈ l → k < N → I k s → Rets (f s x) (I (k + 1))) → Rets (l.foldlM f s) (I (k + l.length))
  | [], k, s, _, h, _ => ⟨s, rfl, h⟩
  | x :: l, k, s, hN, h, st => by
    rw [List.length_cons] at hN
    obtain ⟨t, et, ht⟩ := st k s x List.mem_cons_self (by omega) h
    have h2 := Rets.fold I l (k + 1) t (by omega) ht fun k s y hy => st k s y (List.mem_cons_of_mem _ hy)
    have e : (x :: l).foldlM f s = l.foldlM f t := by
      rw [List.foldlM_cons, et]
      rfl
    rw [e, List.length_cons, show k + (l.length + 1) = k + 1 + l.length by omega]
    exact h2
theorem foldlM_app {f : β → α → Option β} : ∀ (l r : List α) (s : β), (l ++ r).foldlM f s = (l.foldlM f s).bind fun t => r.foldlM f t := fun l r s => by
  rw [List.foldlM_append]
  rfl
theorem foldlM_cons' {f : β → α → Option β} (x : α) (l : List α) (s : β) : (x :: l).foldlM f s = (f s x).bind fun t => l.foldlM f t := by
  rw [List.foldlM_cons]
  rfl
theorem foldlM_one {f : β → α → Option β} (x : α) (s : β) : [x].foldlM f s = f s x := by
  rw [foldlM_cons']
  cases f s x <;> rfl
theorem rangeL_nat (n : Nat) : rangeL 0 (n : Int) = (List.range n).map fun k : Nat => (k : Int) := by
  unfold rangeL
  rw [show ((n : Int) - 0).toNat = n by omega]
  exact List.map_congr_left fun k _ => by omega
theorem rangeP_nat {n : Nat} (h : n < 2 ^ 62) : rangeP 0 (n : Int) = some ((List.range n).map fun k : Nat => (k : Int)) := by
  rw [rangeP_def, rangeL_nat, if_pos]
  refine ⟨by decide, by decide, by omega, by omega⟩
theorem fold_range {f : β → Int → Option β} (I : Nat → β → Prop) {s : β} (h0 : I 0 s) : ∀ (n : Nat), (∀ k s, k < n → I k s → Rets (f s (k : Int)) (I (k + 1))) → Rets (((List.range n).map fun k : Nat => (k : Int)).foldlM f s) (I n)
  | 0, _ => ⟨s, rfl, h0⟩
  | n + 1, st => by
    obtain ⟨t, et, ht⟩ := fold_range I h0 n fun k s hk => st k s (by omega)
    obtain ⟨u, eu, hu⟩ := st n t (by omega) ht
    refine ⟨u, ?_, hu⟩
    rw [List.range_succ, List.map_append, foldlM_app, et]
    show [(n : Int)].foldlM f t = Option.some u
    rw [foldlM_one]
    exact eu
theorem Rets.range {f : β → Int → Option β} {n : Int} (I : Nat → β → Prop) {s : β} (hn : n < 2 ^ 62) (hn0 : 0 ≤ n) (h0 : I 0 s) (st : ∀ k s, k < n.toNat → I k s → Rets (f s (k : Int)) (I (k + 1))) : Rets ((rangeP 0 n).bind fun l => l.foldlM f s) (I n.toNat) := by
  have e : rangeP 0 n = rangeP 0 ((n.toNat : Nat) : Int) := congrArg _ (by omega)
  rw [e, rangeP_nat (by omega)]
  exact fold_range I h0 _ st
theorem atI_nat {l : List α} {k : Nat} (h : k < l.length) : atI l (k : Int) = Option.some l[k] := by
  unfold atI ixN
  rw [if_pos (by omega), if_pos (by omega)]
  show l[(k : Int).toNat]? = _
  rw [Int.toNat_natCast, List.getElem?_eq_getElem h]
theorem atI_int {l : List α} {i : Int} (h0 : 0 ≤ i) (h : i < l.length) : atI l i = Option.some (l[i.toNat]'(by omega)) := by
  obtain ⟨k, rfl⟩ := Int.eq_ofNat_of_zero_le h0
  exact atI_nat (k := k) (by omega)
theorem cut_take {l : List α} {k : Nat} : cut l none (Option.some (k : Int)) = l.take k := by
  unfold cut
  rw [HT.sIx_none, HT.sIx_nat]
  simp only [List.drop_zero, Nat.sub_zero]
  rcases Nat.le_total k l.length with h | h
  · rw [Nat.min_eq_left h]
  · rw [Nat.min_eq_right h, List.take_length, List.take_of_length_le h]
theorem cut_drop {l : List α} {k : Nat} : cut l (Option.some (k : Int)) none = l.drop k := by
  unfold cut
  rw [HT.sIx_none, HT.sIx_nat]
  rcases Nat.le_total k l.length with h | h
  · rw [Nat.min_eq_left h]
    exact List.take_of_length_le (by simp)
  · rw [Nat.min_eq_right h, List.drop_length, List.drop_of_length_le h, List.take_nil]
theorem cut_both {l : List α} {j k : Nat} : cut l (Option.some (j : Int)) (Option.some (k : Int)) = (l.drop j).take (k - j) := by
  unfold cut
  rw [HT.sIx_nat, HT.sIx_nat]
  rcases Nat.le_total j l.length with h | h
  · rw [Nat.min_eq_left h]
    rcases Nat.le_total k l.length with h' | h'
    · rw [Nat.min_eq_left h']
    · rw [Nat.min_eq_right h', List.take_of_length_le (by simp), List.take_of_length_le (by simp; omega)]
  · rw [Nat.min_eq_right h, List.drop_length, List.drop_of_length_le h]
    simp
end
/-- every draw -/
def Drawn (l : List Int) : Prop := ∀ x ∈ l, 0 ≤ x ∧ x < 1000003
theorem Drawn.snoc {l : List Int} {x : Int} (h : Drawn l) (h0 : 0 ≤ x) (h1 : x < 1000003) : Drawn (l ++ [x]) := fun y hy => by
  rcases List.mem_append.mp hy with h' | h'
  · exact h y h'
  · rw [List.mem_singleton.mp h']
    exact ⟨h0, h1⟩
def drawsP (a_script : Scr) (a_many : Int) : Option (List Int) :=
 (some ([] : (List Int))).bind fun found_1 =>
 ((cut a_script.l none (some (63 : Int))).foldlM (fun (s5 : (List Int)) (cell_6 : Int) =>
 (some (if cell_6 < 0 then -cell_6 else cell_6)).bind fun number_8 =>
 (if (decide ((1000000000000000000 : Int) ≤ number_8)) = true then
 ((rangeP 0 (60 : Int)).bind fun l23 => l23.foldlM (fun (s12 : ((List Int) × Int)) (k_13 : Int) =>
 (if (decide ((0 : Int) < s12.2)) = true then
 (lim (s12.1 ++ [(s12.2 % 1000003)])).bind fun found_16 =>
 (some (s12.2 / 1000003)).bind fun number_20 =>
 some (found_16, number_20)
else
 some (s12.1, s12.2))) (s5, number_8)).bind fun (s24 : ((List Int) × Int)) =>
 some s24.1
else
 (some ((((number_8 * 48271) + (7 * (s5.length : Int))) + (11 : Int)) % 2147483647)).bind fun mixed_33 =>
 ((rangeP 0 (4 : Int)).bind fun l53 => l53.foldlM (fun (s35 : ((List Int) × Int)) (k_36 : Int) =>
 (some (((((s35.2 * 69621) + (s35.2 / 65536)) + (13 * k_36)) + (5 : Int)) % 2147483629)).bind fun mixed_47 =>
 (lim (s35.1 ++ [((mixed_47 / 8) % 1000003)])).bind fun found_48 =>
 some (found_48, mixed_47)) (s5, mixed_33)).bind fun (s54 : ((List Int) × Int)) =>
 some s54.1)) found_1).bind fun (s58 : (List Int)) =>
 ((rangeP 0 a_many).bind fun l91 => l91.foldlM (fun (s60 : (List Int)) (k_61 : Int) =>
 (if (decide ((s60.length : Int) < a_many)) = true then
 (some (0 : Int)).bind fun base_65 =>
 ((if (decide ((0 : Int) < (s60.length : Int))) = true then
 ((modP k_61 (s60.length : Int)).bind fun v74 => atI s60 v74).bind fun base_75 =>
 some base_75
else
 some base_65)).bind fun (s77 : Int) =>
 (lim (s60 ++ [((((s77 * 16807) + (31 * (s60.length : Int))) + (17 : Int)) % 1000003)])).bind fun found_78 =>
 some found_78
else
 some s60)) s58).bind fun (s92 : (List Int)) =>
 some (cut s92 none (some a_many))
theorem drawsP_ok {ns : List Int} {many : Nat} (hm : many ≤ 1000) : Rets (drawsP ⟨ns⟩ (many : Int)) fun ds => ds.length = many ∧ Drawn ds := by
  unfold drawsP
  refine .some ?_
  refine .bind (Q := fun s : List Int => s.length ≤ 3780 ∧ Drawn s) ?_ ?_
  · have hl : (cut (Scr.mk ns).l none (some (63 : Int))).length ≤ 63 := by
      show (cut ns none (some ((63 : Nat) : Int))).length ≤ 63
      rw [cut_take, List.length_take]
      omega
    refine (Rets.fold (N := 63) (fun k (s : List Int) => s.length ≤ 60 * k ∧ Drawn s) _ 0 _ (by omega) ⟨Nat.zero_le _, by simp [Drawn]⟩ ?_).mono fun s h => ?_
    · intro k s x hx hk hI
      refine .some ?_
      obtain ⟨h1, h2⟩ := hI
      refine .ite (fun _ => ?_) fun _ => ?_
      · refine .bind (Rets.range (fun j (t : List Int × Int) => t.1.length ≤ 60 * k + j ∧ Drawn t.1) (by decide) (by decide) ⟨by omega, h2⟩ ?_) fun t ht => .pure ⟨by have := ht.1; simp only [Int.reduceToNat] at this; omega, ht.2⟩
        intro j t hj ht
        have hj' : j < 60 := hj
        refine .ite (fun _ => ?_) fun _ => .pure ⟨by show t.1.length ≤ _; omega, ht.2⟩
        rw [lim_of (by rw [List.length_append, List.length_singleton]; omega)]
        exact .pure ⟨by rw [List.length_append, List.length_singleton]; omega, ht.2.snoc (by omega) (by omega)⟩
      · refine .some ?_
        refine .bind (Rets.range (fun j (t : List Int × Int) => t.1.length ≤ 60 * k + j ∧ Drawn t.1) (by decide) (by decide) ⟨by omega, h2⟩ ?_) fun t ht => .pure ⟨by have := ht.1; simp only [Int.reduceToNat] at this; omega, ht.2⟩
        intro j t hj ht
        have hj' : j < 4 := hj
        refine .some ?_
        rw [lim_of (by rw [List.length_append, List.length_singleton]; omega)]
        exact .pure ⟨by rw [List.length_append, List.length_singleton]; omega, ht.2.snoc (by omega) (by omega)⟩
    · obtain ⟨h1, h2⟩ := h
      exact ⟨by omega, h2⟩
  · intro s hs
    refine .bind (Rets.range (fun j (t : List Int) => t.length ≤ 3780 + j ∧ Drawn t ∧ (j ≤ t.length ∨ many ≤ t.length)) (by omega) (by omega) ⟨by omega, hs.2, by omega⟩ ?_) fun t ht => ?_
    · intro j t hj ⟨h1, h2, h3⟩
      refine .ite (fun h => ?_) fun h => .pure ⟨by omega, h2, ?_⟩
      · refine .some ?_
        refine .bind (Q := fun _ => True) ?_ fun b _ => ?_
        · refine .ite (fun h4 => ?_) fun _ => .pure trivial
          have h4' := of_decide_eq_true h4
          rw [modP_def, if_pos h4']
          rw [show (some ((j : Int) % (t.length : Int))).bind (fun v74 => atI t v74) = atI t ((j : Int) % (t.length : Int)) from rfl]
          rw [atI_int (Int.emod_nonneg _ (by omega)) (Int.emod_lt_of_pos _ h4')]
          exact .pure trivial
        · rw [lim_of (by rw [List.length_append, List.length_singleton]; omega)]
          refine .pure ⟨by rw [List.length_append, List.length_singleton]; omega, h2.snoc (by omega) (by omega), ?_⟩
          rw [List.length_append, List.length_singleton]
          have := of_decide_eq_true h
          omega
      · have : ¬ (t.length : Int) < many := fun q => h (decide_eq_true q)
        omega
    · obtain ⟨h1, h2, h3⟩ := ht
      rw [cut_take]
      refine .pure ⟨by rw [List.length_take]; omega, fun x hx => h2 x (List.mem_of_mem_take hx)⟩
/-! ### == of data, of the types at hand -/
class EqR (α : Type) [Rp α] [DecidableEq α] where
  dep : Nat
  lay : ∀ x : α, PyData.canLay0 (toPy (rp x)) = true ∧ PyData.depth (toPy (rp x)) ≤ dep
  eq : ∀ x y : α, PyData.eqv (toPy (rp x)) (toPy (rp y)) = decide (x = y)
section
variable {α β γ δ : Type} [Rp α] [Rp β] [Rp γ] [Rp δ] [DecidableEq α] [DecidableEq β] [DecidableEq γ] [DecidableEq δ]
instance : EqR Int := ⟨0, fun x => ⟨by simp [rp, Rp.rp, toPy, PyData.canLay0], by simp [rp, Rp.rp, toPy, PyData.depth]⟩, fun x y => by simp only [rp, Rp.rp, toPy, PyData.eqv]; rfl⟩
instance : EqR Bool := ⟨0, fun x => ⟨by simp [rp, Rp.rp, toPy, PyData.canLay0], by simp [rp, Rp.rp, toPy, PyData.depth]⟩, fun x y => by simp only [rp, Rp.rp, toPy, PyData.eqv]; cases x <;> cases y <;> rfl⟩
theorem toPyL_map : ∀ l : List Dt, toPyL l = l.map toPy
  | [] => by simp only [toPyL, List.map_nil]
  | d :: l => by simp only [toPyL, List.map_cons, toPyL_map l]
theorem layAll [EqR α] : ∀ l : List α, PyData.canLayAll0 (toPyL (l.map rp)) = true ∧ PyData.depthAll (toPyL (l.map rp)) ≤ EqR.dep α
  | [] => by simp [toPyL, PyData.canLayAll0, PyData.depthAll]
  | x :: l => by
    obtain ⟨h1, h2⟩ := EqR.lay x
    obtain ⟨h3, h4⟩ := layAll l
    simp only [List.map_cons, toPyL, PyData.canLayAll0, PyData.depthAll]
    exact ⟨by rw [h1, h3]; rfl, by omega⟩
theorem eqAll [EqR α] : ∀ l r : List α, PyData.eqvAll (toPyL (l.map rp)) (toPyL (r.map rp)) = decide (l = r)
  | [], [] => by simp [toPyL, PyData.eqvAll]
  | [], _ :: _ => by simp [toPyL, PyData.eqvAll]
  | _ :: _, [] => by simp [toPyL, PyData.eqvAll]
  | x :: l, y :: r => by
    simp only [List.map_cons, toPyL, PyData.eqvAll]
    rw [EqR.eq x y, eqAll l r]
    by_cases h1 : x = y <;> by_cases h2 : l = r <;> simp [h1, h2]
instance [EqR α] : EqR (List α) := ⟨EqR.dep α + 1, fun l => by
  obtain ⟨h3, h4⟩ := layAll l
  simp only [rp, Rp.rp, toPy, PyData.canLay0, PyData.depth]
  exact ⟨h3, by omega⟩, fun l r => by
  simp only [rp, Rp.rp, toPy, PyData.eqv]
  exact eqAll l r⟩
instance [EqR α] [EqR β] : EqR (α × β) := ⟨max (EqR.dep α) (EqR.dep β) + 1, fun l => by
  obtain ⟨h1, h2⟩ := EqR.lay l.1
  obtain ⟨h3, h4⟩ := EqR.lay l.2
  simp only [rp, Rp.rp, toPy, toPyL, PyData.canLay0, PyData.canLayAll0, PyData.depth, PyData.depthAll] at *
  exact ⟨by simp [h1, h3], by omega⟩, fun l r => by
  have h1 := EqR.eq l.1 r.1
  have h2 := EqR.eq l.2 r.2
  simp only [rp, Rp.rp, toPy, toPyL, PyData.eqv, PyData.eqvAll] at *
  rw [h1, h2]
  by_cases h1 : l.1 = r.1 <;> by_cases h2 : l.2 = r.2 <;> simp [h1, h2, Prod.ext_iff]⟩
theorem eqD_of [EqR α] {x y : α} (h : EqR.dep α ≤ 64) : eqD (rp x) (rp y) = some (decide (x = y)) := by
  unfold eqD SeqAt.shaped
  obtain ⟨h1, h2⟩ := EqR.lay x
  obtain ⟨h3, h4⟩ := EqR.lay y
  rw [if_pos, EqR.eq]
  rw [h1, h3, decide_eq_true (Nat.le_trans h2 h), decide_eq_true (Nat.le_trans h4 h)]
  exact ⟨rfl, rfl⟩
theorem eqD_int {x y : Int} : eqD (rp x) (rp y) = some (decide (x = y)) := eqD_of (by decide)
theorem eqD_ints {x y : List Int} : eqD (rp x) (rp y) = some (decide (x = y)) := eqD_of (by decide)
theorem eqD_intss {x y : List (List Int)} : eqD (rp x) (rp y) = some (decide (x = y)) := eqD_of (by decide)
end
/-! ### steps of a mirror, that simp takes as steps and not as unfoldings -/
theorem bind_s {α β : Type} {x : α} {f : α → Option β} : (some x).bind f = f x := by rw [Option.bind_some]
theorem map_s {α β : Type} {x : α} {f : α → β} : (some x).map f = some (f x) := by rw [Option.map_some]
theorem not_t : (!true) = false := by rw [Bool.not_true]
theorem not_f : (!false) = true := by rw [Bool.not_false]
theorem ret_nx {S T R : Type} {s : S} {f : S → Option R} : Fl.ret (T := T) (some (.nx s)) f = f s := by
  unfold Fl.ret
  rw [bind_s]
theorem ret_rt {S T R : Type} {r : R} {f : S → Option R} : Fl.ret (T := T) (some (.rt r)) f = some r := by
  unfold Fl.ret
  rw [bind_s]
theorem if_ft {α : Type} {a b : α} : (if false = true then a else b) = b := if_neg Bool.false_ne_true
theorem if_tt {α : Type} {a b : α} : (if true = true then a else b) = a := if_pos rfl
theorem draw_at {ds : List Int} {n : Nat} (h : ds.length = n ∧ Drawn ds) (j : Int) (h0 : 0 ≤ j) (h1 : j < n) : ∃ x, atI ds j = some x ∧ 0 ≤ x ∧ x < 1000003 :=
  ⟨_, atI_int h0 (by rw [h.1]; exact h1), h.2 _ (List.getElem_mem _)⟩
end L2.DL

namespace L2.DL
open PySem PySem.Spec PyProof.Rows
section
variable {K : PySem.W.Frag} {ta tb : TE} {ρ : En} {m m1 m2 : Md}
variable {α β γ : Type} [Rp α] [Rp β] [Rp γ]
/-! ### an option that is there -/
theorem EvE.un {r : Option (Option α)} (h : EvE K ta ρ m r) : EvE K ta ρ m (r.bind fun x => x) := fun Ht C0 C H σ I x e Q q => by
  obtain ⟨y, ey, e⟩ := some_bind e
  subst e
  exact h Ht C0 C H σ I _ ey Q fun v C' H' z rv => q v C' H' z rv
/-! ### sorted -/
def sortI (xs : List Int) : List Int := xs.mergeSort fun a b => decide (a ≤ b)
theorem sortI_perm (xs : List Int) : (sortI xs).Perm xs := List.mergeSort_perm _ _
theorem sortI_pw (xs : List Int) : (sortI xs).Pairwise (· ≤ ·) := by
  have := List.pairwise_mergeSort (le := fun a b : Int => decide (a ≤ b)) (fun a b c h1 h2 => by simp only [decide_eq_true_eq] at *; omega) (fun a b => by simp only [Bool.or_eq_true, decide_eq_true_eq]; omega) xs
  exact this.imp fun h => of_decide_eq_true h
theorem sortI_uniq {xs ys : List Int} (h1 : ys.Perm xs) (h2 : ys.Pairwise (· ≤ ·)) : ys = sortI xs :=
  (h1.trans (sortI_perm xs).symm).eq_of_pairwise (le := (· ≤ ·)) (fun a b _ _ h h' => by omega) h2 (sortI_pw xs)
theorem ev_sortI {ra : Option (List Int)} (ha : EvB K ta ρ m1 ra) : EvL K (tCB (rSortedI K) (tCons ta tNil)) ρ .new (ra.bind fun x => some (sortI x)) := fun Ht C0 C H σ I z e Q q => by
  obtain ⟨x, ex, e⟩ := some_bind e
  cases e
  refine ha Ht C0 C H σ I x ex _ fun a vs C1 H1 x1 h1 r1 => ?_
  rw [r1.ints_eq] at h1
  refine ⟨a, x, rfl, .of h1, fun ns' p hp hw hn => ?_⟩
  rw [sortI_uniq hp hw]
  exact new_list x1 hn (RepL.ints _) q
end
/-! ### comprehensions with two sources -/
def comp2 {α β γ : Type} (p : α → Option Bool) (r : α → Option (List γ)) (q : α → γ → Option Bool) (f : α → γ → Option β) : List α → Option (List β)
  | [] => some []
  | x :: xs => (p x).bind fun b => if b = true then (r x).bind fun us => (compM (q x) (f x) us).bind fun ys => (comp2 p r q f xs).bind fun zs => some (ys ++ zs) else comp2 p r q f xs
inductive OwnSub : En → En → Prop
  | nil : OwnSub [] []
  | un {a b : En} {s : Slot} : OwnSub a b → OwnSub (.un :: a) (s :: b)
  | dat {a b : En} {s : Slot} {m : Md} {d : Dt} : OwnSub a b → OwnSub (.dat m d :: a) (s :: b)
  | own {a b : En} {m : Md} {l : List Dt} : OwnSub a b → OwnSub (.own m l :: a) (.own m l :: b)
theorem OwnSub.at {a b : En} (h : OwnSub a b) : ∀ {i : Nat} {m : Md} {l : List Dt}, a[i]? = some (.own m l) → b[i]? = some (.own m l) := by
  induction h with
  | nil => intro i m l e; exact e
  | un h ih =>
    intro i m l e
    cases i with
    | zero => simp at e
    | succ i => simpa using ih (by simpa using e)
  | dat h ih =>
    intro i m l e
    cases i with
    | zero => simp at e
    | succ i => simpa using ih (by simpa using e)
  | own h ih =>
    intro i m l e
    cases i with
    | zero => simpa using e
    | succ i => simpa using ih (by simpa using e)
def era (D : Addr) (H : Hp) : Hp := fun a => if a = D then none else H a
theorem era_ne {D a : Addr} {H : Hp} (h : a ≠ D) : era D H a = H a := if_neg h
theorem era_le {D : Addr} {H : Hp} : Same (era D H) H := fun a o e => by
  by_cases h : a = D
  · rw [era, if_pos h] at e; cases e
  · rw [era_ne h] at e; exact e
theorem era_upd {D : Addr} {H : Hp} {o : HO} : era D (upd H D o) = era D H := by
  funext a
  by_cases h : a = D
  · simp only [era, if_pos h]
  · rw [era_ne h, era_ne h, upd_ne h]
theorem Ext.era {C H C' H' : Hp} {D : Addr} (x : Ext C H C' H') (h : H D ≠ none) (c : C D = none) : Ext C (DL.era D H) C' (DL.era D H') := by
  have c' := x.f D h c
  refine ⟨x.c, fun a o e => ?_, fun a o e => ?_, fun a e n => ?_⟩
  · by_cases hd : a = D
    · rw [DL.era, if_pos hd] at e; cases e
    · rw [era_ne hd] at e ⊢
      exact x.h _ _ e
  · have hd : a ≠ D := fun z => by rw [z, c'] at e; cases e
    rw [era_ne hd]
    exact x.s _ _ e
  · have hd : a ≠ D := fun z => e (by rw [z]; exact if_pos rfl)
    rw [era_ne hd] at e
    exact x.f a e n
theorem EnvI.back {K : PySem.W.Frag} {Ht C0 C H : Hp} {σ : St} {ρ : En} {D : Addr} (I : EnvI K Ht C0 C (era D H) σ ρ) : EnvI K Ht C0 C H σ ρ :=
  ⟨⟨I.ext.c, I.ext.h.trans era_le, I.ext.s.trans era_le, I.ext.f⟩, I.len, fun i s e => by
    have := I.ok i s e
    cases s with
    | un => exact this
    | dat m d => exact this
    | own m l =>
      obtain ⟨a, vs, h1, h2, h3, h4, h5⟩ := this
      exact ⟨a, vs, h1, h2, h3, era_le _ _ h4, h5⟩, I.sep⟩
theorem EnvI.era {K : PySem.W.Frag} {Ht C0 C H : Hp} {σ : St} {ρ : En} {D : Addr} (I : EnvI K Ht C0 C H σ ρ) (ht : Ht D = none) (hc : C D = none) (ho : ∀ (i : Nat) m l, ρ[i]? = some (.own m l) → σ[i]? ≠ some (some (.ref D))) : EnvI K Ht C0 C (DL.era D H) σ ρ :=
  ⟨⟨I.ext.c, fun a o e => by
      rw [era_ne (fun z => by rw [z, ht] at e; cases e)]
      exact I.ext.h _ _ e, fun a o e => by
      rw [era_ne (fun z => by rw [z, hc] at e; cases e)]
      exact I.ext.s _ _ e, I.ext.f⟩, I.len, fun i s e => by
    have := I.ok i s e
    cases s with
    | un => exact this
    | dat m d => exact this
    | own m l =>
      obtain ⟨a, vs, h1, h2, h3, h4, h5⟩ := this
      refine ⟨a, vs, h1, h2, h3, ?_, h5⟩
      rw [era_ne (fun z => ho i m l e (by rw [h1, z]))]
      exact h4, I.sep⟩
section
variable {K : PySem.W.Frag} {te : TE} {ρ : En} {m mi mj : Md} {w w1 : TI} {g g1 : TG} {tt tt1 : TT}
variable {α β γ : Type} [Rp α] [Rp β] [Rp γ]
theorem ev_lc2 {vs vs1 : List Nat} {rx : Option (List α)} {p : α → Option Bool} {r : α → Option (List γ)} {q : α → γ → Option Bool} {f : α → γ → Option β} {Eb : α → En} {Ec : α → γ → En}
    (hi : EvI K w ρ mi rx) (hg : ∀ x, EvG K g mi (rp x) (wipeE ρ vs) (Eb x) vs) (ho : ∀ x, OwnSub (Eb x) (wipeE ρ vs)) (ht : ∀ x, EvT K tt (Eb x) (p x))
    (hi1 : ∀ x, EvI K w1 (Eb x) mj (r x)) (hg1 : ∀ x u, EvG K g1 mj (rp u) (wipeE (Eb x) vs1) (Ec x u) vs1) (ht1 : ∀ x u, EvT K tt1 (Ec x u) (q x u)) (he : ∀ x u, EvE K te (Ec x u) m (f x u)) :
    EvL K (tLc2 w g tt w1 g1 tt1 te vs vs1) ρ m (rx.bind fun xs => (comp2 p r q f xs).bind lim) := fun Ht C0 C H σ I z e Q qq => by
  obtain ⟨xs, ex, e⟩ := some_bind e
  obtain ⟨all, ea, e⟩ := some_bind e
  obtain ⟨hz, rfl⟩ := of_lim e
  refine hi Ht C0 C H σ I xs ex _ fun J C1 H1 x1 ok => fun D hD => ?_
  refine ⟨fun i n Hc => n = xs.length - i ∧ i ≤ xs.length ∧ ∃ Cc ys acc rest, Ext C1 H1 Cc Hc ∧ Cc D = none ∧ Hc D = some (.lst acc) ∧ RepL K (part m Ht Cc) (rps ys) acc ∧ comp2 p r q f (xs.drop i) = some rest ∧ ys ++ rest = z,
    ⟨xs.length, rfl, Nat.zero_le _, C1, [], [], z, ⟨.refl _, same_upd hD, x1.s.trans (same_upd hD), fun a _ h => h⟩, free_of x1.s hD, upd_same, .nil, ea, rfl⟩, ?_⟩
  rintro i n Hc ⟨rfl, hi', Cc, ys, acc, rest, xc, cD, hDc, ra, er, eq⟩
  by_cases hlt : i < xs.length
  · have ed : (rps xs)[i]? = some (rp xs[i]) := by rw [rps, List.getElem?_map, List.getElem?_eq_getElem hlt]; rfl
    obtain ⟨go, yl⟩ := ok.go i Cc Hc _ ed xc.c xc.s (I.ext.h.trans (x1.h.trans xc.h))
    refine .inr ⟨go, fun H' => ∃ Cc ys acc rest, Ext C1 H1 Cc H' ∧ Cc D = none ∧ H' D = some (.lst acc) ∧ RepL K (part m Ht Cc) (rps ys) acc ∧ comp2 p r q f (xs.drop (i + 1)) = some rest ∧ ys ++ rest = z,
      fun H' h => ⟨xs.length - (i + 1), by omega, rfl, hlt, h⟩, fun x H' hy => ?_⟩
    obtain ⟨C2, x2, r2⟩ := yl x H' hy
    have dn : Hc D ≠ none := by rw [hDc]; simp
    rw [List.drop_eq_getElem_cons hlt] at er
    obtain ⟨b, eb, er⟩ := some_bind er
    have I1 := I.to x1
    have I2 := (I1.to (xc.trans x2)).wipe vs
    refine hg xs[i] Ht C0 C2 H' (wipe σ vs) x I2 r2 _ fun σ3 I3 e3 l3 => ⟨wipe_eq e3 (l3.trans (wipe_length _ _)), ?_⟩
    refine ht xs[i] Ht C0 C2 H' σ3 I3 b eb _ fun C4 H4 x4 => ?_
    have xa := (xc.trans x2).trans x4
    have d2 : H' D ≠ none := Same.ne x2.h dn
    have d4 : H4 D ≠ none := Same.ne x4.h d2
    have c4 : C4 D = none := x4.f D d2 (x2.f D dn cD)
    cases b with
    | false =>
      rw [if_neg Bool.false_ne_true] at er
      exact iteF ⟨C4, ys, acc, rest, xa, c4, x4.h _ _ (x2.h _ _ hDc), ra.mono (part_mono (x2.c.trans x4.c)), er, eq⟩
    | true =>
      rw [if_pos rfl] at er
      obtain ⟨us, eu, er⟩ := some_bind er
      obtain ⟨in1, e1, er⟩ := some_bind er
      obtain ⟨rest', er', er⟩ := some_bind er
      cases er
      have hown : ∀ (k : Nat) mo l, (Eb xs[i])[k]? = some (.own mo l) → σ3[k]? ≠ some (some (.ref D)) := fun k mo l ek => by
        have e5 := (ho xs[i]).at ek
        rcases wipeE_at e5 with z | ⟨n1, n2⟩
        · cases z
        · rw [e3 k n1, wipe_out n1]
          obtain ⟨a, vs', h1, h2, h3, h4, h5⟩ := I1.ok k _ n2
          intro z
          rw [h1] at z
          cases z
          rw [hD] at h4
          cases h4
      refine iteT (hi1 xs[i] Ht C0 C4 H4 σ3 (I3.to x4) us eu _ fun J1 C5 H5 x5 ok1 => ?_)
      have xb := xa.trans x5
      have d5 : H5 D ≠ none := Same.ne x5.h d4
      have c5 : C5 D = none := x5.f D d4 c4
      have tD : Ht D = none := free_of (I.ext.h.trans x1.h) hD
      have IE : EnvI K Ht C0 C5 (era D H5) σ3 (Eb xs[i]) := ((I3.to x4).to x5).era tD c5 hown
      refine ⟨fun j k Hd => k = us.length - j ∧ j ≤ us.length ∧ ∃ Cd ys acc r1, Ext C5 (era D H5) Cd (era D Hd) ∧ Cd D = none ∧ Hd D = some (.lst acc) ∧ RepL K (part m Ht Cd) (rps ys) acc ∧ compM (q xs[i]) (f xs[i]) (us.drop j) = some r1 ∧ ys ++ (r1 ++ rest') = z,
        ⟨us.length, rfl, Nat.zero_le _, C5, ys, acc, in1, .refl IE.ext.s, c5, x5.h _ _ (x4.h _ _ (x2.h _ _ hDc)), ra.mono (part_mono ((x2.c.trans x4.c).trans x5.c)), e1, eq⟩, ?_⟩
      rintro j k Hd ⟨rfl, hj', Cd, zs, acd, r1, xd, dD, hDd, rd, ed1, eqd⟩
      have ddn : Hd D ≠ none := by rw [hDd]; simp
      have sd : Same Cd Hd := xd.s.trans era_le
      have tH : Same Ht Hd := (IE.ext.h.trans xd.h).trans era_le
      by_cases hltj : j < us.length
      · have edj : (rps us)[j]? = some (rp us[j]) := by rw [rps, List.getElem?_map, List.getElem?_eq_getElem hltj]; rfl
        obtain ⟨go1, yl1⟩ := ok1.go j Cd Hd _ edj xd.c sd tH
        refine .inr ⟨go1, fun H' => ∃ Cd ys acc r1, Ext C5 (era D H5) Cd (era D H') ∧ Cd D = none ∧ H' D = some (.lst acc) ∧ RepL K (part m Ht Cd) (rps ys) acc ∧ compM (q xs[i]) (f xs[i]) (us.drop (j + 1)) = some r1 ∧ ys ++ (r1 ++ rest') = z,
          fun H' h => ⟨us.length - (j + 1), by omega, rfl, hltj, h⟩, fun y H6 hy6 => ?_⟩
        obtain ⟨C6, x6, r6⟩ := yl1 y H6 hy6
        rw [List.drop_eq_getElem_cons hltj] at ed1
        obtain ⟨b1, eb1, ed1⟩ := some_bind ed1
        have d6 : H6 D ≠ none := Same.ne x6.h ddn
        have c6 : C6 D = none := x6.f D ddn dD
        have I6 : EnvI K Ht C0 C6 H6 σ3 (Eb xs[i]) := ((IE.to xd).back).to x6
        refine hg1 xs[i] us[j] Ht C0 C6 H6 (wipe σ3 vs1) y (I6.wipe vs1) r6 _ fun σ7 I7 e7 l7 => ⟨wipe_eq e7 (l7.trans (wipe_length _ _)), ?_⟩
        refine ht1 xs[i] us[j] Ht C0 C6 H6 σ7 I7 b1 eb1 _ fun C8 H8 x8 => ?_
        have d8 : H8 D ≠ none := Same.ne x8.h d6
        have c8 : C8 D = none := x8.f D d6 c6
        have xe := (x6.trans x8)
        cases b1 with
        | false =>
          rw [if_neg Bool.false_ne_true] at ed1
          exact iteF ⟨C8, zs, acd, r1, xd.trans (xe.era ddn dD), c8, xe.h _ _ hDd, rd.mono (part_mono xe.c), ed1, eqd⟩
        | true =>
          rw [if_pos rfl] at ed1
          obtain ⟨v, ev, ed1⟩ := some_bind ed1
          obtain ⟨r1', er1, ed1⟩ := some_bind ed1
          cases ed1
          refine iteT (he xs[i] us[j] Ht C0 C8 H8 σ7 (I7.to x8) v ev _ fun u C9 H9 x9 r9 => ?_)
          have xf := xe.trans x9
          have hl : acd.length < sizeLine := by
            rw [rd.length, List.length_map]
            have hzz := hz
            rw [← eqd, List.length_append, List.length_append, List.length_cons] at hzz
            omega
          refine ⟨acd, xf.h _ _ hDd, hl, C9, zs ++ [v], acd ++ [u], r1', ?_, x9.f D d8 c8, upd_same, ?_, er1, by rw [← eqd, List.append_assoc]; rfl⟩
          · rw [era_upd]
            exact xd.trans (xf.era ddn dD)
          · rw [rps, List.map_append]
            exact (rd.mono (part_mono xf.c)).append (.cons r9 .nil)
      · have hje : j = us.length := by omega
        subst hje
        rw [List.drop_length] at ed1
        cases ed1
        have st := ok1.stop Cd Hd xd.c sd
        rw [List.length_map] at st
        refine .inl ⟨st, Cd, zs, acd, rest', ⟨xb.c.trans xd.c, fun a o ha => ?_, sd, fun a n1 n2 => ?_⟩, dD, hDd, rd, er', eqd⟩
        · have hne := ne_of_none ha hD
          refine era_le _ _ (xd.h a o ?_)
          rw [era_ne hne]
          exact xb.h _ _ ha
        · have hne : a ≠ D := fun z => n1 (by rw [z]; exact hD)
          refine xd.f a ?_ (xb.f a n1 n2)
          rw [era_ne hne]
          exact Same.ne xb.h n1
  · have hie : i = xs.length := by omega
    subst hie
    rw [List.drop_length] at er
    cases er
    rw [List.append_nil] at eq
    subst eq
    have st := ok.stop Cc Hc xc.c xc.s
    rw [List.length_map] at st
    refine .inl ⟨st, qq D acc Cc Hc (x1.trans xc) (free_of x1.h hD) cD hDc ra⟩
/-- no tests -/
theorem compM_yes {α β : Type} {f : α → Option β} (xs : List α) : compM (fun _ => some true) f xs = mapO f xs := compM_mapO xs
end
/-! ### rules whose relation names the fragment, for the insides of comprehensions -/
section
variable {X : Cx} (K : PySem.W.Frag)
theorem op_eqDK (hu : X.A.units + 64 < cLine) (hK : X.K = K := by rfl) : OpR X (compareOp .Eq) (rEqD K) := hK ▸ op_eqD hu
theorem op_neDK (hu : X.A.units + 64 < cLine) (hK : X.K = K := by rfl) : OpR X (compareOp .NotEq) (rNeD K) := hK ▸ op_neD hu
theorem op_in_seqK (hK : X.K = K := by rfl) : OpR X (compareOp .In) (rIn K false) := hK ▸ op_in_seq
theorem op_notIn_seqK (hK : X.K = K := by rfl) : OpR X (compareOp .NotIn) (rIn K true) := hK ▸ op_notIn_seq
theorem op_catTK (hK : X.K = K := by rfl) : OpR X (binaryOp .Add) (rCatT K) := hK ▸ op_catT
theorem sl_listK (hK : X.K = K := by rfl) : SlR X (rSlL K) := hK ▸ sl_list
theorem ix_listK (hK : X.K = K := by rfl) : IxR X (rIxL K) := hK ▸ ix_list
theorem ix_tupK (hK : X.K = K := by rfl) : IxR X (rIxT K) := hK ▸ ix_tup
theorem call_len_seqK (hK : X.K = K := by rfl) : CallR X (.builtin "len") (fun xs H Q => ∃ p ys, xs = [.ref p] ∧ (SqL K H p ys ∨ SqT K H p ys) ∧ Q (.int ys.length) H) := hK ▸ call_len_seq
theorem call_list_ofK (hK : X.K = K := by rfl) : CallR X (.type "list") (rListOf K) := hK ▸ call_list_of
theorem call_tuple_ofK (hK : X.K = K := by rfl) : CallR X (.type "tuple") (rTupOf K) := hK ▸ call_tuple_of
theorem cr_sumK (hc : X.calm = true) (hK : X.K = K := by rfl) : CallR X (.builtin "sum") (rSum K) := hK ▸ cr_sum hc
theorem cr_minK' (hc : X.calm = true) (hK : X.K = K := by rfl) : CallR X (.builtin "min") (rMin K) := hK ▸ cr_min hc
theorem cr_maxK' (hc : X.calm = true) (hK : X.K = K := by rfl) : CallR X (.builtin "max") (rMax K) := hK ▸ cr_max hc
theorem call_isiK (hK : X.K = K := by rfl) : CallR X (.builtin "isinstance") (rIsi K) := hK ▸ call_isi
theorem cr_sortedIK (hK : X.K = K := by rfl) : CallR X (.builtin "sorted") (rSortedI K) := hK ▸ cr_sortedI
theorem pi_listK {tg l : Expr} {tl : TE} (hl : PE X l tl) (hK : X.K = K := by rfl) : PI X tg l (iList K tl) := hK ▸ pi_list hl
theorem pi_tupK {tg l : Expr} {tl : TE} (hl : PE X l tl) (hK : X.K = K := by rfl) : PI X tg l (iTup K tl) := hK ▸ pi_tup hl
end
end L2.DL

namespace L2.DL
open PySem PySem.Spec PyProof.Rows
/-! ## plain laws: loops -/
section
variable {α β S T R : Type}
theorem forL_nx {f : S → α → Option (Fl S S R)} {s : S} : ∀ {l : List α}, (∀ x ∈ l, f s x = some (.nx s)) → forL (T := T) f l s = some (.nx s)
  | [], _ => rfl
  | x :: l, h => by
    simp only [forL, h x List.mem_cons_self, bind_s]
    exact forL_nx fun y hy => h y (List.mem_cons_of_mem _ hy)
/-- a loop that asks, and leaves at the first yes -/
theorem ask_loop {f : α → Option Bool} {g : α → Bool} {r : R} : ∀ {l : List α}, (∀ x ∈ l, f x = some (g x)) →
    forL (T := T) (R := R) (fun (s : Unit) x => (f x).bind fun b => (if b = true then some (.rt r) else some (.nx ()))) l () = if l.any g then some (.rt r) else some (.nx ())
  | [], _ => rfl
  | x :: l, h => by
    rw [List.any_cons]
    simp only [forL, h x List.mem_cons_self, bind_s]
    cases e : g x with
    | true =>
      simp only [if_true, Bool.true_or]
      rw [bind_s]
    | false =>
      simp only [Bool.false_eq_true, if_false, Bool.false_or]
      rw [bind_s]
      exact ask_loop fun y hy => h y (List.mem_cons_of_mem _ hy)
theorem ask_loop' {F : Unit → α → Option (Fl Unit Unit R)} {g : α → Bool} {r : R} : ∀ {l : List α}, (∀ x ∈ l, F () x = if g x = true then some (.rt r) else some (.nx ())) →
    forL (T := T) (R := R) F l () = if l.any g = true then some (.rt r) else some (.nx ())
  | [], _ => rfl
  | x :: l, h => by
    rw [List.any_cons]
    simp only [forL, h x List.mem_cons_self]
    cases e : g x with
    | true =>
      simp only [if_true, Bool.true_or]
      rw [bind_s]
    | false =>
      simp only [Bool.false_eq_true, if_false, Bool.false_or]
      rw [bind_s]
      exact ask_loop' fun y hy => h y (List.mem_cons_of_mem _ hy)
theorem forL_range {f : S → Int → Option (Fl S S R)} (I : Nat → S → Prop) : ∀ (n k : Nat) {s : S}, I k s → (∀ j s, k ≤ j → j < k + n → I j s → ∃ s', f s (j : Int) = some (.nx s') ∧ I (j + 1) s') → ∃ s', forL (T := T) f ((List.range' k n).map fun k : Nat => (k : Int)) s = some (.nx s') ∧ I (k + n) s'
  | 0, k, s, h, _ => ⟨s, rfl, h⟩
  | n + 1, k, s, h, st => by
    obtain ⟨s1, e1, h1⟩ := st k s (Nat.le_refl _) (by omega) h
    obtain ⟨s2, e2, h2⟩ := forL_range I n (k + 1) h1 fun j s a b => st j s (by omega) (by omega)
    refine ⟨s2, ?_, by rwa [show k + (n + 1) = k + 1 + n by omega]⟩
    rw [List.range'_succ, List.map_cons]
    simp only [forL]
    rw [e1, bind_s]
    exact e2
theorem mapO_some {f : α → Option β} {g : α → β} : ∀ {l : List α}, (∀ x ∈ l, f x = some (g x)) → mapO f l = some (l.map g)
  | [], _ => rfl
  | x :: l, h => by
    simp only [mapO, h x List.mem_cons_self, mapO_some fun y hy => h y (List.mem_cons_of_mem _ hy), bind_s, List.map_cons]
theorem compM_some {p : α → Option Bool} {q : α → Bool} {f : α → Option β} {g : α → β} : ∀ {l : List α}, (∀ x ∈ l, p x = some (q x)) → (∀ x ∈ l, f x = some (g x)) → compM p f l = some ((l.filter q).map g)
  | [], _, _ => rfl
  | x :: l, h, h' => by
    simp only [compM, h x List.mem_cons_self, h' x List.mem_cons_self, compM_some (fun y hy => h y (List.mem_cons_of_mem _ hy)) (fun y hy => h' y (List.mem_cons_of_mem _ hy)), bind_s, List.filter_cons]
    cases q x <;> simp only [if_true, Bool.false_eq_true, if_false, List.map_cons]
/-- a loop that appends -/
theorem append_loop {g : α → Option β} {h : α → β} : ∀ {l : List α} {s : List β}, s.length + l.length ≤ 16777216 → (∀ x ∈ l, g x = some (h x)) →
    l.foldlM (fun (s : List β) x => ((g x).bind fun v => lim (s ++ [v])).bind fun y => some y) s = some (s ++ l.map h)
  | [], s, _, _ => by rw [List.map_nil, List.append_nil]; rfl
  | x :: l, s, hz, hg => by
    rw [List.length_cons] at hz
    rw [foldlM_cons', hg x List.mem_cons_self, bind_s, lim_of (by rw [List.length_append, List.length_singleton]; omega), bind_s, bind_s, append_loop (by rw [List.length_append, List.length_singleton]; omega) fun y hy => hg y (List.mem_cons_of_mem _ hy), List.append_assoc]
    rfl
theorem range'_map0 (n : Nat) : ((List.range n).map fun k : Nat => (k : Int)) = (List.range' 0 n).map fun k : Nat => (k : Int) := by rw [List.range_eq_range']
end
theorem mulP_of {x y : Int} (hx : x.natAbs ≤ 2 ^ 64) (hy : y.natAbs ≤ 2 ^ 64) : mulP x y = some (x * y) := by
  have : 2 ^ 64 < 2 ^ 4096 := Nat.pow_lt_pow_right (by decide) (by decide)
  rw [mulP_def, if_pos ⟨by omega, by omega⟩]
theorem divP_of {x y : Int} (hy : 0 < y) (hy2 : y ≤ 2 ^ 64) : divP x y = some (x / y) := by
  have : (2 : Int) ^ 64 < 2 ^ 4096 := by decide +kernel
  rw [divP_def, if_pos ⟨by omega, by omega⟩]
theorem modP_of {x y : Int} (hy : 0 < y) : modP x y = some (x % y) := by rw [modP_def, if_pos hy]
theorem minL_some {l : List Int} (h : l ≠ []) : ∃ y, minL l = some y ∧ y ∈ l ∧ ∀ z ∈ l, y ≤ z := by
  cases l with
  | nil => exact absurd rfl h
  | cons x xs => exact ⟨_, rfl, minL_spec rfl⟩
theorem maxL_some {l : List Int} (h : l ≠ []) : ∃ y, maxL l = some y ∧ y ∈ l ∧ ∀ z ∈ l, z ≤ y := by
  cases l with
  | nil => exact absurd rfl h
  | cons x xs => exact ⟨_, rfl, maxL_spec rfl⟩
def rot (k : Nat) (l : List Int) : List Int := l.drop k ++ l.take k
theorem rot_len {k : Nat} {l : List Int} : (rot k l).length = l.length := by
  unfold rot
  rw [List.length_append, List.length_drop, List.length_take]
  omega
theorem rot_sum {k : Nat} {l : List Int} : (rot k l).sum = l.sum := by
  unfold rot
  have h := List.take_append_drop k l
  have h2 : (l.take k).sum + (l.drop k).sum = l.sum := by rw [← List.sum_append, h]
  rw [List.sum_append]
  omega
theorem rot_mem {k : Nat} {l : List Int} {x : Int} : x ∈ rot k l → x ∈ l := fun h => by
  rcases List.mem_append.mp h with h | h
  · exact List.mem_of_mem_drop h
  · exact List.mem_of_mem_take h
theorem seq_nx {S S2 T R : Type} {s : S} {f : S → Option (Fl S2 T R)} : Fl.seq (some (.nx s)) f = f s := by
  unfold Fl.seq
  rw [bind_s]
theorem Rets.get {α : Type} {m : Option α} {v : α} (h : Rets m (· = v)) : m = Option.some v := by
  obtain ⟨x, e, rfl⟩ := h
  exact e
theorem cut_len {α : Type} {l : List α} {a b : Option Int} : (cut l a b).length ≤ l.length := by
  unfold cut
  rw [List.length_take, List.length_drop]
  omega
def nats (n : Nat) : List Int := (List.range n).map fun k : Nat => (k : Int)
theorem nats_len (n : Nat) : (nats n).length = n := by simp [nats]
theorem mem_nats {n : Nat} {x : Int} (h : x ∈ nats n) : 0 ≤ x ∧ x < n := by
  unfold nats at h
  obtain ⟨i, hi, rfl⟩ := List.mem_map.mp h
  have := List.mem_range.mp hi
  omega
theorem rangeP_nats {n : Nat} (h : n < 2 ^ 62) : rangeP 0 (n : Int) = some (nats n) := rangeP_nat h
theorem repP_ok {α : Type} {l : List α} {k : Int} (h0 : 0 ≤ k) (h1 : k < 2 ^ 63) (h2 : l.length * k.toNat ≤ 16777216) : ∃ r, repP l k = some r ∧ r.length = l.length * k.toNat ∧ ∀ x ∈ r, x ∈ l := by
  refine ⟨_, by rw [repP_def, if_pos ⟨by omega, h1, h2⟩], ?_, ?_⟩
  · rw [List.length_flatten, List.map_replicate, List.sum_replicate_nat, Nat.mul_comm]
  · intro x hx
    obtain ⟨m, h1, h2⟩ := List.mem_flatten.mp hx
    rwa [(List.mem_replicate.mp h1).2] at h2
theorem gcd_mod (a b : Int) : Int.gcd b (a % b) = Int.gcd a b := by
  refine Nat.dvd_antisymm ?_ ?_
  · have h1 := Int.gcd_dvd_left (a := b) (b := a % b)
    have h2 := Int.gcd_dvd_right (a := b) (b := a % b)
    refine Int.dvd_gcd ?_ h1
    have h3 := Int.dvd_add (Int.dvd_trans h1 (Int.dvd_mul_right _ (a / b))) h2
    rwa [Int.mul_ediv_add_emod a b] at h3
  · have h1 := Int.gcd_dvd_left (a := a) (b := b)
    have h2 := Int.gcd_dvd_right (a := a) (b := b)
    refine Int.dvd_gcd h2 ?_
    rw [Int.emod_def]
    exact Int.dvd_sub h1 (Int.dvd_trans h2 (Int.dvd_mul_right _ _))
theorem gcd_loop : ∀ {fuel : Nat} {a b : Int}, 0 ≤ a → 0 ≤ b → b < fuel → ∃ s : Int × Int, whileN (fun (s5 : (Int × Int)) => some (decide (s5.2 ≠ (0 : Int)))) (fun (s5 : (Int × Int)) =>
 (modP s5.1 s5.2).bind fun rest_10 =>
 (some s5.2).bind fun first_11 =>
 (some rest_10).bind fun second_12 =>
 some (first_11, second_12)) fuel (a, b) = some s ∧ s.1 = (Int.gcd a b : Nat)
  | 0, a, b, _, h, h1 => by omega
  | n + 1, a, b, ha, hb, h1 => by
    simp only [whileN, bind_s]
    by_cases h : b = 0
    · subst h
      rw [if_neg (by simp)]
      exact ⟨_, rfl, by simp; omega⟩
    · rw [if_pos (decide_eq_true h), modP_def, if_pos (by omega)]
      simp only [bind_s]
      obtain ⟨s, e, hs⟩ := gcd_loop (fuel := n) (a := b) (b := a % b) hb (Int.emod_nonneg _ h) (by have := Int.emod_lt_of_pos a (b := b) (by omega); omega)
      exact ⟨s, e, by rw [hs, gcd_mod]⟩
end L2.DL

namespace L2.DL.K81
open PySem PySem.Spec PyProof.Rows
/-! ### the text -/
def topS (i : Nat) : Stmt := PySem.Challenge.pw_daysround_k81_periods_of_words.main.body.getD i (.Pass ⟨0, 0, 0, 0⟩)
abbrev st_law_draws : Stmt := topS 4
abbrev st_law_gcd : Stmt := topS 8
abbrev st_law_cell : Stmt := topS 5
abbrev st_law_word : Stmt := topS 10
abbrev st_law_some_word : Stmt := topS 11
abbrev st_law_is_number : Stmt := topS 6
abbrev st_law_is_numbers : Stmt := topS 7
abbrev st_has_period : Stmt := topS 1
abbrev st_periods_of : Stmt := topS 2
abbrev st_law_told : Stmt := topS 12
abbrev st_law_with : Stmt := topS 9
abbrev st_law_with_periods : Stmt := topS 13
abbrev st_law : Stmt := topS 14
/-! ### the mirrors -/
def f_law_draws (a_script : Scr) (a_many : Int) : Option (List Int) :=
 (some ([] : (List Int))).bind fun found_1 =>
 ((cut a_script.l none (some (63 : Int))).foldlM (fun (s5 : (List Int)) (cell_6 : Int) =>
 (some (if cell_6 < 0 then -cell_6 else cell_6)).bind fun number_8 =>
 (if (decide ((1000000000000000000 : Int) ≤ number_8)) = true then
 ((rangeP 0 (60 : Int)).bind fun l23 => l23.foldlM (fun (s12 : ((List Int) × Int)) (k_13 : Int) =>
 (if (decide ((0 : Int) < s12.2)) = true then
 (lim (s12.1 ++ [(s12.2 % 1000003)])).bind fun found_16 =>
 (some (s12.2 / 1000003)).bind fun number_20 =>
 some (found_16, number_20)
else
 some (s12.1, s12.2))) (s5, number_8)).bind fun (s24 : ((List Int) × Int)) =>
 some s24.1
else
 (some ((((number_8 * 48271) + (7 * (s5.length : Int))) + (11 : Int)) % 2147483647)).bind fun mixed_33 =>
 ((rangeP 0 (4 : Int)).bind fun l53 => l53.foldlM (fun (s35 : ((List Int) × Int)) (k_36 : Int) =>
 (some (((((s35.2 * 69621) + (s35.2 / 65536)) + (13 * k_36)) + (5 : Int)) % 2147483629)).bind fun mixed_47 =>
 (lim (s35.1 ++ [((mixed_47 / 8) % 1000003)])).bind fun found_48 =>
 some (found_48, mixed_47)) (s5, mixed_33)).bind fun (s54 : ((List Int) × Int)) =>
 some s54.1)) found_1).bind fun (s58 : (List Int)) =>
 ((rangeP 0 a_many).bind fun l91 => l91.foldlM (fun (s60 : (List Int)) (k_61 : Int) =>
 (if (decide ((s60.length : Int) < a_many)) = true then
 (some (0 : Int)).bind fun base_65 =>
 ((if (decide ((0 : Int) < (s60.length : Int))) = true then
 ((modP k_61 (s60.length : Int)).bind fun v74 => atI s60 v74).bind fun base_75 =>
 some base_75
else
 some base_65)).bind fun (s77 : Int) =>
 (lim (s60 ++ [((((s77 * 16807) + (31 * (s60.length : Int))) + (17 : Int)) % 1000003)])).bind fun found_78 =>
 some found_78
else
 some s60)) s58).bind fun (s92 : (List Int)) =>
 some (cut s92 none (some a_many))
def f_law_gcd (a_first : Int) (a_second : Int) : Option Int :=
 (some (if a_first < 0 then -a_first else a_first)).bind fun first_2 =>
 (some (if a_second < 0 then -a_second else a_second)).bind fun second_4 =>
 (whileN (fun (s5 : (Int × Int)) => some (decide (s5.2 ≠ (0 : Int)))) (fun (s5 : (Int × Int)) =>
 (modP s5.1 s5.2).bind fun rest_10 =>
 (some s5.2).bind fun first_11 =>
 (some rest_10).bind fun second_12 =>
 some (first_11, second_12)) 1000000 (first_2, second_4)).bind fun (s14 : (Int × Int)) =>
 some s14.1
def f_law_cell (a_draws : (List Int)) (a_k : Int) : Option Int :=
 (if (decide (a_k < (a_draws.length : Int))) = true then
 atI a_draws a_k
else
 (((((modP a_k (a_draws.length : Int)).bind fun v11 => atI a_draws v11).bind fun v13 => some (v13 * 31)).bind fun v25 => (((modP (7 * a_k) (a_draws.length : Int)).bind fun v20 => atI a_draws v20).bind fun v22 => some (v22 * 17)).bind fun v26 => some (v25 + v26)).bind fun v30 => some (v30 + (101 * a_k))).bind fun v32 => some (v32 % 1000003))
def f_law_word (a_draws : (List Int)) (a_at : Int) (a_length : Int) (a_letters : Int) : Option (List Int) :=
 (rangeP 0 a_length).bind fun v13 => (mapO (fun x2 => ((f_law_cell a_draws (a_at + x2)).bind fun v8 => some (v8 / 3)).bind fun v11 => modP v11 a_letters) v13).bind lim
def f_law_some_word (a_draws : (List Int)) (a_at : Int) : Option (List Int) :=
 (((f_law_cell a_draws a_at).bind fun v20 => some (v20 % 8)).bind fun v23 => atI ([(1 : Int), (2 : Int), (2 : Int), (2 : Int), (3 : Int), (4 : Int), (1000000000 : Int), (2 : Int)] : (List Int)) v23).bind fun letters_24 =>
 ((((f_law_cell a_draws a_at).bind fun v28 => some (v28 / 8)).bind fun v30 => some (v30 % 12)).bind fun v33 => some ((1 : Int) + v33)).bind fun length_34 =>
 (((((f_law_cell a_draws a_at).bind fun v38 => some (v38 / 96)).bind fun v40 => some (v40 % 16)).bind fun v43 => some (decide (v43 = (5 : Int)))).bind fun b54 => (if b54 = true then
 ((((f_law_cell a_draws a_at).bind fun v47 => some (v47 / 1536)).bind fun v49 => some (v49 % 188)).bind fun v52 => some ((13 : Int) + v52)).bind fun length_53 =>
 some length_53
else
 some length_34)).bind fun (s55 : Int) =>
 (f_law_word a_draws (a_at + (2 : Int)) s55 letters_24).bind fun word_62 =>
 ((f_law_cell a_draws (a_at + (1 : Int))).bind fun v68 => some (v68 % 6)).bind fun times_69 =>
 ((if (decide ((2 : Int) < times_69)) = true then (mulP s55 (times_69 - (1 : Int))).bind fun v78 => some (decide (v78 ≤ (200 : Int))) else some false).bind fun b85 => (if b85 = true then
 (repP word_62 (times_69 - (1 : Int))).bind fun word_84 =>
 some word_84
else
 some word_62)).bind fun (s86 : (List Int)) =>
 some s86
def f_law_is_number (a_value : Int) : Option Bool :=
 some (true && (!false))
def f_law_is_numbers (a_value : (List Int)) : Option Bool :=
 (if (!true) = true then
 some false
else
 Fl.ret ((forL (T := Unit) (R := Bool) (fun (s2 : Unit) (item_3 : Int) =>
 ((f_law_is_number item_3).map fun b => !b).bind fun b4 => (if b4 = true then
 some (.rt false)
else
 some (.nx ()))) a_value ())) fun (s7 : Unit) =>
 some true)
def f_has_period (a_word : (List Int)) (a_period : Int) : Option Bool :=
 Fl.ret ((rangeP 0 ((a_word.length : Int) - a_period)).bind fun l19 => (forL (T := Unit) (R := Bool) (fun (s5 : Unit) (at_6 : Int) =>
 ((atI a_word at_6).bind fun v15 => (atI a_word (at_6 + a_period)).bind fun v16 => some (decide (v15 ≠ v16))).bind fun b17 => (if b17 = true then
 some (.rt false)
else
 some (.nx ()))) l19 ())) fun (s20 : Unit) =>
 some true
def f_periods_of (a_word : (List Int)) : Option (List Int) :=
 (rangeP (1 : Int) (a_word.length : Int)).bind fun v8 => (compM (fun x4 => f_has_period a_word x4) (fun x4 => some x4) v8).bind lim
def f_law_told (a_word : (List Int)) : Option (Option (List Int)) :=
 ((rangeP (1 : Int) (a_word.length : Int)).bind fun v17 => (compM (fun x4 => eqD (rp (cut a_word (some x4) none)) (rp (cut a_word none (some ((a_word.length : Int) - x4))))) (fun x4 => some x4) v17).bind lim).bind fun due_18 =>
 (some a_word).bind fun passed_19 =>
 (f_periods_of passed_19).bind fun told_20 =>
 (((eqD (rp passed_19) (rp a_word)).map fun b => !b).bind fun b26 => if b26 = true then some true else ((f_law_is_numbers told_20).map fun b => !b).bind fun b25 => if b25 = true then some true else (eqD (rp told_20) (rp due_18)).map fun b => !b).bind fun b33 => (if b33 = true then
 some (none : (Option (List Int)))
else
 (lim (told_20 ++ [(0 : Int)])).bind fun told_27 =>
 ((f_periods_of passed_19).bind fun v31 => (eqD (rp v31) (rp due_18)).map fun b => !b).bind fun b32 => (if b32 = true then
 some (none : (Option (List Int)))
else
 some (some due_18)))
def f_law_with (a_line : (List Int)) (a_at : Int) (a_item : Int) : Option (List Int) :=
 (lim ((cut a_line none (some a_at)) ++ ([a_item] : (List Int)))).bind fun v15 => lim (v15 ++ (cut a_line (some (a_at + (1 : Int))) none))
def f_law_with_periods (a_draws : (List Int)) (a_at : Int) : Option (List Int) :=
 (((f_law_cell a_draws a_at).bind fun v4 => some (v4 % 24)).bind fun v7 => some ((1 : Int) + v7)).bind fun length_8 =>
 ((((f_law_cell a_draws (a_at + (1 : Int))).bind fun v14 => some (v14 % 9)).bind fun v17 => some ((1 : Int) + v17)).bind fun v29 => (((f_law_cell a_draws (a_at + (2 : Int))).bind fun v23 => some (v23 % 9)).bind fun v26 => some ((1 : Int) + v26)).bind fun v30 => some (v29, v30)).bind fun p31 =>
 (some ([] : (List Int))).bind fun word_32 =>
 ((rangeP 0 length_8).bind fun l84 => l84.foldlM (fun (s34 : (List Int)) (k_35 : Int) =>
 (if (decide (p31.1 ≤ k_35)) = true then if (decide (k_35 < p31.2)) = true then some true else (atI s34 (k_35 - p31.1)).bind fun v50 => (atI s34 (k_35 - p31.2)).bind fun v51 => some (decide (v50 = v51)) else some false).bind fun b82 => (if b82 = true then
 ((atI s34 (k_35 - p31.1)).bind fun v60 => lim (s34 ++ [v60])).bind fun word_54 =>
 some word_54
else
 (if (decide (p31.2 ≤ k_35)) = true then
 ((atI s34 (k_35 - p31.2)).bind fun v69 => lim (s34 ++ [v69])).bind fun word_63 =>
 some word_63
else
 (((f_law_cell a_draws ((a_at + (3 : Int)) + k_35)).bind fun v78 => some (v78 % 3)).bind fun v80 => lim (s34 ++ [v80])).bind fun word_70 =>
 some word_70))) word_32).bind fun (s85 : (List Int)) =>
 some s85
def f_law (a_script : Scr) : Option Bool :=
 (f_law_draws a_script (60 : Int)).bind fun draws_3 =>
 (f_law_some_word draws_3 (10 : Int)).bind fun word_6 =>
 (((((atI draws_3 (0 : Int)).bind fun v12 => modP v12 (word_6.length : Int)).bind fun v15 => some ((1 : Int) + v15)).map some).bind fun v19 => some (cut word_6 none v19)).bind fun cut_20 =>
 (f_law_with_periods draws_3 (24 : Int)).bind fun hidden_23 =>
 ((atI draws_3 (1 : Int)).bind fun v29 => modP v29 (word_6.length : Int)).bind fun at_30 =>
 Fl.ret (((((((((atI word_6 at_30).bind fun v36 => some (v36 + (1 : Int))).bind fun v40 => f_law_with word_6 at_30 v40).bind fun v65 => (((((atI draws_3 (2 : Int)).bind fun v44 => some (v44 % 9)).bind fun v45 => some (v45 :: ([] : (List Int)))).bind fun v61 => some (v61 :: ([([(3 : Int), (3 : Int)] : (List Int)), ([(0 : Int), (1 : Int), (0 : Int)] : (List Int))] : (List (List Int))))).bind fun l64 => some (([] : (List Int)) :: l64)).bind fun l66 => some (v65 :: l66)).bind fun l68 => some (word_6.reverse :: l68)).bind fun l70 => some (hidden_23 :: l70)).bind fun l72 => some (cut_20 :: l72)).bind fun l74 => some (word_6 :: l74)).bind fun l115 => (forL (T := Unit) (R := Bool) (fun (s75 : Unit) (other_76 : (List Int)) =>
 (f_law_told other_76).bind fun found_77 =>
 (if found_77.isNone = true then
 some (.rt false)
else
 Fl.seq ((found_77.bind fun v83 => some (cut v83 none (some (24 : Int)))).bind fun l111 => (forL (T := Unit) (R := Bool) (fun (s84 : Unit) (first_85 : Int) =>
 Fl.seq ((found_77.bind fun v90 => some (cut v90 none (some (24 : Int)))).bind fun l108 => (forL (T := Unit) (R := Bool) (fun (s91 : Unit) (second_92 : Int) =>
 (if (decide ((first_85 + second_92) ≤ (other_76.length : Int))) = true then (f_law_gcd first_85 second_92).bind fun v103 => found_77.bind fun v104 => some (decide (v103 ∉ v104)) else some false).bind fun b106 => (if b106 = true then
 some (.rt false)
else
 some (.nx ()))) l108 ())) fun (s109 : Unit) =>
 some (.nx ())) l111 ())) fun (s112 : Unit) =>
 some (.nx ()))) l115 ())) fun (s116 : Unit) =>
 (((atI draws_3 (3 : Int)).bind fun v120 => some (v120 % 12)).bind fun v123 => some ((1 : Int) + v123)).bind fun period_124 =>
 (((f_law_word draws_3 (40 : Int) period_124 (3 : Int)).bind fun v131 => repP v131 (20 : Int)).bind fun v144 => ((((atI draws_3 (4 : Int)).bind fun v137 => some (v137 % 60)).bind fun v140 => some ((period_124 + (1 : Int)) + v140)).map some).bind fun v145 => some (cut v144 none v145)).bind fun word_146 =>
 (((f_law_told word_146).bind fun v147 => v147).bind fun v150 => some (decide (period_124 ∉ v150))).bind fun b153 => (if b153 = true then
 some false
else
 (f_law_told hidden_23).bind fun v152 => some v152.isSome)
end L2.DL.K81
namespace L2.DL.K81
open PySem PySem.Spec PyProof.Rows
/-! ### the plain law -/
/-- p is a period of w -/
def Per (w : List Int) (p : Nat) : Prop := ∀ i, i + p < w.length → w[i]? = w[i + p]?
theorem Per.sub {w : List Int} {p q : Nat} (hp : Per w p) (hq : Per w q) (hle : q ≤ p) (hn : p + q ≤ w.length) : Per w (p - q) := by
  intro i hi
  by_cases h : i + p < w.length
  · rw [hp i h, hq (i + (p - q)) (by omega)]
    congr 1
    omega
  · have e1 := hq (i - q) (by omega)
    have e2 := hp (i - q) (by omega)
    rw [show i - q + q = i by omega] at e1
    rw [← e1, e2]
    congr 1
    omega
theorem Per.gcd {w : List Int} : ∀ (m p q : Nat), p + q ≤ m → 0 < p → 0 < q → Per w p → Per w q → p + q ≤ w.length → Per w (Nat.gcd p q)
  | 0, p, q, h, h1, h2, _, _, _ => by omega
  | m + 1, p, q, h, h1, h2, hp, hq, hn => by
    rcases Nat.lt_trichotomy p q with hl | he | hl
    · have := Per.gcd m p (q - p) (by omega) h1 (by omega) hp (hq.sub hp (by omega) (by omega)) (by omega)
      rwa [Nat.gcd_sub_self_right (by omega)] at this
    · subst he
      rwa [Nat.gcd_self]
    · have := Per.gcd m (p - q) q (by omega) (by omega) h2 (hp.sub hq (by omega) (by omega)) hq (by omega)
      rwa [Nat.gcd_comm, Nat.gcd_sub_self_right (by omega), Nat.gcd_comm] at this
def perB (w : List Int) (p : Nat) : Bool := decide (w.drop p = w.take (w.length - p))
theorem perB_iff {w : List Int} {p : Nat} (hp : p ≤ w.length) : perB w p = true ↔ Per w p := by
  unfold perB
  rw [decide_eq_true_eq]
  constructor
  · intro h i hi
    have := congrArg (fun l : List Int => l[i]?) h
    simp only [List.getElem?_drop] at this
    rw [List.getElem?_take_of_lt (by omega)] at this
    rw [← this, Nat.add_comm]
  · intro h
    refine List.ext_getElem? fun i => ?_
    rw [List.getElem?_drop]
    by_cases hi : i + p < w.length
    · rw [List.getElem?_take_of_lt (by omega), h i hi, Nat.add_comm]
    · rw [List.getElem?_eq_none (by omega), List.getElem?_eq_none (by rw [List.length_take]; omega)]
def due (w : List Int) : List Int := (rangeL 1 w.length).filter fun x => perB w x.toNat
theorem mem_rangeL {a b x : Int} : x ∈ rangeL a b ↔ a ≤ x ∧ x < b := by
  unfold rangeL
  rw [List.mem_map]
  constructor
  · rintro ⟨i, hi, rfl⟩
    have := List.mem_range.mp hi
    omega
  · intro h
    exact ⟨(x - a).toNat, List.mem_range.mpr (by omega), by omega⟩
theorem mem_due {w : List Int} {x : Int} : x ∈ due w ↔ (1 ≤ x ∧ x < w.length) ∧ Per w x.toNat := by
  unfold due
  rw [List.mem_filter, mem_rangeL]
  constructor
  · rintro ⟨h1, h2⟩
    exact ⟨h1, (perB_iff (by omega)).mp h2⟩
  · rintro ⟨h1, h2⟩
    exact ⟨h1, (perB_iff (by omega)).mpr h2⟩
theorem f_has_period_eq {w : List Int} (hl : w.length ≤ 100000) {x : Int} (h1 : 1 ≤ x) (h2 : x < w.length) : f_has_period w x = some (perB w x.toNat) := by
  obtain ⟨p, rfl⟩ := Int.eq_ofNat_of_zero_le (show 0 ≤ x by omega)
  unfold f_has_period
  rw [show (w.length : Int) - (p : Int) = ((w.length - p : Nat) : Int) by omega, rangeP_nats (by omega), bind_s]
  rw [ask_loop' (r := false) (g := fun x : Int => decide (w[x.toNat]? ≠ w[x.toNat + p]?))]
  · rw [Int.toNat_natCast]
    cases e : (nats (w.length - p)).any fun x : Int => decide (w[x.toNat]? ≠ w[x.toNat + p]?) with
    | true =>
      rw [if_pos rfl, ret_rt]
      congr 1
      obtain ⟨y, hy, hne⟩ := List.any_eq_true.mp e
      have hb := mem_nats hy
      cases e2 : perB w p with
      | false => rfl
      | true => exact absurd (((perB_iff (by omega)).mp e2) y.toNat (by omega)) (of_decide_eq_true hne)
    | false =>
      rw [if_neg Bool.false_ne_true, ret_nx]
      congr 1
      refine ((perB_iff (by omega)).mpr fun i hi => ?_).symm
      by_cases hc : w[i]? = w[i + p]?
      · exact hc
      · have : ((nats (w.length - p)).any fun x : Int => decide (w[x.toNat]? ≠ w[x.toNat + p]?)) = true := by
          rw [List.any_eq_true]
          refine ⟨(i : Int), ?_, ?_⟩
          · unfold nats
            rw [List.mem_map]
            exact ⟨i, List.mem_range.mpr (by omega), rfl⟩
          · rw [Int.toNat_natCast]
            exact decide_eq_true hc
        rw [this] at e
        cases e
  · intro y hy
    have hb := mem_nats hy
    obtain ⟨i, rfl⟩ := Int.eq_ofNat_of_zero_le hb.1
    rw [show (i : Int) + (p : Int) = ((i + p : Nat) : Int) by omega, atI_nat (by omega), atI_nat (by omega), bind_s, bind_s, bind_s, Int.toNat_natCast, List.getElem?_eq_getElem (by omega), List.getElem?_eq_getElem (by omega)]
    simp only [ne_eq, Option.some.injEq]
theorem rangeL_len (a b : Int) : (rangeL a b).length = (b - a).toNat := by simp [rangeL]
theorem due_len (w : List Int) : (due w).length ≤ w.length := by
  unfold due
  have h := List.length_filter_le (fun x : Int => perB w x.toNat) (rangeL 1 w.length)
  rw [rangeL_len] at h
  omega
theorem f_periods_of_eq {w : List Int} (hl : w.length ≤ 100000) : f_periods_of w = some (due w) := by
  have hd := due_len w
  unfold f_periods_of
  rw [rangeP_def, if_pos (by omega), bind_s, compM_some (q := fun x => perB w x.toNat) (g := fun x => x), bind_s, List.map_id']
  · exact lim_of (by unfold due at hd; omega)
  · intro x hx
    have := mem_rangeL.mp hx
    exact f_has_period_eq hl this.1 this.2
  · intro x _
    rfl
theorem f_law_is_numbers_eq {l : List Int} : f_law_is_numbers l = some true := by
  unfold f_law_is_numbers
  rw [if_neg (by decide), forL_nx, ret_nx]
  intro x _
  rfl
theorem f_law_told_eq {w : List Int} (hl : w.length ≤ 100000) : f_law_told w = some (some (due w)) := by
  have hd := due_len w
  unfold f_law_told
  rw [rangeP_def, if_pos (by omega), bind_s, compM_some (q := fun x => perB w x.toNat) (g := fun x => x), bind_s, List.map_id', lim_of (by unfold due at hd; omega), bind_s, bind_s, f_periods_of_eq hl, bind_s]
  · rw [show (rangeL 1 (w.length : Int)).filter (fun x => perB w x.toNat) = due w from rfl]
    simp only [eqD_ints, f_law_is_numbers_eq, map_s, bind_s, decide_true, not_t, if_ft]
    rw [lim_of (by rw [List.length_append, List.length_singleton]; omega), bind_s]
  · intro x hx
    have hb := mem_rangeL.mp hx
    obtain ⟨p, rfl⟩ := Int.eq_ofNat_of_zero_le (show 0 ≤ x by omega)
    rw [show (w.length : Int) - (p : Int) = ((w.length - p : Nat) : Int) by omega, cut_drop, cut_take, eqD_ints]
    rfl
  · intro x _
    rfl
theorem f_law_gcd_eq {a b : Int} (ha : 0 ≤ a) (hb : 0 ≤ b) (h : b < 1000000) : f_law_gcd a b = some ((Int.gcd a b : Nat) : Int) := by
  unfold f_law_gcd
  rw [if_neg (by omega), if_neg (by omega)]
  obtain ⟨s, e, hs⟩ := gcd_loop (fuel := 1000000) ha hb h
  simp only [bind_s] at e ⊢
  rw [e, bind_s, hs]
theorem gcd_due {w : List Int} {x y : Int} (hx : x ∈ due w) (hy : y ∈ due w) (h : x + y ≤ w.length) : ((Int.gcd x y : Nat) : Int) ∈ due w := by
  obtain ⟨⟨a1, a2⟩, a3⟩ := mem_due.mp hx
  obtain ⟨⟨b1, b2⟩, b3⟩ := mem_due.mp hy
  obtain ⟨p, rfl⟩ := Int.eq_ofNat_of_zero_le (show 0 ≤ x by omega)
  obtain ⟨q, rfl⟩ := Int.eq_ofNat_of_zero_le (show 0 ≤ y by omega)
  rw [Int.toNat_natCast] at a3 b3
  have hg : Int.gcd (p : Int) (q : Int) = Nat.gcd p q := rfl
  have hpos : 0 < Nat.gcd p q := Nat.gcd_pos_of_pos_left _ (by omega)
  have hle : Nat.gcd p q ≤ p := Nat.gcd_le_left _ (by omega)
  rw [hg, mem_due, Int.toNat_natCast]
  exact ⟨⟨by omega, by omega⟩, Per.gcd (p + q) p q (Nat.le_refl _) (by omega) (by omega) a3 b3 (by omega)⟩
/-! the words of the law -/
theorem f_law_draws_eq : f_law_draws = drawsP := rfl
theorem f_law_cell_eq {ds : List Int} (h : ds.length = 60 ∧ Drawn ds) {k : Int} (h0 : 0 ≤ k) : ∃ v, f_law_cell ds k = some v ∧ 0 ≤ v ∧ v < 1000003 := by
  unfold f_law_cell
  by_cases hk : k < (ds.length : Int)
  · rw [if_pos (decide_eq_true hk)]
    exact draw_at h k h0 (by rw [h.1] at hk; exact hk)
  · rw [if_neg (fun q => hk (of_decide_eq_true q)), h.1]
    obtain ⟨v, e, b⟩ := draw_at h (k % 60) (by omega) (by omega)
    obtain ⟨u, e', b'⟩ := draw_at h (7 * k % 60) (by omega) (by omega)
    rw [modP_of (by decide), modP_of (by decide), bind_s, bind_s]
    simp only [Int.cast_ofNat_Int]
    rw [e, e', bind_s, bind_s, bind_s, bind_s, bind_s, bind_s]
    exact ⟨_, rfl, by omega, by omega⟩
theorem f_law_word_eq {ds : List Int} (h : ds.length = 60 ∧ Drawn ds) {a : Int} (ha : 0 ≤ a) {n : Int} (h0 : 0 ≤ n) (hn : n ≤ 1000) {k : Int} (hk : 0 < k) : ∃ w, f_law_word ds a n k = some w ∧ w.length = n.toNat := by
  obtain ⟨N, rfl⟩ := Int.eq_ofNat_of_zero_le h0
  unfold f_law_word
  have hc : ∀ x : Int, ∃ v : Int, 0 ≤ x → f_law_cell ds (a + x) = some v := fun x => by
    by_cases hx : 0 ≤ x
    · obtain ⟨v, e, _⟩ := f_law_cell_eq h (k := a + x) (by omega)
      exact ⟨v, fun _ => e⟩
    · exact ⟨0, fun a => absurd a hx⟩
  obtain ⟨g, hg⟩ : ∃ g : Int → Int, ∀ x : Int, 0 ≤ x → f_law_cell ds (a + x) = some (g x) := ⟨fun x => (hc x).choose, fun x => (hc x).choose_spec⟩
  rw [rangeP_nats (by omega), bind_s, mapO_some (g := fun x => g x / 3 % k), bind_s, lim_of (by rw [List.length_map, nats_len]; omega)]
  · exact ⟨_, rfl, by rw [List.length_map, nats_len, Int.toNat_natCast]⟩
  · intro x hx
    have := mem_nats hx
    rw [hg x this.1, bind_s, bind_s, modP_of hk]
theorem f_law_some_word_eq {ds : List Int} (h : ds.length = 60 ∧ Drawn ds) : ∃ w, f_law_some_word ds 10 = some w ∧ 0 < w.length ∧ w.length ≤ 2000 := by
  refine (?_ : Rets (f_law_some_word ds 10) fun w => 0 < w.length ∧ w.length ≤ 2000)
  obtain ⟨v, e, b1, b2⟩ := f_law_cell_eq h (k := 10) (by decide)
  obtain ⟨u, e', c1, c2⟩ := f_law_cell_eq h (k := 10 + 1) (by decide)
  unfold f_law_some_word
  rw [e, e']
  simp only [bind_s]
  refine .bind (Q := fun x : Int => 0 < x) ?_ fun letters hlet => ?_
  · refine ⟨_, atI_int (l := [(1 : Int), 2, 2, 2, 3, 4, 1000000000, 2]) (by omega) (by simp; omega), ?_⟩
    have : ∀ x ∈ ([1, 2, 2, 2, 3, 4, 1000000000, 2] : List Int), 0 < x := by decide
    exact this _ (List.getElem_mem _)
  refine .bind (Q := fun x : Int => 1 ≤ x ∧ x ≤ 200) (.ite (fun _ => .pure ⟨by omega, by omega⟩) fun _ => .pure ⟨by omega, by omega⟩) fun n hn => ?_
  obtain ⟨w, ew, lw⟩ := f_law_word_eq h (a := 10 + 2) (by decide) (n := n) (by omega) (by omega) hlet
  rw [ew]
  simp only [bind_s]
  refine .bind (Q := fun w : List Int => 0 < w.length ∧ w.length ≤ 2000) ?_ fun w hw => .pure hw
  refine .bind (Q := fun b => b = true → 2 < u % 6) ?_ fun b hq => ?_
  · refine .ite (fun hc => ?_) fun _ => .pure fun hz => by cases hz
    rw [mulP_of (by omega) (by omega), bind_s]
    exact .pure fun _ => of_decide_eq_true hc
  · refine .ite (fun hb => ?_) fun _ => .pure ⟨by omega, by omega⟩
    have ht := hq hb
    have hm : w.length * (u % 6 - 1).toNat ≤ 200 * 4 := Nat.mul_le_mul (by omega) (by omega)
    obtain ⟨r, er, lr, _⟩ := repP_ok (l := w) (k := u % 6 - 1) (by omega) (by omega) (by omega)
    rw [er, bind_s]
    have hm2 : 0 < w.length * (u % 6 - 1).toNat := Nat.mul_pos (by omega) (by omega)
    exact .pure ⟨by omega, by omega⟩
theorem len_snoc {α : Type} {l : List α} {x : α} : (l ++ [x]).length = l.length + 1 := by rw [List.length_append, List.length_singleton]
theorem f_law_with_periods_eq {ds : List Int} (h : ds.length = 60 ∧ Drawn ds) : ∃ w, f_law_with_periods ds 24 = some w ∧ w.length ≤ 24 := by
  refine (?_ : Rets (f_law_with_periods ds 24) fun w => w.length ≤ 24)
  obtain ⟨v, e, b1, b2⟩ := f_law_cell_eq h (k := 24) (by decide)
  obtain ⟨u, e', c1, c2⟩ := f_law_cell_eq h (k := 24 + 1) (by decide)
  obtain ⟨t, e'', d1, d2⟩ := f_law_cell_eq h (k := 24 + 2) (by decide)
  unfold f_law_with_periods
  rw [e, e', e'']
  simp only [bind_s]
  generalize hf : 1 + u % 9 = first
  generalize hg : 1 + t % 9 = second
  have f1 : 1 ≤ first := by omega
  have g1 : 1 ≤ second := by omega
  refine .bind (Rets.range (fun k (s : List Int) => s.length = k) (by omega) (by omega) rfl ?_) fun s hs => .pure (by omega)
  intro k s hk hs
  have hat : ∀ d : Int, 1 ≤ d → d ≤ k → ∃ x, atI s ((k : Int) - d) = some x := fun d h1 h2 => ⟨_, atI_int (by omega) (by omega)⟩
  have hlim : ∀ x : Int, lim (s ++ [x]) = some (s ++ [x]) := fun x => lim_of (by rw [len_snoc]; omega)
  refine .bind (Q := fun b => b = true → first ≤ (k : Int)) ?_ fun b hb => ?_
  · refine .ite (fun h1 => ?_) fun _ => .pure fun z => by cases z
    have h1 := of_decide_eq_true h1
    refine .ite (fun _ => .pure fun _ => h1) fun h2 => ?_
    have h2 : ¬ (k : Int) < second := fun q => h2 (decide_eq_true q)
    obtain ⟨x, ex⟩ := hat first f1 h1
    obtain ⟨y, ey⟩ := hat second g1 (by omega)
    rw [ex, ey, bind_s, bind_s]
    exact .pure fun _ => h1
  · refine .ite (fun h1 => ?_) fun _ => .ite (fun h2 => ?_) fun _ => ?_
    · obtain ⟨x, ex⟩ := hat first f1 (hb h1)
      rw [ex, bind_s, hlim, bind_s]
      exact .pure (by rw [len_snoc, hs])
    · obtain ⟨y, ey⟩ := hat second g1 (of_decide_eq_true h2)
      rw [ey, bind_s, hlim, bind_s]
      exact .pure (by rw [len_snoc, hs])
    · obtain ⟨z, ez, _⟩ := f_law_cell_eq h (k := 24 + 3 + (k : Int)) (by omega)
      rw [ez, bind_s, bind_s, hlim, bind_s]
      exact .pure (by rw [len_snoc, hs])
theorem f_law_with_eq {l : List Int} (hl : l.length ≤ 4096) {k v : Int} : ∃ r, f_law_with l k v = some r ∧ r.length ≤ 2 * l.length + 1 := by
  have h1 : ∀ {a b : Option Int}, (cut l a b).length ≤ l.length := cut_len
  unfold f_law_with
  have n1 := h1 (a := none) (b := some k)
  have n2 := h1 (a := some (k + 1)) (b := none)
  rw [lim_of (by rw [List.length_append, List.length_singleton]; omega), bind_s, lim_of (by rw [List.length_append, List.length_append, List.length_singleton]; omega)]
  exact ⟨_, rfl, by rw [List.length_append, List.length_append, List.length_singleton]; omega⟩
theorem mem_cut {l : List Int} {a b : Option Int} {x : Int} (h : x ∈ cut l a b) : x ∈ l := by
  unfold cut at h
  exact List.mem_of_mem_drop (List.mem_of_mem_take h)
theorem rep_period {w : List Int} {n : Nat} : Per (List.replicate n w).flatten w.length := by
  intro i hi
  cases n with
  | zero => simp at hi
  | succ n =>
    have h1 : (List.replicate (n + 1) w).flatten = w ++ (List.replicate n w).flatten := by rw [List.replicate_succ, List.flatten_cons]
    have h2 : (List.replicate (n + 1) w).flatten = (List.replicate n w).flatten ++ w := by rw [List.replicate_succ', List.flatten_append]; simp
    have hl : (List.replicate n w).flatten.length + w.length = (List.replicate (n + 1) w).flatten.length := by rw [h2, List.length_append]
    have e1 : (List.replicate (n + 1) w).flatten[i + w.length]? = (List.replicate n w).flatten[i]? := by
      rw [h1, List.getElem?_append_right (by omega)]
      congr 1
      omega
    rw [e1, h2, List.getElem?_append_left (by omega)]
theorem Per.take {w : List Int} {p : Nat} (h : Per w p) (n : Nat) : Per (w.take n) p := by
  intro i hi
  rw [List.length_take] at hi
  rw [List.getElem?_take_of_lt (by omega), List.getElem?_take_of_lt (by omega)]
  exact h i (by omega)
theorem plain_law (ns : List Int) (hl : ns.length ≤ 63) : f_law ⟨ns⟩ = some true := by
  refine Rets.get ?_
  unfold f_law
  rw [f_law_draws_eq]
  refine .bind (drawsP_ok (many := 60) (by decide)) fun ds hd => ?_
  obtain ⟨x0, e0, p0⟩ := draw_at hd 0 (by decide) (by decide)
  obtain ⟨x1, e1, p1⟩ := draw_at hd 1 (by decide) (by decide)
  obtain ⟨x2, e2, p2⟩ := draw_at hd 2 (by decide) (by decide)
  obtain ⟨x3, e3, p3⟩ := draw_at hd 3 (by decide) (by decide)
  obtain ⟨x4, e4, p4⟩ := draw_at hd 4 (by decide) (by decide)
  obtain ⟨w, ew, w1, w2⟩ := f_law_some_word_eq hd
  obtain ⟨hid, eh, h1⟩ := f_law_with_periods_eq hd
  rw [e0, e1, e2, e3, e4, ew]
  simp only [bind_s]
  rw [modP_of (by omega), eh]
  simp only [bind_s, map_s]
  rw [modP_of (by omega)]
  simp only [bind_s]
  obtain ⟨y, ey⟩ : ∃ y, atI w (x1 % (w.length : Int)) = some y := ⟨_, atI_int (Int.emod_nonneg _ (by omega)) (Int.emod_lt_of_pos _ (by omega))⟩
  rw [ey]
  simp only [bind_s]
  obtain ⟨r, er, lr⟩ := f_law_with_eq (l := w) (by omega) (k := x1 % (w.length : Int)) (v := y + 1)
  rw [er]
  simp only [bind_s]
  rw [forL_nx, ret_nx]
  · obtain ⟨v, ev, lv⟩ := f_law_word_eq hd (a := 40) (by decide) (n := 1 + x3 % 12) (by omega) (by omega) (k := 3) (by decide)
    rw [ev]
    simp only [bind_s]
    have hrep : repP v 20 = some (List.replicate 20 v).flatten := by
      rw [repP_def, if_pos]
      · rfl
      · exact ⟨by decide, by decide, by simp only [Int.reduceToNat]; omega⟩
    rw [hrep]
    simp only [bind_s]
    rw [show (1 + x3 % 12 + 1 + x4 % 60 : Int) = ((1 + x3 % 12 + 1 + x4 % 60).toNat : Nat) by omega, cut_take]
    have hlen : (List.replicate 20 v).flatten.length = 20 * v.length := by rw [List.length_flatten, List.map_replicate, List.sum_replicate_nat]
    rw [f_law_told_eq (by rw [List.length_take]; omega), f_law_told_eq (by omega)]
    simp only [bind_s]
    have hmem : (1 + x3 % 12 : Int) ∈ due ((List.replicate 20 v).flatten.take (1 + x3 % 12 + 1 + x4 % 60).toNat) := by
      rw [mem_due, List.length_take, hlen]
      refine ⟨⟨by omega, by omega⟩, ?_⟩
      rw [← lv]
      exact rep_period.take _
    rw [decide_eq_false (fun q => q hmem), if_ft]
    exact .pure rfl
  · intro x hx
    have hxl : x.length ≤ 100000 := by
      simp only [List.mem_cons, List.not_mem_nil, or_false] at hx
      have hc := fun {a b : Option Int} => cut_len (l := w) (a := a) (b := b)
      rcases hx with rfl | rfl | rfl | rfl | rfl | rfl | rfl | rfl | rfl
      · omega
      · exact Nat.le_trans hc (by omega)
      · omega
      · rw [List.length_reverse]; omega
      · omega
      · simp
      · simp
      · simp
      · simp
    rw [f_law_told_eq hxl]
    simp only [bind_s]
    rw [if_neg (by simp), forL_nx, seq_nx]
    intro a ha
    have ha := mem_cut ha
    rw [forL_nx, seq_nx]
    intro b hb
    have hb := mem_cut hb
    have ma := mem_due.mp ha
    have mb := mem_due.mp hb
    by_cases hab : a + b ≤ (x.length : Int)
    · rw [if_pos (decide_eq_true hab), f_law_gcd_eq (by omega) (by omega) (by omega)]
      simp only [bind_s]
      rw [decide_eq_false (fun q => q (gcd_due ha hb hab)), if_ft]
    · rw [if_neg (fun q => hab (of_decide_eq_true q)), bind_s, if_ft]
end L2.DL.K81

namespace L2.DL.K81
open PySem PySem.Spec PyProof.Rows
/-! ### the walks -/
structure Tx (K : PySem.W.Frag) (mg : Str → Option Value) where
  f_law_draws : DefAt K mg "_law_draws" st_law_draws ["script", "many"]
  f_law_gcd : DefAt K mg "_law_gcd" st_law_gcd ["first", "second"]
  f_law_cell : DefAt K mg "_law_cell" st_law_cell ["draws", "k"]
  f_law_word : DefAt K mg "_law_word" st_law_word ["draws", "at", "length", "letters"]
  f_law_some_word : DefAt K mg "_law_some_word" st_law_some_word ["draws", "at"]
  f_law_is_number : DefAt K mg "_law_is_number" st_law_is_number ["value"]
  f_law_is_numbers : DefAt K mg "_law_is_numbers" st_law_is_numbers ["value"]
  f_has_period : DefAt K mg "has_period" st_has_period ["word", "period"]
  f_periods_of : DefAt K mg "periods_of" st_periods_of ["word"]
  f_law_told : DefAt K mg "_law_told" st_law_told ["word"]
  f_law_with : DefAt K mg "_law_with" st_law_with ["line", "at", "item"]
  f_law_with_periods : DefAt K mg "_law_with_periods" st_law_with_periods ["draws", "at"]
  f_law : DefAt K mg "law" st_law ["script"]
  n_abs : mg "abs" = none
  n_bool : mg "bool" = none
  n_int : mg "int" = none
  n_isinstance : mg "isinstance" = none
  n_len : mg "len" = none
  n_list : mg "list" = none
  n_range : mg "range" = none
section
variable {P : Program} {w : World} {K : PySem.W.Frag} {mg : Str → Option Value} {base : Heap}
theorem ok_law_draws (T : Tx K mg) : FnOk P w K mg base CX0 1 T.f_law_draws.a T.f_law_draws.d ["script", "many"] (sp2 K f_law_draws .new) := by
  have sc : FnScope ["script", "many", "found", "cell", "number", "k", "mixed", "base"] ["script", "many"] (defScope st_law_draws) := ⟨rfl, rfl, rfl, by decide +kernel, rfl, by decide +kernel, by decide +kernel⟩
  refine T.f_law_draws.F.ok sc (fun vs H Q E h => spA_len h fun _ => rfl) (fun cdv A outer s H vs Q E hr h => ⟨_, (pss_cons (ps_set (i := 2) sc.nd rfl (by first | exact .inl rfl | exact .inr rfl) (pe_lst pa_nil))
 (pss_cons (ps_for PassesOwn.never rfl (pi_list (pe_slice sl_list (pv 0) po_none (po_some pe_int))) (pg_name (i := 3) sc.nd rfl (by first | exact .inl rfl | exact .inr rfl))
 (pss_cons (ps_set (i := 4) sc.nd rfl (by first | exact .inl rfl | exact .inr rfl) (pe_callB call_abs (by rfl) T.n_abs (by decide +kernel) (pa_cons (pe_callTy call_int1 (by rfl) T.n_int (by decide +kernel) (pa_cons (pv 3) pa_nil)) pa_nil)))
 (pss_one (ps_if (pt_cmpR op_ge (pv 4) (pe_op op_pow pe_int pe_int) (nomark _)) (pss_one (ps_for PassesOwn.never rfl (pi_range1 (by rfl) T.n_range (pa_cons pe_int pa_nil)) (pg_name (i := 5) sc.nd rfl (by first | exact .inl rfl | exact .inr rfl))
 (pss_one (ps_if (pt_cmpR op_gt (pv 4) pe_int (nomark _)) (pss_cons (ps_expr (pe_bm PySem.F.plainAttrs_list PySem.F.slot_list_append PySem.F.type_list_append mt_append (pv 2) (pa_cons (pe_op op_mod (pv 4) pe_int) pa_nil)))
 (pss_one (ps_set (i := 4) sc.nd rfl (by first | exact .inl rfl | exact .inr rfl) (pe_op op_fdivW (pv 4) pe_int)))) pss_nil)))) (pss_cons (ps_set (i := 6) sc.nd rfl (by first | exact .inl rfl | exact .inr rfl) (pe_op op_mod (pe_op op_add (pe_op op_add (pe_op op_mul (pv 4) pe_int) (pe_op op_mul pe_int (pe_callB call_len_seq (by rfl) T.n_len (by decide +kernel) (pa_cons (pv 2) pa_nil)))) pe_int) pe_int))
 (pss_one (ps_for PassesOwn.never rfl (pi_range1 (by rfl) T.n_range (pa_cons pe_int pa_nil)) (pg_name (i := 5) sc.nd rfl (by first | exact .inl rfl | exact .inr rfl))
 (pss_cons (ps_set (i := 6) sc.nd rfl (by first | exact .inl rfl | exact .inr rfl) (pe_op op_mod (pe_op op_add (pe_op op_add (pe_op op_add (pe_op op_mul (pv 6) pe_int) (pe_op op_fdivW (pv 6) pe_int)) (pe_op op_mul pe_int (pv 5))) pe_int) pe_int))
 (pss_one (ps_expr (pe_bm PySem.F.plainAttrs_list PySem.F.slot_list_append PySem.F.type_list_append mt_append (pv 2) (pa_cons (pe_op op_mod (pe_op op_fdivW (pv 6) pe_int) pe_int) pa_nil))))))))))))
 (pss_cons (ps_for PassesOwn.never rfl (pi_range1 (by rfl) T.n_range (pa_cons (pv 1) pa_nil)) (pg_name (i := 5) sc.nd rfl (by first | exact .inl rfl | exact .inr rfl))
 (pss_one (ps_if (pt_cmpR op_lt (pe_callB call_len_seq (by rfl) T.n_len (by decide +kernel) (pa_cons (pv 2) pa_nil)) (pv 1) (nomark _)) (pss_cons (ps_set (i := 7) sc.nd rfl (by first | exact .inl rfl | exact .inr rfl) pe_int)
 (pss_cons (ps_if (pt_cmpR op_gt (pe_callB call_len_seq (by rfl) T.n_len (by decide +kernel) (pa_cons (pv 2) pa_nil)) pe_int (nomark _)) (pss_one (ps_set (i := 7) sc.nd rfl (by first | exact .inl rfl | exact .inr rfl) (pe_ix ix_list (pv 2) (pe_op op_mod (pv 5) (pe_callB call_len_seq (by rfl) T.n_len (by decide +kernel) (pa_cons (pv 2) pa_nil))) (fun _ _ => rfl)))) pss_nil)
 (pss_one (ps_expr (pe_bm PySem.F.plainAttrs_list PySem.F.slot_list_append PySem.F.type_list_append mt_append (pv 2) (pa_cons (pe_op op_mod (pe_op op_add (pe_op op_add (pe_op op_mul (pv 7) pe_int) (pe_op op_mul pe_int (pe_callB call_len_seq (by rfl) T.n_len (by decide +kernel) (pa_cons (pv 2) pa_nil)))) pe_int) pe_int) pa_nil)))))) pss_nil)))
 (pss_one (ps_ret (pe_slice sl_list (pv 2) po_none (po_some (pv 1)))))))), of_body (fun x => ?_) (fun _ => Nat.le_of_ble_eq_true rfl) h⟩)
  exact EvR.weakL (er_seq (E := fun (found_1 : (List Int)) => [.dat .old (rp x.1), .dat .new (rp x.2), .own .new (rps found_1), .un, .un, .un, .un, .un]) (en_own (ev_list (m := .new) exs_nil)) (fun found_1 =>
 (er_seq (E := fun (s56 : (List Int)) => [.dat .old (rp x.1), .dat .new (rp x.2), .own .new (rps s56), .un, .un, .un, .un, .un]) (en_forP (E := fun (s56 : (List Int)) => [.dat .old (rp x.1), .dat .new (rp x.2), .own .new (rps s56), .un, .un, .un, .un, .un]) (s0 := found_1) (Eb := fun (s5 : (List Int)) (cell_6 : Int) => [.dat .old (rp x.1), .dat .new (rp x.2), .own .new (rps s5), .dat .new (rp cell_6), .un, .un, .un, .un]) (vs := [3]) (ei_list (EvL.E (EvL.res (r' := some (cut x.1.l none (some (63 : Int)))) (ev_slS (ev_var (i := 0) (m := .old) (x := x.1) rfl) eo_no (eo_atP ev_int)) (bsP (bsP (bsP rfl)))))) (.cons .id (.cons .id (.cons .id (.cons .id (.cons .id (.cons .id (.cons .id (.cons .id .nil)))))))) (fun s5 cell_6 => (eg_nameS (m1 := .new))) (fun s5 cell_6 =>
 (en_seq (E := fun (number_8 : Int) => [.dat .old (rp x.1), .dat .new (rp x.2), .own .new (rps s5), .dat .new (rp cell_6), .dat .new (rp number_8), .un, .un, .un]) (en_set (EvE.res (r' := some (if cell_6 < 0 then -cell_6 else cell_6)) (ev_abs (ev_intI (ev_var (i := 3) (m := .new) (x := cell_6) rfl))) (bsP rfl))) (fun number_8 =>
 (en_ifP (et_test (EvE.res (r' := some (decide ((1000000000000000000 : Int) ≤ number_8))) (ev_cmpI (ev_var (i := 4) (m := .new) (x := number_8) rfl) (ev_powV (a := 10) (b := 18) (v := 1000000000000000000))) (bsP (bsP rfl))))
 (en_last (en_seq (E := fun (s22 : ((List Int) × Int)) => [.dat .old (rp x.1), .dat .new (rp x.2), .own .new (rps s22.1), .dat .new (rp cell_6), .dat .new (rp s22.2), .un, .un, .un]) (en_for (E := fun (s22 : ((List Int) × Int)) => [.dat .old (rp x.1), .dat .new (rp x.2), .own .new (rps s22.1), .dat .new (rp cell_6), .dat .new (rp s22.2), .un, .un, .un]) (s0 := (s5, number_8)) (Eb := fun (s12 : ((List Int) × Int)) (k_13 : Int) => [.dat .old (rp x.1), .dat .new (rp x.2), .own .new (rps s12.1), .dat .new (rp cell_6), .dat .new (rp s12.2), .dat .new (rp k_13), .un, .un]) (vs := [5]) (EvI.res (r' := rangeP 0 (60 : Int)) (ei_range1 ev_int) (bsP rfl)) (.cons .id (.cons .id (.cons .id (.cons .id (.cons .id (.cons .id (.cons .id (.cons .id .nil)))))))) (fun s12 k_13 => (eg_nameS (m1 := .new))) (fun s12 k_13 =>
 (en_ifP (et_test (EvE.res (r' := some (decide ((0 : Int) < s12.2))) (ev_cmpI (ev_var (i := 4) (m := .new) (x := s12.2) rfl) ev_int) (bsP (bsP rfl))))
 (en_seq (E := fun (found_16 : (List Int)) => [.dat .old (rp x.1), .dat .new (rp x.2), .own .new (rps found_16), .dat .new (rp cell_6), .dat .new (rp s12.2), .dat .new (rp k_13), .un, .un]) (en_append (i := 2) (m := .new) (xs := s12.1) (EvE.res (r' := some (s12.2 % 1000003)) (ev_modC (ev_var (i := 4) (m := .new) (x := s12.2) rfl)) (bsP rfl)) rfl) (fun found_16 =>
 (en_last (en_seq (E := fun (number_20 : Int) => [.dat .old (rp x.1), .dat .new (rp x.2), .own .new (rps found_16), .dat .new (rp cell_6), .dat .new (rp number_20), .dat .new (rp k_13), .un, .un]) (en_set (EvE.res (r' := some (s12.2 / 1000003)) (ev_divC (ev_var (i := 4) (m := .new) (x := s12.2) rfl)) (bsP rfl))) (fun number_20 =>
 (en_end (s := (found_16, number_20)) (.cons .id (.cons .id (.cons .id (.cons .id (.cons .id (.cons .un (.cons .id (.cons .id .nil))))))))))))))
 (en_end (s := (s12.1, s12.2)) (.cons .id (.cons .id (.cons .id (.cons .id (.cons .id (.cons .un (.cons .id (.cons .id .nil)))))))))))) (fun s24 =>
 (en_end (s := s24.1) (.cons .id (.cons .id (.cons .id (.cons .un (.cons .un (.cons .id (.cons .id (.cons .id .nil))))))))))))
 (en_seq (E := fun (mixed_33 : Int) => [.dat .old (rp x.1), .dat .new (rp x.2), .own .new (rps s5), .dat .new (rp cell_6), .dat .new (rp number_8), .un, .dat .new (rp mixed_33), .un]) (en_set (EvE.res (r' := some ((((number_8 * 48271) + (7 * (s5.length : Int))) + (11 : Int)) % 2147483647)) (ev_modC (EvE.res (r' := some (((number_8 * 48271) + (7 * (s5.length : Int))) + (11 : Int))) (ev_arith (EvE.res (r' := some ((number_8 * 48271) + (7 * (s5.length : Int)))) (ev_arith (EvE.res (r' := some (number_8 * 48271)) (ev_mulC (ev_var (i := 4) (m := .new) (x := number_8) rfl)) (bsP rfl)) (EvE.res (r' := some (7 * (s5.length : Int))) (ev_mulCl (EvE.res (r' := some (s5.length : Int)) (ev_len (ev_own (i := 2) (m := .new) (xs := s5) rfl)) (bsP rfl))) (bsP rfl))) (bsP (bsP rfl))) ev_int) (bsP (bsP rfl)))) (bsP rfl))) (fun mixed_33 =>
 (en_last (en_seq (E := fun (s52 : ((List Int) × Int)) => [.dat .old (rp x.1), .dat .new (rp x.2), .own .new (rps s52.1), .dat .new (rp cell_6), .dat .new (rp number_8), .un, .dat .new (rp s52.2), .un]) (en_for (E := fun (s52 : ((List Int) × Int)) => [.dat .old (rp x.1), .dat .new (rp x.2), .own .new (rps s52.1), .dat .new (rp cell_6), .dat .new (rp number_8), .un, .dat .new (rp s52.2), .un]) (s0 := (s5, mixed_33)) (Eb := fun (s35 : ((List Int) × Int)) (k_36 : Int) => [.dat .old (rp x.1), .dat .new (rp x.2), .own .new (rps s35.1), .dat .new (rp cell_6), .dat .new (rp number_8), .dat .new (rp k_36), .dat .new (rp s35.2), .un]) (vs := [5]) (EvI.res (r' := rangeP 0 (4 : Int)) (ei_range1 ev_int) (bsP rfl)) (.cons .id (.cons .id (.cons .id (.cons .id (.cons .id (.cons .id (.cons .id (.cons .id .nil)))))))) (fun s35 k_36 => (eg_nameS (m1 := .new))) (fun s35 k_36 =>
 (en_seq (E := fun (mixed_47 : Int) => [.dat .old (rp x.1), .dat .new (rp x.2), .own .new (rps s35.1), .dat .new (rp cell_6), .dat .new (rp number_8), .dat .new (rp k_36), .dat .new (rp mixed_47), .un]) (en_set (EvE.res (r' := some (((((s35.2 * 69621) + (s35.2 / 65536)) + (13 * k_36)) + (5 : Int)) % 2147483629)) (ev_modC (EvE.res (r' := some ((((s35.2 * 69621) + (s35.2 / 65536)) + (13 * k_36)) + (5 : Int))) (ev_arith (EvE.res (r' := some (((s35.2 * 69621) + (s35.2 / 65536)) + (13 * k_36))) (ev_arith (EvE.res (r' := some ((s35.2 * 69621) + (s35.2 / 65536))) (ev_arith (EvE.res (r' := some (s35.2 * 69621)) (ev_mulC (ev_var (i := 6) (m := .new) (x := s35.2) rfl)) (bsP rfl)) (EvE.res (r' := some (s35.2 / 65536)) (ev_divC (ev_var (i := 6) (m := .new) (x := s35.2) rfl)) (bsP rfl))) (bsP (bsP rfl))) (EvE.res (r' := some (13 * k_36)) (ev_mulCl (ev_var (i := 5) (m := .new) (x := k_36) rfl)) (bsP rfl))) (bsP (bsP rfl))) ev_int) (bsP (bsP rfl)))) (bsP rfl))) (fun mixed_47 =>
 (en_last (en_seq (E := fun (found_48 : (List Int)) => [.dat .old (rp x.1), .dat .new (rp x.2), .own .new (rps found_48), .dat .new (rp cell_6), .dat .new (rp number_8), .dat .new (rp k_36), .dat .new (rp mixed_47), .un]) (en_append (i := 2) (m := .new) (xs := s35.1) (EvE.res (r' := some ((mixed_47 / 8) % 1000003)) (ev_modC (EvE.res (r' := some (mixed_47 / 8)) (ev_divC (ev_var (i := 6) (m := .new) (x := mixed_47) rfl)) (bsP rfl))) (bsP rfl)) rfl) (fun found_48 =>
 (en_end (s := (found_48, mixed_47)) (.cons .id (.cons .id (.cons .id (.cons .id (.cons .id (.cons .un (.cons .id (.cons .id .nil)))))))))))))))) (fun s54 =>
 (en_end (s := s54.1) (.cons .id (.cons .id (.cons .id (.cons .un (.cons .un (.cons .id (.cons .un (.cons .id .nil))))))))))))))))))) (fun s58 =>
 (er_seq (E := fun (s90 : (List Int)) => [.dat .old (rp x.1), .dat .new (rp x.2), .own .new (rps s90), .un, .un, .un, .un, .un]) (en_for (E := fun (s90 : (List Int)) => [.dat .old (rp x.1), .dat .new (rp x.2), .own .new (rps s90), .un, .un, .un, .un, .un]) (s0 := s58) (Eb := fun (s60 : (List Int)) (k_61 : Int) => [.dat .old (rp x.1), .dat .new (rp x.2), .own .new (rps s60), .un, .un, .dat .new (rp k_61), .un, .un]) (vs := [5]) (EvI.res (r' := rangeP 0 x.2) (ei_range1 (ev_var (i := 1) (m := .new) (x := x.2) rfl)) (bsP rfl)) (.cons .id (.cons .id (.cons .id (.cons .id (.cons .id (.cons .id (.cons .id (.cons .id .nil)))))))) (fun s60 k_61 => (eg_nameS (m1 := .new))) (fun s60 k_61 =>
 (en_ifP (et_test (EvE.res (r' := some (decide ((s60.length : Int) < x.2))) (ev_cmpI (EvE.res (r' := some (s60.length : Int)) (ev_len (ev_own (i := 2) (m := .new) (xs := s60) rfl)) (bsP rfl)) (ev_var (i := 1) (m := .new) (x := x.2) rfl)) (bsP (bsP rfl))))
 (en_seq (E := fun (base_65 : Int) => [.dat .old (rp x.1), .dat .new (rp x.2), .own .new (rps s60), .un, .un, .dat .new (rp k_61), .un, .dat .new (rp base_65)]) (en_set ev_int) (fun base_65 =>
 (en_seq (E := fun (s88 : Int) => [.dat .old (rp x.1), .dat .new (rp x.2), .own .new (rps s60), .un, .un, .dat .new (rp k_61), .un, .dat .new (rp s88)]) (en_ifP (et_test (EvE.res (r' := some (decide ((0 : Int) < (s60.length : Int)))) (ev_cmpI (EvE.res (r' := some (s60.length : Int)) (ev_len (ev_own (i := 2) (m := .new) (xs := s60) rfl)) (bsP rfl)) ev_int) (bsP (bsP rfl))))
 (en_last (en_seq (E := fun (base_75 : Int) => [.dat .old (rp x.1), .dat .new (rp x.2), .own .new (rps s60), .un, .un, .dat .new (rp k_61), .un, .dat .new (rp base_75)]) (en_set (EvE.res (r' := (modP k_61 (s60.length : Int)).bind fun v74 => atI s60 v74) (ev_ix (ev_own (i := 2) (m := .new) (xs := s60) rfl) (EvE.res (r' := modP k_61 (s60.length : Int)) (ev_mod (ev_var (i := 5) (m := .new) (x := k_61) rfl) (EvE.res (r' := some (s60.length : Int)) (ev_len (ev_own (i := 2) (m := .new) (xs := s60) rfl)) (bsP rfl))) (bsP (bsP rfl)))) (bsP (bcP fun _ => rfl)))) (fun base_75 =>
 (en_end (s := base_75) (.cons .id (.cons .id (.cons .id (.cons .id (.cons .id (.cons .id (.cons .id (.cons .id .nil))))))))))))
 (en_end (s := base_65) (.cons .id (.cons .id (.cons .id (.cons .id (.cons .id (.cons .id (.cons .id (.cons .id .nil)))))))))) (fun s77 =>
 (en_last (en_seq (E := fun (found_78 : (List Int)) => [.dat .old (rp x.1), .dat .new (rp x.2), .own .new (rps found_78), .un, .un, .dat .new (rp k_61), .un, .dat .new (rp s77)]) (en_append (i := 2) (m := .new) (xs := s60) (EvE.res (r' := some ((((s77 * 16807) + (31 * (s60.length : Int))) + (17 : Int)) % 1000003)) (ev_modC (EvE.res (r' := some (((s77 * 16807) + (31 * (s60.length : Int))) + (17 : Int))) (ev_arith (EvE.res (r' := some ((s77 * 16807) + (31 * (s60.length : Int)))) (ev_arith (EvE.res (r' := some (s77 * 16807)) (ev_mulC (ev_var (i := 7) (m := .new) (x := s77) rfl)) (bsP rfl)) (EvE.res (r' := some (31 * (s60.length : Int))) (ev_mulCl (EvE.res (r' := some (s60.length : Int)) (ev_len (ev_own (i := 2) (m := .new) (xs := s60) rfl)) (bsP rfl))) (bsP rfl))) (bsP (bsP rfl))) ev_int) (bsP (bsP rfl)))) (bsP rfl)) rfl) (fun found_78 =>
 (en_end (s := found_78) (.cons .id (.cons .id (.cons .id (.cons .id (.cons .id (.cons .un (.cons .id (.cons .un .nil))))))))))))))))
 (en_end (s := s60) (.cons .id (.cons .id (.cons .id (.cons .id (.cons .id (.cons .un (.cons .id (.cons .id .nil)))))))))))) (fun s92 =>
 (er_ret (EvL.E (EvL.res (r' := some (cut s92 none (some x.2))) (ev_sl (ev_own (i := 2) (m := .new) (xs := s92) rfl) eo_no (eo_atP (ev_var (i := 1) (m := .new) (x := x.2) rfl))) (bsP (bsP (bsP rfl)))))))))))) (.cons .id (.cons .sc (.cons .id (.cons .id (.cons .id (.cons .id (.cons .id (.cons .id .nil))))))))
theorem ok_law_gcd (T : Tx K mg) : FnOk P w K mg base CX0 1 T.f_law_gcd.a T.f_law_gcd.d ["first", "second"] (sp2 K f_law_gcd .new) := by
  have sc : FnScope ["first", "second", "rest"] ["first", "second"] (defScope st_law_gcd) := ⟨rfl, rfl, rfl, by decide +kernel, rfl, by decide +kernel, by decide +kernel⟩
  refine T.f_law_gcd.F.ok sc (fun vs H Q E h => spA_len h fun _ => rfl) (fun cdv A outer s H vs Q E hr h => ⟨_, (pss_cons (ps_set (i := 0) sc.nd rfl (by first | exact .inl rfl | exact .inr rfl) (pe_callB call_abs (by rfl) T.n_abs (by decide +kernel) (pa_cons (pv 0) pa_nil)))
 (pss_cons (ps_set (i := 1) sc.nd rfl (by first | exact .inl rfl | exact .inr rfl) (pe_callB call_abs (by rfl) T.n_abs (by decide +kernel) (pa_cons (pv 1) pa_nil)))
 (pss_cons (ps_while PassesOwn.never (pt_cmpR op_ne (pv 1) pe_int (nomark _))
 (pss_cons (ps_set (i := 2) sc.nd rfl (by first | exact .inl rfl | exact .inr rfl) (pe_op op_mod (pv 0) (pv 1)))
 (pss_cons (ps_set (i := 0) sc.nd rfl (by first | exact .inl rfl | exact .inr rfl) (pv 1))
 (pss_one (ps_set (i := 1) sc.nd rfl (by first | exact .inl rfl | exact .inr rfl) (pv 2))))))
 (pss_one (ps_ret (pv 0)))))), of_body (fun x => ?_) (fun _ => Nat.le_of_ble_eq_true rfl) h⟩)
  exact EvR.weakL (er_seq (E := fun (first_2 : Int) => [.dat .new (rp first_2), .dat .new (rp x.2), .un]) (en_set (EvE.res (r' := some (if x.1 < 0 then -x.1 else x.1)) (ev_abs (ev_var (i := 0) (m := .new) (x := x.1) rfl)) (bsP rfl))) (fun first_2 =>
 (er_seq (E := fun (second_4 : Int) => [.dat .new (rp first_2), .dat .new (rp second_4), .un]) (en_set (EvE.res (r' := some (if x.2 < 0 then -x.2 else x.2)) (ev_abs (ev_var (i := 1) (m := .new) (x := x.2) rfl)) (bsP rfl))) (fun second_4 =>
 (er_seq (E := fun (s13 : (Int × Int)) => [.dat .new (rp s13.1), .dat .new (rp s13.2), .un]) (en_while (n := 1000000) (E := fun (s13 : (Int × Int)) => [.dat .new (rp s13.1), .dat .new (rp s13.2), .un]) (s0 := (first_2, second_4)) (.cons .id (.cons .id (.cons .id .nil))) (fun s5 => (et_test (EvE.res (r' := some (decide (s5.2 ≠ (0 : Int)))) (ev_neI (ev_var (i := 1) (m := .new) (x := s5.2) rfl) ev_int) (bsP (bsP rfl))))) (fun s5 =>
 (en_seq (E := fun (rest_10 : Int) => [.dat .new (rp s5.1), .dat .new (rp s5.2), .dat .new (rp rest_10)]) (en_set (EvE.res (r' := modP s5.1 s5.2) (ev_mod (ev_var (i := 0) (m := .new) (x := s5.1) rfl) (ev_var (i := 1) (m := .new) (x := s5.2) rfl)) (bsP (bsP rfl)))) (fun rest_10 =>
 (en_seq (E := fun (first_11 : Int) => [.dat .new (rp first_11), .dat .new (rp s5.2), .dat .new (rp rest_10)]) (en_set (ev_var (i := 1) (m := .new) (x := s5.2) rfl)) (fun first_11 =>
 (en_last (en_seq (E := fun (second_12 : Int) => [.dat .new (rp first_11), .dat .new (rp second_12), .dat .new (rp rest_10)]) (en_set (ev_var (i := 2) (m := .new) (x := rest_10) rfl)) (fun second_12 =>
 (en_end (s := (first_11, second_12)) (.cons .id (.cons .id (.cons .un .nil))))))))))))) (fun s14 =>
 (er_ret (ev_var (i := 0) (m := .new) (x := s14.1) rfl)))))))) (.cons .sc (.cons .sc (.cons .id .nil)))
theorem ok_law_cell (T : Tx K mg) : FnOk P w K mg base CX0 1 T.f_law_cell.a T.f_law_cell.d ["draws", "k"] (sp2 K f_law_cell .new) := by
  have sc : FnScope ["draws", "k"] ["draws", "k"] (defScope st_law_cell) := ⟨rfl, rfl, rfl, by decide +kernel, rfl, by decide +kernel, by decide +kernel⟩
  refine T.f_law_cell.F.ok sc (fun vs H Q E h => spA_len h fun _ => rfl) (fun cdv A outer s H vs Q E hr h => ⟨_, (pss_cons (ps_if (pt_cmpR op_lt (pv 1) (pe_callB call_len_seq (by rfl) T.n_len (by decide +kernel) (pa_cons (pv 0) pa_nil)) (nomark _)) (pss_one (ps_ret (pe_ix ix_list (pv 0) (pv 1) (fun _ _ => rfl)))) pss_nil)
 (pss_one (ps_ret (pe_op op_mod (pe_op op_add (pe_op op_add (pe_op op_mul (pe_ix ix_list (pv 0) (pe_op op_mod (pv 1) (pe_callB call_len_seq (by rfl) T.n_len (by decide +kernel) (pa_cons (pv 0) pa_nil))) (fun _ _ => rfl)) pe_int) (pe_op op_mul (pe_ix ix_list (pv 0) (pe_op op_mod (pe_op op_mul pe_int (pv 1)) (pe_callB call_len_seq (by rfl) T.n_len (by decide +kernel) (pa_cons (pv 0) pa_nil))) (fun _ _ => rfl)) pe_int)) (pe_op op_mul pe_int (pv 1))) pe_int)))), of_body (fun x => ?_) (fun _ => Nat.le_of_ble_eq_true rfl) h⟩)
  exact EvR.weakL (er_ifS (er_ifP (et_test (EvE.res (r' := some (decide (x.2 < (x.1.length : Int)))) (ev_cmpI (ev_var (i := 1) (m := .new) (x := x.2) rfl) (EvE.res (r' := some (x.1.length : Int)) (ev_len (EvB.sc (m1 := .new) (EvE.B (ev_var (i := 0) (m := .old) (x := x.1) rfl)))) (bsP rfl))) (bsP (bsP rfl))))
 (er_cut (er_ret (EvE.res (r' := atI x.1 x.2) (ev_ix (EvB.sc (m1 := .new) (EvE.B (ev_var (i := 0) (m := .old) (x := x.1) rfl))) (ev_var (i := 1) (m := .new) (x := x.2) rfl)) (bsP (bsP rfl)))))
 (er_nx (er_ret (EvE.res (r' := (((((modP x.2 (x.1.length : Int)).bind fun v11 => atI x.1 v11).bind fun v13 => some (v13 * 31)).bind fun v25 => (((modP (7 * x.2) (x.1.length : Int)).bind fun v20 => atI x.1 v20).bind fun v22 => some (v22 * 17)).bind fun v26 => some (v25 + v26)).bind fun v30 => some (v30 + (101 * x.2))).bind fun v32 => some (v32 % 1000003)) (ev_modC (EvE.res (r' := ((((modP x.2 (x.1.length : Int)).bind fun v11 => atI x.1 v11).bind fun v13 => some (v13 * 31)).bind fun v25 => (((modP (7 * x.2) (x.1.length : Int)).bind fun v20 => atI x.1 v20).bind fun v22 => some (v22 * 17)).bind fun v26 => some (v25 + v26)).bind fun v30 => some (v30 + (101 * x.2))) (ev_arith (EvE.res (r' := (((modP x.2 (x.1.length : Int)).bind fun v11 => atI x.1 v11).bind fun v13 => some (v13 * 31)).bind fun v25 => (((modP (7 * x.2) (x.1.length : Int)).bind fun v20 => atI x.1 v20).bind fun v22 => some (v22 * 17)).bind fun v26 => some (v25 + v26)) (ev_arith (EvE.res (r' := ((modP x.2 (x.1.length : Int)).bind fun v11 => atI x.1 v11).bind fun v13 => some (v13 * 31)) (ev_mulC (EvE.res (r' := (modP x.2 (x.1.length : Int)).bind fun v11 => atI x.1 v11) (ev_ix (EvB.sc (m1 := .new) (EvE.B (ev_var (i := 0) (m := .old) (x := x.1) rfl))) (EvE.res (r' := modP x.2 (x.1.length : Int)) (ev_mod (ev_var (i := 1) (m := .new) (x := x.2) rfl) (EvE.res (r' := some (x.1.length : Int)) (ev_len (EvB.sc (m1 := .new) (EvE.B (ev_var (i := 0) (m := .old) (x := x.1) rfl)))) (bsP rfl))) (bsP (bsP rfl)))) (bsP (bcP fun _ => rfl)))) (bcP fun _ => rfl)) (EvE.res (r' := ((modP (7 * x.2) (x.1.length : Int)).bind fun v20 => atI x.1 v20).bind fun v22 => some (v22 * 17)) (ev_mulC (EvE.res (r' := (modP (7 * x.2) (x.1.length : Int)).bind fun v20 => atI x.1 v20) (ev_ix (EvB.sc (m1 := .new) (EvE.B (ev_var (i := 0) (m := .old) (x := x.1) rfl))) (EvE.res (r' := modP (7 * x.2) (x.1.length : Int)) (ev_mod (EvE.res (r' := some (7 * x.2)) (ev_mulCl (ev_var (i := 1) (m := .new) (x := x.2) rfl)) (bsP rfl)) (EvE.res (r' := some (x.1.length : Int)) (ev_len (EvB.sc (m1 := .new) (EvE.B (ev_var (i := 0) (m := .old) (x := x.1) rfl)))) (bsP rfl))) (bsP (bsP rfl)))) (bsP (bcP fun _ => rfl)))) (bcP fun _ => rfl))) (bcP fun _ => (bcP fun _ => rfl))) (EvE.res (r' := some (101 * x.2)) (ev_mulCl (ev_var (i := 1) (m := .new) (x := x.2) rfl)) (bsP rfl))) (bcP fun _ => (bsP rfl)))) (bcP fun _ => rfl)))))) (.cons .id (.cons .sc .nil))
theorem ok_law_word (T : Tx K mg) : FnOk P w K mg base CX0 2 T.f_law_word.a T.f_law_word.d ["draws", "at", "length", "letters"] (sp4 K f_law_word .new) := by
  have sc : FnScope ["draws", "at", "length", "letters", "k"] ["draws", "at", "length", "letters"] (defScope st_law_word) := ⟨rfl, rfl, rfl, by decide +kernel, rfl, by decide +kernel, by decide +kernel⟩
  refine T.f_law_word.F.ok sc (fun vs H Q E h => spA_len h fun _ => rfl) (fun cdv A outer s H vs Q E hr h => ⟨_, (pss_one (ps_ret (pe_lc (own := [("k", 4)]) rfl sc.nd (pi_range1 (by rfl) T.n_range (pa_cons (pv 2) pa_nil)) (blkOk_by (N := ["draws", "at", "length", "letters", "k"]) (sc := defScope st_law_word) (by decide +kernel)) (fun _ _ _ _ _ => (pg_name (i := 4) sc.nd rfl (by first | exact .inl rfl | exact .inr rfl))) (fun _ _ _ _ _ => pts_nil) (fun _ _ _ _ _ => (pe_op op_mod (pe_op op_fdivW (pe_call (ok_law_cell T) (hr.mono (by decide)) (by rfl) T.f_law_cell.g T.f_law_cell.F.kp T.f_law_cell.b .nil pass0 (pa_cons (pv 0) (pa_cons (pe_op op_add (pv 1) (pv 4)) pa_nil))) pe_int) (pv 3)))))), of_body (fun x => ?_) (fun _ => Nat.le_of_ble_eq_true rfl) h⟩)
  exact EvR.weakL (er_ret (EvL.E (EvL.res (r' := (rangeP 0 x.2.2.1).bind fun v13 => (mapO (fun x2 => ((f_law_cell x.1 (x.2.1 + x2)).bind fun v8 => some (v8 / 3)).bind fun v11 => modP v11 x.2.2.2) v13).bind lim) (ev_lcO (vs := [4]) (Eb := fun (x2 : Int) => [.dat .old (rp x.1), .dat .new (rp x.2.1), .dat .new (rp x.2.2.1), .dat .new (rp x.2.2.2), .dat .new (rp x2)]) (EvI.res (r' := rangeP 0 x.2.2.1) (ei_range1 (ev_var (i := 2) (m := .new) (x := x.2.2.1) rfl)) (bsP rfl)) (fun x2 => (eg_nameS (m1 := .new))) (fun x2 => (EvE.res (r' := ((f_law_cell x.1 (x.2.1 + x2)).bind fun v8 => some (v8 / 3)).bind fun v11 => modP v11 x.2.2.2) (ev_mod (EvE.res (r' := (f_law_cell x.1 (x.2.1 + x2)).bind fun v8 => some (v8 / 3)) (ev_divC (EvE.res (r' := f_law_cell x.1 (x.2.1 + x2)) (ev_call2 (ev_var (i := 0) (m := .old) (x := x.1) rfl) (EvE.res (r' := some (x.2.1 + x2)) (ev_arith (ev_var (i := 1) (m := .new) (x := x.2.1) rfl) (ev_var (i := 4) (m := .new) (x := x2) rfl)) (bsP (bsP rfl)))) (bsP (bsP rfl)))) (bcP fun _ => rfl)) (ev_var (i := 3) (m := .new) (x := x.2.2.2) rfl)) (bcP fun _ => (bsP rfl))))) (bcP fun _ => rfl)))) (.cons .id (.cons .sc (.cons .sc (.cons .sc (.cons .id .nil)))))
theorem ok_law_some_word (T : Tx K mg) : FnOk P w K mg base CX0 3 T.f_law_some_word.a T.f_law_some_word.d ["draws", "at"] (sp2 K f_law_some_word .new) := by
  have sc : FnScope ["draws", "at", "letters", "length", "word", "times"] ["draws", "at"] (defScope st_law_some_word) := ⟨rfl, rfl, rfl, by decide +kernel, rfl, by decide +kernel, by decide +kernel⟩
  refine T.f_law_some_word.F.ok sc (fun vs H Q E h => spA_len h fun _ => rfl) (fun cdv A outer s H vs Q E hr h => ⟨_, (pss_cons (ps_set (i := 2) sc.nd rfl (by first | exact .inl rfl | exact .inr rfl) (pe_ix ix_list (pe_lst (pa_cons pe_int (pa_cons pe_int (pa_cons pe_int (pa_cons pe_int (pa_cons pe_int (pa_cons pe_int (pa_cons (pe_op op_pow pe_int pe_int) (pa_cons pe_int pa_nil))))))))) (pe_op op_mod (pe_call (ok_law_cell T) (hr.mono (by decide)) (by rfl) T.f_law_cell.g T.f_law_cell.F.kp T.f_law_cell.b .nil pass0 (pa_cons (pv 0) (pa_cons (pv 1) pa_nil))) pe_int) (fun _ _ => rfl)))
 (pss_cons (ps_set (i := 3) sc.nd rfl (by first | exact .inl rfl | exact .inr rfl) (pe_op op_add pe_int (pe_op op_mod (pe_op op_fdivW (pe_call (ok_law_cell T) (hr.mono (by decide)) (by rfl) T.f_law_cell.g T.f_law_cell.F.kp T.f_law_cell.b .nil pass0 (pa_cons (pv 0) (pa_cons (pv 1) pa_nil))) pe_int) pe_int)))
 (pss_cons (ps_if (pt_cmpR op_eq (pe_op op_mod (pe_op op_fdivW (pe_call (ok_law_cell T) (hr.mono (by decide)) (by rfl) T.f_law_cell.g T.f_law_cell.F.kp T.f_law_cell.b .nil pass0 (pa_cons (pv 0) (pa_cons (pv 1) pa_nil))) pe_int) pe_int) pe_int (nomark _)) (pss_one (ps_set (i := 3) sc.nd rfl (by first | exact .inl rfl | exact .inr rfl) (pe_op op_add pe_int (pe_op op_mod (pe_op op_fdivW (pe_call (ok_law_cell T) (hr.mono (by decide)) (by rfl) T.f_law_cell.g T.f_law_cell.F.kp T.f_law_cell.b .nil pass0 (pa_cons (pv 0) (pa_cons (pv 1) pa_nil))) pe_int) pe_int)))) pss_nil)
 (pss_cons (ps_set (i := 4) sc.nd rfl (by first | exact .inl rfl | exact .inr rfl) (pe_call (ok_law_word T) (hr.mono (by decide)) (by rfl) T.f_law_word.g T.f_law_word.F.kp T.f_law_word.b .nil pass0 (pa_cons (pv 0) (pa_cons (pe_op op_add (pv 1) pe_int) (pa_cons (pv 3) (pa_cons (pv 2) pa_nil))))))
 (pss_cons (ps_set (i := 5) sc.nd rfl (by first | exact .inl rfl | exact .inr rfl) (pe_op op_mod (pe_call (ok_law_cell T) (hr.mono (by decide)) (by rfl) T.f_law_cell.g T.f_law_cell.F.kp T.f_law_cell.b .nil pass0 (pa_cons (pv 0) (pa_cons (pe_op op_add (pv 1) pe_int) pa_nil))) pe_int))
 (pss_cons (ps_if (PW.pt (pw_and (pt_cmpR op_gt (pv 5) pe_int (nomark _)) (pw_and1 (pt_cmpR op_le (pe_op op_mulW (pv 3) (pe_op op_sub (pv 5) pe_int)) pe_int (nomark _))))) (pss_one (ps_set (i := 4) sc.nd rfl (by first | exact .inl rfl | exact .inr rfl) (pe_op op_rep (pv 4) (pe_op op_sub (pv 5) pe_int)))) pss_nil)
 (pss_one (ps_ret (pv 4))))))))), of_body (fun x => ?_) (fun _ => Nat.le_of_ble_eq_true rfl) h⟩)
  exact EvR.weakL (er_seq (E := fun (letters_24 : Int) => [.dat .old (rp x.1), .dat .new (rp x.2), .dat .new (rp letters_24), .un, .un, .un]) (en_set (EvE.res (r' := ((f_law_cell x.1 x.2).bind fun v20 => some (v20 % 8)).bind fun v23 => atI ([(1 : Int), (2 : Int), (2 : Int), (2 : Int), (3 : Int), (4 : Int), (1000000000 : Int), (2 : Int)] : (List Int)) v23) (ev_ix (EvL.B (ev_list (m := .new) (EvXs.res (r' := some ([(1 : Int), (2 : Int), (2 : Int), (2 : Int), (3 : Int), (4 : Int), (1000000000 : Int), (2 : Int)] : (List Int))) (exs_cons ev_int (EvXs.res (r' := some ([(2 : Int), (2 : Int), (2 : Int), (3 : Int), (4 : Int), (1000000000 : Int), (2 : Int)] : (List Int))) (exs_cons ev_int (EvXs.res (r' := some ([(2 : Int), (2 : Int), (3 : Int), (4 : Int), (1000000000 : Int), (2 : Int)] : (List Int))) (exs_cons ev_int (EvXs.res (r' := some ([(2 : Int), (3 : Int), (4 : Int), (1000000000 : Int), (2 : Int)] : (List Int))) (exs_cons ev_int (EvXs.res (r' := some ([(3 : Int), (4 : Int), (1000000000 : Int), (2 : Int)] : (List Int))) (exs_cons ev_int (EvXs.res (r' := some ([(4 : Int), (1000000000 : Int), (2 : Int)] : (List Int))) (exs_cons ev_int (EvXs.res (r' := some ([(1000000000 : Int), (2 : Int)] : (List Int))) (exs_cons (ev_powV (a := 10) (b := 9) (v := 1000000000)) (EvXs.res (r' := some ([(2 : Int)] : (List Int))) (exs_cons ev_int exs_nil) (bsP (bsP rfl)))) (bsP (bsP rfl)))) (bsP (bsP rfl)))) (bsP (bsP rfl)))) (bsP (bsP rfl)))) (bsP (bsP rfl)))) (bsP (bsP rfl)))) (bsP (bsP rfl))))) (EvE.res (r' := (f_law_cell x.1 x.2).bind fun v20 => some (v20 % 8)) (ev_modC (EvE.res (r' := f_law_cell x.1 x.2) (ev_call2 (ev_var (i := 0) (m := .old) (x := x.1) rfl) (ev_var (i := 1) (m := .new) (x := x.2) rfl)) (bsP (bsP rfl)))) (bcP fun _ => rfl))) (bsP (bcP fun _ => rfl)))) (fun letters_24 =>
 (er_seq (E := fun (length_34 : Int) => [.dat .old (rp x.1), .dat .new (rp x.2), .dat .new (rp letters_24), .dat .new (rp length_34), .un, .un]) (en_set (EvE.res (r' := (((f_law_cell x.1 x.2).bind fun v28 => some (v28 / 8)).bind fun v30 => some (v30 % 12)).bind fun v33 => some ((1 : Int) + v33)) (ev_arith ev_int (EvE.res (r' := ((f_law_cell x.1 x.2).bind fun v28 => some (v28 / 8)).bind fun v30 => some (v30 % 12)) (ev_modC (EvE.res (r' := (f_law_cell x.1 x.2).bind fun v28 => some (v28 / 8)) (ev_divC (EvE.res (r' := f_law_cell x.1 x.2) (ev_call2 (ev_var (i := 0) (m := .old) (x := x.1) rfl) (ev_var (i := 1) (m := .new) (x := x.2) rfl)) (bsP (bsP rfl)))) (bcP fun _ => rfl))) (bcP fun _ => rfl))) (bsP (bcP fun _ => rfl)))) (fun length_34 =>
 (er_seq (E := fun (s88 : Int) => [.dat .old (rp x.1), .dat .new (rp x.2), .dat .new (rp letters_24), .dat .new (rp s88), .un, .un]) (en_if (et_test (EvE.res (r' := (((f_law_cell x.1 x.2).bind fun v38 => some (v38 / 96)).bind fun v40 => some (v40 % 16)).bind fun v43 => some (decide (v43 = (5 : Int)))) (ev_eqI (EvE.res (r' := ((f_law_cell x.1 x.2).bind fun v38 => some (v38 / 96)).bind fun v40 => some (v40 % 16)) (ev_modC (EvE.res (r' := (f_law_cell x.1 x.2).bind fun v38 => some (v38 / 96)) (ev_divC (EvE.res (r' := f_law_cell x.1 x.2) (ev_call2 (ev_var (i := 0) (m := .old) (x := x.1) rfl) (ev_var (i := 1) (m := .new) (x := x.2) rfl)) (bsP (bsP rfl)))) (bcP fun _ => rfl))) (bcP fun _ => rfl)) ev_int) (bcP fun _ => (bsP rfl))))
 (en_last (en_seq (E := fun (length_53 : Int) => [.dat .old (rp x.1), .dat .new (rp x.2), .dat .new (rp letters_24), .dat .new (rp length_53), .un, .un]) (en_set (EvE.res (r' := (((f_law_cell x.1 x.2).bind fun v47 => some (v47 / 1536)).bind fun v49 => some (v49 % 188)).bind fun v52 => some ((13 : Int) + v52)) (ev_arith ev_int (EvE.res (r' := ((f_law_cell x.1 x.2).bind fun v47 => some (v47 / 1536)).bind fun v49 => some (v49 % 188)) (ev_modC (EvE.res (r' := (f_law_cell x.1 x.2).bind fun v47 => some (v47 / 1536)) (ev_divC (EvE.res (r' := f_law_cell x.1 x.2) (ev_call2 (ev_var (i := 0) (m := .old) (x := x.1) rfl) (ev_var (i := 1) (m := .new) (x := x.2) rfl)) (bsP (bsP rfl)))) (bcP fun _ => rfl))) (bcP fun _ => rfl))) (bsP (bcP fun _ => rfl)))) (fun length_53 =>
 (en_end (s := length_53) (.cons .id (.cons .id (.cons .id (.cons .id (.cons .id (.cons .id .nil))))))))))
 (en_end (s := length_34) (.cons .id (.cons .id (.cons .id (.cons .id (.cons .id (.cons .id .nil)))))))) (fun s55 =>
 (er_seq (E := fun (word_62 : (List Int)) => [.dat .old (rp x.1), .dat .new (rp x.2), .dat .new (rp letters_24), .dat .new (rp s55), .dat .new (rp word_62), .un]) (en_set (EvE.res (r' := f_law_word x.1 (x.2 + (2 : Int)) s55 letters_24) (ev_call4 (ev_var (i := 0) (m := .old) (x := x.1) rfl) (EvE.res (r' := some (x.2 + (2 : Int))) (ev_arith (ev_var (i := 1) (m := .new) (x := x.2) rfl) ev_int) (bsP (bsP rfl))) (ev_var (i := 3) (m := .new) (x := s55) rfl) (ev_var (i := 2) (m := .new) (x := letters_24) rfl)) (bsP (bsP (bsP (bsP rfl)))))) (fun word_62 =>
 (er_seq (E := fun (times_69 : Int) => [.dat .old (rp x.1), .dat .new (rp x.2), .dat .new (rp letters_24), .dat .new (rp s55), .dat .new (rp word_62), .dat .new (rp times_69)]) (en_set (EvE.res (r' := (f_law_cell x.1 (x.2 + (1 : Int))).bind fun v68 => some (v68 % 6)) (ev_modC (EvE.res (r' := f_law_cell x.1 (x.2 + (1 : Int))) (ev_call2 (ev_var (i := 0) (m := .old) (x := x.1) rfl) (EvE.res (r' := some (x.2 + (1 : Int))) (ev_arith (ev_var (i := 1) (m := .new) (x := x.2) rfl) ev_int) (bsP (bsP rfl)))) (bsP (bsP rfl)))) (bcP fun _ => rfl))) (fun times_69 =>
 (er_seq (E := fun (s87 : (List Int)) => [.dat .old (rp x.1), .dat .new (rp x.2), .dat .new (rp letters_24), .dat .new (rp s55), .dat .new (rp s87), .dat .new (rp times_69)]) (en_if (EvT.res (r' := if (decide ((2 : Int) < times_69)) = true then (mulP s55 (times_69 - (1 : Int))).bind fun v78 => some (decide (v78 ≤ (200 : Int))) else some false) (et_and (et_test (EvE.res (r' := some (decide ((2 : Int) < times_69))) (ev_cmpI (ev_var (i := 5) (m := .new) (x := times_69) rfl) ev_int) (bsP (bsP rfl)))) (et_test (EvE.res (r' := (mulP s55 (times_69 - (1 : Int))).bind fun v78 => some (decide (v78 ≤ (200 : Int)))) (ev_cmpI (EvE.res (r' := mulP s55 (times_69 - (1 : Int))) (ev_mul (ev_var (i := 3) (m := .new) (x := s55) rfl) (EvE.res (r' := some (times_69 - (1 : Int))) (ev_arith (ev_var (i := 5) (m := .new) (x := times_69) rfl) ev_int) (bsP (bsP rfl)))) (bsP (bsP rfl))) ev_int) (bcP fun _ => (bsP rfl))))) (bsP rfl))
 (en_last (en_seq (E := fun (word_84 : (List Int)) => [.dat .old (rp x.1), .dat .new (rp x.2), .dat .new (rp letters_24), .dat .new (rp s55), .dat .new (rp word_84), .dat .new (rp times_69)]) (en_set (EvL.E (EvL.res (r' := repP word_62 (times_69 - (1 : Int))) (ev_rep (EvE.B (ev_var (i := 4) (m := .new) (x := word_62) rfl)) (EvE.res (r' := some (times_69 - (1 : Int))) (ev_arith (ev_var (i := 5) (m := .new) (x := times_69) rfl) ev_int) (bsP (bsP rfl)))) (bsP (bsP rfl))))) (fun word_84 =>
 (en_end (s := word_84) (.cons .id (.cons .id (.cons .id (.cons .id (.cons .id (.cons .id .nil))))))))))
 (en_end (s := word_62) (.cons .id (.cons .id (.cons .id (.cons .id (.cons .id (.cons .id .nil)))))))) (fun s86 =>
 (er_ret (ev_var (i := 4) (m := .new) (x := s86) rfl)))))))))))))) (.cons .id (.cons .sc (.cons .id (.cons .id (.cons .id (.cons .id .nil))))))
theorem ok_law_is_number (T : Tx K mg) : FnOk P w K mg base CX0 1 T.f_law_is_number.a T.f_law_is_number.d ["value"] (sp1 K f_law_is_number .new) := by
  have sc : FnScope ["value"] ["value"] (defScope st_law_is_number) := ⟨rfl, rfl, rfl, by decide +kernel, rfl, by decide +kernel, by decide +kernel⟩
  refine T.f_law_is_number.F.ok sc (fun vs H Q E h => spA_len h fun _ => rfl) (fun cdv A outer s H vs Q E hr h => ⟨_, (pss_one (ps_ret (pe_and (pe_callB call_isi (by rfl) T.n_isinstance (by decide +kernel) (pa_cons (pv 0) (pa_cons (pe_bltn (v := .ty "int") (by rfl) T.n_int (by decide +kernel) rfl) pa_nil))) (pe_one (pe_not (pe_callB call_isi (by rfl) T.n_isinstance (by decide +kernel) (pa_cons (pv 0) (pa_cons (pe_bltn (v := .ty "bool") (by rfl) T.n_bool (by decide +kernel) rfl) pa_nil)))))))), of_body (fun x => ?_) (fun _ => Nat.le_of_ble_eq_true rfl) h⟩)
  exact EvR.weakL (er_ret (ev_andVP (EvE.res (r' := some true) (ev_isi (n := "int") (ev_var (i := 0) (m := .new) (x := x) rfl)) (bsP rfl)) (EvE.res (r' := some (!false)) (ev_notV (EvE.res (r' := some false) (ev_isi (n := "bool") (ev_var (i := 0) (m := .new) (x := x) rfl)) (bsP rfl))) rfl))) (.cons .sc .nil)
theorem ok_law_is_numbers (T : Tx K mg) : FnOk P w K mg base CX0 2 T.f_law_is_numbers.a T.f_law_is_numbers.d ["value"] (sp1 K f_law_is_numbers .new) := by
  have sc : FnScope ["value", "item"] ["value"] (defScope st_law_is_numbers) := ⟨rfl, rfl, rfl, by decide +kernel, rfl, by decide +kernel, by decide +kernel⟩
  refine T.f_law_is_numbers.F.ok sc (fun vs H Q E h => spA_len h fun _ => rfl) (fun cdv A outer s H vs Q E hr h => ⟨_, (pss_cons (ps_if (pt_not (pt_val (pe_callB call_isi (by rfl) T.n_isinstance (by decide +kernel) (pa_cons (pv 0) (pa_cons (pe_bltn (v := .ty "list") (by rfl) T.n_list (by decide +kernel) rfl) pa_nil))))) (pss_one (ps_ret pe_bl)) pss_nil)
 (pss_cons (ps_for PassesOwn.never rfl (pi_list (pv 0)) (pg_name (i := 1) sc.nd rfl (by first | exact .inl rfl | exact .inr rfl))
 (pss_one (ps_if (pt_not (pt_val (pe_call (ok_law_is_number T) (hr.mono (by decide)) (by rfl) T.f_law_is_number.g T.f_law_is_number.F.kp T.f_law_is_number.b .nil pass0 (pa_cons (pv 1) pa_nil)))) (pss_one (ps_ret pe_bl)) pss_nil)))
 (pss_one (ps_ret pe_bl)))), of_body (fun x => ?_) (fun _ => Nat.le_of_ble_eq_true rfl) h⟩)
  exact EvR.weakL (er_ifS (er_ifP (EvT.res (r' := some (!true)) (et_not (et_val (EvE.res (r' := some true) (ev_isi (n := "list") (ev_var (i := 0) (m := .old) (x := x) rfl)) (bsP rfl)))) rfl)
 (er_cut (er_ret ev_bl))
 (er_nx (er_seqF (T := Unit) (L := fun _ => []) (E := fun (s5 : Unit) => [.dat .old (rp x), .un]) (ef_forP (E := fun (s5 : Unit) => [.dat .old (rp x), .un]) (s0 := ()) (Eb := fun (s2 : Unit) (item_3 : Int) => [.dat .old (rp x), .dat .new (rp item_3)]) (vs := [1]) (EvI.sc (m1 := .new) (ei_list (ev_var (i := 0) (m := .old) (x := x) rfl))) (.cons .id (.cons .id .nil)) (fun s2 item_3 => (eg_nameS (m1 := .new))) (fun s2 item_3 =>
 (ef_if (et_not (et_val (EvE.res (r' := f_law_is_number item_3) (ev_call1 (ev_var (i := 1) (m := .new) (x := item_3) rfl)) (bsP rfl))))
 (EvR.FP (er_ret ev_bl))
 (ef_end (s := ()) (.cons .id (.cons .un .nil)))))) (fun s7 =>
 (er_ret ev_bl)))))) (.cons .id (.cons .id .nil))
theorem ok_has_period (T : Tx K mg) : FnOk P w K mg base CX0 1 T.f_has_period.a T.f_has_period.d ["word", "period"] (sp2 K f_has_period .new) := by
  have sc : FnScope ["word", "period", "at"] ["word", "period"] (defScope st_has_period) := ⟨rfl, rfl, rfl, by decide +kernel, rfl, by decide +kernel, by decide +kernel⟩
  refine T.f_has_period.F.ok sc (fun vs H Q E h => spA_len h fun _ => rfl) (fun cdv A outer s H vs Q E hr h => ⟨_, (pss_cons (ps_for PassesOwn.never rfl (pi_range1 (by rfl) T.n_range (pa_cons (pe_op op_sub (pe_callB call_len_seq (by rfl) T.n_len (by decide +kernel) (pa_cons (pv 0) pa_nil)) (pv 1)) pa_nil)) (pg_name (i := 2) sc.nd rfl (by first | exact .inl rfl | exact .inr rfl))
 (pss_one (ps_if (pt_cmpR op_ne (pe_ix ix_list (pv 0) (pv 2) (fun _ _ => rfl)) (pe_ix ix_list (pv 0) (pe_op op_add (pv 2) (pv 1)) (fun _ _ => rfl)) (nomark _)) (pss_one (ps_ret pe_bl)) pss_nil)))
 (pss_one (ps_ret pe_bl))), of_body (fun x => ?_) (fun _ => Nat.le_of_ble_eq_true rfl) h⟩)
  exact EvR.weakL (er_seqF (T := Unit) (L := fun _ => []) (E := fun (s18 : Unit) => [.dat .old (rp x.1), .dat .new (rp x.2), .un]) (ef_for (E := fun (s18 : Unit) => [.dat .old (rp x.1), .dat .new (rp x.2), .un]) (s0 := ()) (Eb := fun (s5 : Unit) (at_6 : Int) => [.dat .old (rp x.1), .dat .new (rp x.2), .dat .new (rp at_6)]) (vs := [2]) (EvI.res (r' := rangeP 0 ((x.1.length : Int) - x.2)) (ei_range1 (EvE.res (r' := some ((x.1.length : Int) - x.2)) (ev_arith (EvE.res (r' := some (x.1.length : Int)) (ev_len (EvB.sc (m1 := .new) (EvE.B (ev_var (i := 0) (m := .old) (x := x.1) rfl)))) (bsP rfl)) (ev_var (i := 1) (m := .new) (x := x.2) rfl)) (bsP (bsP rfl)))) (bsP rfl)) (.cons .id (.cons .id (.cons .id .nil))) (fun s5 at_6 => (eg_nameS (m1 := .new))) (fun s5 at_6 =>
 (ef_if (et_test (EvE.res (r' := (atI x.1 at_6).bind fun v15 => (atI x.1 (at_6 + x.2)).bind fun v16 => some (decide (v15 ≠ v16))) (ev_neI (EvE.res (r' := atI x.1 at_6) (ev_ix (EvB.sc (m1 := .new) (EvE.B (ev_var (i := 0) (m := .old) (x := x.1) rfl))) (ev_var (i := 2) (m := .new) (x := at_6) rfl)) (bsP (bsP rfl))) (EvE.res (r' := atI x.1 (at_6 + x.2)) (ev_ix (EvB.sc (m1 := .new) (EvE.B (ev_var (i := 0) (m := .old) (x := x.1) rfl))) (EvE.res (r' := some (at_6 + x.2)) (ev_arith (ev_var (i := 2) (m := .new) (x := at_6) rfl) (ev_var (i := 1) (m := .new) (x := x.2) rfl)) (bsP (bsP rfl)))) (bsP (bsP rfl)))) (bcP fun _ => (bcP fun _ => rfl))))
 (EvR.FP (er_ret ev_bl))
 (ef_end (s := ()) (.cons .id (.cons .id (.cons .un .nil))))))) (fun s20 =>
 (er_ret ev_bl))) (.cons .id (.cons .sc (.cons .id .nil)))
theorem ok_periods_of (T : Tx K mg) : FnOk P w K mg base CX0 2 T.f_periods_of.a T.f_periods_of.d ["word"] (sp1 K f_periods_of .new) := by
  have sc : FnScope ["word", "period"] ["word"] (defScope st_periods_of) := ⟨rfl, rfl, rfl, by decide +kernel, rfl, by decide +kernel, by decide +kernel⟩
  refine T.f_periods_of.F.ok sc (fun vs H Q E h => spA_len h fun _ => rfl) (fun cdv A outer s H vs Q E hr h => ⟨_, (pss_one (ps_ret (pe_lc (own := [("period", 1)]) rfl sc.nd (pi_range2 (by rfl) T.n_range (pa_cons pe_int (pa_cons (pe_callB call_len_seq (by rfl) T.n_len (by decide +kernel) (pa_cons (pv 0) pa_nil)) pa_nil))) (blkOk_by (N := ["word", "period"]) (sc := defScope st_periods_of) (by decide +kernel)) (fun _ _ _ _ _ => (pg_name (i := 1) sc.nd rfl (by first | exact .inl rfl | exact .inr rfl))) (fun _ _ _ _ _ => (pts_one (pt_val (pe_call (ok_has_period T) (hr.mono (by decide)) (by rfl) T.f_has_period.g T.f_has_period.F.kp T.f_has_period.b .nil pass0 (pa_cons (pv 0) (pa_cons (pv 1) pa_nil)))))) (fun _ _ _ _ _ => (pv 1))))), of_body (fun x => ?_) (fun _ => Nat.le_of_ble_eq_true rfl) h⟩)
  exact EvR.weakL (er_ret (EvL.E (EvL.res (r' := (rangeP (1 : Int) (x.length : Int)).bind fun v8 => (compM (fun x4 => f_has_period x x4) (fun x4 => some x4) v8).bind lim) (ev_lc (vs := [1]) (Eb := fun (x4 : Int) => [.dat .old (rp x), .dat .new (rp x4)]) (EvI.res (r' := rangeP (1 : Int) (x.length : Int)) (ei_range2 ev_int (EvE.res (r' := some (x.length : Int)) (ev_len (EvB.sc (m1 := .new) (EvE.B (ev_var (i := 0) (m := .old) (x := x) rfl)))) (bsP rfl))) (bsP (bsP rfl))) (fun x4 => (eg_nameS (m1 := .new))) (fun x4 => (et_val (EvE.res (r' := f_has_period x x4) (ev_call2 (ev_var (i := 0) (m := .old) (x := x) rfl) (ev_var (i := 1) (m := .new) (x := x4) rfl)) (bsP (bsP rfl))))) (fun x4 => (ev_var (i := 1) (m := .new) (x := x4) rfl))) (bcP fun _ => rfl)))) (.cons .id (.cons .id .nil))
theorem ok_law_told (T : Tx K mg) : FnOk P w K mg base CX0 3 T.f_law_told.a T.f_law_told.d ["word"] (sp1 K f_law_told .new) := by
  have sc : FnScope ["word", "due", "passed", "told", "k"] ["word"] (defScope st_law_told) := ⟨rfl, rfl, rfl, by decide +kernel, rfl, by decide +kernel, by decide +kernel⟩
  refine T.f_law_told.F.ok sc (fun vs H Q E h => spA_len h fun _ => rfl) (fun cdv A outer s H vs Q E hr h => ⟨_, (pss_cons (ps_setLc (i := 1) (own := [("k", 4)]) rfl sc.nd rfl rfl (sw_true rfl rfl rfl (by decide +kernel)) (pi_range2 (by rfl) T.n_range (pa_cons pe_int (pa_cons (pe_callB call_len_seq (by rfl) T.n_len (by decide +kernel) (pa_cons (pv 0) pa_nil)) pa_nil))) (blkOk_by (N := ["word", "due", "passed", "told", "k"]) (sc := defScope st_law_told) (by decide +kernel)) (fun _ _ _ _ _ => (pg_name (i := 4) sc.nd rfl (by first | exact .inl rfl | exact .inr rfl))) (fun _ _ _ _ _ => (pts_one (pt_cmpR (op_eqDK K hr.units) (pe_slice (sl_listK K ) (pv 0) (po_some (pv 4)) po_none) (pe_slice (sl_listK K ) (pv 0) po_none (po_some (pe_op op_sub (pe_callB (call_len_seqK K ) (by rfl) T.n_len (by decide +kernel) (pa_cons (pv 0) pa_nil)) (pv 4)))) (nomark _)))) (fun _ _ _ _ _ => (pv 4)))
 (pss_cons (ps_set (i := 2) sc.nd rfl (by first | exact .inl rfl | exact .inr rfl) (pe_callTy call_list_of (by rfl) T.n_list (by decide +kernel) (pa_cons (pv 0) pa_nil)))
 (pss_cons (ps_set (i := 3) sc.nd rfl (by first | exact .inl rfl | exact .inr rfl) (pe_call (ok_periods_of T) (hr.mono (by decide)) (by rfl) T.f_periods_of.g T.f_periods_of.F.kp T.f_periods_of.b .nil pass0 (pa_cons (pv 2) pa_nil)))
 (pss_cons (ps_if (PW.pt (pw_or (pt_cmpR (op_neD hr.units) (pv 2) (pv 0) (nomark _)) (pw_or (pt_not (pt_val (pe_call (ok_law_is_numbers T) (hr.mono (by decide)) (by rfl) T.f_law_is_numbers.g T.f_law_is_numbers.F.kp T.f_law_is_numbers.b .nil pass0 (pa_cons (pv 3) pa_nil)))) (pw_or1 (pt_cmpR (op_neD hr.units) (pv 3) (pv 1) (nomark _)))))) (pss_one (ps_ret pe_non)) pss_nil)
 (pss_cons (ps_expr (pe_bm PySem.F.plainAttrs_list PySem.F.slot_list_append PySem.F.type_list_append mt_append (pv 3) (pa_cons pe_int pa_nil)))
 (pss_cons (ps_if (pt_cmpR (op_neD hr.units) (pe_call (ok_periods_of T) (hr.mono (by decide)) (by rfl) T.f_periods_of.g T.f_periods_of.F.kp T.f_periods_of.b .nil pass0 (pa_cons (pv 2) pa_nil)) (pv 1) (nomark _)) (pss_one (ps_ret pe_non)) pss_nil)
 (pss_one (ps_ret (pv 1))))))))), of_body (fun x => ?_) (fun _ => Nat.le_of_ble_eq_true rfl) h⟩)
  exact EvR.weakL (er_seq (E := fun (due_18 : (List Int)) => [.dat .old (rp x), .dat .new (rp due_18), .un, .un, .un]) (en_set (EvL.E (EvL.res (r' := (rangeP (1 : Int) (x.length : Int)).bind fun v17 => (compM (fun x4 => eqD (rp (cut x (some x4) none)) (rp (cut x none (some ((x.length : Int) - x4))))) (fun x4 => some x4) v17).bind lim) (ev_lc (vs := [4]) (Eb := fun (x4 : Int) => [.dat .old (rp x), .un, .un, .un, .dat .new (rp x4)]) (EvI.res (r' := rangeP (1 : Int) (x.length : Int)) (ei_range2 ev_int (EvE.res (r' := some (x.length : Int)) (ev_len (EvB.sc (m1 := .new) (EvE.B (ev_var (i := 0) (m := .old) (x := x) rfl)))) (bsP rfl))) (bsP (bsP rfl))) (fun x4 => (eg_nameS (m1 := .new))) (fun x4 => (et_test (EvE.res (r' := eqD (rp (cut x (some x4) none)) (rp (cut x none (some ((x.length : Int) - x4))))) (ev_eqL (EvL.B (EvL.res (r' := some (cut x (some x4) none)) (ev_sl (EvB.sc (m1 := .new) (EvE.B (ev_var (i := 0) (m := .old) (x := x) rfl))) (eo_atP (ev_var (i := 4) (m := .new) (x := x4) rfl)) eo_no) (bsP (bsP (bsP rfl))))) (EvL.B (EvL.res (r' := some (cut x none (some ((x.length : Int) - x4)))) (ev_sl (EvB.sc (m1 := .new) (EvE.B (ev_var (i := 0) (m := .old) (x := x) rfl))) eo_no (eo_atP (EvE.res (r' := some ((x.length : Int) - x4)) (ev_arith (EvE.res (r' := some (x.length : Int)) (ev_len (EvB.sc (m1 := .new) (EvE.B (ev_var (i := 0) (m := .old) (x := x) rfl)))) (bsP rfl)) (ev_var (i := 4) (m := .new) (x := x4) rfl)) (bsP (bsP rfl))))) (bsP (bsP (bsP rfl)))))) (bsP (bsP rfl))))) (fun x4 => (ev_var (i := 4) (m := .new) (x := x4) rfl))) (bcP fun _ => rfl)))) (fun due_18 =>
 (er_seq (E := fun (passed_19 : (List Int)) => [.dat .old (rp x), .dat .new (rp due_18), .dat .new (rp passed_19), .un, .un]) (en_set (EvL.E (ev_listOf (EvB.sc (m1 := .new) (EvE.B (ev_var (i := 0) (m := .old) (x := x) rfl)))))) (fun passed_19 =>
 (er_seq (E := fun (told_20 : (List Int)) => [.dat .old (rp x), .dat .new (rp due_18), .dat .new (rp passed_19), .own .new (rps told_20), .un]) (en_own (EvL.res (r' := f_periods_of passed_19) (ev_callL1 (m := .new) (ev_var (i := 2) (m := .new) (x := passed_19) rfl)) (bsP rfl))) (fun told_20 =>
 (er_ifS (er_if (et_or (et_test (EvE.res (r' := (eqD (rp passed_19) (rp x)).map fun b => !b) (ev_neL (EvE.B (ev_var (i := 2) (m := .new) (x := passed_19) rfl)) (EvB.sc (m1 := .new) (EvE.B (ev_var (i := 0) (m := .old) (x := x) rfl)))) (bsP (bsP rfl)))) (et_or (et_not (et_val (EvE.res (r' := f_law_is_numbers told_20) (ev_callP1 (ep_own (i := 3) (m := .new) (xs := told_20) rfl)) (bsP rfl)))) (et_test (EvE.res (r' := (eqD (rp told_20) (rp due_18)).map fun b => !b) (ev_neL (ev_own (i := 3) (m := .new) (xs := told_20) rfl) (EvE.B (ev_var (i := 1) (m := .new) (x := due_18) rfl))) (bsP (bsP rfl))))))
 (er_cut (er_ret ev_non))
 (er_nx (er_seq (E := fun (told_27 : (List Int)) => [.dat .old (rp x), .dat .new (rp due_18), .dat .new (rp passed_19), .own .new (rps told_27), .un]) (en_append (i := 3) (m := .new) (xs := told_20) ev_int rfl) (fun told_27 =>
 (er_ifS (er_if (et_test (EvE.res (r' := (f_periods_of passed_19).bind fun v31 => (eqD (rp v31) (rp due_18)).map fun b => !b) (ev_neL (EvE.B (EvE.res (r' := f_periods_of passed_19) (ev_call1 (ev_var (i := 2) (m := .new) (x := passed_19) rfl)) (bsP rfl))) (EvE.B (ev_var (i := 1) (m := .new) (x := due_18) rfl))) (bcP fun _ => (bsP rfl))))
 (er_cut (er_ret ev_non))
 (er_nx (er_ret (EvE.res (r' := some (some due_18)) (EvE.cast some (ev_var (i := 1) (m := .new) (x := due_18) rfl)) rfl)))))))))))))))) (.cons .id (.cons .id (.cons .id (.cons .id (.cons .id .nil)))))
theorem ok_law_with (T : Tx K mg) : FnOk P w K mg base CX0 1 T.f_law_with.a T.f_law_with.d ["line", "at", "item"] (sp3 K f_law_with .new) := by
  have sc : FnScope ["line", "at", "item"] ["line", "at", "item"] (defScope st_law_with) := ⟨rfl, rfl, rfl, by decide +kernel, rfl, by decide +kernel, by decide +kernel⟩
  refine T.f_law_with.F.ok sc (fun vs H Q E h => spA_len h fun _ => rfl) (fun cdv A outer s H vs Q E hr h => ⟨_, (pss_one (ps_ret (pe_op op_cat (pe_op op_cat (pe_slice sl_list (pv 0) po_none (po_some (pv 1))) (pe_lst (pa_cons (pv 2) pa_nil))) (pe_slice sl_list (pv 0) (po_some (pe_op op_add (pv 1) pe_int)) po_none)))), of_body (fun x => ?_) (fun _ => Nat.le_of_ble_eq_true rfl) h⟩)
  exact EvR.weakL (er_ret (EvL.E (EvL.res (r' := (lim ((cut x.1 none (some x.2.1)) ++ ([x.2.2] : (List Int)))).bind fun v15 => lim (v15 ++ (cut x.1 (some (x.2.1 + (1 : Int))) none))) (ev_cat (EvL.B (EvL.res (r' := lim ((cut x.1 none (some x.2.1)) ++ ([x.2.2] : (List Int)))) (ev_cat (EvL.B (EvL.res (r' := some (cut x.1 none (some x.2.1))) (ev_sl (EvB.sc (m1 := .new) (EvE.B (ev_var (i := 0) (m := .old) (x := x.1) rfl))) eo_no (eo_atP (ev_var (i := 1) (m := .new) (x := x.2.1) rfl))) (bsP (bsP (bsP rfl))))) (EvL.B (ev_list (m := .new) (EvXs.res (r' := some ([x.2.2] : (List Int))) (exs_cons (ev_var (i := 2) (m := .new) (x := x.2.2) rfl) exs_nil) (bsP (bsP rfl)))))) (bsP (bsP rfl)))) (EvL.B (EvL.res (r' := some (cut x.1 (some (x.2.1 + (1 : Int))) none)) (ev_sl (EvB.sc (m1 := .new) (EvE.B (ev_var (i := 0) (m := .old) (x := x.1) rfl))) (eo_atP (EvE.res (r' := some (x.2.1 + (1 : Int))) (ev_arith (ev_var (i := 1) (m := .new) (x := x.2.1) rfl) ev_int) (bsP (bsP rfl)))) eo_no) (bsP (bsP (bsP rfl)))))) (bcP fun _ => (bsP rfl))))) (.cons .id (.cons .sc (.cons .sc .nil)))
theorem ok_law_with_periods (T : Tx K mg) : FnOk P w K mg base CX0 2 T.f_law_with_periods.a T.f_law_with_periods.d ["draws", "at"] (sp2 K f_law_with_periods .new) := by
  have sc : FnScope ["draws", "at", "length", "first", "second", "word", "k"] ["draws", "at"] (defScope st_law_with_periods) := ⟨rfl, rfl, rfl, by decide +kernel, rfl, by decide +kernel, by decide +kernel⟩
  refine T.f_law_with_periods.F.ok sc (fun vs H Q E h => spA_len h fun _ => rfl) (fun cdv A outer s H vs Q E hr h => ⟨_, (pss_cons (ps_set (i := 2) sc.nd rfl (by first | exact .inl rfl | exact .inr rfl) (pe_op op_add pe_int (pe_op op_mod (pe_call (ok_law_cell T) (hr.mono (by decide)) (by rfl) T.f_law_cell.g T.f_law_cell.F.kp T.f_law_cell.b .nil pass0 (pa_cons (pv 0) (pa_cons (pv 1) pa_nil))) pe_int)))
 (pss_cons (ps_par (i := 3) (j := 4) rfl sc.nd rfl rfl (by decide) rfl rfl (pa_cons (pe_op op_add pe_int (pe_op op_mod (pe_call (ok_law_cell T) (hr.mono (by decide)) (by rfl) T.f_law_cell.g T.f_law_cell.F.kp T.f_law_cell.b .nil pass0 (pa_cons (pv 0) (pa_cons (pe_op op_add (pv 1) pe_int) pa_nil))) pe_int)) (pa_cons (pe_op op_add pe_int (pe_op op_mod (pe_call (ok_law_cell T) (hr.mono (by decide)) (by rfl) T.f_law_cell.g T.f_law_cell.F.kp T.f_law_cell.b .nil pass0 (pa_cons (pv 0) (pa_cons (pe_op op_add (pv 1) pe_int) pa_nil))) pe_int)) pa_nil)) (by rfl))
 (pss_cons (ps_set (i := 5) sc.nd rfl (by first | exact .inl rfl | exact .inr rfl) (pe_lst pa_nil))
 (pss_cons (ps_for PassesOwn.never rfl (pi_range1 (by rfl) T.n_range (pa_cons (pv 2) pa_nil)) (pg_name (i := 6) sc.nd rfl (by first | exact .inl rfl | exact .inr rfl))
 (pss_one (ps_if (PW.pt (pw_and (pt_cmpR op_ge (pv 6) (pv 3) (nomark _)) (pw_and1 (PW.pt (pw_or (pt_cmpR op_lt (pv 6) (pv 4) (nomark _)) (pw_or1 (pt_cmpR op_eq (pe_ix ix_list (pv 5) (pe_op op_sub (pv 6) (pv 3)) (fun _ _ => rfl)) (pe_ix ix_list (pv 5) (pe_op op_sub (pv 6) (pv 4)) (fun _ _ => rfl)) (nomark _)))))))) (pss_one (ps_expr (pe_bm PySem.F.plainAttrs_list PySem.F.slot_list_append PySem.F.type_list_append mt_append (pv 5) (pa_cons (pe_ix ix_list (pv 5) (pe_op op_sub (pv 6) (pv 3)) (fun _ _ => rfl)) pa_nil)))) (pss_one (ps_if (pt_cmpR op_ge (pv 6) (pv 4) (nomark _)) (pss_one (ps_expr (pe_bm PySem.F.plainAttrs_list PySem.F.slot_list_append PySem.F.type_list_append mt_append (pv 5) (pa_cons (pe_ix ix_list (pv 5) (pe_op op_sub (pv 6) (pv 4)) (fun _ _ => rfl)) pa_nil)))) (pss_one (ps_expr (pe_bm PySem.F.plainAttrs_list PySem.F.slot_list_append PySem.F.type_list_append mt_append (pv 5) (pa_cons (pe_op op_mod (pe_call (ok_law_cell T) (hr.mono (by decide)) (by rfl) T.f_law_cell.g T.f_law_cell.F.kp T.f_law_cell.b .nil pass0 (pa_cons (pv 0) (pa_cons (pe_op op_add (pe_op op_add (pv 1) pe_int) (pv 6)) pa_nil))) pe_int) pa_nil)))))))))
 (pss_one (ps_ret (pv 5))))))), of_body (fun x => ?_) (fun _ => Nat.le_of_ble_eq_true rfl) h⟩)
  exact EvR.weakL (er_seq (E := fun (length_8 : Int) => [.dat .old (rp x.1), .dat .new (rp x.2), .dat .new (rp length_8), .un, .un, .un, .un]) (en_set (EvE.res (r' := ((f_law_cell x.1 x.2).bind fun v4 => some (v4 % 24)).bind fun v7 => some ((1 : Int) + v7)) (ev_arith ev_int (EvE.res (r' := (f_law_cell x.1 x.2).bind fun v4 => some (v4 % 24)) (ev_modC (EvE.res (r' := f_law_cell x.1 x.2) (ev_call2 (ev_var (i := 0) (m := .old) (x := x.1) rfl) (ev_var (i := 1) (m := .new) (x := x.2) rfl)) (bsP (bsP rfl)))) (bcP fun _ => rfl))) (bsP (bcP fun _ => rfl)))) (fun length_8 =>
 (er_seq (E := fun (p31 : (Int × Int)) => [.dat .old (rp x.1), .dat .new (rp x.2), .dat .new (rp length_8), .dat .new (rp p31.1), .dat .new (rp p31.2), .un, .un]) (en_par (EvE.res (r' := ((f_law_cell x.1 (x.2 + (1 : Int))).bind fun v14 => some (v14 % 9)).bind fun v17 => some ((1 : Int) + v17)) (ev_arith ev_int (EvE.res (r' := (f_law_cell x.1 (x.2 + (1 : Int))).bind fun v14 => some (v14 % 9)) (ev_modC (EvE.res (r' := f_law_cell x.1 (x.2 + (1 : Int))) (ev_call2 (ev_var (i := 0) (m := .old) (x := x.1) rfl) (EvE.res (r' := some (x.2 + (1 : Int))) (ev_arith (ev_var (i := 1) (m := .new) (x := x.2) rfl) ev_int) (bsP (bsP rfl)))) (bsP (bsP rfl)))) (bcP fun _ => rfl))) (bsP (bcP fun _ => rfl))) (EvE.res (r' := ((f_law_cell x.1 (x.2 + (2 : Int))).bind fun v23 => some (v23 % 9)).bind fun v26 => some ((1 : Int) + v26)) (ev_arith ev_int (EvE.res (r' := (f_law_cell x.1 (x.2 + (2 : Int))).bind fun v23 => some (v23 % 9)) (ev_modC (EvE.res (r' := f_law_cell x.1 (x.2 + (2 : Int))) (ev_call2 (ev_var (i := 0) (m := .old) (x := x.1) rfl) (EvE.res (r' := some (x.2 + (2 : Int))) (ev_arith (ev_var (i := 1) (m := .new) (x := x.2) rfl) ev_int) (bsP (bsP rfl)))) (bsP (bsP rfl)))) (bcP fun _ => rfl))) (bsP (bcP fun _ => rfl)))) (fun p31 =>
 (er_seq (E := fun (word_32 : (List Int)) => [.dat .old (rp x.1), .dat .new (rp x.2), .dat .new (rp length_8), .dat .new (rp p31.1), .dat .new (rp p31.2), .own .new (rps word_32), .un]) (en_own (ev_list (m := .new) exs_nil)) (fun word_32 =>
 (er_seq (E := fun (s83 : (List Int)) => [.dat .old (rp x.1), .dat .new (rp x.2), .dat .new (rp length_8), .dat .new (rp p31.1), .dat .new (rp p31.2), .own .new (rps s83), .un]) (en_for (E := fun (s83 : (List Int)) => [.dat .old (rp x.1), .dat .new (rp x.2), .dat .new (rp length_8), .dat .new (rp p31.1), .dat .new (rp p31.2), .own .new (rps s83), .un]) (s0 := word_32) (Eb := fun (s34 : (List Int)) (k_35 : Int) => [.dat .old (rp x.1), .dat .new (rp x.2), .dat .new (rp length_8), .dat .new (rp p31.1), .dat .new (rp p31.2), .own .new (rps s34), .dat .new (rp k_35)]) (vs := [6]) (EvI.res (r' := rangeP 0 length_8) (ei_range1 (ev_var (i := 2) (m := .new) (x := length_8) rfl)) (bsP rfl)) (.cons .id (.cons .id (.cons .id (.cons .id (.cons .id (.cons .id (.cons .id .nil))))))) (fun s34 k_35 => (eg_nameS (m1 := .new))) (fun s34 k_35 =>
 (en_if (EvT.res (r' := if (decide (p31.1 ≤ k_35)) = true then if (decide (k_35 < p31.2)) = true then some true else (atI s34 (k_35 - p31.1)).bind fun v50 => (atI s34 (k_35 - p31.2)).bind fun v51 => some (decide (v50 = v51)) else some false) (et_and (et_test (EvE.res (r' := some (decide (p31.1 ≤ k_35))) (ev_cmpI (ev_var (i := 6) (m := .new) (x := k_35) rfl) (ev_var (i := 3) (m := .new) (x := p31.1) rfl)) (bsP (bsP rfl)))) (EvT.res (r' := if (decide (k_35 < p31.2)) = true then some true else (atI s34 (k_35 - p31.1)).bind fun v50 => (atI s34 (k_35 - p31.2)).bind fun v51 => some (decide (v50 = v51))) (et_or (et_test (EvE.res (r' := some (decide (k_35 < p31.2))) (ev_cmpI (ev_var (i := 6) (m := .new) (x := k_35) rfl) (ev_var (i := 4) (m := .new) (x := p31.2) rfl)) (bsP (bsP rfl)))) (et_test (EvE.res (r' := (atI s34 (k_35 - p31.1)).bind fun v50 => (atI s34 (k_35 - p31.2)).bind fun v51 => some (decide (v50 = v51))) (ev_eqI (EvE.res (r' := atI s34 (k_35 - p31.1)) (ev_ix (ev_own (i := 5) (m := .new) (xs := s34) rfl) (EvE.res (r' := some (k_35 - p31.1)) (ev_arith (ev_var (i := 6) (m := .new) (x := k_35) rfl) (ev_var (i := 3) (m := .new) (x := p31.1) rfl)) (bsP (bsP rfl)))) (bsP (bsP rfl))) (EvE.res (r' := atI s34 (k_35 - p31.2)) (ev_ix (ev_own (i := 5) (m := .new) (xs := s34) rfl) (EvE.res (r' := some (k_35 - p31.2)) (ev_arith (ev_var (i := 6) (m := .new) (x := k_35) rfl) (ev_var (i := 4) (m := .new) (x := p31.2) rfl)) (bsP (bsP rfl)))) (bsP (bsP rfl)))) (bcP fun _ => (bcP fun _ => rfl))))) (bsP rfl))) (bsP rfl))
 (en_last (en_seq (E := fun (word_54 : (List Int)) => [.dat .old (rp x.1), .dat .new (rp x.2), .dat .new (rp length_8), .dat .new (rp p31.1), .dat .new (rp p31.2), .own .new (rps word_54), .dat .new (rp k_35)]) (en_append (i := 5) (m := .new) (xs := s34) (EvE.res (r' := atI s34 (k_35 - p31.1)) (ev_ix (ev_own (i := 5) (m := .new) (xs := s34) rfl) (EvE.res (r' := some (k_35 - p31.1)) (ev_arith (ev_var (i := 6) (m := .new) (x := k_35) rfl) (ev_var (i := 3) (m := .new) (x := p31.1) rfl)) (bsP (bsP rfl)))) (bsP (bsP rfl))) rfl) (fun word_54 =>
 (en_end (s := word_54) (.cons .id (.cons .id (.cons .id (.cons .id (.cons .id (.cons .id (.cons .un .nil)))))))))))
 (en_ifP (et_test (EvE.res (r' := some (decide (p31.2 ≤ k_35))) (ev_cmpI (ev_var (i := 6) (m := .new) (x := k_35) rfl) (ev_var (i := 4) (m := .new) (x := p31.2) rfl)) (bsP (bsP rfl))))
 (en_last (en_seq (E := fun (word_63 : (List Int)) => [.dat .old (rp x.1), .dat .new (rp x.2), .dat .new (rp length_8), .dat .new (rp p31.1), .dat .new (rp p31.2), .own .new (rps word_63), .dat .new (rp k_35)]) (en_append (i := 5) (m := .new) (xs := s34) (EvE.res (r' := atI s34 (k_35 - p31.2)) (ev_ix (ev_own (i := 5) (m := .new) (xs := s34) rfl) (EvE.res (r' := some (k_35 - p31.2)) (ev_arith (ev_var (i := 6) (m := .new) (x := k_35) rfl) (ev_var (i := 4) (m := .new) (x := p31.2) rfl)) (bsP (bsP rfl)))) (bsP (bsP rfl))) rfl) (fun word_63 =>
 (en_end (s := word_63) (.cons .id (.cons .id (.cons .id (.cons .id (.cons .id (.cons .id (.cons .un .nil)))))))))))
 (en_last (en_seq (E := fun (word_70 : (List Int)) => [.dat .old (rp x.1), .dat .new (rp x.2), .dat .new (rp length_8), .dat .new (rp p31.1), .dat .new (rp p31.2), .own .new (rps word_70), .dat .new (rp k_35)]) (en_append (i := 5) (m := .new) (xs := s34) (EvE.res (r' := (f_law_cell x.1 ((x.2 + (3 : Int)) + k_35)).bind fun v78 => some (v78 % 3)) (ev_modC (EvE.res (r' := f_law_cell x.1 ((x.2 + (3 : Int)) + k_35)) (ev_call2 (ev_var (i := 0) (m := .old) (x := x.1) rfl) (EvE.res (r' := some ((x.2 + (3 : Int)) + k_35)) (ev_arith (EvE.res (r' := some (x.2 + (3 : Int))) (ev_arith (ev_var (i := 1) (m := .new) (x := x.2) rfl) ev_int) (bsP (bsP rfl))) (ev_var (i := 6) (m := .new) (x := k_35) rfl)) (bsP (bsP rfl)))) (bsP (bsP rfl)))) (bcP fun _ => rfl)) rfl) (fun word_70 =>
 (en_end (s := word_70) (.cons .id (.cons .id (.cons .id (.cons .id (.cons .id (.cons .id (.cons .un .nil))))))))))))))) (fun s85 =>
 (EvR.frz (m1 := .new) (i := 5) (l := rps s85) (er_ret (ev_var (i := 5) (m := .new) (x := s85) rfl)) rfl))))))))) (.cons .id (.cons .sc (.cons .id (.cons .id (.cons .id (.cons .id (.cons .id .nil)))))))
theorem ok_law (T : Tx K mg) : FnOk P w K mg base CX0 4 T.f_law.a T.f_law.d ["script"] (sp1 K f_law .new) := by
  have sc : FnScope ["script", "draws", "word", "cut", "hidden", "at", "other", "found", "first", "second", "period"] ["script"] (defScope st_law) := ⟨rfl, rfl, rfl, by decide +kernel, rfl, by decide +kernel, by decide +kernel⟩
  refine T.f_law.F.ok sc (fun vs H Q E h => spA_len h fun _ => rfl) (fun cdv A outer s H vs Q E hr h => ⟨_, (pss_cons (ps_set (i := 1) sc.nd rfl (by first | exact .inl rfl | exact .inr rfl) (pe_call (ok_law_draws T) (hr.mono (by decide)) (by rfl) T.f_law_draws.g T.f_law_draws.F.kp T.f_law_draws.b .nil pass0 (pa_cons (pv 0) (pa_cons pe_int pa_nil))))
 (pss_cons (ps_set (i := 2) sc.nd rfl (by first | exact .inl rfl | exact .inr rfl) (pe_call (ok_law_some_word T) (hr.mono (by decide)) (by rfl) T.f_law_some_word.g T.f_law_some_word.F.kp T.f_law_some_word.b .nil pass0 (pa_cons (pv 1) (pa_cons pe_int pa_nil))))
 (pss_cons (ps_set (i := 3) sc.nd rfl (by first | exact .inl rfl | exact .inr rfl) (pe_slice sl_list (pv 2) po_none (po_some (pe_op op_add pe_int (pe_op op_mod (pe_ix ix_list (pv 1) pe_int (fun _ _ => rfl)) (pe_callB call_len_seq (by rfl) T.n_len (by decide +kernel) (pa_cons (pv 2) pa_nil)))))))
 (pss_cons (ps_set (i := 4) sc.nd rfl (by first | exact .inl rfl | exact .inr rfl) (pe_call (ok_law_with_periods T) (hr.mono (by decide)) (by rfl) T.f_law_with_periods.g T.f_law_with_periods.F.kp T.f_law_with_periods.b .nil pass0 (pa_cons (pv 1) (pa_cons pe_int pa_nil))))
 (pss_cons (ps_set (i := 5) sc.nd rfl (by first | exact .inl rfl | exact .inr rfl) (pe_op op_mod (pe_ix ix_list (pv 1) pe_int (fun _ _ => rfl)) (pe_callB call_len_seq (by rfl) T.n_len (by decide +kernel) (pa_cons (pv 2) pa_nil))))
 (pss_cons (ps_for PassesOwn.never rfl (pi_list (pe_lst (pa_cons (pv 2) (pa_cons (pv 3) (pa_cons (pv 4) (pa_cons (pe_revL (pv 2)) (pa_cons (pe_call (ok_law_with T) (hr.mono (by decide)) (by rfl) T.f_law_with.g T.f_law_with.F.kp T.f_law_with.b .nil pass0 (pa_cons (pv 2) (pa_cons (pv 5) (pa_cons (pe_op op_add (pe_ix ix_list (pv 2) (pv 5) (fun _ _ => rfl)) pe_int) pa_nil)))) (pa_cons (pe_lst pa_nil) (pa_cons (pe_lst (pa_cons (pe_op op_mod (pe_ix ix_list (pv 1) pe_int (fun _ _ => rfl)) pe_int) pa_nil)) (pa_cons (pe_lst (pa_cons pe_int (pa_cons pe_int pa_nil))) (pa_cons (pe_lst (pa_cons pe_int (pa_cons pe_int (pa_cons pe_int pa_nil)))) pa_nil))))))))))) (pg_name (i := 6) sc.nd rfl (by first | exact .inl rfl | exact .inr rfl))
 (pss_cons (ps_set (i := 7) sc.nd rfl (by first | exact .inl rfl | exact .inr rfl) (pe_call (ok_law_told T) (hr.mono (by decide)) (by rfl) T.f_law_told.g T.f_law_told.F.kp T.f_law_told.b .nil pass0 (pa_cons (pv 6) pa_nil)))
 (pss_cons (ps_if (pt_cmpR op_isN (pv 7) pe_non (nomark _)) (pss_one (ps_ret pe_bl)) pss_nil)
 (pss_one (ps_for PassesOwn.never rfl (pi_list (pe_slice sl_list (pv 7) po_none (po_some pe_int))) (pg_name (i := 8) sc.nd rfl (by first | exact .inl rfl | exact .inr rfl))
 (pss_one (ps_for PassesOwn.never rfl (pi_list (pe_slice sl_list (pv 7) po_none (po_some pe_int))) (pg_name (i := 9) sc.nd rfl (by first | exact .inl rfl | exact .inr rfl))
 (pss_one (ps_if (PW.pt (pw_and (pt_cmpR op_le (pe_op op_add (pv 8) (pv 9)) (pe_callB call_len_seq (by rfl) T.n_len (by decide +kernel) (pa_cons (pv 6) pa_nil)) (nomark _)) (pw_and1 (pt_cmpR op_notIn_seq (pe_call (ok_law_gcd T) (hr.mono (by decide)) (by rfl) T.f_law_gcd.g T.f_law_gcd.F.kp T.f_law_gcd.b .nil pass0 (pa_cons (pv 8) (pa_cons (pv 9) pa_nil))) (pv 7) (by rfl))))) (pss_one (ps_ret pe_bl)) pss_nil)))))))))
 (pss_cons (ps_set (i := 10) sc.nd rfl (by first | exact .inl rfl | exact .inr rfl) (pe_op op_add pe_int (pe_op op_mod (pe_ix ix_list (pv 1) pe_int (fun _ _ => rfl)) pe_int)))
 (pss_cons (ps_set (i := 2) sc.nd rfl (by first | exact .inl rfl | exact .inr rfl) (pe_slice sl_list (pe_op op_rep (pe_call (ok_law_word T) (hr.mono (by decide)) (by rfl) T.f_law_word.g T.f_law_word.F.kp T.f_law_word.b .nil pass0 (pa_cons (pv 1) (pa_cons pe_int (pa_cons (pv 10) (pa_cons pe_int pa_nil))))) pe_int) po_none (po_some (pe_op op_add (pe_op op_add (pv 10) pe_int) (pe_op op_mod (pe_ix ix_list (pv 1) pe_int (fun _ _ => rfl)) pe_int)))))
 (pss_cons (ps_if (pt_cmpR op_notIn_seq (pv 10) (pe_call (ok_law_told T) (hr.mono (by decide)) (by rfl) T.f_law_told.g T.f_law_told.F.kp T.f_law_told.b .nil pass0 (pa_cons (pv 2) pa_nil)) (by rfl)) (pss_one (ps_ret pe_bl)) pss_nil)
 (pss_one (ps_ret (pe_cmpR op_notN (pe_call (ok_law_told T) (hr.mono (by decide)) (by rfl) T.f_law_told.g T.f_law_told.F.kp T.f_law_told.b .nil pass0 (pa_cons (pv 4) pa_nil)) pe_non (nomark _))))))))))))), of_body (fun x => ?_) (fun _ => Nat.le_of_ble_eq_true rfl) h⟩)
  exact EvR.weakL (er_seq (E := fun (draws_3 : (List Int)) => [.dat .old (rp x), .dat .new (rp draws_3), .un, .un, .un, .un, .un, .un, .un, .un, .un]) (en_set (EvE.res (r' := f_law_draws x (60 : Int)) (ev_call2 (ev_var (i := 0) (m := .old) (x := x) rfl) ev_int) (bsP (bsP rfl)))) (fun draws_3 =>
 (er_seq (E := fun (word_6 : (List Int)) => [.dat .old (rp x), .dat .new (rp draws_3), .dat .new (rp word_6), .un, .un, .un, .un, .un, .un, .un, .un]) (en_set (EvE.res (r' := f_law_some_word draws_3 (10 : Int)) (ev_call2 (ev_var (i := 1) (m := .new) (x := draws_3) rfl) ev_int) (bsP (bsP rfl)))) (fun word_6 =>
 (er_seq (E := fun (cut_20 : (List Int)) => [.dat .old (rp x), .dat .new (rp draws_3), .dat .new (rp word_6), .dat .new (rp cut_20), .un, .un, .un, .un, .un, .un, .un]) (en_set (EvL.E (EvL.res (r' := ((((atI draws_3 (0 : Int)).bind fun v12 => modP v12 (word_6.length : Int)).bind fun v15 => some ((1 : Int) + v15)).map some).bind fun v19 => some (cut word_6 none v19)) (ev_sl (EvE.B (ev_var (i := 2) (m := .new) (x := word_6) rfl)) eo_no (eo_at (EvE.res (r' := ((atI draws_3 (0 : Int)).bind fun v12 => modP v12 (word_6.length : Int)).bind fun v15 => some ((1 : Int) + v15)) (ev_arith ev_int (EvE.res (r' := (atI draws_3 (0 : Int)).bind fun v12 => modP v12 (word_6.length : Int)) (ev_mod (EvE.res (r' := atI draws_3 (0 : Int)) (ev_ix (EvE.B (ev_var (i := 1) (m := .new) (x := draws_3) rfl)) ev_int) (bsP (bsP rfl))) (EvE.res (r' := some (word_6.length : Int)) (ev_len (EvE.B (ev_var (i := 2) (m := .new) (x := word_6) rfl))) (bsP rfl))) (bcP fun _ => (bsP rfl)))) (bsP (bcP fun _ => rfl))))) (bsP (bsP (bcP fun _ => rfl)))))) (fun cut_20 =>
 (er_seq (E := fun (hidden_23 : (List Int)) => [.dat .old (rp x), .dat .new (rp draws_3), .dat .new (rp word_6), .dat .new (rp cut_20), .dat .new (rp hidden_23), .un, .un, .un, .un, .un, .un]) (en_set (EvE.res (r' := f_law_with_periods draws_3 (24 : Int)) (ev_call2 (ev_var (i := 1) (m := .new) (x := draws_3) rfl) ev_int) (bsP (bsP rfl)))) (fun hidden_23 =>
 (er_seq (E := fun (at_30 : Int) => [.dat .old (rp x), .dat .new (rp draws_3), .dat .new (rp word_6), .dat .new (rp cut_20), .dat .new (rp hidden_23), .dat .new (rp at_30), .un, .un, .un, .un, .un]) (en_set (EvE.res (r' := (atI draws_3 (1 : Int)).bind fun v29 => modP v29 (word_6.length : Int)) (ev_mod (EvE.res (r' := atI draws_3 (1 : Int)) (ev_ix (EvE.B (ev_var (i := 1) (m := .new) (x := draws_3) rfl)) ev_int) (bsP (bsP rfl))) (EvE.res (r' := some (word_6.length : Int)) (ev_len (EvE.B (ev_var (i := 2) (m := .new) (x := word_6) rfl))) (bsP rfl))) (bcP fun _ => (bsP rfl)))) (fun at_30 =>
 (er_seqF (T := Unit) (L := fun _ => []) (E := fun (s114 : Unit) => [.dat .old (rp x), .dat .new (rp draws_3), .dat .new (rp word_6), .dat .new (rp cut_20), .dat .new (rp hidden_23), .dat .new (rp at_30), .un, .un, .un, .un, .un]) (ef_for (E := fun (s114 : Unit) => [.dat .old (rp x), .dat .new (rp draws_3), .dat .new (rp word_6), .dat .new (rp cut_20), .dat .new (rp hidden_23), .dat .new (rp at_30), .un, .un, .un, .un, .un]) (s0 := ()) (Eb := fun (s75 : Unit) (other_76 : (List Int)) => [.dat .old (rp x), .dat .new (rp draws_3), .dat .new (rp word_6), .dat .new (rp cut_20), .dat .new (rp hidden_23), .dat .new (rp at_30), .dat .new (rp other_76), .un, .un, .un, .un]) (vs := [6]) (ei_list (EvL.E (ev_list (m := .new) (EvXs.res (r' := (((((((atI word_6 at_30).bind fun v36 => some (v36 + (1 : Int))).bind fun v40 => f_law_with word_6 at_30 v40).bind fun v65 => (((((atI draws_3 (2 : Int)).bind fun v44 => some (v44 % 9)).bind fun v45 => some (v45 :: ([] : (List Int)))).bind fun v61 => some (v61 :: ([([(3 : Int), (3 : Int)] : (List Int)), ([(0 : Int), (1 : Int), (0 : Int)] : (List Int))] : (List (List Int))))).bind fun l64 => some (([] : (List Int)) :: l64)).bind fun l66 => some (v65 :: l66)).bind fun l68 => some (word_6.reverse :: l68)).bind fun l70 => some (hidden_23 :: l70)).bind fun l72 => some (cut_20 :: l72)).bind fun l74 => some (word_6 :: l74)) (exs_cons (ev_var (i := 2) (m := .new) (x := word_6) rfl) (EvXs.res (r' := ((((((atI word_6 at_30).bind fun v36 => some (v36 + (1 : Int))).bind fun v40 => f_law_with word_6 at_30 v40).bind fun v65 => (((((atI draws_3 (2 : Int)).bind fun v44 => some (v44 % 9)).bind fun v45 => some (v45 :: ([] : (List Int)))).bind fun v61 => some (v61 :: ([([(3 : Int), (3 : Int)] : (List Int)), ([(0 : Int), (1 : Int), (0 : Int)] : (List Int))] : (List (List Int))))).bind fun l64 => some (([] : (List Int)) :: l64)).bind fun l66 => some (v65 :: l66)).bind fun l68 => some (word_6.reverse :: l68)).bind fun l70 => some (hidden_23 :: l70)).bind fun l72 => some (cut_20 :: l72)) (exs_cons (ev_var (i := 3) (m := .new) (x := cut_20) rfl) (EvXs.res (r' := (((((atI word_6 at_30).bind fun v36 => some (v36 + (1 : Int))).bind fun v40 => f_law_with word_6 at_30 v40).bind fun v65 => (((((atI draws_3 (2 : Int)).bind fun v44 => some (v44 % 9)).bind fun v45 => some (v45 :: ([] : (List Int)))).bind fun v61 => some (v61 :: ([([(3 : Int), (3 : Int)] : (List Int)), ([(0 : Int), (1 : Int), (0 : Int)] : (List Int))] : (List (List Int))))).bind fun l64 => some (([] : (List Int)) :: l64)).bind fun l66 => some (v65 :: l66)).bind fun l68 => some (word_6.reverse :: l68)).bind fun l70 => some (hidden_23 :: l70)) (exs_cons (ev_var (i := 4) (m := .new) (x := hidden_23) rfl) (EvXs.res (r' := ((((atI word_6 at_30).bind fun v36 => some (v36 + (1 : Int))).bind fun v40 => f_law_with word_6 at_30 v40).bind fun v65 => (((((atI draws_3 (2 : Int)).bind fun v44 => some (v44 % 9)).bind fun v45 => some (v45 :: ([] : (List Int)))).bind fun v61 => some (v61 :: ([([(3 : Int), (3 : Int)] : (List Int)), ([(0 : Int), (1 : Int), (0 : Int)] : (List Int))] : (List (List Int))))).bind fun l64 => some (([] : (List Int)) :: l64)).bind fun l66 => some (v65 :: l66)).bind fun l68 => some (word_6.reverse :: l68)) (exs_cons (EvL.E (EvL.res (r' := some word_6.reverse) (ev_revSl (EvE.B (ev_var (i := 2) (m := .new) (x := word_6) rfl))) (bsP rfl))) (EvXs.res (r' := (((atI word_6 at_30).bind fun v36 => some (v36 + (1 : Int))).bind fun v40 => f_law_with word_6 at_30 v40).bind fun v65 => (((((atI draws_3 (2 : Int)).bind fun v44 => some (v44 % 9)).bind fun v45 => some (v45 :: ([] : (List Int)))).bind fun v61 => some (v61 :: ([([(3 : Int), (3 : Int)] : (List Int)), ([(0 : Int), (1 : Int), (0 : Int)] : (List Int))] : (List (List Int))))).bind fun l64 => some (([] : (List Int)) :: l64)).bind fun l66 => some (v65 :: l66)) (exs_cons (EvE.res (r' := ((atI word_6 at_30).bind fun v36 => some (v36 + (1 : Int))).bind fun v40 => f_law_with word_6 at_30 v40) (ev_call3 (ev_var (i := 2) (m := .new) (x := word_6) rfl) (ev_var (i := 5) (m := .new) (x := at_30) rfl) (EvE.res (r' := (atI word_6 at_30).bind fun v36 => some (v36 + (1 : Int))) (ev_arith (EvE.res (r' := atI word_6 at_30) (ev_ix (EvE.B (ev_var (i := 2) (m := .new) (x := word_6) rfl)) (ev_var (i := 5) (m := .new) (x := at_30) rfl)) (bsP (bsP rfl))) ev_int) (bcP fun _ => (bsP rfl)))) (bsP (bsP (bcP fun _ => rfl)))) (EvXs.res (r' := ((((atI draws_3 (2 : Int)).bind fun v44 => some (v44 % 9)).bind fun v45 => some (v45 :: ([] : (List Int)))).bind fun v61 => some (v61 :: ([([(3 : Int), (3 : Int)] : (List Int)), ([(0 : Int), (1 : Int), (0 : Int)] : (List Int))] : (List (List Int))))).bind fun l64 => some (([] : (List Int)) :: l64)) (exs_cons (EvL.E (ev_list (m := .new) exs_nil)) (EvXs.res (r' := (((atI draws_3 (2 : Int)).bind fun v44 => some (v44 % 9)).bind fun v45 => some (v45 :: ([] : (List Int)))).bind fun v61 => some (v61 :: ([([(3 : Int), (3 : Int)] : (List Int)), ([(0 : Int), (1 : Int), (0 : Int)] : (List Int))] : (List (List Int))))) (exs_cons (EvL.E (ev_list (m := .new) (EvXs.res (r' := ((atI draws_3 (2 : Int)).bind fun v44 => some (v44 % 9)).bind fun v45 => some (v45 :: ([] : (List Int)))) (exs_cons (EvE.res (r' := (atI draws_3 (2 : Int)).bind fun v44 => some (v44 % 9)) (ev_modC (EvE.res (r' := atI draws_3 (2 : Int)) (ev_ix (EvE.B (ev_var (i := 1) (m := .new) (x := draws_3) rfl)) ev_int) (bsP (bsP rfl)))) (bcP fun _ => rfl)) exs_nil) (bcP fun _ => (bsP rfl))))) (EvXs.res (r' := some ([([(3 : Int), (3 : Int)] : (List Int)), ([(0 : Int), (1 : Int), (0 : Int)] : (List Int))] : (List (List Int)))) (exs_cons (EvL.E (ev_list (m := .new) (EvXs.res (r' := some ([(3 : Int), (3 : Int)] : (List Int))) (exs_cons ev_int (EvXs.res (r' := some ([(3 : Int)] : (List Int))) (exs_cons ev_int exs_nil) (bsP (bsP rfl)))) (bsP (bsP rfl))))) (EvXs.res (r' := some ([([(0 : Int), (1 : Int), (0 : Int)] : (List Int))] : (List (List Int)))) (exs_cons (EvL.E (ev_list (m := .new) (EvXs.res (r' := some ([(0 : Int), (1 : Int), (0 : Int)] : (List Int))) (exs_cons ev_int (EvXs.res (r' := some ([(1 : Int), (0 : Int)] : (List Int))) (exs_cons ev_int (EvXs.res (r' := some ([(0 : Int)] : (List Int))) (exs_cons ev_int exs_nil) (bsP (bsP rfl)))) (bsP (bsP rfl)))) (bsP (bsP rfl))))) exs_nil) (bsP (bsP rfl)))) (bsP (bsP rfl)))) (bcP fun _ => (bsP rfl)))) (bsP (bcP fun _ => rfl)))) (bcP fun _ => (bcP fun _ => rfl)))) (bsP (bcP fun _ => rfl)))) (bsP (bcP fun _ => rfl)))) (bsP (bcP fun _ => rfl)))) (bsP (bcP fun _ => rfl)))))) (.cons .id (.cons .id (.cons .id (.cons .id (.cons .id (.cons .id (.cons .id (.cons .id (.cons .id (.cons .id (.cons .id .nil))))))))))) (fun s75 other_76 => eg_name) (fun s75 other_76 =>
 (ef_seq (E := fun (found_77 : (Option (List Int))) => [.dat .old (rp x), .dat .new (rp draws_3), .dat .new (rp word_6), .dat .new (rp cut_20), .dat .new (rp hidden_23), .dat .new (rp at_30), .dat .new (rp other_76), .dat .new (rp found_77), .un, .un, .un]) (en_set (EvE.res (r' := f_law_told other_76) (ev_call1 (ev_var (i := 6) (m := .new) (x := other_76) rfl)) (bsP rfl))) (fun found_77 =>
 (ef_ifS (ef_ifP (et_test (EvE.res (r' := some found_77.isNone) (ev_isN (ev_var (i := 7) (m := .new) (x := found_77) rfl)) (bsP rfl)))
 (ef_cutRP (er_ret ev_bl))
 (ef_nx (ef_last (ef_seqF (E := fun (s110 : Unit) => [.dat .old (rp x), .dat .new (rp draws_3), .dat .new (rp word_6), .dat .new (rp cut_20), .dat .new (rp hidden_23), .dat .new (rp at_30), .dat .new (rp other_76), .dat .new (rp found_77), .un, .un, .un]) (ef_for (E := fun (s110 : Unit) => [.dat .old (rp x), .dat .new (rp draws_3), .dat .new (rp word_6), .dat .new (rp cut_20), .dat .new (rp hidden_23), .dat .new (rp at_30), .dat .new (rp other_76), .dat .new (rp found_77), .un, .un, .un]) (s0 := ()) (Eb := fun (s84 : Unit) (first_85 : Int) => [.dat .old (rp x), .dat .new (rp draws_3), .dat .new (rp word_6), .dat .new (rp cut_20), .dat .new (rp hidden_23), .dat .new (rp at_30), .dat .new (rp other_76), .dat .new (rp found_77), .dat .new (rp first_85), .un, .un]) (vs := [8]) (ei_list (EvL.E (EvL.res (r' := found_77.bind fun v83 => some (cut v83 none (some (24 : Int)))) (ev_sl (EvE.B (EvE.res (r' := found_77) (EvE.un (ev_var (i := 7) (m := .new) (x := found_77) rfl)) (bsP rfl))) eo_no (eo_atP ev_int)) (bcP fun _ => (bsP (bsP rfl)))))) (.cons .id (.cons .id (.cons .id (.cons .id (.cons .id (.cons .id (.cons .id (.cons .id (.cons .id (.cons .id (.cons .id .nil))))))))))) (fun s84 first_85 => (eg_nameS (m1 := .new))) (fun s84 first_85 =>
 (ef_last (ef_seqF (E := fun (s107 : Unit) => [.dat .old (rp x), .dat .new (rp draws_3), .dat .new (rp word_6), .dat .new (rp cut_20), .dat .new (rp hidden_23), .dat .new (rp at_30), .dat .new (rp other_76), .dat .new (rp found_77), .dat .new (rp first_85), .un, .un]) (ef_for (E := fun (s107 : Unit) => [.dat .old (rp x), .dat .new (rp draws_3), .dat .new (rp word_6), .dat .new (rp cut_20), .dat .new (rp hidden_23), .dat .new (rp at_30), .dat .new (rp other_76), .dat .new (rp found_77), .dat .new (rp first_85), .un, .un]) (s0 := ()) (Eb := fun (s91 : Unit) (second_92 : Int) => [.dat .old (rp x), .dat .new (rp draws_3), .dat .new (rp word_6), .dat .new (rp cut_20), .dat .new (rp hidden_23), .dat .new (rp at_30), .dat .new (rp other_76), .dat .new (rp found_77), .dat .new (rp first_85), .dat .new (rp second_92), .un]) (vs := [9]) (ei_list (EvL.E (EvL.res (r' := found_77.bind fun v90 => some (cut v90 none (some (24 : Int)))) (ev_sl (EvE.B (EvE.res (r' := found_77) (EvE.un (ev_var (i := 7) (m := .new) (x := found_77) rfl)) (bsP rfl))) eo_no (eo_atP ev_int)) (bcP fun _ => (bsP (bsP rfl)))))) (.cons .id (.cons .id (.cons .id (.cons .id (.cons .id (.cons .id (.cons .id (.cons .id (.cons .id (.cons .id (.cons .id .nil))))))))))) (fun s91 second_92 => (eg_nameS (m1 := .new))) (fun s91 second_92 =>
 (ef_if (EvT.res (r' := if (decide ((first_85 + second_92) ≤ (other_76.length : Int))) = true then (f_law_gcd first_85 second_92).bind fun v103 => found_77.bind fun v104 => some (decide (v103 ∉ v104)) else some false) (et_and (et_test (EvE.res (r' := some (decide ((first_85 + second_92) ≤ (other_76.length : Int)))) (ev_cmpI (EvE.res (r' := some (first_85 + second_92)) (ev_arith (ev_var (i := 8) (m := .new) (x := first_85) rfl) (ev_var (i := 9) (m := .new) (x := second_92) rfl)) (bsP (bsP rfl))) (EvE.res (r' := some (other_76.length : Int)) (ev_len (EvE.B (ev_var (i := 6) (m := .new) (x := other_76) rfl))) (bsP rfl))) (bsP (bsP rfl)))) (et_test (EvE.res (r' := (f_law_gcd first_85 second_92).bind fun v103 => found_77.bind fun v104 => some (decide (v103 ∉ v104))) (ev_ninI (EvE.res (r' := f_law_gcd first_85 second_92) (ev_call2 (ev_var (i := 8) (m := .new) (x := first_85) rfl) (ev_var (i := 9) (m := .new) (x := second_92) rfl)) (bsP (bsP rfl))) (EvE.B (EvE.res (r' := found_77) (EvE.un (ev_var (i := 7) (m := .new) (x := found_77) rfl)) (bsP rfl)))) (bcP fun _ => (bcP fun _ => rfl))))) (bsP rfl))
 (EvR.FP (er_ret ev_bl))
 (ef_end (s := ()) (.cons .id (.cons .id (.cons .id (.cons .id (.cons .id (.cons .id (.cons .id (.cons .id (.cons .id (.cons .un (.cons .id .nil))))))))))))))) (fun s109 =>
 (ef_end (s := ()) (.cons .id (.cons .id (.cons .id (.cons .id (.cons .id (.cons .id (.cons .id (.cons .id (.cons .un (.cons .id (.cons .id .nil))))))))))))))))) (fun s112 =>
 (ef_end (s := ()) (.cons .id (.cons .id (.cons .id (.cons .id (.cons .id (.cons .id (.cons .un (.cons .un (.cons .id (.cons .id (.cons .id .nil)))))))))))))))))))))) (fun s116 =>
 (er_seq (E := fun (period_124 : Int) => [.dat .old (rp x), .dat .new (rp draws_3), .dat .new (rp word_6), .dat .new (rp cut_20), .dat .new (rp hidden_23), .dat .new (rp at_30), .un, .un, .un, .un, .dat .new (rp period_124)]) (en_set (EvE.res (r' := ((atI draws_3 (3 : Int)).bind fun v120 => some (v120 % 12)).bind fun v123 => some ((1 : Int) + v123)) (ev_arith ev_int (EvE.res (r' := (atI draws_3 (3 : Int)).bind fun v120 => some (v120 % 12)) (ev_modC (EvE.res (r' := atI draws_3 (3 : Int)) (ev_ix (EvE.B (ev_var (i := 1) (m := .new) (x := draws_3) rfl)) ev_int) (bsP (bsP rfl)))) (bcP fun _ => rfl))) (bsP (bcP fun _ => rfl)))) (fun period_124 =>
 (er_seq (E := fun (word_146 : (List Int)) => [.dat .old (rp x), .dat .new (rp draws_3), .dat .new (rp word_146), .dat .new (rp cut_20), .dat .new (rp hidden_23), .dat .new (rp at_30), .un, .un, .un, .un, .dat .new (rp period_124)]) (en_set (EvL.E (EvL.res (r' := ((f_law_word draws_3 (40 : Int) period_124 (3 : Int)).bind fun v131 => repP v131 (20 : Int)).bind fun v144 => ((((atI draws_3 (4 : Int)).bind fun v137 => some (v137 % 60)).bind fun v140 => some ((period_124 + (1 : Int)) + v140)).map some).bind fun v145 => some (cut v144 none v145)) (ev_sl (EvL.B (EvL.res (r' := (f_law_word draws_3 (40 : Int) period_124 (3 : Int)).bind fun v131 => repP v131 (20 : Int)) (ev_rep (EvE.B (EvE.res (r' := f_law_word draws_3 (40 : Int) period_124 (3 : Int)) (ev_call4 (ev_var (i := 1) (m := .new) (x := draws_3) rfl) ev_int (ev_var (i := 10) (m := .new) (x := period_124) rfl) ev_int) (bsP (bsP (bsP (bsP rfl)))))) ev_int) (bcP fun _ => (bsP rfl)))) eo_no (eo_at (EvE.res (r' := ((atI draws_3 (4 : Int)).bind fun v137 => some (v137 % 60)).bind fun v140 => some ((period_124 + (1 : Int)) + v140)) (ev_arith (EvE.res (r' := some (period_124 + (1 : Int))) (ev_arith (ev_var (i := 10) (m := .new) (x := period_124) rfl) ev_int) (bsP (bsP rfl))) (EvE.res (r' := (atI draws_3 (4 : Int)).bind fun v137 => some (v137 % 60)) (ev_modC (EvE.res (r' := atI draws_3 (4 : Int)) (ev_ix (EvE.B (ev_var (i := 1) (m := .new) (x := draws_3) rfl)) ev_int) (bsP (bsP rfl)))) (bcP fun _ => rfl))) (bsP (bcP fun _ => rfl))))) (bcP fun _ => (bsP (bcP fun _ => rfl)))))) (fun word_146 =>
 (er_ifS (er_if (et_test (EvE.res (r' := ((f_law_told word_146).bind fun v147 => v147).bind fun v150 => some (decide (period_124 ∉ v150))) (ev_ninI (ev_var (i := 10) (m := .new) (x := period_124) rfl) (EvE.B (EvE.un (EvE.res (r' := f_law_told word_146) (ev_call1 (ev_var (i := 2) (m := .new) (x := word_146) rfl)) (bsP rfl))))) (bsP (bcP fun _ => rfl))))
 (er_cut (er_ret ev_bl))
 (er_nx (er_ret (EvE.res (r' := (f_law_told hidden_23).bind fun v152 => some v152.isSome) (ev_notN (EvE.res (r' := f_law_told hidden_23) (ev_call1 (ev_var (i := 4) (m := .new) (x := hidden_23) rfl)) (bsP rfl))) (bcP fun _ => rfl)))))))))))))))))))))) (.cons .id (.cons .id (.cons .id (.cons .id (.cons .id (.cons .id (.cons .id (.cons .id (.cons .id (.cons .id (.cons .id .nil)))))))))))
end
theorem law_sp {K : PySem.W.Frag} {H : Hp} {a : Addr} {ns : List Int} (hp : f_law ⟨ns⟩ = some true) (hS : SqL K H a (ns.map V.int)) : sp1 K f_law .new [.ref a] H (fun v _ => v = .bl true) fun _ _ _ => False := by
  refine ⟨H, ⟨ns⟩, true, .refl _, .cons ?_ .nil, hp, fun u C' H' _ r => r.bl_⟩
  simp only [rp, Rp.rp, Rep]
  exact ⟨a, rfl, hS⟩
theorem law_fn {P : Program} {w : World} {K : PySem.W.Frag} {mg : Str → Option Value} {fa : Addr} {T : Tx K mg} (h : mg "law" = some (.ref fa)) :
    ∃ fd : FuncData, (∀ (s : Shared) (u : Value), BindsTo s fd ⟨[u], []⟩ [("script", u)]) ∧ ∀ base : Heap, K.In base → base.Ns mainGlobals mg → FnOk P w K mg base CX0 4 fa fd ["script"] (sp1 K f_law .new) := by
  have e := h.symm.trans T.f_law.g
  cases e
  exact ⟨T.f_law.d, fun s u => T.f_law.b1 s u rfl, fun base _ _ => ok_law T⟩
/-! ### the end -/
end L2.DL.K81
open PySem PySem.Spec PyProof.Rows L2 L2.DL L2.DL.K81
theorem PySem.Challenge.cw_daysround_k81_periods_of_words_holds : PySem.Challenge.rw_daysround_k81_periods_of_words.Holds := by
  w_on; o_law; k_head; (case hw => w_witness2)
  k_fill
  refine L2.walk_of (l := PySem.Challenge.rw_daysround_k81_periods_of_words) (n := 63) (k := 4) (x := "script") (CX := fun _ => CX0) (sp := fun w => sp1 _ f_law .new) rfl (by decide) rfl ⟨rfl, by decide, by decide⟩ (fun w h Y => PySem.W.kIn_of Y) ?F (fun w H a ns hl _ hS => law_sp (plain_law ns hl) hS) (fun _ _ _ _ _ h => h)
  case F =>
    intro w mg fa h KX G hmg
    refine' law_fn (T := {
      f_law_draws := at_mk KX G ?a0 ?l0 ?c0 ?k0 (fun _ _ _ _ _ _ us hl => match us, hl with | [_, _], _ => rfl),
      f_law_gcd := at_mk KX G ?a1 ?l1 ?c1 ?k1 (fun _ _ _ _ _ _ us hl => match us, hl with | [_, _], _ => rfl),
      f_law_cell := at_mk KX G ?a2 ?l2 ?c2 ?k2 (fun _ _ _ _ _ _ us hl => match us, hl with | [_, _], _ => rfl),
      f_law_word := at_mk KX G ?a3 ?l3 ?c3 ?k3 (fun _ _ _ _ _ _ us hl => match us, hl with | [_, _, _, _], _ => rfl),
      f_law_some_word := at_mk KX G ?a4 ?l4 ?c4 ?k4 (fun _ _ _ _ _ _ us hl => match us, hl with | [_, _], _ => rfl),
      f_law_is_number := at_mk KX G ?a5 ?l5 ?c5 ?k5 (fun _ _ _ _ _ _ us hl => match us, hl with | [_], _ => rfl),
      f_law_is_numbers := at_mk KX G ?a6 ?l6 ?c6 ?k6 (fun _ _ _ _ _ _ us hl => match us, hl with | [_], _ => rfl),
      f_has_period := at_mk KX G ?a7 ?l7 ?c7 ?k7 (fun _ _ _ _ _ _ us hl => match us, hl with | [_, _], _ => rfl),
      f_periods_of := at_mk KX G ?a8 ?l8 ?c8 ?k8 (fun _ _ _ _ _ _ us hl => match us, hl with | [_], _ => rfl),
      f_law_told := at_mk KX G ?a9 ?l9 ?c9 ?k9 (fun _ _ _ _ _ _ us hl => match us, hl with | [_], _ => rfl),
      f_law_with := at_mk KX G ?a10 ?l10 ?c10 ?k10 (fun _ _ _ _ _ _ us hl => match us, hl with | [_, _, _], _ => rfl),
      f_law_with_periods := at_mk KX G ?a11 ?l11 ?c11 ?k11 (fun _ _ _ _ _ _ us hl => match us, hl with | [_, _], _ => rfl),
      f_law := at_mk KX G ?a12 ?l12 ?c12 ?k12 (fun _ _ _ _ _ _ us hl => match us, hl with | [_], _ => rfl),
      n_abs := PySem.W.mg_none_of KX G ?z0,
      n_bool := PySem.W.mg_none_of KX G ?z1,
      n_int := PySem.W.mg_none_of KX G ?z2,
      n_isinstance := PySem.W.mg_none_of KX G ?z3,
      n_len := PySem.W.mg_none_of KX G ?z4,
      n_list := PySem.W.mg_none_of KX G ?z5,
      n_range := PySem.W.mg_none_of KX G ?z6 }) hmg
    (case a0 => k_is); (case l0 => k_is); (case c0 => k_is); (case k0 => k_is); (case a1 => k_is); (case l1 => k_is); (case c1 => k_is); (case k1 => k_is); (case a2 => k_is); (case l2 => k_is); (case c2 => k_is); (case k2 => k_is); (case a3 => k_is); (case l3 => k_is); (case c3 => k_is); (case k3 => k_is); (case a4 => k_is); (case l4 => k_is); (case c4 => k_is); (case k4 => k_is); (case a5 => k_is); (case l5 => k_is); (case c5 => k_is); (case k5 => k_is); (case a6 => k_is); (case l6 => k_is); (case c6 => k_is); (case k6 => k_is); (case a7 => k_is); (case l7 => k_is); (case c7 => k_is); (case k7 => k_is); (case a8 => k_is); (case l8 => k_is); (case c8 => k_is); (case k8 => k_is); (case a9 => k_is); (case l9 => k_is); (case c9 => k_is); (case k9 => k_is); (case a10 => k_is); (case l10 => k_is); (case c10 => k_is); (case k10 => k_is); (case a11 => k_is); (case l11 => k_is); (case c11 => k_is); (case k11 => k_is); (case a12 => k_is); (case l12 => k_is); (case c12 => k_is); (case k12 => k_is); (case z0 => k_is); (case z1 => k_is); (case z2 => k_is); (case z3 => k_is); (case z4 => k_is); (case z5 => k_is); (case z6 => k_is)
