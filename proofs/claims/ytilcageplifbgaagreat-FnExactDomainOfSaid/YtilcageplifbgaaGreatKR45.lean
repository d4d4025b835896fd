/- Names in order, each once: what sorting and compacting give, what inserting gives. -/
import Derived.Test.YtilcageplifbgaaGreatKR44
import Derived.Sort.Walk0
import Derived.Lib.SlicesCompact
namespace Go.Proofs.YtilcageplifbgaaGreat
set_option linter.all false
open Go Go.RowKit
abbrev bl := Op.bytesLess
theorem u8_lt {a b : UInt8} : a < b ↔ a.toNat < b.toNat := UInt8.lt_iff_toNat_lt
theorem u8_ext {a b : UInt8} (h1 : ¬ a < b) (h2 : ¬ b < a) : a = b := by
  rw [u8_lt] at h1 h2
  exact UInt8.toNat_inj.1 (by omega)
theorem bl_cons {a b : UInt8} {x y : Str} : bl (a :: x) (b :: y) = true ↔ a < b ∨ (a = b ∧ bl x y = true) := by
  show (decide (a < b) || (a == b && Op.bytesLess x y)) = true ↔ _
  simp
theorem bl_irrefl : ∀ x : Str, bl x x = false
  | [] => rfl
  | a :: x => by
    have := bl_irrefl x
    rw [Bool.eq_false_iff]
    intro h
    rcases bl_cons.1 h with h | ⟨_, h⟩
    · rw [u8_lt] at h; omega
    · rw [this] at h; cases h
theorem bl_trans : ∀ {x y z : Str}, bl x y = true → bl y z = true → bl x z = true
  | _, [], _, h, _ => by cases h' : (‹Str› : List UInt8) <;> simp [bl, Op.bytesLess] at h
  | _, _ :: _, [], _, h => by simp [bl, Op.bytesLess] at h
  | [], _ :: _, _ :: _, _, _ => rfl
  | a :: x, b :: y, c :: z, h1, h2 => by
    rcases bl_cons.1 h1 with g1 | ⟨e1, g1⟩
    · rcases bl_cons.1 h2 with g2 | ⟨e2, g2⟩
      · exact bl_cons.2 (.inl (by rw [u8_lt] at *; omega))
      · exact bl_cons.2 (.inl (e2 ▸ g1))
    · rcases bl_cons.1 h2 with g2 | ⟨e2, g2⟩
      · exact bl_cons.2 (.inl (e1 ▸ g2))
      · exact bl_cons.2 (.inr ⟨e1.trans e2, bl_trans g1 g2⟩)
theorem bl_tri : ∀ {x y : Str}, bl x y = false → bl y x = false → x = y
  | [], [], _, _ => rfl
  | [], _ :: _, h, _ => by simp [bl, Op.bytesLess] at h
  | _ :: _, [], _, h => by simp [bl, Op.bytesLess] at h
  | a :: x, b :: y, h1, h2 => by
    rw [Bool.eq_false_iff] at h1 h2
    have e : a = b := u8_ext (fun h => h1 (bl_cons.2 (.inl h))) fun h => h2 (bl_cons.2 (.inl h))
    subst e
    have := bl_tri (x := x) (y := y) (by rw [Bool.eq_false_iff]; exact fun h => h1 (bl_cons.2 (.inr ⟨rfl, h⟩))) (by rw [Bool.eq_false_iff]; exact fun h => h2 (bl_cons.2 (.inr ⟨rfl, h⟩)))
    rw [this]
theorem bl_asymm {x y : Str} (h : bl x y = true) : bl y x = false := by
  rw [Bool.eq_false_iff]; intro h'
  have := bl_trans h h'
  rw [bl_irrefl] at this; cases this
theorem le_bl (x y : Str) : decide (x ≤ y) = !bl y x := by
  show decide (x ≤ y) = !Op.bytesLess y x
  rw [bytesLess_eq]
  by_cases h : y < x
  · have h' : ¬ x ≤ y := fun hle => hle h
    simp [h, h']
  · have h' : x ≤ y := h
    simp [h, h']
def SS (l : List Str) : Prop := l.Pairwise fun x y => bl x y = true
theorem ss_ext : ∀ {l m : List Str}, SS l → SS m → (∀ x, x ∈ l ↔ x ∈ m) → l = m
  | [], [], _, _, _ => rfl
  | [], y :: m, _, _, h => by have := (h y).2 (by simp); cases this
  | x :: l, [], _, _, h => by have := (h x).1 (by simp); cases this
  | x :: l, y :: m, h1, h2, h => by
    unfold SS at h1 h2
    rw [List.pairwise_cons] at h1 h2
    have exy : x = y := by
      rcases List.mem_cons.1 ((h x).1 (by simp)) with e | hx
      · exact e
      · rcases List.mem_cons.1 ((h y).2 (by simp)) with e | hy
        · exact e.symm
        · have := bl_asymm (h2.1 x hx)
          rw [h1.1 y hy] at this; cases this
    subst exy
    have : l = m := ss_ext h1.2 h2.2 fun z => by
      constructor
      · intro hz
        rcases List.mem_cons.1 ((h z).1 (by simp [hz])) with rfl | hz'
        · have := h1.1 z hz; rw [bl_irrefl] at this; cases this
        · exact hz'
      · intro hz
        rcases List.mem_cons.1 ((h z).2 (by simp [hz])) with rfl | hz'
        · have := h2.1 z hz; rw [bl_irrefl] at this; cases this
        · exact hz'
    rw [this]
def sortS (l : List Str) : List Str := l.mergeSort fun x y => decide (x ≤ y)
theorem sortS_mem {l : List Str} {x : Str} : x ∈ sortS l ↔ x ∈ l := List.mem_mergeSort
theorem sortS_len (l : List Str) : (sortS l).length = l.length := List.length_mergeSort l
theorem sortS_sorted (l : List Str) : (sortS l).Pairwise fun x y => bl y x = false := by
  have h := List.pairwise_mergeSort (le := fun x y : Str => decide (x ≤ y)) (fun a b c h1 h2 => by
    rw [le_bl] at *
    simp only [Bool.not_eq_true'] at *
    rw [Bool.eq_false_iff]
    intro h3
    cases hab : bl a b
    · have := bl_tri hab h1; subst this; rw [h2] at h3; cases h3
    · have := bl_trans h3 hab; rw [h2] at this; cases this) (fun a b => by
    rw [le_bl, le_bl]
    cases h1 : bl b a
    · rfl
    · rw [bl_asymm h1]; rfl) l
  refine List.Pairwise.imp (fun {x y} hxy => ?_) h
  rw [le_bl] at hxy
  simpa using hxy
def snames (l : List Str) : List Str := Go.Lib.compact (sortS l)
theorem compact_upto {l : List Str} (hs : l.Pairwise fun x y => bl y x = false) : ∀ m, m ≤ l.length →
    SS (Go.Lib.compactUpTo l.toArray m) ∧ (∀ x, x ∈ Go.Lib.compactUpTo l.toArray m ↔ ∃ j, ∃ hj : j < l.length, j < m ∧ l[j] = x) ∧ ∀ hm : 0 < m, ∀ hl : m - 1 < l.length, ∀ x ∈ Go.Lib.compactUpTo l.toArray m, x = l[m - 1] ∨ bl x l[m - 1] = true
  | 0, _ => ⟨by simp [Go.Lib.compactUpTo, SS], by simp [Go.Lib.compactUpTo], fun h => absurd h (Nat.lt_irrefl _)⟩
  | m + 1, hm => by
    obtain ⟨h1, h2, h3⟩ := compact_upto hs m (by omega)
    have hml : m < l.length := by omega
    have hget : (l.toArray)[m]! = l[m] := by simp [hml]
    rw [Go.Lib.compactUpTo_succ]
    by_cases hk : Go.Lib.keeps l.toArray m = true
    · rw [if_pos hk, hget]
      have hlt : ∀ x ∈ Go.Lib.compactUpTo l.toArray m, bl x l[m] = true := fun x hx => by
        cases m with
        | zero => obtain ⟨j, _, hj, _⟩ := (h2 x).1 hx; omega
        | succ m =>
          have hne : l[m + 1] ≠ l[m] := by
            unfold Go.Lib.keeps at hk
            have h4 : (l.toArray)[m + 1 - 1]! = l[m] := by simp; rw [List.getElem?_eq_getElem (by omega)]; rfl
            simp only [decide_eq_true_eq] at hk
            rcases hk with hk | hk
            · omega
            · rw [hget, h4] at hk; exact hk
          have hle : bl l[m + 1] l[m] = false := List.pairwise_iff_getElem.1 hs m (m + 1) (by omega) hml (by omega)
          have hlt : bl l[m] l[m + 1] = true := by
            cases hc : bl l[m] l[m + 1]
            · exact absurd (bl_tri hle hc) hne
            · rfl
          rcases h3 (by omega) (by omega) x hx with rfl | h5
          · exact hlt
          · exact bl_trans h5 hlt
      refine ⟨?_, ?_, ?_⟩
      · unfold SS at h1 ⊢
        rw [List.pairwise_append]
        exact ⟨h1, by simp, fun a ha b hb => by rw [List.mem_singleton.1 hb]; exact hlt a ha⟩
      · intro x
        rw [List.mem_append, h2, List.mem_singleton]
        constructor
        · rintro (⟨j, hj, hjm, e⟩ | rfl)
          · exact ⟨j, hj, by omega, e⟩
          · exact ⟨m, hml, by omega, rfl⟩
        · rintro ⟨j, hj, hjm, e⟩
          by_cases hjm' : j < m
          · exact .inl ⟨j, hj, hjm', e⟩
          · have : j = m := by omega
            subst this; exact .inr e.symm
      · intro _ hl x hx
        simp only [Nat.add_sub_cancel] at hl ⊢
        rcases List.mem_append.1 hx with hx | hx
        · exact .inr (hlt x hx)
        · exact .inl (List.mem_singleton.1 hx)
    · rw [if_neg hk, List.append_nil]
      have hm0 : 0 < m := by
        rcases Nat.eq_zero_or_pos m with rfl | h
        · exact absurd (Go.Lib.keeps_lt_one l.toArray 0 (by omega)) hk
        · exact h
      have heq : l[m] = l[m - 1] := by
        unfold Go.Lib.keeps at hk
        have h4 : (l.toArray)[m - 1]! = l[m - 1] := by simp; rw [List.getElem?_eq_getElem (by omega)]; rfl
        rw [hget, h4] at hk
        simp only [decide_eq_true_eq, not_or, ne_eq, Classical.not_not] at hk
        exact hk.2
      refine ⟨h1, ?_, ?_⟩
      · intro x
        rw [h2]
        constructor
        · rintro ⟨j, hj, hjm, e⟩; exact ⟨j, hj, by omega, e⟩
        · rintro ⟨j, hj, hjm, e⟩
          by_cases hjm' : j < m
          · exact ⟨j, hj, hjm', e⟩
          · have : j = m := by omega
            subst this; exact ⟨j - 1, by omega, by omega, by rw [← heq]; exact e⟩
      · intro _ hl x hx
        simp only [Nat.add_sub_cancel]
        have := h3 hm0 (by omega) x hx
        rw [← heq] at this; exact this
theorem snames_spec (l : List Str) : SS (snames l) ∧ ∀ x, x ∈ snames l ↔ x ∈ l := by
  obtain ⟨h1, h2, _⟩ := compact_upto (sortS_sorted l) (sortS l).length (Nat.le_refl _)
  refine ⟨h1, fun x => ?_⟩
  rw [← sortS_mem (l := l)]
  show x ∈ Go.Lib.compactUpTo (sortS l).toArray (sortS l).length ↔ _
  rw [h2]
  constructor
  · rintro ⟨j, hj, _, rfl⟩; exact List.getElem_mem hj
  · intro hx
    obtain ⟨j, hj, e⟩ := List.mem_iff_getElem.1 hx
    exact ⟨j, hj, hj, e⟩
theorem compact_len (l : List Str) : (Go.Lib.compact l).length ≤ l.length := by
  unfold Go.Lib.compact Go.Lib.compactUpTo
  rw [List.length_map]
  exact Nat.le_trans (List.length_filter_le _ _) (by simp)
theorem snames_len (l : List Str) : (snames l).length ≤ l.length := by
  have := compact_len (sortS l); rw [sortS_len] at this; exact this
theorem snames_eq {l acc : List Str} (h1 : SS acc) (h2 : ∀ x, x ∈ acc ↔ x ∈ l) : acc = snames l :=
  ss_ext h1 (snames_spec l).1 fun x => (h2 x).trans ((snames_spec l).2 x).symm
def insAt (out : List Str) (s : Str) (k : Nat) : List Str := if out[k]? = some s then out else out.take k ++ s :: out.drop k
theorem insAt_spec {out : List Str} {s : Str} {k : Nat} (hS : SS out) (hk : k ≤ out.length) (h1 : ∀ j, ∀ hj : j < out.length, j < k → bl out[j] s = true) (h2 : ∀ hk : k < out.length, bl out[k] s = false) :
    SS (insAt out s k) ∧ ∀ x, x ∈ insAt out s k ↔ x = s ∨ x ∈ out := by
  unfold insAt
  split
  · rename_i he
    refine ⟨hS, fun x => ⟨.inr, ?_⟩⟩
    rintro (rfl | h)
    · exact List.mem_of_getElem? he
    · exact h
  · rename_i he
    have hd : ∀ y ∈ out.drop k, bl s y = true := by
      intro y hy
      obtain ⟨j, hj, rfl⟩ := List.mem_iff_getElem.1 hy
      simp only [List.length_drop] at hj
      rw [List.getElem_drop]
      have hk' : k < out.length := by omega
      have hne : out[k] ≠ s := fun e => he (by rw [List.getElem?_eq_getElem hk', e])
      have hsk : bl s out[k] = true := by
        cases hc : bl s out[k]
        · exact absurd (bl_tri (h2 hk') hc) hne
        · rfl
      rcases Nat.eq_zero_or_pos j with rfl | hj0
      · simpa using hsk
      · exact bl_trans hsk (List.pairwise_iff_getElem.1 hS k (k + j) hk' (by omega) (by omega))
    have ht : ∀ y ∈ out.take k, bl y s = true := by
      intro y hy
      obtain ⟨j, hj, rfl⟩ := List.mem_iff_getElem.1 hy
      simp only [List.length_take] at hj
      rw [List.getElem_take]
      exact h1 j (by omega) (by omega)
    constructor
    · unfold SS
      rw [List.pairwise_append, List.pairwise_cons]
      refine ⟨List.Pairwise.sublist (List.take_sublist k out) hS, ⟨hd, List.Pairwise.sublist (List.drop_sublist k out) hS⟩, ?_⟩
      intro a ha b hb
      rcases List.mem_cons.1 hb with rfl | hb
      · exact ht a ha
      · exact bl_trans (ht a ha) (hd b hb)
    · intro x
      rw [List.mem_append, List.mem_cons]
      conv => rhs; rw [← List.take_append_drop k out, List.mem_append]
      constructor
      · rintro (h | h | h)
        · exact .inr (.inl h)
        · exact .inl h
        · exact .inr (.inr h)
      · rintro (h | h | h)
        · exact .inr (.inl h)
        · exact .inl h
        · exact .inr (.inr h)
theorem rL_whileO {P : Program} {a : AC} {ks : List Kt} {s : Env} {h : Heap} {n : Nat} {Q : Fin} (I : Nat → Env → Heap → Nat → Prop) (k : Nat) (h0 : I k s h n)
    (hs : ∀ k s' h' n' (R : Fin), I k s' h' n' → (∀ k' s'' h'' n'', k' < k → I k' s'' h'' n'' → R .normal s'' h'' n'') → (∀ s'' h'' n'', kont P ks .ret s'' h'' n'' Q → R .ret s'' h'' n'') →
      (∀ x s'' h'' n'', kont P ks (.exit x) s'' h'' n'' Q → R (.exit x) s'' h'' n'') → rC P a [] s' h' n' R) : rL P a ks s h n Q :=
  rL_of I k h0 fun k s h n hi => hs k s h n _ hi (fun k' _ _ _ hlt h => ⟨k', hlt, h⟩) (fun _ _ _ h => h) (fun _ _ _ _ h => h)
end Go.Proofs.YtilcageplifbgaaGreat
