/- Components, one after the other: plain laws. -/
import Derived.Test.YtlmajgghnenbpaaGreatG0
namespace Go.Proofs.YtlmajgghnenbpaaGreat
set_option linter.all false
open Go Go.RowKit Go.Proofs

/-- May the component of a be taken next? -/
def openN (E : List (Str × Str)) (N done : List Str) (a : Str) : Bool := (reachN E N a).all fun g => hasS done g || hasS (compN E N a) g
def takeN (E : List (Str × Str)) (N done : List Str) (a : Str) : Bool := !hasS done a && openN E N done a
def compsN (E : List (Str × Str)) (N : List Str) : Nat → List Str → List (List Str)
  | 0, _ => []
  | n + 1, done => if done.length < N.length then (match N.find? (takeN E N done) with
      | some a => compN E N a :: compsN E N n (done ++ compN E N a)
      | Option.none => []) else []

/-- What is placed: names, each once, whole components. -/
structure Done (E : List (Str × Str)) (N done : List Str) : Prop where
  nd : done.Nodup
  sub : ∀ x ∈ done, x ∈ N
  whole : ∀ a ∈ done, ∀ b, b ∈ compN E N a → b ∈ done

theorem Done.nil {E : List (Str × Str)} {N : List Str} : Done E N [] := ⟨List.nodup_nil, fun _ h => (by cases h), fun _ h => (by cases h)⟩
theorem reach_len {E : List (Str × Str)} {N : List Str} (hN : N.Nodup) (hE : ∀ e ∈ E, e.2 ∈ N) {a g : Str} (ha : a ∈ N) (hg : g ∈ reachN E N a) (hng : g ∉ compN E N a) : (reachN E N g).length < (reachN E N a).length := by
  obtain ⟨h1, h2⟩ := (reachN_iff hE ha g).1 hg
  have hnot : ¬ RT E g a := fun h => hng ((compN_iff hE ha g).2 ⟨h1, h2, h⟩)
  have hsub : ∀ x ∈ reachN E N g, x ∈ (reachN E N a).filter (· != a) := by
    intro x hx
    obtain ⟨k1, k2⟩ := (reachN_iff hE h1 x).1 hx
    rw [List.mem_filter]
    refine ⟨(reachN_iff hE ha x).2 ⟨k1, h2.trans k2⟩, ?_⟩
    simp only [bne_iff_ne, ne_eq]
    rintro rfl
    exact hnot k2
  have haa : a ∈ reachN E N a := (reachN_iff hE ha a).2 ⟨ha, .refl _⟩
  have hl := nodup_len (hN.sublist (List.filter_sublist (l := N))) hsub
  have hlt : ((reachN E N a).filter (· != a)).length < (reachN E N a).length := by
    refine Nat.lt_of_le_of_ne (List.length_filter_le _ _) fun h => ?_
    have := List.length_filter_eq_length_iff.1 h a haa
    simp at this
  exact Nat.lt_of_le_of_lt hl hlt
/-- Where a name is not placed, some component may be taken. -/
theorem take_some {E : List (Str × Str)} {N done : List Str} (hN : N.Nodup) (hE : ∀ e ∈ E, e.2 ∈ N) : ∀ (m : Nat) (a : Str), a ∈ N → a ∉ done → (reachN E N a).length ≤ m → (N.find? (takeN E N done)).isSome = true
  | 0, a, ha, _, hm => by
    have haa : a ∈ reachN E N a := (reachN_iff hE ha a).2 ⟨ha, .refl _⟩
    have := List.eq_nil_of_length_eq_zero (Nat.le_zero.1 hm)
    rw [this] at haa; cases haa
  | m + 1, a, ha, hd, hm => by
    by_cases ho : openN E N done a = true
    · rw [List.find?_isSome]
      exact ⟨a, ha, by simp [takeN, hasS_not.2 hd, ho]⟩
    · have ho' : openN E N done a = false := by simpa using ho
      unfold openN at ho'
      rw [List.all_eq_false] at ho'
      obtain ⟨g, hg, h12⟩ := ho'
      simp only [Bool.or_eq_true, not_or] at h12
      obtain ⟨h1, h2⟩ := h12
      have h1' : g ∉ done := fun h => h1 (hasS_iff.2 h)
      have h2' : g ∉ compN E N a := fun h => h2 (hasS_iff.2 h)
      have := reach_len hN hE ha hg h2'
      exact take_some hN hE m g ((reachN_iff hE ha g).1 hg).1 h1' (by omega)
theorem next_some {E : List (Str × Str)} {N done : List Str} (hN : N.Nodup) (hE : ∀ e ∈ E, e.2 ∈ N) (D : Done E N done) (hl : done.length < N.length) : (N.find? (takeN E N done)).isSome = true := by
  have : ∃ a ∈ N, a ∉ done := by
    apply Classical.byContradiction
    intro h
    have h' : ∀ a ∈ N, a ∈ done := fun a ha => Classical.byContradiction fun h2 => h ⟨a, ha, h2⟩
    have := nodup_len hN h'
    omega
  obtain ⟨a, ha, hd⟩ := this
  exact take_some hN hE _ a ha hd (Nat.le_refl _)
theorem Done.step {E : List (Str × Str)} {N done : List Str} {a : Str} (hN : N.Nodup) (hE : ∀ e ∈ E, e.2 ∈ N) (D : Done E N done) (ha : a ∈ N) (hd : a ∉ done) : Done E N (done ++ compN E N a) := by
  have hc : (compN E N a).Nodup := (hN.sublist List.filter_sublist).sublist List.filter_sublist
  refine ⟨?_, ?_, ?_⟩
  · rw [List.nodup_append]
    refine ⟨D.nd, hc, ?_⟩
    rintro x hx y hy rfl
    obtain ⟨h1, h2, h3⟩ := (compN_iff hE ha x).1 hy
    exact hd (D.whole x hx a ((compN_iff hE h1 a).2 ⟨ha, h3, h2⟩))
  · intro x hx
    rcases List.mem_append.1 hx with hx | hx
    · exact D.sub x hx
    · exact ((compN_iff hE ha x).1 hx).1
  · intro x hx b hb
    rcases List.mem_append.1 hx with hx | hx
    · exact List.mem_append_left _ (D.whole x hx b hb)
    · obtain ⟨h1, h2, h3⟩ := (compN_iff hE ha x).1 hx
      obtain ⟨k1, k2, k3⟩ := (compN_iff hE h1 b).1 hb
      exact List.mem_append_right _ ((compN_iff hE ha b).2 ⟨k1, h2.trans k2, k3.trans h3⟩)
theorem comp_self {E : List (Str × Str)} {N : List Str} {a : Str} (hE : ∀ e ∈ E, e.2 ∈ N) (ha : a ∈ N) : a ∈ compN E N a := (compN_iff hE ha a).2 ⟨ha, .refl _, .refl _⟩
/-- The same component: reached alike. -/
theorem reach_comp {E : List (Str × Str)} {N : List Str} {a b : Str} (hE : ∀ e ∈ E, e.2 ∈ N) (ha : a ∈ N) (hb : b ∈ compN E N a) : reachN E N b = reachN E N a := by
  obtain ⟨h1, h2, h3⟩ := (compN_iff hE ha b).1 hb
  exact reachN_rt hE h1 ha h3 h2
theorem compsN_len {E : List (Str × Str)} {N : List Str} : ∀ (n : Nat) (done : List Str), (compsN E N n done).length ≤ n
  | 0, _ => Nat.le_refl _
  | n + 1, done => by
    simp only [compsN]
    split
    · split
      · simp only [List.length_cons]; have := compsN_len n (done ++ compN E N ‹Str›) (E := E) (N := N); omega
      · simp
    · simp
end Go.Proofs.YtlmajgghnenbpaaGreat
