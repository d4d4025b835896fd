/- Which functions are reached from which: plain laws. -/
import Derived.Test.YtlmajgghnenbpaaGreatV0
namespace Go.Proofs.YtlmajgghnenbpaaGreat
set_option linter.all false
open Go Go.RowKit Go.Proofs

/-- From one name to another along edges. -/
inductive RT (E : List (Str × Str)) : Str → Str → Prop
  | refl (a : Str) : RT E a a
  | step {a b c : Str} : RT E a b → (b, c) ∈ E → RT E a c
theorem RT.trans {E : List (Str × Str)} {a b c : Str} (h : RT E a b) (k : RT E b c) : RT E a c := by
  induction k with
  | refl => exact h
  | step _ he ih => exact ih.step he
/-- What is in a set that holds a and is closed. -/
theorem RT.closed {E : List (Str × Str)} {S : Str → Prop} {a b : Str} (h : RT E a b) (ha : S a) (hc : ∀ x y, (x, y) ∈ E → S x → S y) : S b := by
  induction h with
  | refl => exact ha
  | step _ he ih => exact hc _ _ he ih

theorem hasS_iff {l : List Str} {s : Str} : hasS l s = true ↔ s ∈ l := by simp [hasS]
theorem hasS_not {l : List Str} {s : Str} : hasS l s = false ↔ s ∉ l := by rw [← Bool.not_eq_true, hasS_iff]

/-- One edge of the program's round, its round, its rounds. -/
def seeE (S : List Str) (e : Str × Str) : List Str := if hasS S e.1 then (if hasS S e.2 then S else S ++ [e.2]) else S
def seeR (E : List (Str × Str)) (S : List Str) : List Str := E.foldl seeE S
def seeN (E : List (Str × Str)) : Nat → List Str → List Str
  | 0, S => S
  | n + 1, S => seeN E n (seeR E S)

theorem seeE_sub {S : List Str} {e : Str × Str} {x : Str} (h : x ∈ S) : x ∈ seeE S e := by
  unfold seeE; split
  · split
    · exact h
    · exact List.mem_append_left _ h
  · exact h
theorem seeR_sub {E : List (Str × Str)} : ∀ {S : List Str} {x : Str}, x ∈ S → x ∈ seeR E S := by
  unfold seeR
  induction E with
  | nil => intro S x h; exact h
  | cons e E ih => intro S x h; exact ih (seeE_sub h)
theorem seeN_sub {E : List (Str × Str)} : ∀ {n : Nat} {S : List Str} {x : Str}, x ∈ S → x ∈ seeN E n S
  | 0, _, _, h => h
  | n + 1, _, _, h => seeN_sub (n := n) (seeR_sub h)
theorem seeE_nodup {S : List Str} {e : Str × Str} (h : S.Nodup) : (seeE S e).Nodup := by
  unfold seeE; split
  · split
    · exact h
    · rename_i h2
      rw [Bool.not_eq_true, hasS_not] at h2
      rw [List.nodup_append]
      exact ⟨h, by simp, fun a ha b hb hab => h2 (by rw [← List.mem_singleton.1 hb, ← hab]; exact ha)⟩
  · exact h
theorem seeR_nodup {E : List (Str × Str)} : ∀ {S : List Str}, S.Nodup → (seeR E S).Nodup := by
  unfold seeR
  induction E with
  | nil => intro S h; exact h
  | cons e E ih => intro S h; exact ih (seeE_nodup h)
theorem seeN_nodup {E : List (Str × Str)} : ∀ {n : Nat} {S : List Str}, S.Nodup → (seeN E n S).Nodup
  | 0, _, h => h
  | n + 1, _, h => seeN_nodup (n := n) (seeR_nodup h)
theorem seeE_len {S : List Str} {e : Str × Str} : S.length ≤ (seeE S e).length := by
  unfold seeE; split
  · split <;> simp
  · simp
theorem seeR_len {E : List (Str × Str)} : ∀ {S : List Str}, S.length ≤ (seeR E S).length := by
  unfold seeR
  induction E with
  | nil => intro S; exact Nat.le_refl _
  | cons e E ih => intro S; exact Nat.le_trans seeE_len ih
/-- A round that adds nothing: closed. -/
theorem seeR_stable {E : List (Str × Str)} : ∀ {S : List Str}, (seeR E S).length = S.length → seeR E S = S ∧ ∀ x y, (x, y) ∈ E → x ∈ S → y ∈ S := by
  unfold seeR
  induction E with
  | nil => intro S _; exact ⟨rfl, fun _ _ h => by cases h⟩
  | cons e E ih =>
    intro S h
    simp only [List.foldl_cons] at h ⊢
    have h1 := seeE_len (S := S) (e := e)
    have h2 : (seeE S e).length ≤ (List.foldl seeE (seeE S e) E).length := seeR_len (E := E)
    have h3 : seeE S e = S := by
      unfold seeE at h1 h2 h ⊢
      split at h1 <;> rename_i g1
      · split at h1 <;> rename_i g2
        · simp [g1, g2]
        · exfalso; simp only [g1, g2, if_true, if_false] at h h2; simp at h h2; omega
      · simp [g1]
    rw [h3] at h ⊢
    obtain ⟨k1, k2⟩ := ih h
    refine ⟨k1, fun x y hxy hx => ?_⟩
    rcases List.mem_cons.1 hxy with rfl | hxy
    · unfold seeE at h3
      rw [if_pos (hasS_iff.2 hx)] at h3
      split at h3
      · rename_i g; exact hasS_iff.1 g
      · have := congrArg List.length h3; simp at this
    · exact k2 x y hxy hx
theorem seeE_in {E : List (Str × Str)} {S : List Str} {e : Str × Str} {a : Str} (he : e ∈ E) (h : ∀ x ∈ S, RT E a x) : ∀ x ∈ seeE S e, RT E a x := by
  unfold seeE; split
  · rename_i g
    split
    · exact h
    · intro x hx
      rcases List.mem_append.1 hx with hx | hx
      · exact h x hx
      · rw [List.mem_singleton.1 hx]; exact (h _ (hasS_iff.1 g)).step he
  · exact h
theorem seeR_in {E : List (Str × Str)} {a : Str} : ∀ {S : List Str}, (∀ x ∈ S, RT E a x) → ∀ x ∈ seeR E S, RT E a x := by
  have key : ∀ (E' : List (Str × Str)), (∀ e ∈ E', e ∈ E) → ∀ (S : List Str), (∀ x ∈ S, RT E a x) → ∀ x ∈ E'.foldl seeE S, RT E a x := by
    intro E'
    induction E' with
    | nil => intro _ S h; exact h
    | cons e E' ih => intro hE S h; exact ih (fun e he => hE e (List.mem_cons_of_mem _ he)) _ (seeE_in (hE e (List.mem_cons_self ..)) h)
  intro S h
  exact key E (fun _ h => h) S h
theorem seeN_in {E : List (Str × Str)} {a : Str} : ∀ {n : Nat} {S : List Str}, (∀ x ∈ S, RT E a x) → ∀ x ∈ seeN E n S, RT E a x
  | 0, _, h => h
  | n + 1, _, h => seeN_in (n := n) (seeR_in h)
theorem seeR_names {E : List (Str × Str)} {N : List Str} (hE : ∀ e ∈ E, e.2 ∈ N) : ∀ {S : List Str}, (∀ x ∈ S, x ∈ N) → ∀ x ∈ seeR E S, x ∈ N := by
  unfold seeR
  induction E with
  | nil => intro S h; exact h
  | cons e E ih =>
    intro S h
    refine ih (fun e he => hE e (List.mem_cons_of_mem _ he)) ?_
    intro x hx
    unfold seeE at hx
    split at hx
    · split at hx
      · exact h x hx
      · rcases List.mem_append.1 hx with hx | hx
        · exact h x hx
        · rw [List.mem_singleton.1 hx]; exact hE e (List.mem_cons_self ..)
    · exact h x hx
theorem nodup_len {N : List Str} : ∀ {S : List Str}, S.Nodup → (∀ x ∈ S, x ∈ N) → S.length ≤ N.length := by
  induction N with
  | nil =>
    intro S _ h
    cases S with
    | nil => exact Nat.le_refl _
    | cons x S => have := h x (List.mem_cons_self ..); cases this
  | cons y N ih =>
    intro S hS h
    have := ih (S := S.filter (· != y)) (hS.sublist List.filter_sublist) (fun x hx => by
      rw [List.mem_filter] at hx
      rcases List.mem_cons.1 (h x hx.1) with rfl | h'
      · simp at hx
      · exact h')
    have hc : S.length ≤ (S.filter (· != y)).length + 1 := by
      clear this ih h
      induction S with
      | nil => simp
      | cons x S ih =>
        rw [List.nodup_cons] at hS
        by_cases hx : x = y
        · subst hx
          have hf : S.filter (· != x) = S := List.filter_eq_self.2 fun z hz => by simp; rintro rfl; exact hS.1 hz
          simp [hf]
        · have hx' : (x != y) = true := by simpa using hx
          simp only [List.filter_cons, hx', if_true, List.length_cons]
          have := ih hS.2
          omega
    simp only [List.length_cons]; omega
/-- After as many rounds as there are names (or more), everything that is reached is there. -/
theorem seeN_closed {E : List (Str × Str)} {N : List Str} (hE : ∀ e ∈ E, e.2 ∈ N) : ∀ (n : Nat) {S : List Str}, S.Nodup → (∀ x ∈ S, x ∈ N) → N.length ≤ n + S.length → ∀ x y, (x, y) ∈ E → x ∈ seeN E n S → y ∈ seeN E n S
  | 0, S, hS, hN, hn, x, y, hxy, hx => by
    have h1 := nodup_len (seeR_nodup (E := E) hS) (seeR_names hE hN)
    have h2 := seeR_len (E := E) (S := S)
    exact (seeR_stable (E := E) (S := S) (by omega)).2 x y hxy hx
  | n + 1, S, hS, hN, hn, x, y, hxy, hx => by
    by_cases hst : (seeR E S).length = S.length
    · obtain ⟨k1, k2⟩ := seeR_stable hst
      have hall : ∀ m, seeN E m S = S := by
        intro m
        induction m with
        | zero => rfl
        | succ m ih => simp only [seeN, k1]; exact ih
      rw [hall] at hx ⊢
      exact k2 x y hxy hx
    · have h2 := seeR_len (E := E) (S := S)
      exact seeN_closed hE n (seeR_nodup hS) (seeR_names hE hN) (by omega) x y hxy hx
/-- What the rounds hold. -/
theorem seeN_iff {E : List (Str × Str)} {N : List Str} {a : Str} (hE : ∀ e ∈ E, e.2 ∈ N) (ha : a ∈ N) {n : Nat} (hn : N.length ≤ n + 1) (x : Str) : x ∈ seeN E n [a] ↔ RT E a x := by
  constructor
  · exact seeN_in (fun x hx => by rw [List.mem_singleton.1 hx]; exact .refl _) x
  · intro h
    exact h.closed (seeN_sub (by simp)) (seeN_closed hE n (by simp) (fun x hx => by rw [List.mem_singleton.1 hx]; exact ha) (by simpa using hn))

/-- What is reached from a, among names. -/
def reachN (E : List (Str × Str)) (N : List Str) (a : Str) : List Str := N.filter (hasS (seeN E N.length [a]))
theorem reachN_iff {E : List (Str × Str)} {N : List Str} {a : Str} (hE : ∀ e ∈ E, e.2 ∈ N) (ha : a ∈ N) (x : Str) : x ∈ reachN E N a ↔ x ∈ N ∧ RT E a x := by
  unfold reachN
  rw [List.mem_filter, hasS_iff, seeN_iff hE ha (by omega)]
/-- Any list that holds what is reached, and no more, selects the same names. -/
theorem reachN_of {E : List (Str × Str)} {N : List Str} {a : Str} {M : List Str} (hE : ∀ e ∈ E, e.2 ∈ N) (ha : a ∈ N) (hM : ∀ x, x ∈ M ↔ RT E a x) : N.filter (hasS M) = reachN E N a := by
  unfold reachN
  refine List.filter_congr fun x _ => ?_
  rw [Bool.eq_iff_iff, hasS_iff, hasS_iff, hM, seeN_iff hE ha (by omega)]
theorem reachN_rt {E : List (Str × Str)} {N : List Str} {a b : Str} (hE : ∀ e ∈ E, e.2 ∈ N) (ha : a ∈ N) (hb : b ∈ N) (hab : RT E a b) (hba : RT E b a) : reachN E N a = reachN E N b := by
  unfold reachN
  refine List.filter_congr fun x _ => ?_
  rw [Bool.eq_iff_iff, hasS_iff, hasS_iff, seeN_iff hE ha (by omega), seeN_iff hE hb (by omega)]
  exact ⟨fun h => hba.trans h, fun h => hab.trans h⟩

/-- The names that reach a and are reached from it. -/
def compN (E : List (Str × Str)) (N : List Str) (a : Str) : List Str := (reachN E N a).filter fun g => hasS (reachN E N g) a
theorem compN_iff {E : List (Str × Str)} {N : List Str} {a : Str} (hE : ∀ e ∈ E, e.2 ∈ N) (ha : a ∈ N) (x : Str) : x ∈ compN E N a ↔ x ∈ N ∧ RT E a x ∧ RT E x a := by
  unfold compN
  rw [List.mem_filter, hasS_iff, reachN_iff hE ha]
  constructor
  · rintro ⟨⟨h1, h2⟩, h3⟩
    exact ⟨h1, h2, ((reachN_iff hE h1 a).1 h3).2⟩
  · rintro ⟨h1, h2, h3⟩
    exact ⟨⟨h1, h2⟩, (reachN_iff hE h1 a).2 ⟨ha, h3⟩⟩
end Go.Proofs.YtlmajgghnenbpaaGreat
