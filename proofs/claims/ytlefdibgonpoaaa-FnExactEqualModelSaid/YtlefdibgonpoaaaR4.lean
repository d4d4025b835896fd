/- Results that come out of a call; arguments that go in. -/
import Derived.Test.YtlefdibgonpoaaaR3
namespace Go.Proofs.Ytlefdibgonpoaaa
open Go Go.RowKit

mutual
def clean : AV → Bool
  | .int .. | .bool _ | .str _ | .nilp => true
  | .us _ rows => cleanr rows
  | .agg cs => cleanl cs
  | .tup cs => cleanl cs
  | _ => false
def cleanl : List AV → Bool
  | [] => true
  | a :: as => clean a && cleanl as
def cleanr : List (List AV) → Bool
  | [] => true
  | r :: rs => cleanl r && cleanr rs
end

theorem cleanl_iff (as : List AV) : cleanl as = as.all clean := by induction as with | nil => rfl | cons a as ih => simp [cleanl, ih]
theorem cleanr_iff (rs : List (List AV)) : cleanr rs = rs.all cleanl := by induction rs with | nil => rfl | cons a as ih => simp [cleanr, ih]

def Lo : Nat → Option Loc := fun _ => Option.none

theorem not_own_Lo (b : Nat) : ¬ Own Lo b := by rintro ⟨_, _, _, h⟩; cases h

section
variable {w : World} {L L' : Nat → Option Loc}
mutual
/-- What is clean speaks of its own memory alone. -/
theorem VR_env : ∀ {N N' : Nat} (a : AV) (v : Value) (S : List Nat), clean a = true → (∀ b ∈ S, ¬ Own L' b) → VR w L N a v S → VR w L' N' a v S
  | _, _, .undef, _, _, c, _, _ => by simp [clean] at c
  | _, _, .int .., _, _, _, _, h => by simpa only [VR] using h
  | _, _, .bool _, _, _, _, _, h => by simpa only [VR] using h
  | _, _, .str _, _, _, _, _, h => by simpa only [VR] using h
  | _, _, .nilp, _, _, _, _, h => by simpa only [VR] using h
  | _, _, .nil _, _, _, c, _, _ => by simp [clean] at c
  | _, _, .ptr .., _, _, c, _, _ => by simp [clean] at c
  | _, _, .fptr .., _, _, c, _, _ => by simp [clean] at c
  | _, _, .ref .., _, _, c, _, _ => by simp [clean] at c
  | _, _, .sl .., _, _, c, _, _ => by simp [clean] at c
  | _, _, .fn .., _, _, c, _, _ => by simp [clean] at c
  | _, _, .mp .., _, _, c, _, _ => by simp [clean] at c
  | _, _, .us sz rows, v, S, c, hS, h => by
    simp only [VR, clean] at c h ⊢
    obtain ⟨hl, h⟩ := h
    refine ⟨hl, ?_⟩
    rcases h with h | ⟨b, cap, cur, t, vals, rest, S', hv, rfl, ho, hb, h1, h2, h3, h4, h5, h6, h6', h7⟩
    · exact .inl h
    · exact .inr ⟨b, cap, cur, t, vals, rest, S', hv, rfl, hS b (by simp), hb, h1, h2, h3, h4, h5, h6, h6', VRr_env rows vals S' c (fun b hb => hS b (by simp [hb])) h7⟩
  | _, _, .agg cs, v, S, c, hS, h => by
    simp only [VR, clean] at c h ⊢
    obtain ⟨vs, hv, h1⟩ := h
    exact ⟨vs, hv, VRl_env cs _ _ c hS h1⟩
  | _, _, .tup cs, v, S, c, hS, h => by
    simp only [VR, clean] at c h ⊢
    obtain ⟨vs, hv, h1⟩ := h
    exact ⟨vs, hv, VRl_env cs _ _ c hS h1⟩
theorem VRl_env : ∀ {N N' : Nat} (as : List AV) (vs : List Value) (S : List Nat), cleanl as = true → (∀ b ∈ S, ¬ Own L' b) → VRl w L N as vs S → VRl w L' N' as vs S
  | _, _, [], _, _, _, _, h => by simpa only [VRl] using h
  | _, _, a :: as, vs, S, c, hS, h => by
    simp only [cleanl, Bool.and_eq_true] at c
    simp only [VRl] at h ⊢
    obtain ⟨v, vs', S1, S2, h1, rfl, h3, h4⟩ := h
    exact ⟨v, vs', S1, S2, h1, rfl, VR_env a v S1 c.1 (fun b hb => hS b (by simp [hb])) h3, VRl_env as vs' S2 c.2 (fun b hb => hS b (by simp [hb])) h4⟩
theorem VRr_env : ∀ {N N' : Nat} (rs : List (List AV)) (vs : List Value) (S : List Nat), cleanr rs = true → (∀ b ∈ S, ¬ Own L' b) → VRr w L N rs vs S → VRr w L' N' rs vs S
  | _, _, [], _, _, _, _, h => by simpa only [VRr] using h
  | _, _, r :: rs, vs, S, c, hS, h => by
    simp only [cleanr, Bool.and_eq_true] at c
    simp only [VRr] at h ⊢
    obtain ⟨v1, v2, S1, S2, h1, rfl, h3, h4⟩ := h
    exact ⟨v1, v2, S1, S2, h1, rfl, VRl_env r v1 S1 c.1 (fun b hb => hS b (by simp [hb])) h3, VRr_env rs v2 S2 c.2 (fun b hb => hS b (by simp [hb])) h4⟩
end

mutual
/-- What bears no id speaks of no heap. -/
theorem VR_base : ∀ (a : AV) (v : Value) (S : List Nat), VR w L 0 a v S → VR w Lo 0 a v S
  | .undef, _, _, h => by simpa only [VR] using h
  | .int .., _, _, h => by simpa only [VR] using h
  | .bool _, _, _, h => by simpa only [VR] using h
  | .str _, _, _, h => by simpa only [VR] using h
  | .nilp, _, _, h => by simpa only [VR] using h
  | .nil _, _, _, h => by simpa only [VR] using h
  | .ptr .., _, _, h => by simp only [VR] at h; exact absurd h.1.1 (Nat.not_lt_zero _)
  | .ref .., _, _, h => by simp only [VR] at h; exact absurd h.1.1 (Nat.not_lt_zero _)
  | .mp .., _, _, h => by simp only [VR] at h
  | .fptr row c, v, S, h => by
    simp only [VR] at h ⊢
    obtain ⟨⟨b, o, vals, hv, ho, hb, hc, h1, hr⟩, hS⟩ := h
    exact ⟨⟨b, o, vals, hv, not_own_Lo b, hb, hc, h1, VRl_base row vals [] hr⟩, hS⟩
  | .sl sz rows, v, S, h => by
    simp only [VR] at h ⊢
    obtain ⟨⟨A, cap, vals, hv, hl, hr, hb⟩, hS⟩ := h
    refine ⟨⟨A, cap, vals, hv, hl, VRr_base rows vals [] hr, ?_⟩, hS⟩
    rcases hb with hb | ⟨b, o, hA, ho, hb, hs, hc, h1⟩
    · exact .inl hb
    · exact   .inr ⟨b, o, hA, not_own_Lo b, hb, hs, hc, h1⟩
  | .us sz rows, v, S, h => by
    simp only [VR] at h ⊢
    obtain ⟨hl, h⟩ := h
    refine ⟨hl, ?_⟩
    rcases h with h | ⟨b, cap, cur, t, vals, rest, S', hv, hS, ho, hb, h1, h2, h3, h4, h5, h6, h6', h7⟩
    · exact .inl h
    · exact .inr ⟨b, cap, cur, t, vals, rest, S', hv, hS, not_own_Lo b, hb, h1, h2, h3, h4, h5, h6, h6', VRr_base rows vals S' h7⟩
  | .fn f fi ca, v, S, h => by
    simp only [VR] at h ⊢
    obtain ⟨⟨x, y, hv, h1, h2⟩, hS⟩ := h
    exact ⟨⟨x, y, hv, VRl_base fi _ _ h1, VRl_base ca _ _ h2⟩, hS⟩
  | .agg cs, v, S, h => by
    simp only [VR] at h ⊢
    obtain ⟨vs, hv, h1⟩ := h
    exact ⟨vs, hv, VRl_base cs _ _ h1⟩
  | .tup cs, v, S, h => by
    simp only [VR] at h ⊢
    obtain ⟨vs, hv, h1⟩ := h
    exact ⟨vs, hv, VRl_base cs _ _ h1⟩
theorem VRl_base : ∀ (as : List AV) (vs : List Value) (S : List Nat), VRl w L 0 as vs S → VRl w Lo 0 as vs S
  | [], _, _, h => by simpa only [VRl] using h
  | a :: as, vs, S, h => by
    simp only [VRl] at h ⊢
    obtain ⟨v, vs', S1, S2, h1, h2, h3, h4⟩ := h
    exact ⟨v, vs', S1, S2, h1, h2, VR_base a v S1 h3, VRl_base as vs' S2 h4⟩
theorem VRr_base : ∀ (rs : List (List AV)) (vs : List Value) (S : List Nat), VRr w L 0 rs vs S → VRr w Lo 0 rs vs S
  | [], _, _, h => by simpa only [VRr] using h
  | r :: rs, vs, S, h => by
    simp only [VRr] at h ⊢
    obtain ⟨v1, v2, S1, S2, h1, h2, h3, h4⟩ := h
    exact ⟨v1, v2, S1, S2, h1, h2, VRl_base r v1 S1 h3, VRr_base rs v2 S2 h4⟩
end
end

/-! Borrowing. -/
section
variable {base : Nat} {w0 w : World} {L : Nat → Option Loc} {N : Nat} {F : Nat → List Nat} {E : List Nat} {h : Heap}

theorem cells_of_row {cur : Array Value} {t : TypeId} {b : Nat} {pre vals rest : List Value} (hb : w.heap[b]? = some (.cells cur t (0, 0))) (hc : cur.toList = pre ++ vals ++ rest) :
    cellsAt w b pre.length vals := by
  intro j v hj
  rw [cell_of_row w b _ cur t (0, 0) hb, ← Array.getElem?_toList, hc, List.append_assoc, List.getElem?_append_right (by omega), Nat.add_sub_cancel_left, List.getElem?_append_left (List.getElem?_eq_some_iff.1 hj).1]
  exact hj

theorem flat_length {rows : List (List AV)} {sz : Nat} (h : ∀ r ∈ rows, r.length = sz) : rows.flatten.length = rows.length * sz := by
  induction rows with
  | nil => simp
  | cons r rs ih =>
    simp only [List.flatten_cons, List.length_append, List.length_cons, ih (fun r hr => h r (by simp [hr])), h r (by simp), Nat.add_mul]; omega

theorem VRr_length {rows : List (List AV)} {sz : Nat} {vals : List Value} {S : List Nat} (h : ∀ r ∈ rows, r.length = sz) (hv : VRr w L N rows vals S) : vals.length = rows.length * sz := by
  rw [VRr_iff] at hv
  rw [VRl_length hv, flat_length h]

theorem HRel.borrow (H : HRel base w0 w L N F E h) {id off len : Nat} {B : Blk} {v : Value} (hB : h id = some B) (hbox : B.box = false) (hlen : off + len ≤ B.rows.length)
    (hv : VR w L N (.ref id off len) v []) : VR w Lo 0 (.sl B.sz (drr ((B.rows.drop off).take len))) v [] := by
  cases hl : L id with
  | none => rw [H.mod id hl] at hB; cases hB
  | some l =>
    simp only [VR] at hv
    have hr := hv.1.2.2 l hl
    have hbr := H.blk id B l hB hl
    have hlenT : (drr ((B.rows.drop off).take len)).length = len := by rw [drr_eq]; simp; omega
    cases l with
    | none =>
      obtain ⟨hrows, hF⟩ := hbr
      obtain ⟨_, rfl, hl0, rfl⟩ := hr
      subst hl0
      simp only [VR, hlenT]
      simp only [hrows, List.drop_nil, List.take_nil, drr]
      exact ⟨⟨_, _, [], rfl, ⟨Nat.zero_le _, Nat.le_refl _⟩, ⟨rfl, rfl⟩, .inl trivial⟩, trivial⟩
    | «at» b sz cap =>
      obtain ⟨rfl, _, cur, t, vals, rest, h1, h2, h3, h4, h5, h6, h7, h8, h9, h10⟩ := hbr
      obtain ⟨hlim, A, rfl, hA, hcap⟩ := hr
      simp only [hbox, if_false, Bool.false_eq_true] at h10
      have hvl := VRr_length h8 h10
      obtain ⟨v1, v2, S1, S2, rfl, hS, g1, g2⟩ := VRr_take off h10
      obtain ⟨v3, v4, S3, S4, rfl, hS', g3, g4⟩ := VRr_take len g2
      have hv1 : v1.length = off * B.sz := by
        rw [VRr_length (fun r hr => h8 r (List.mem_of_mem_take hr)) g1, List.length_take, Nat.min_eq_left (by omega)]
      have hone : one v3 := fun v hv => h9 v (by simp [hv])
      simp only [VR, hlenT]
      refine ⟨⟨A, _, v3, rfl, ⟨hlim, by omega⟩, VRr_base _ _ _ (VRr_dr _ _ _ g3), ?_⟩, trivial⟩
      by_cases h0 : len = 0
      · left; rw [h0, List.take_zero]; rfl
      · right
        refine ⟨b, off * B.sz, hA (.inl (by omega)), not_own_Lo b, lt_of_heap h1, ?_, ?_, hone⟩
        · intro r hr
          rw [drr_eq] at hr
          obtain ⟨r', hr', rfl⟩ := List.mem_map.1 hr
          rw [drl_eq, List.length_map]; exact h8 r' (List.mem_of_mem_drop (List.mem_of_mem_take hr'))
        · rw [← hv1]
          exact cells_of_row (pre := v1) (vals := v3) (rest := v4 ++ rest) h1 (by rw [h2]; simp)

mutual
theorem bw_sound (H : HRel base w0 w L N F E h) : ∀ (a : AV) {v : Value} {a' : AV}, VR w L N a v [] → bw a h = some a' → VR w Lo 0 a' v []
  | .undef, _, _, _, hd => by simp [bw] at hd
  | .ptr .., _, _, _, hd => by simp [bw] at hd
  | .fptr .., _, _, _, hd => by simp [bw] at hd
  | .mp _, _, _, _, hd => by simp [bw] at hd
  | .int .., v, a', hv, hd => by simp only [bw, Option.some.injEq] at hd; subst hd; simpa only [VR] using hv
  | .bool _, v, a', hv, hd => by simp only [bw, Option.some.injEq] at hd; subst hd; simpa only [VR] using hv
  | .str _, v, a', hv, hd => by simp only [bw, Option.some.injEq] at hd; subst hd; simpa only [VR] using hv
  | .nilp, v, a', hv, hd => by simp only [bw, Option.some.injEq] at hd; subst hd; simpa only [VR] using hv
  | .nil sz, v, a', hv, hd => by
    simp only [bw, Option.some.injEq] at hd; subst hd
    simp only [VR] at hv ⊢
    exact ⟨⟨_, _, [], hv.1, ⟨Nat.zero_le _, Nat.le_refl _⟩, ⟨rfl, rfl⟩, .inl trivial⟩, trivial⟩
  | .sl sz rows, v, a', hv, hd => by
    simp only [bw, Option.some.injEq] at hd; subst hd
    exact VR_base _ _ _ (by simpa only [VR] using hv)
  | .us sz rows, v, a', hv, hd => by
    simp only [bw, Option.some.injEq] at hd; subst hd
    have := VR_dr _ _ _ hv
    exact VR_base _ _ _ (by simpa only [VR, dr] using this)
  | .ref id off len, v, a', hv, hd => by
    simp only [bw] at hd
    split at hd
    · rename_i B hB
      split at hd
      · rename_i hc
        simp only [Option.some.injEq] at hd; subst hd
        exact H.borrow hB hc.1 hc.2 hv
      · cases hd
    · cases hd
  | .fn f fi ca, v, a', hv, hd => by
    have : ∃ x y, bwl fi h = some x ∧ bwl ca h = some y ∧ a' = .fn f x y := by
      cases fi with
      | nil =>
        cases ca with
        | nil => simp only [bw, Option.some.injEq] at hd; exact ⟨[], [], rfl, rfl, hd.symm⟩
        | cons => simp only [bw, Option.bind_eq_some_iff, Option.map_eq_some_iff] at hd; obtain ⟨x, hx, y, hy, he⟩ := hd; exact ⟨x, y, hx, hy, he.symm⟩
      | cons => simp only [bw, Option.bind_eq_some_iff, Option.map_eq_some_iff] at hd; obtain ⟨x, hx, y, hy, he⟩ := hd; exact ⟨x, y, hx, hy, he.symm⟩
    obtain ⟨x, y, hx, hy, rfl⟩ := this
    simp only [VR] at hv ⊢
    obtain ⟨⟨x', y', rfl, h1, h2⟩, _⟩ := hv
    exact ⟨⟨x', y', rfl, bwl_sound H fi h1 hx, bwl_sound H ca h2 hy⟩, trivial⟩
  | .agg cs, v, a', hv, hd => by
    simp only [bw, Option.map_eq_some_iff] at hd
    obtain ⟨cs', hd, rfl⟩ := hd
    simp only [VR] at hv ⊢
    obtain ⟨vs, rfl, hv⟩ := hv
    exact ⟨vs, rfl, bwl_sound H cs hv hd⟩
  | .tup cs, v, a', hv, hd => by
    simp only [bw, Option.map_eq_some_iff] at hd
    obtain ⟨cs', hd, rfl⟩ := hd
    simp only [VR] at hv ⊢
    obtain ⟨vs, rfl, hv⟩ := hv
    exact ⟨vs, rfl, bwl_sound H cs hv hd⟩
theorem bwl_sound (H : HRel base w0 w L N F E h) : ∀ (as : List AV) {vs : List Value} {as' : List AV}, VRl w L N as vs [] → bwl as h = some as' → VRl w Lo 0 as' vs []
  | [], vs, as', hv, hd => by simp only [bwl, Option.some.injEq] at hd; subst hd; simpa only [VRl] using hv
  | a :: as, vs, as', hv, hd => by
    simp only [bwl, Option.bind_eq_some_iff, Option.map_eq_some_iff] at hd
    obtain ⟨x, hx, y, hy, rfl⟩ := hd
    obtain ⟨v, vs', rfl, hv1, hv2⟩ := VRl_nil_cons.1 hv
    exact VRl_nil_cons.2 ⟨v, vs', rfl, bw_sound H a hv1 hx, bwl_sound H as hv2 hy⟩
end
end

end Go.Proofs.Ytlefdibgonpoaaa
