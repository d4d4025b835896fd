/- One step of the abstract heap: one id is written, or dies and another takes its place. -/
import Derived.Test.YtlefdibgonpoaaaR5
namespace Go.Proofs.Ytlefdibgonpoaaa
open Go Go.RowKit

section
variable {base : Nat} {w0 w w' : World} {L : Nat → Option Loc} {N N' : Nat} {F : Nat → List Nat} {E E' : List Nat} {h : Heap}

theorem HRel.chg (H : HRel base w0 w L N F E h) (k kill : Nat) (B' : Blk) (l' : Loc) (S' : List Nat)
    (hN : N ≤ N') (hkN : k < N') (hk : k = kill ∨ N ≤ k) (hsame : k < N → L k = some l')
    (hw : Below base w w')
    (hblk : ∀ b, b < w.heap.size → (∀ sz cap, L kill ≠ some (.at b sz cap)) → w'.heap[b]? = w.heap[b]?)
    (hown : ∀ b sz cap, l' = .at b sz cap → base ≤ b ∧ b < w'.heap.size ∧ ((∃ sz cap, L kill = some (.at b sz cap)) ∨ w.heap.size ≤ b))
    (hB : ∀ L', Ext w L N w' L' N' → L' = upd (upd L kill Option.none) k (some l') → BRel w' L' N' B' l' S')
    (hS : (S' ++ E').Nodup) (hS2 : ∀ x ∈ S' ++ E', x ∈ F kill ∨ x ∈ E) :
    HRel base w0 w' (upd (upd L kill Option.none) k (some l')) N' (upd (upd F kill []) k S') E' (upd (upd h kill Option.none) k (some B')) ∧
      Ext w L N w' (upd (upd L kill Option.none) k (some l')) N' := by
  have hLk : k ≠ kill → L k = Option.none := fun hne => by
    cases hl : L k with
    | none => rfl
    | some l => have := H.lt k l hl; rcases hk with hk | hk; exact absurd hk hne; omega
  have Lc : ∀ i l, upd (upd L kill Option.none) k (some l') i = some l → (i = k ∧ l = l') ∨ (i ≠ k ∧ i ≠ kill ∧ L i = some l) := fun i l hi => by
    simp only [upd] at hi
    split at hi
    · rename_i hik; cases hi; exact .inl ⟨hik, rfl⟩
    · split at hi
      · cases hi
      · exact .inr ⟨by assumption, by assumption, hi⟩
  have Oc : ∀ b, Own (upd (upd L kill Option.none) k (some l')) b → Own L b ∨ w.heap.size ≤ b := by
    rintro b ⟨i, sz, cap, hi⟩
    rcases Lc i _ hi with ⟨rfl, hl⟩ | ⟨_, _, hl⟩
    · rcases (hown b sz cap hl.symm).2.2 with ⟨sz', cap', h'⟩ | h'
      · exact .inl ⟨kill, sz', cap', h'⟩
      · exact .inr h'
    · exact .inl ⟨i, sz, cap, hl⟩
  have Fc : ∀ i x, x ∈ upd (upd F kill []) k S' i → (i = k ∧ x ∈ S') ∨ (i ≠ k ∧ i ≠ kill ∧ x ∈ F i) := fun i x hi => by
    simp only [upd] at hi
    split at hi
    · rename_i hik; exact .inl ⟨hik, hi⟩
    · split at hi
      · cases hi
      · exact .inr ⟨by assumption, by assumption, hi⟩
  have e : Ext w L N w' (upd (upd L kill Option.none) k (some l')) N' := by
    refine ⟨hN, ?_, hw.size, ?_⟩
    · intro i l hi hl
      rcases Lc i l hl with ⟨rfl, rfl⟩ | ⟨_, _, hl⟩
      · exact hsame hi
      · exact hl
    · intro b hlt ho
      refine ⟨hblk b hlt fun sz cap hl => ho ⟨kill, sz, cap, hl⟩, fun h' => ?_⟩
      rcases Oc b h' with h' | h'
      · exact ho h'
      · omega
  have Fu : ∀ i x, x ∈ F i ∨ x ∈ E → ¬ Own L x ∧ base ≤ x ∧ x < w.heap.size := fun i x hx => hx.elim (H.fp i x) (H.ep x)
  have Fu' : ∀ i x, x ∈ F i ∨ x ∈ E → ¬ Own (upd (upd L kill Option.none) k (some l')) x ∧ base ≤ x ∧ x < w'.heap.size := fun i x hx =>
    let ⟨h1, h2, h3⟩ := Fu i x hx; ⟨(e.block x h3 h1).2, h2, Nat.lt_of_lt_of_le h3 hw.size⟩
  have Sx : ∀ x, x ∈ S' → ∀ i, i ≠ kill → x ∉ F i := fun x hx i hi hf => by
    rcases hS2 x (by simp [hx]) with h1 | h1
    · exact hi (H.dj i kill x hf h1)
    · exact H.de i x hf h1
  have Ex : ∀ x, x ∈ E' → ∀ i, i ≠ kill → x ∉ F i := fun x hx i hi hf => by
    rcases hS2 x (by simp [hx]) with h1 | h1
    · exact hi (H.dj i kill x hf h1)
    · exact H.de i x hf h1
  obtain ⟨n1, n2, n3⟩ := List.nodup_append.1 hS
  refine ⟨⟨H.below.trans hw, Nat.le_trans H.bsz hw.size, ?_, ?_, ?_, ?_, ?_, ?_, ?_, ?_, ?_, n2, ?_, ?_⟩, e⟩
  · intro i hi
    simp only [upd] at hi ⊢
    split
    · rename_i hik; rw [if_pos hik] at hi; cases hi
    · rename_i hik; rw [if_neg hik] at hi
      split
      · rfl
      · rename_i hik'; rw [if_neg hik'] at hi; exact H.dom i hi
  · intro i hi
    simp only [upd] at hi ⊢
    split
    · rename_i hik; rw [if_pos hik] at hi; cases hi
    · rename_i hik; rw [if_neg hik] at hi
      split
      · rfl
      · rename_i hik'; rw [if_neg hik'] at hi; exact H.mod i hi
  · intro i l hl
    rcases Lc i l hl with ⟨rfl, _⟩ | ⟨_, _, hl⟩
    · exact hkN
    · exact Nat.lt_of_lt_of_le (H.lt i l hl) hN
  · intro i j b sz cap sz' cap' h1 h2
    rcases Lc i _ h1 with ⟨rfl, g1⟩ | ⟨p1, p2, g1⟩
    · rcases Lc j _ h2 with ⟨rfl, g2⟩ | ⟨q1, q2, g2⟩
      · rfl
      · exfalso
        rcases (hown b sz cap g1.symm).2.2 with ⟨s1, s2, g3⟩ | g3
        · exact q2 (H.inj j kill b _ _ _ _ g2 g3)
        · have := H.own_lt ⟨j, sz', cap', g2⟩; omega
    · rcases Lc j _ h2 with ⟨rfl, g2⟩ | ⟨q1, q2, g2⟩
      · exfalso
        rcases (hown b sz' cap' g2.symm).2.2 with ⟨s1, s2, g3⟩ | g3
        · exact p2 (H.inj i kill b _ _ _ _ g1 g3)
        · have := H.own_lt ⟨i, sz, cap, g1⟩; omega
      · exact H.inj i j b _ _ _ _ g1 g2
  · intro b ho
    rcases Oc b ho with h1 | h1
    · exact H.lo b h1
    · exact Nat.le_trans H.bsz h1
  · intro i B l h1 h2
    rcases Lc i l h2 with ⟨rfl, rfl⟩ | ⟨p1, p2, g1⟩
    · rw [upd_same] at h1 ⊢; cases h1; exact hB _ e rfl
    · rw [upd_other _ _ _ _ p1, upd_other _ _ _ _ p2] at h1 ⊢
      refine (H.blk i B l h1 g1).ext e fun b sz cap hl => hblk b (H.own_lt ⟨i, sz, cap, hl ▸ g1⟩) fun s1 s2 hk' => ?_
      exact p2 (H.inj i kill b _ _ _ _ (hl ▸ g1) hk')
  · intro i x hx
    rcases Fc i x hx with ⟨_, hx⟩ | ⟨_, _, hx⟩
    · exact Fu' kill x (hS2 x (by simp [hx]))
    · exact Fu' i x (.inl hx)
  · intro x hx
    exact Fu' kill x (hS2 x (by simp [hx]))
  · intro i
    simp only [upd]
    split
    · exact n1
    · split
      · exact List.nodup_nil
      · exact H.nd i
  · intro i j x h1 h2
    rcases Fc i x h1 with ⟨rfl, g1⟩ | ⟨p1, p2, g1⟩
    · rcases Fc j x h2 with ⟨rfl, g2⟩ | ⟨q1, q2, g2⟩
      · rfl
      · exact absurd g2 (Sx x g1 j q2)
    · rcases Fc j x h2 with ⟨rfl, g2⟩ | ⟨q1, q2, g2⟩
      · exact absurd g1 (Sx x g2 i p2)
      · exact H.dj i j x g1 g2
  · intro i x h1 h2
    rcases Fc i x h1 with ⟨rfl, g1⟩ | ⟨p1, p2, g1⟩
    · exact n3 x g1 x h2 rfl
    · exact Ex x h2 i p2 g1
end

end Go.Proofs.Ytlefdibgonpoaaa
