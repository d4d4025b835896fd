/- Contracts: models, copied; FnExactEqualModel. -/
import Derived.Test.YtlefdibgonpoaaaS13
namespace Go.Proofs.Ytlefdibgonpoaaa
open Go Go.RowKit Go.Proofs

theorem szLoop_mem {α : Type} {szE : α → Int → Int} (hle : ∀ x left, 0 ≤ left → szE x left ≤ left) : ∀ (a : List α) (left : Int), 0 ≤ left → 0 ≤ szLoop szE a left → ∀ x ∈ a, ∃ l, 0 ≤ l ∧ l ≤ left ∧ 0 ≤ szE x l
  | [], _, _, _, x, hx => by cases hx
  | y :: a, left, h, h', x, hx => by
    simp only [szLoop] at h'
    split at h' <;> rename_i hy
    · omega
    · rcases List.mem_cons.1 hx with rfl | hx
      · exact ⟨left, h, Int.le_refl _, by omega⟩
      · obtain ⟨l, h1, h2, h3⟩ := szLoop_mem hle a _ (by omega) h' x hx
        have := hle y left h
        exact ⟨l, h1, by omega, h3⟩
theorem szL_mem {α : Type} {szE : α → Int → Int} (hle : ∀ x left, 0 ≤ left → szE x left ≤ left) {a : List α} {left : Int} (h' : 0 ≤ szL szE a left) : ∀ x ∈ a, ∃ l, 0 ≤ l ∧ l ≤ left ∧ 0 ≤ szE x l := by
  unfold szL at h'
  split at h' <;> rename_i hx
  · omega
  · intro x hm
    obtain ⟨l, h1, h2, h3⟩ := szLoop_mem hle a _ (by omega) h' x hm
    exact ⟨l, h1, by omega, h3⟩
theorem szLin_len {x : LinD} {l : Int} (h : 0 ≤ szLin x l) : x.2.length ≤ l := by unfold szLin at h; split at h <;> omega
theorem szLins_len {a : List LinD} {left : Int} (h : 0 ≤ szLins a left) : (a.length : Int) ≤ left ∧ ∀ x ∈ a, (x.2.length : Int) ≤ left :=
  ⟨szL_len h, fun x hx => by obtain ⟨l, _, h2, h3⟩ := szL_mem szLin_le h x hx; have := szLin_len h3; omega⟩

/-- A model that is small enough. -/
def modOk (x : ModD) : Prop := x.rows.length ≤ 1048576 ∧ (∀ y ∈ x.rows, y.2.length ≤ 1048576) ∧ x.params.length ≤ 1048576 ∧ (∀ y ∈ x.params, y.2.length ≤ 1048576) ∧
  x.gs.length ≤ 1048576 ∧ (∀ z ∈ x.gs, z.length ≤ 1048576 ∧ ∀ y ∈ z, y.2.length ≤ 1048576) ∧ x.res.2.length ≤ 1048576

theorem neg1_pos {m : Int} {k : Int → Int} (h : 0 ≤ neg1 m k) : 0 ≤ m ∧ 0 ≤ k m := by
  unfold neg1 at h; split at h <;> omega

theorem szMod_ok {x : ModD} {left : Int} (h0 : 0 ≤ left ∧ left ≤ 1048576) (h : 0 ≤ szMod x left) : modOk x ∧ szMod x left ≤ left := by
  have e0 := h
  unfold szMod at h
  obtain ⟨h1, h⟩ := neg1_pos h
  obtain ⟨h2, h⟩ := neg1_pos h
  obtain ⟨h3, h⟩ := neg1_pos h
  obtain ⟨h4, h⟩ := neg1_pos h
  have b1 := szLins_le x.rows left h0.1
  have b2 := szLins_le x.params _ h1
  have b3 := szL_le szLins_le x.gs _ h2
  have b4 := szLin_le x.res _ h3
  have l1 := szLins_len h1
  have l2 := szLins_len h2
  have l3 := szL_len h3
  have l4 := szLin_len h4
  refine ⟨⟨by omega, fun y hy => by have := l1.2 y hy; omega, by omega, fun y hy => by have := l2.2 y hy; omega, by omega, fun z hz => ?_, by omega⟩, ?_⟩
  · obtain ⟨l, q1, q2, q3⟩ := szL_mem szLins_le h3 z hz
    have := szLins_len q3
    exact ⟨by omega, fun y hy => by have := this.2 y hy; omega⟩
  · unfold szMod
    rw [neg1_nn h1, neg1_nn h2, neg1_nn h3, neg1_nn h4]
    simp only [id]; omega

theorem clean_linssU (x : List (List LinD)) : clean (linssU x) = true := by
  simp only [linssU, clean, cleanr_iff, List.all_eq_true]
  intro r hr
  obtain ⟨y, _, rfl⟩ := List.mem_map.1 hr
  have := clean_linsU y
  simp [linsU, cleanl] at this ⊢
  exact this

theorem take_map_len {α β : Type} (f : α → β) (l : List α) : List.take l.length (l.map f) = l.map f := List.take_of_length_le (by simp)

theorem c24 (x : ModD) (hx : modOk x) : Holds Try.prog 24 [modA x] (fun r => r = modU x) := by
  obtain ⟨n, rows, params, gs, res1, res2⟩ := x
  obtain ⟨k1, k2, k3, k4, k5, k6, k7⟩ := hx
  refine holds_of_run Try.func24 a24_ok rfl (by simp [a24]) ?_
  simp [a24, modA, linsA, linssA]
  refine call_of (c60 n rows k1 k2) (by simp [sysA, linsA]) ?_
  rintro r rfl
  simp [sysU, linsU]
  refine call_of (c37 params k3 k4) (by simp [linsA]) ?_
  rintro r rfl
  simp [linsU]
  refine call_of (c61 gs k5 k6) (by simp [linssA, linsA]) ?_
  rintro r rfl
  simp [linssU, linsU]
  refine call_of (c36 (res1, res2) k7) (by simp) ?_
  rintro r rfl
  simp
  have t1 := take_map_len (fun x : LinD => [AV.int .i64 x.1, AV.us 1 (intsR x.2)]) rows
  have t2 := take_map_len (fun x : LinD => [AV.int .i64 x.1, AV.us 1 (intsR x.2)]) params
  have t3 := take_map_len (fun x : List LinD => [AV.us 2 (x.map fun x => [AV.int .i64 x.1, AV.us 1 (intsR x.2)])]) gs
  rw [t1, t2, t3]
  have q1 := clean_linsU rows
  have q2 := clean_linsU params
  have q3 := clean_linssU gs
  simp [linsU, linssU] at q1 q2 q3
  exact ⟨⟨q1, q2, q3⟩, by simp [modU, linsU, linssU]⟩
end Go.Proofs.Ytlefdibgonpoaaa
