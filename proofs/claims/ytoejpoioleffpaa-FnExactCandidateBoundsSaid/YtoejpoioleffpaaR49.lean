/- Cuts: what is known behind a piece of code. -/
import Derived.Test.YtoejpoioleffpaaR48
namespace Go.Proofs.Ytoejpoioleffpaa
set_option linter.all false
open Go Go.RowKit Go.Proofs

theorem setO_s {s : Env} {k : Nat} {v : AV} : setO s (some k) v k = v := by simp
theorem setO_n {s : Env} {k j : Nat} {v : AV} (hj : ¬ j = k) : setO s (some k) v j = s j := by simp [hj]
theorem upd_s {α : Type} {f : Nat → α} {k : Nat} {v : α} : upd f k v k = v := by simp
theorem upd_n {α : Type} {f : Nat → α} {k j : Nat} {v : α} (hj : ¬ j = k) : upd f k v j = f j := by simp [hj]
attribute [simp ↓ high] setO_s setO_n upd_s upd_n

/-! Loads, by one lemma each: what follows is not looked into before the value is known. -/
def ldv1 (raw : Bool) (o : Option AV) : Option AV := if raw then o else o.map dr
@[simp ↓ high] theorem ldv1_t (o : Option AV) : ldv1 true o = o := by unfold ldv1; rw [if_pos (by simp)]
@[simp ↓ high] theorem ldv1_f (o : Option AV) : ldv1 false o = o.map dr := by unfold ldv1; rw [if_neg (by simp)]
def ldvG (raw b : Bool) (l : List AV) : Option AV := if b then some (.agg (if raw then l else drl l)) else Option.none
@[simp ↓ high] theorem ldvG_t (l : List AV) : ldvG true true l = some (.agg l) := by unfold ldvG; rw [if_pos (by simp), if_pos (by simp)]
@[simp ↓ high] theorem ldvG_f (l : List AV) : ldvG false true l = some (.agg (drl l)) := by unfold ldvG; rw [if_pos (by simp), if_neg (by simp)]
@[simp ↓ high] theorem ldv_1 (raw : Bool) (row : List AV) (c : Nat) : ldv raw false row c 1 = ldv1 raw (row[c]?) := by
  unfold ldv ldv1
  by_cases h : c < row.length
  · rw [if_pos (by omega), if_neg (by simp), if_pos rfl, List.getElem?_eq_getElem h]; cases raw <;> simp
  · rw [if_neg (by omega), List.getElem?_eq_none (by omega)]; cases raw <;> rfl
@[simp ↓ high] theorem ldv_G (raw : Bool) (row : List AV) (c sz : Nat) : ldv raw true row c sz = ldvG raw (decide (c + sz ≤ row.length)) ((row.drop c).take sz) := by
  unfold ldv ldvG
  by_cases h : c + sz ≤ row.length
  · simp [h]
  · simp [h]

/-- Behind a piece of code that leaves the heap alone. -/
def cutK (P : Program) (ks : List Kt) (Q : Fin) (keep : List Nat) (J : Env → Prop) (s0 : Env) (h0 : Heap) (n0 : Nat) : Fin := fun e s h n => match e with
  | .normal => (∀ j ∈ keep, s j = s0 j) ∧ J s ∧ h = h0 ∧ n = n0
  | e => kont P ks e s h n Q
section
variable {P : Program} {a b : AC} {ks : List Kt} {s : Env} {h : Heap} {n : Nat} {Q : Fin}
@[simp ↓] theorem cutK_normal {keep : List Nat} {J : Env → Prop} {s0 s' : Env} {h0 h' : Heap} {n0 n' : Nat} : cutK P ks Q keep J s0 h0 n0 .normal s' h' n' = ((∀ j ∈ keep, s' j = s0 j) ∧ J s' ∧ h' = h0 ∧ n' = n0) := propext Iff.rfl
@[simp ↓] theorem cutK_ret {keep : List Nat} {J : Env → Prop} {s0 s' : Env} {h0 h' : Heap} {n0 n' : Nat} : cutK P ks Q keep J s0 h0 n0 .ret s' h' n' = kont P ks .ret s' h' n' Q := propext Iff.rfl
@[simp ↓] theorem cutK_exit {keep : List Nat} {J : Env → Prop} {s0 s' : Env} {h0 h' : Heap} {n0 n' i : Nat} : cutK P ks Q keep J s0 h0 n0 (.exit i) s' h' n' = kont P ks (.exit i) s' h' n' Q := propext Iff.rfl
theorem rC_cut (keep : List Nat) (J : Env → Prop) (h1 : rC P a [] s h n (cutK P (.seq b :: ks) Q keep J s h n)) (h2 : ∀ s', (∀ j ∈ keep, s' j = s j) → J s' → rC P b ks s' h n Q) : rC P (.seq a b) ks s h n Q := by
  rw [rC_seq]
  unfold rC at h1 ⊢
  refine awp_mono h1 ?_
  intro e s' h' n' hq
  cases e
  · obtain ⟨g1, g2, rfl, rfl⟩ := hq
    exact h2 s' g1 g2
  · exact hq
  · exact hq
/-- Behind a piece of code that may turn the heap. -/
def cutH (P : Program) (ks : List Kt) (Q : Fin) (keep : List Nat) (J : Env → Heap → Nat → Prop) (s0 : Env) : Fin := fun e s h n => match e with
  | .normal => (∀ j ∈ keep, s j = s0 j) ∧ J s h n
  | e => kont P ks e s h n Q
@[simp ↓] theorem cutH_normal {keep : List Nat} {J : Env → Heap → Nat → Prop} {s0 s' : Env} {h' : Heap} {n' : Nat} : cutH P ks Q keep J s0 .normal s' h' n' = ((∀ j ∈ keep, s' j = s0 j) ∧ J s' h' n') := propext Iff.rfl
@[simp ↓] theorem cutH_ret {keep : List Nat} {J : Env → Heap → Nat → Prop} {s0 s' : Env} {h' : Heap} {n' : Nat} : cutH P ks Q keep J s0 .ret s' h' n' = kont P ks .ret s' h' n' Q := propext Iff.rfl
@[simp ↓] theorem cutH_exit {keep : List Nat} {J : Env → Heap → Nat → Prop} {s0 s' : Env} {h' : Heap} {n' i : Nat} : cutH P ks Q keep J s0 (.exit i) s' h' n' = kont P ks (.exit i) s' h' n' Q := propext Iff.rfl
theorem rC_cutH (keep : List Nat) (J : Env → Heap → Nat → Prop) (h1 : rC P a [] s h n (cutH P (.seq b :: ks) Q keep J s)) (h2 : ∀ s' h' n', (∀ j ∈ keep, s' j = s j) → J s' h' n' → rC P b ks s' h' n' Q) : rC P (.seq a b) ks s h n Q := by
  rw [rC_seq]
  unfold rC at h1 ⊢
  refine awp_mono h1 ?_
  intro e s' h' n' hq
  cases e
  · exact h2 s' h' n' hq.1 hq.2
  · exact hq
  · exact hq
/-- A loop's head that lets pass, that ends the loop. -/
theorem rC_pass {c : Nat} {e : AC} (hc : s c = .bool true) (h1 : rC P b ks s h n Q) : rC P (.seq (.cond (.t c) .skip e) b) ks s h n Q := by
  rw [rC_seq, rC_cond]
  have : ev s (.t c) = .bool true := hc
  rw [this]
  simpa using h1
theorem rC_stop {c id : Nat} (hc : s c = .bool false) (h1 : kont P ks (.exit id) s h n Q) : rC P (.seq (.cond (.t c) .skip (.exit id)) b) ks s h n Q := by
  rw [rC_seq, rC_cond]
  have : ev s (.t c) = .bool false := hc
  rw [this]
  simpa using h1
theorem rC_pass1 {c : Nat} {e : AC} {ks : List Kt} (hc : s c = .bool true) (h1 : kont P ks .normal s h n Q) : rC P (.cond (.t c) .skip e) ks s h n Q := by
  rw [rC_cond]
  have : ev s (.t c) = .bool true := hc
  rw [this]
  simpa using h1
theorem rC_stop1 {c id : Nat} {ks : List Kt} (hc : s c = .bool false) (h1 : kont P ks (.exit id) s h n Q) : rC P (.cond (.t c) .skip (.exit id)) ks s h n Q := by
  rw [rC_cond]
  have : ev s (.t c) = .bool false := hc
  rw [this]
  simpa using h1
theorem rK_cut (keep : List Nat) (J : Env → Prop) (h1 : rC P a [] s h n (cutK P (.seq b :: ks) Q keep J s h n)) (h2 : ∀ s', (∀ j ∈ keep, s' j = s j) → J s' → rC P b ks s' h n Q) : rC P a (.seq b :: ks) s h n Q := by
  rw [← rC_seq]; exact rC_cut keep J h1 h2
theorem rK_cutH (keep : List Nat) (J : Env → Heap → Nat → Prop) (h1 : rC P a [] s h n (cutH P (.seq b :: ks) Q keep J s)) (h2 : ∀ s' h' n', (∀ j ∈ keep, s' j = s j) → J s' h' n' → rC P b ks s' h' n' Q) : rC P a (.seq b :: ks) s h n Q := by
  rw [← rC_seq]; exact rC_cutH keep J h1 h2
theorem rC_blkI {id : Nat} (h1 : rC P a (.blk id :: ks) s h n Q) : rC P (.blk id a) ks s h n Q := by rw [rC_blk]; exact h1
theorem rC_seqI (h1 : rC P a (.seq b :: ks) s h n Q) : rC P (.seq a b) ks s h n Q := by rw [rC_seq]; exact h1
end
theorem rL_whileO {P : Program} {a : AC} {ks : List Kt} {s : Env} {h : Heap} {n : Nat} {Q : Fin} (I : Nat → Env → Heap → Nat → Prop) (k : Nat) (h0 : I k s h n)
    (hs : ∀ k s' h' n' (R : Fin), I k s' h' n' → (∀ k' s'' h'' n'', k' < k → I k' s'' h'' n'' → R .normal s'' h'' n'') → (∀ s'' h'' n'', kont P ks .ret s'' h'' n'' Q → R .ret s'' h'' n'') →
      (∀ x s'' h'' n'', kont P ks (.exit x) s'' h'' n'' Q → R (.exit x) s'' h'' n'') → rC P a [] s' h' n' R) : rL P a ks s h n Q :=
  rL_of I k h0 fun k s h n hi => hs k s h n _ hi (fun k' _ _ _ hlt h => ⟨k', hlt, h⟩) (fun _ _ _ h => h) (fun _ _ _ _ h => h)
end Go.Proofs.Ytoejpoioleffpaa
