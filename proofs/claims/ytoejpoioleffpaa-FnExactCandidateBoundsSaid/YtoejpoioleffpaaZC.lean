/- Contracts: the reference's CandidateRanks and CandidateBounds. -/
import Derived.Test.YtoejpoioleffpaaZB
namespace Go.Proofs.Ytoejpoioleffpaa
set_option linter.all false
open Go Go.RowKit Go.Proofs
theorem refR_eq (k : Nat) (hk : k ≤ 2) : refL (bef sqW gtI) (genR k) (cntN k) = candOf 0 5 (sortedR k) := by
  rcases (show k = 0 ∨ k = 1 ∨ k = 2 by omega) with rfl | rfl | rfl <;> decide +kernel
theorem refB_eq (k : Nat) (q : Int) (hk : k ≤ 2) (hq : 0 ≤ q ∧ q ≤ 1) : refL (bef totW ltI) (genB k q) (cntN k) = candOf q (q + 1) (sortedB k) := by
  rcases (show q = 0 ∨ q = 1 by omega) with rfl | rfl <;> rcases (show k = 0 ∨ k = 1 ∨ k = 2 by omega) with rfl | rfl | rfl <;> decide +kernel
theorem BL_GRr {h : Heap} : ∀ (ps : List (DLin × Nat)), (∀ p ∈ ps, h p.2 = some ⟨false, 1, intsR p.1.Coeffs⟩) → GRr h ((ps.map (·.1)).map rULin) (ps.map rowP) (ps.map (·.2))
  | [], _ => by simp [GRr]
  | p :: ps, hp => by
    simp only [List.map_cons, GRr]
    refine ⟨_, _, [p.2], _, rfl, rfl, ?_, BL_GRr ps fun x hx => hp x (List.mem_cons_of_mem _ hx)⟩
    simp only [rULin, rowP, GRl, GR]
    exact ⟨_, _, [], [p.2], rfl, rfl, ⟨rfl, rfl⟩, _, _, [p.2], [], rfl, rfl, .inr ⟨p.2, [], by simp, rfl, .inl ⟨hp p List.mem_cons_self, rfl⟩⟩, rfl, rfl⟩
theorem RSt.tree {bf : DLin → DLin → Bool} {gen : Nat → DLin} {m i : Nat} {v : AV} {h : Heap} {n : Nat} (x : RSt bf gen m i v h n) : ∃ I, GR h (.us 2 ((refL bf gen i).map rULin)) v I ∧ I.Nodup := by
  obtain ⟨o, ps, rfl, B, hf, hl, _⟩ := x.ex
  refine ⟨o :: ps.map (·.2), ?_, ?_⟩
  · rw [← hf]
    simp only [GR]
    exact .inr ⟨o, _, by simp, rfl, .inr ⟨_, B.ho, BL_GRr ps B.hk⟩⟩
  · rw [List.nodup_cons]
    exact ⟨fun hm => by obtain ⟨p, hp, he⟩ := List.mem_map.1 hm; exact B.ne p hp he, B.nd⟩
set_option maxRecDepth 20000
set_option maxHeartbeats 2000000
theorem ks_CandidateBounds (m q : Int) : Holds Try.prog 18 [i64 m, i64 q] (fun r => r = .us 2 ((candB m q).map rULin)) := by
  refine holds_of_runG (bx := true) Try.func18 a18_ok rfl (by simp [a18]) ?_
  simp [a18, sb0, sb1, sb2]
  first | refine callD_of (k_l1In m 0 2) (by simp) ?_ | refine call_of (k_l1In m 0 2) (by simp) ?_ | refine callD_of (k_l1In m 0 2) rfl ?_ | refine call_of (k_l1In m 0 2) rfl ?_
  rintro r rfl
  unfold candB
  cases h1 : inR m 0 2
  · simp
    exact ⟨.us 2 [], [0], by simp [GR, GRr], by simp, by simp, rfl⟩
  simp
  first | refine callD_of (k_l1In q 0 1) (by simp) ?_ | refine call_of (k_l1In q 0 1) (by simp) ?_ | refine callD_of (k_l1In q 0 1) rfl ?_ | refine call_of (k_l1In q 0 1) rfl ?_
  rintro r rfl
  cases h2 : inR q 0 1
  · simp
    exact ⟨.us 2 [], [0], by simp [GR, GRr], by simp, by simp, rfl⟩
  have hm : 0 ≤ m ∧ m ≤ 2 := by simpa [inR] using h1
  have hq : 0 ≤ q ∧ q ≤ 1 := by simpa [inR] using h2
  obtain ⟨k, rfl⟩ : ∃ k : Nat, m = k := ⟨m.toNat, by omega⟩
  have hk2 : k ≤ 2 := by omega
  simp [sb3]
  refine sb4_run (m := k) hk2 (by simp) (by simp) ?_
  intro s1 hk1 s6
  simp at hk1
  simp
  refine sb5_run (m := k) (q := q) hk2 hq (by simp [hk1]) (by simp [hk1]) s6 ⟨0, [], by simp [hk1], ⟨by simp, by simp, by omega, by simp, by simp, by simp⟩, by simp [refL], rfl, by simp⟩ ?_
  intro s2 h2' n2 hS
  obtain ⟨I, g1, g2⟩ := hS.tree
  rw [refB_eq k q hk2 hq] at g1
  simp [sb6]
  exact ⟨_, I, g1, g2, by simp only [clean]; exact clean_ULins _, rfl⟩
theorem ks_CandidateRanks (m : Int) : Holds Try.prog 13 [i64 m] (fun r => r = .us 2 ((candR m).map rULin)) := by
  refine holds_of_runG (bx := true) Try.func13 a13_ok rfl (by simp [a13]) ?_
  simp [a13, sr0, sr1, sr2]
  first | refine callD_of (k_l1In m 0 2) (by simp) ?_ | refine call_of (k_l1In m 0 2) (by simp) ?_ | refine callD_of (k_l1In m 0 2) rfl ?_ | refine call_of (k_l1In m 0 2) rfl ?_
  rintro r rfl
  unfold candR
  cases h1 : inR m 0 2
  · simp
    exact ⟨.us 2 [], [0], by simp [GR, GRr], by simp, by simp, rfl⟩
  have hm : 0 ≤ m ∧ m ≤ 2 := by simpa [inR] using h1
  obtain ⟨k, rfl⟩ : ∃ k : Nat, m = k := ⟨m.toNat, by omega⟩
  have hk2 : k ≤ 2 := by omega
  simp [sr3]
  refine sr4_run (m := k) hk2 (by simp) (by simp) ?_
  intro s1 hk1 s6
  simp at hk1
  simp
  refine sr5_run (m := k) hk2 (by simp [hk1]) s6 ⟨0, [], by simp [hk1], ⟨by simp, by simp, by omega, by simp, by simp, by simp⟩, by simp [refL], rfl, by simp⟩ ?_
  intro s2 h2' n2 hS
  obtain ⟨I, g1, g2⟩ := hS.tree
  rw [refR_eq k hk2] at g1
  simp [sr6]
  exact ⟨_, I, g1, g2, by simp only [clean]; exact clean_ULins _, rfl⟩
end Go.Proofs.Ytoejpoioleffpaa
