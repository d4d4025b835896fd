/- The body of FnExactDomainOf. -/
import Derived.Test.YtilcageplifbgaaGreatKH2
import Derived.Test.YtilcageplifbgaaGreatKM3B
import Derived.Test.YtilcageplifbgaaGreatKRE
import Derived.Test.YtilcageplifbgaaGreatKT2B
namespace Go.Proofs.YtilcageplifbgaaGreat
set_option linter.all false
open Go Go.RowKit Go.Proofs
def a3 : AFn :=
⟨104, [(.t 4)], (.seq
 (.reg [⟨some 2, (.boxv (.t 0)), no⟩, ⟨some 4, (.mv (.k (.bool false))), no⟩]) (.seq (.seq
 (.reg [⟨some 16, (.mv (.t 1)), no⟩, ⟨some 17, (.len true (.t 16)), no⟩, ⟨some 18, (.bin .gtr (.t 17) (.k (.int .i64 1048576))), no⟩]) (.cond (.t 18) (.seq
 (.reg [⟨some 4, (.mv (.k (.bool true))), no⟩]) .ret) .skip)) (.seq
 (.reg [⟨some 5, (.mv (.k (.int .i64 1048576))), no⟩]) (.seq
 (.reg [⟨some 19, (.ld true 2 (.t 2)), no⟩, ⟨some 20, (.mv (.t 5)), no⟩, ⟨some 21, (.call (.k (.fn (.func 11) [] [])) [(.t 19), (.t 20)]), no⟩, ⟨some 5, (.mv (.t 21)), no⟩]) (.seq (.seq
 (.reg [⟨some 22, (.mv (.t 5)), no⟩, ⟨some 23, (.bin .lss (.t 22) (.k (.int .i64 0))), no⟩]) (.cond (.t 23) (.seq
 (.reg [⟨some 4, (.mv (.k (.bool true))), no⟩]) .ret) .skip)) (.seq
 (.reg [⟨some 25, (.ld true 2 (.t 2)), no⟩, ⟨some 26, (.call (.k (.fn (.func 13) [] [])) [(.t 25)]), no⟩, ⟨some 27, (.mv (.t 1)), no⟩, ⟨some 28, (.call (.k (.fn (.func 12) [] [])) [(.t 26), (.t 27)]), no⟩, ⟨some 24, (.mv (.t 28)), no⟩, ⟨some 29, (.ext (.t 24) 0), no⟩, ⟨some 30, (.ext (.t 24) 1), no⟩, ⟨some 6, (.box [(.int .i64 0), (.nil 2)]), no⟩, ⟨no, (.st 2 (.t 6) (.t 29)), no⟩, ⟨some 7, (.mv (.t 30)), no⟩]) (.seq
 (.reg [⟨some 31, (.ld true 2 (.t 2)), no⟩, ⟨some 32, (.call (.k (.fn (.func 13) [] [])) [(.t 31)]), no⟩, ⟨some 8, (.box [(.nil 4), (.nil 7)]), no⟩, ⟨no, (.st 2 (.t 8) (.t 32)), no⟩]) (.seq
 (.reg [⟨some 34, (.ld true 2 (.t 8)), no⟩, ⟨some 35, (.mv (.t 1)), no⟩, ⟨some 36, (.call (.k (.fn (.func 14) [] [])) [(.t 34), (.t 35)]), no⟩, ⟨some 33, (.mv (.t 36)), no⟩, ⟨some 37, (.ext (.t 33) 0), no⟩, ⟨some 38, (.ext (.t 33) 1), no⟩, ⟨some 9, (.box [(.int .i64 0), (.nil 2)]), no⟩, ⟨no, (.st 2 (.t 9) (.t 37)), no⟩, ⟨some 10, (.mv (.t 38)), no⟩]) (.seq (.seq
 (.reg [⟨some 39, (.ld true 2 (.t 9)), no⟩, ⟨some 40, (.ld true 2 (.t 6)), no⟩, ⟨some 41, (.call (.k (.fn (.func 15) [] [])) [(.t 39), (.t 40)]), no⟩, ⟨some 42, (.un .not (.t 41)), no⟩, ⟨some 43, (.mv (.t 42)), no⟩, ⟨some 44, (.mv (.t 10)), (some (43, false))⟩, ⟨some 45, (.mv (.t 7)), (some (43, false))⟩, ⟨some 46, (.beq true (.t 44) (.t 45)), (some (43, false))⟩, ⟨some 47, (.pick (.t 43) (.k (.bool true)) (.t 46)), no⟩]) (.cond (.t 47) (.seq
 (.reg [⟨some 4, (.mv (.k (.bool false))), no⟩]) .ret) .skip)) (.seq (.seq (.draw (.op ⟨some 48, (.ld true 2 (.t 8)), no⟩ (.op ⟨some 49, (.ld true 2 (.t 2)), no⟩ (.op ⟨some 50, (.call (.k (.fn (.func 13) [] [])) [(.t 49)]), no⟩ (.op ⟨some 51, (.call (.k (.fn (.func 16) [] [])) [(.t 48), (.t 50)]), no⟩ (.op ⟨some 52, (.un .not (.t 51)), no⟩ .fin)))))) (.cond (.t 52) (.seq
 (.reg [⟨some 4, (.mv (.k (.bool false))), no⟩]) .ret) .skip)) (.seq
 (.reg [⟨some 11, (.mv (.k (.int .i64 1))), no⟩]) (.seq
 (.reg [⟨some 53, (.ld true 2 (.t 8)), no⟩, ⟨some 54, (.mv (.t 11)), no⟩, ⟨some 55, (.call (.k (.fn (.func 17) [] [])) [(.t 53), (.t 54)]), no⟩, ⟨some 11, (.mv (.t 55)), no⟩]) (.seq (.seq
 (.reg [⟨some 56, (.mv (.t 11)), no⟩, ⟨some 57, (.bin .lss (.t 56) (.k (.int .i64 0))), no⟩, ⟨some 58, (.mv (.t 57)), no⟩, ⟨some 59, (.ld true 2 (.t 9)), (some (58, false))⟩, ⟨some 60, (.ld true 2 (.t 6)), (some (58, false))⟩, ⟨some 61, (.call (.k (.fn (.func 15) [] [])) [(.t 59), (.t 60)]), (some (58, false))⟩, ⟨some 62, (.un .not (.t 61)), (some (58, false))⟩, ⟨some 63, (.pick (.t 58) (.k (.bool true)) (.t 62)), no⟩, ⟨some 64, (.mv (.t 63)), no⟩, ⟨some 65, (.mv (.t 10)), (some (64, false))⟩, ⟨some 66, (.mv (.t 7)), (some (64, false))⟩, ⟨some 67, (.beq true (.t 65) (.t 66)), (some (64, false))⟩, ⟨some 68, (.pick (.t 64) (.k (.bool true)) (.t 67)), no⟩]) (.cond (.t 68) (.seq
 (.reg [⟨some 4, (.mv (.k (.bool false))), no⟩]) .ret) .skip)) (.seq
 (.reg [⟨some 12, (.mv (.k (.int .i64 1))), no⟩]) (.seq
 (.reg [⟨some 69, (.ld true 2 (.t 9)), no⟩, ⟨some 70, (.mv (.t 12)), no⟩, ⟨some 71, (.call (.k (.fn (.func 18) [] [])) [(.t 69), (.t 70)]), no⟩, ⟨some 12, (.mv (.t 71)), no⟩]) (.seq
 (.reg [⟨some 13, (.mv (.k (.int .i64 1))), no⟩]) (.seq
 (.reg [⟨some 72, (.ld true 2 (.t 9)), no⟩, ⟨some 73, (.mv (.t 13)), no⟩, ⟨some 74, (.call (.k (.fn (.func 19) [] [])) [(.t 72), (.t 73)]), no⟩, ⟨some 13, (.mv (.t 74)), no⟩]) (.seq (.seq
 (.reg [⟨some 75, (.mv (.t 13)), no⟩, ⟨some 76, (.bin .lss (.t 75) (.k (.int .i64 0))), no⟩]) (.cond (.t 76) (.seq
 (.reg [⟨some 4, (.mv (.k (.bool false))), no⟩]) .ret) .skip)) (.seq (.seq
 (.reg [⟨some 77, (.mv (.t 13)), no⟩, ⟨some 78, (.mv (.t 12)), no⟩, ⟨some 79, (.bin .neq (.t 77) (.t 78)), no⟩]) (.cond (.t 79) (.seq
 (.reg [⟨some 4, (.mv (.k (.bool false))), no⟩]) .ret) .skip)) (.seq
 (.reg [⟨some 81, (.ld true 2 (.t 2)), no⟩, ⟨some 82, (.call (.k (.fn (.func 13) [] [])) [(.t 81)]), no⟩, ⟨some 83, (.mv (.t 1)), no⟩, ⟨some 84, (.call (.k (.fn (.func 14) [] [])) [(.t 82), (.t 83)]), no⟩, ⟨some 80, (.mv (.t 84)), no⟩, ⟨some 85, (.ext (.t 80) 0), no⟩, ⟨some 86, (.ext (.t 80) 1), no⟩, ⟨some 14, (.box [(.int .i64 0), (.nil 2)]), no⟩, ⟨no, (.st 2 (.t 14) (.t 85)), no⟩, ⟨some 15, (.mv (.t 86)), no⟩]) (.seq (.seq
 (.reg [⟨some 87, (.ld true 2 (.t 14)), no⟩, ⟨some 88, (.ld true 2 (.t 6)), no⟩, ⟨some 89, (.call (.k (.fn (.func 15) [] [])) [(.t 87), (.t 88)]), no⟩, ⟨some 90, (.un .not (.t 89)), no⟩, ⟨some 91, (.mv (.t 90)), no⟩, ⟨some 92, (.mv (.t 15)), (some (91, false))⟩, ⟨some 93, (.mv (.t 7)), (some (91, false))⟩, ⟨some 94, (.beq true (.t 92) (.t 93)), (some (91, false))⟩, ⟨some 95, (.pick (.t 91) (.k (.bool true)) (.t 94)), no⟩]) (.cond (.t 95) (.seq
 (.reg [⟨some 4, (.mv (.k (.bool false))), no⟩]) .ret) .skip)) (.seq
 (.reg [⟨some 13, (.mv (.k (.int .i64 1))), no⟩]) (.seq
 (.reg [⟨some 96, (.ld true 2 (.t 9)), no⟩, ⟨some 97, (.mv (.t 13)), no⟩, ⟨some 98, (.call (.k (.fn (.func 19) [] [])) [(.t 96), (.t 97)]), no⟩, ⟨some 13, (.mv (.t 98)), no⟩]) (.seq (.seq
 (.reg [⟨some 99, (.mv (.t 13)), no⟩, ⟨some 100, (.bin .lss (.t 99) (.k (.int .i64 0))), no⟩]) (.cond (.t 100) (.seq
 (.reg [⟨some 4, (.mv (.k (.bool false))), no⟩]) .ret) .skip)) (.seq (.seq
 (.reg [⟨some 101, (.mv (.t 13)), no⟩, ⟨some 102, (.mv (.t 12)), no⟩, ⟨some 103, (.bin .neq (.t 101) (.t 102)), no⟩]) (.cond (.t 103) (.seq
 (.reg [⟨some 4, (.mv (.k (.bool false))), no⟩]) .ret) .skip)) (.seq
 (.reg [⟨some 4, (.mv (.k (.bool true))), no⟩]) .ret))))))))))))))))))))))))))⟩
theorem a3_ok : compFn Tryz.prog Tryz.f3 = some a3 := by kernel_rfl
theorem lrows_c {n : Nat} (hn : n ≤ 8) : ∀ (xs : List Str) (i : Nat), cLinS (lrows n xs i) ≤ 9 * xs.length := by
  intro xs
  induction xs with
  | nil => intro i; simp [lrows, cLinS, cL]
  | cons x xs ih =>
    intro i
    have h1 := ih (i + 1)
    have h2 : (varL i n).Coeffs.length ≤ 8 := by
      unfold varL
      split
      · simp; omega
      · simp [lin0]
    simp only [lrows, List.length_cons]
    split
    · unfold cLinS at *
      simp only [List.cons_append, List.nil_append, cL, crLin, cIntS_len]
      omega
    · simp only [List.nil_append]; omega
theorem cLinS_app (x y : List DLin) : cLinS (x ++ y) = cLinS x + cLinS y := by
  unfold cLinS
  induction x with
  | nil => simp [cL]
  | cons e x ih => simp only [List.cons_append, cL, ih]; omega
theorem domO_c (p : DProgram) (name : Str) : cSystem ((domO p name).getD sys0) ≤ 8388608 := by
  unfold domO
  cases h1 : progOk p
  · simp [sys0, cSystem, crSystem, cLinS, cL]
  cases hf : findFn p.Functions name with
  | none => simp [sys0, cSystem, crSystem, cLinS, cL]
  | some f =>
    obtain ⟨k1, _, k3, k4⟩ := fn_in h1 hf
    simp only [Option.map_some, Option.getD_some, if_true]
    have g1 := lrows_c (n := f.Params.length) (by omega) f.Params 0
    have g2 : cLinS f.Pre ≤ 9 * f.Pre.length := by
      have : ∀ l : List DLin, (∀ x ∈ l, x.Coeffs.length ≤ 8) → cLinS l ≤ 9 * l.length := by
        intro l
        induction l with
        | nil => intro _; simp [cLinS, cL]
        | cons e l ih =>
          intro h
          have h1 := ih fun x hx => h x (List.mem_cons_of_mem _ hx)
          have h2 := h e List.mem_cons_self
          unfold cLinS at *
          simp only [cL, crLin, cIntS_len, List.length_cons]
          omega
      exact this _ fun x hx => by have := (okLin_len (k3 x hx)); omega
    rw [dom_self h1 hf]
    simp only [cSystem, crSystem, cLinS_app]
    omega
set_option maxRecDepth 40000 in
set_option maxHeartbeats 4000000 in
theorem law_DomainOf (aP : DProgram) (aName : Str) : Holds Tryz.prog 3 [.agg (rAProgram aP), .str aName] (fun x => x = .bool true) := by
  refine holds_of_run Tryz.func3 a3_ok rfl (by simp [a3]) ?_
  simp [a3]
  intro _ hs_aName
  first | refine callD_of (k_szProgram aP 1048576 (by omega)) (by simp) ?_ | refine call_of (k_szProgram aP 1048576 (by omega)) (by simp) ?_ | refine callD_of (k_szProgram aP 1048576 (by omega)) rfl ?_ | refine call_of (k_szProgram aP 1048576 (by omega)) rfl ?_
  rintro r rfl
  by_cases h1 : 1048576 - (wProgram aP : Int) < 0
  · simp [sub1, h1]
  simp [sub1, h1]
  have hw_aP : wProgram aP ≤ 1048576 := by omega
  have hb_aP := cw_Program aP
  first | refine lsD_agg (k_toProgram aP hw_aP) ((LS.start).push) (by simp) ⟨.inl (fun h => by first | rfl | simp), trivial⟩ ?_ | refine ls_agg (k_toProgram aP hw_aP) ((LS.start).push) (by simp) ⟨.inl (fun h => by first | rfl | simp), trivial⟩ ?_
  intro c0 h0x n0 J0 S0 hl0 hc0
  have e := S0.eqs; have ne := S0.nes; simp only [bxE, bxN, Nat.zero_add, Nat.reduceAdd] at e ne; simp only [len_UProgram] at hl0
  have ht0 : List.take 2 c0 = c0 := List.take_of_length_le (by omega)
  simp [e, ne, hl0, ht0, hc0]
  first | refine lsD_agg2 (ks_DomainOf aP hw_aP aName) (S0) rfl (by simp) ⟨.inr ⟨_, .head _, rfl, by simp [dr]⟩, .inl (fun h => by first | rfl | simp), trivial⟩ ?_ | refine ls_agg2 (ks_DomainOf aP hw_aP aName) (S0) rfl (by simp) ⟨.inr ⟨_, .head _, rfl, by simp [dr]⟩, .inl (fun h => by first | rfl | simp), trivial⟩ ?_
  intro c1 h1x n1 J1 S1 hl1 hc1
  have e := S1.eqs; have ne := S1.nes; simp only [bxE, bxN, Nat.zero_add, Nat.reduceAdd] at e ne; simp only [len_USystem] at hl1
  have ht1 : List.take 2 c1 = c1 := List.take_of_length_le (by omega)
  simp [e, ne, hl0, ht0, hl1, ht1, hc1]
  first | refine lsD_agg (k_toProgram aP hw_aP) ((S1).push) (by simp) ⟨.inl (fun h => by first | rfl | simp), trivial⟩ ?_ | refine ls_agg (k_toProgram aP hw_aP) ((S1).push) (by simp) ⟨.inl (fun h => by first | rfl | simp), trivial⟩ ?_
  intro c2 h2x n2 J2 S2 hl2 hc2
  have e := S2.eqs; have ne := S2.nes; simp only [bxE, bxN, Nat.zero_add, Nat.reduceAdd] at e ne; simp only [len_UProgram] at hl2
  have ht2 : List.take 2 c2 = c2 := List.take_of_length_le (by omega)
  simp [e, ne, hl0, ht0, hl1, ht1, hl2, ht2, hc2]
  first | refine lsD_agg2 (k_DomainOf aP hw_aP aName) ((S2).push) rfl (by simp) ⟨.inr ⟨_, .head _, rfl, by simp [dr]⟩, .inl (fun h => by first | rfl | simp), trivial⟩ ?_ | refine ls_agg2 (k_DomainOf aP hw_aP aName) ((S2).push) rfl (by simp) ⟨.inr ⟨_, .head _, rfl, by simp [dr]⟩, .inl (fun h => by first | rfl | simp), trivial⟩ ?_
  intro c3 h3x n3 J3 S3 hl3 hc3
  have e := S3.eqs; have ne := S3.nes; simp only [bxE, bxN, Nat.zero_add, Nat.reduceAdd] at e ne; simp only [len_USystem] at hl3
  have ht3 : List.take 2 c3 = c3 := List.take_of_length_le (by omega)
  simp [e, ne, hl0, ht0, hl1, ht1, hl2, ht2, hl3, ht3, hc3]
  first | refine lsD_scal (k_eqSystem (((domO aP aName).getD sys0)) (((domO aP aName).getD sys0))) ((S3).push) rfl ⟨.inr ⟨_, .head _, rfl, by simp [dr]⟩, .inr ⟨_, .tail _ (.tail _ (.head _)), rfl, by simp [dr]⟩, trivial⟩ ?_ | refine ls_scal (k_eqSystem (((domO aP aName).getD sys0)) (((domO aP aName).getD sys0))) ((S3).push) rfl ⟨.inr ⟨_, .head _, rfl, by simp [dr]⟩, .inr ⟨_, .tail _ (.tail _ (.head _)), rfl, by simp [dr]⟩, trivial⟩ ?_
  simp [e, ne, hl0, ht0, hl1, ht1, hl2, ht2, hl3, ht3]
  first | refine lsD_agg (k_toProgram aP hw_aP) ((S3).push) (by simp) ⟨.inl (fun h => by first | rfl | simp), trivial⟩ ?_ | refine ls_agg (k_toProgram aP hw_aP) ((S3).push) (by simp) ⟨.inl (fun h => by first | rfl | simp), trivial⟩ ?_
  intro c4 h4x n4 J4 S4 hl4 hc4
  have e := S4.eqs; have ne := S4.nes; simp only [bxE, bxN, Nat.zero_add, Nat.reduceAdd] at e ne; simp only [len_UProgram] at hl4
  have ht4 : List.take 2 c4 = c4 := List.take_of_length_le (by omega)
  simp [e, ne, hl0, ht0, hl1, ht1, hl2, ht2, hl3, ht3, hl4, ht4, hc4]
  first | refine lsD_scal (k_eqProgram (aP) (aP)) (S4) rfl ⟨.inr ⟨_, .tail _ (.tail _ (.head _)), rfl, by simp [dr]⟩, .inr ⟨_, .head _, rfl, by simp [dr]⟩, trivial⟩ ?_ | refine ls_scal (k_eqProgram (aP) (aP)) (S4) rfl ⟨.inr ⟨_, .tail _ (.tail _ (.head _)), rfl, by simp [dr]⟩, .inr ⟨_, .head _, rfl, by simp [dr]⟩, trivial⟩ ?_
  simp [e, ne, hl0, ht0, hl1, ht1, hl2, ht2, hl3, ht3, hl4, ht4]
  refine ls_mark (T1 := [_, _]) (m_markProgram (aP) (1) (by omega)) (S4) ?_
  intro h5x n5 S5
  have e := S5.eqs; have ne := S5.nes; simp only [bxE, bxN, Nat.zero_add, Nat.reduceAdd] at e ne
  have hq1 : ¬ 1 + cProgram aP < (0 : Int) := by omega
  simp [e, ne, hl0, ht0, hl1, ht1, hl2, ht2, hl3, ht3, hl4, ht4, hq1]
  first | refine lsD_scal (k_eqSystem (((domO aP aName).getD sys0)) (((domO aP aName).getD sys0))) (S5) rfl ⟨.inr ⟨_, .tail _ (.head _), rfl, by simp [dr]⟩, .inr ⟨_, .tail _ (.tail _ (.tail _ (.head _))), rfl, by simp [dr]⟩, trivial⟩ ?_ | refine ls_scal (k_eqSystem (((domO aP aName).getD sys0)) (((domO aP aName).getD sys0))) (S5) rfl ⟨.inr ⟨_, .tail _ (.head _), rfl, by simp [dr]⟩, .inr ⟨_, .tail _ (.tail _ (.tail _ (.head _))), rfl, by simp [dr]⟩, trivial⟩ ?_
  simp [e, ne, hl0, ht0, hl1, ht1, hl2, ht2, hl3, ht3, hl4, ht4]
  have hg := domO_c aP aName
  have hm : ¬ 1 + (cSystem (((domO aP aName).getD sys0)) : Int) < 0 := by omega
  refine ls_mark (T1 := [_]) (m_markSystem (((domO aP aName).getD sys0)) (1) (by omega)) (S5) ?_
  intro h6x n6 S6
  have e := S6.eqs; have ne := S6.nes; simp only [bxE, bxN, Nat.zero_add, Nat.reduceAdd] at e ne
  have hq2 : ¬ 1 + cSystem (((domO aP aName).getD sys0)) < (0 : Int) := by omega
  simp [e, ne, hl0, ht0, hl1, ht1, hl2, ht2, hl3, ht3, hl4, ht4, hq2]
  first | refine lsD_scal (k_heldSystem (((domO aP aName).getD sys0)) (1) (by omega)) (S6) rfl ⟨.inr ⟨_, .tail _ (.head _), rfl, by simp [dr]⟩, .inl (fun h => by first | rfl | simp), trivial⟩ ?_ | refine ls_scal (k_heldSystem (((domO aP aName).getD sys0)) (1) (by omega)) (S6) rfl ⟨.inr ⟨_, .tail _ (.head _), rfl, by simp [dr]⟩, .inl (fun h => by first | rfl | simp), trivial⟩ ?_
  simp [e, ne, hl0, ht0, hl1, ht1, hl2, ht2, hl3, ht3, hl4, ht4, hm]
  first | refine lsD_agg (k_toProgram aP hw_aP) (S6) (by simp) ⟨.inl (fun h => by first | rfl | simp), trivial⟩ ?_ | refine ls_agg (k_toProgram aP hw_aP) (S6) (by simp) ⟨.inl (fun h => by first | rfl | simp), trivial⟩ ?_
  intro c7 h7x n7 J7 S7 hl7 hc7
  have e := S7.eqs; have ne := S7.nes; simp only [bxE, bxN, Nat.zero_add, Nat.reduceAdd] at e ne; simp only [len_UProgram] at hl7
  have ht7 : List.take 2 c7 = c7 := List.take_of_length_le (by omega)
  simp [e, ne, hl0, ht0, hl1, ht1, hl2, ht2, hl3, ht3, hl4, ht4, hl7, ht7, hc7]
  first | refine lsD_agg2 (k_DomainOf aP hw_aP aName) (S7) rfl (by simp) ⟨.inr ⟨_, .head _, rfl, by simp [dr]⟩, .inl (fun h => by first | rfl | simp), trivial⟩ ?_ | refine ls_agg2 (k_DomainOf aP hw_aP aName) (S7) rfl (by simp) ⟨.inr ⟨_, .head _, rfl, by simp [dr]⟩, .inl (fun h => by first | rfl | simp), trivial⟩ ?_
  intro c8 h8x n8 J8 S8 hl8 hc8
  have e := S8.eqs; have ne := S8.nes; simp only [bxE, bxN, Nat.zero_add, Nat.reduceAdd] at e ne; simp only [len_USystem] at hl8
  have ht8 : List.take 2 c8 = c8 := List.take_of_length_le (by omega)
  simp [e, ne, hl0, ht0, hl1, ht1, hl2, ht2, hl3, ht3, hl4, ht4, hl7, ht7, hl8, ht8, hc8]
  first | refine lsD_scal (k_eqSystem (((domO aP aName).getD sys0)) (((domO aP aName).getD sys0))) ((S8).push) rfl ⟨.inr ⟨_, .head _, rfl, by simp [dr]⟩, .inr ⟨_, .tail _ (.tail _ (.tail _ (.tail _ (.tail _ (.head _))))), rfl, by simp [dr]⟩, trivial⟩ ?_ | refine ls_scal (k_eqSystem (((domO aP aName).getD sys0)) (((domO aP aName).getD sys0))) ((S8).push) rfl ⟨.inr ⟨_, .head _, rfl, by simp [dr]⟩, .inr ⟨_, .tail _ (.tail _ (.tail _ (.tail _ (.tail _ (.head _))))), rfl, by simp [dr]⟩, trivial⟩ ?_
  simp [e, ne, hl0, ht0, hl1, ht1, hl2, ht2, hl3, ht3, hl4, ht4, hl7, ht7, hl8, ht8]
  first | refine lsD_scal (k_heldSystem (((domO aP aName).getD sys0)) (1) (by omega)) ((S8).push) rfl ⟨.inr ⟨_, .tail _ (.tail _ (.tail _ (.head _))), rfl, by simp [dr]⟩, .inl (fun h => by first | rfl | simp), trivial⟩ ?_ | refine ls_scal (k_heldSystem (((domO aP aName).getD sys0)) (1) (by omega)) ((S8).push) rfl ⟨.inr ⟨_, .tail _ (.tail _ (.tail _ (.head _))), rfl, by simp [dr]⟩, .inl (fun h => by first | rfl | simp), trivial⟩ ?_
  simp [e, ne, hl0, ht0, hl1, ht1, hl2, ht2, hl3, ht3, hl4, ht4, hl7, ht7, hl8, ht8, hm]
end Go.Proofs.YtilcageplifbgaaGreat
