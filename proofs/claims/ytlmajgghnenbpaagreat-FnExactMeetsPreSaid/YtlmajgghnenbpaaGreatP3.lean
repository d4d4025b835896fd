/- Contracts: arguments, MeetsPre of both. -/
import Derived.Test.YtlmajgghnenbpaaGreatP2
import Derived.Test.YtlmajgghnenbpaaGreatV8S
namespace Go.Proofs.YtlmajgghnenbpaaGreat
set_option linter.all false
open Go Go.RowKit Go.Proofs
def a101 : AFn :=
⟨49, [(.t 6)], (.seq 
 (.reg [⟨some 3, (.boxv (.t 0)), no⟩, ⟨some 6, (.mv (.k (.bool false))), no⟩]) (.seq 
 (.reg [⟨some 12, (.ld true 2 (.t 3)), no⟩, ⟨some 13, (.mv (.t 1)), no⟩, ⟨some 14, (.call (.k (.fn (.func 102) [] [])) [(.t 12), (.t 13)]), no⟩, ⟨some 11, (.mv (.t 14)), no⟩, ⟨some 15, (.ext (.t 11) 0), no⟩, ⟨some 16, (.ext (.t 11) 1), no⟩, ⟨some 7, (.box [(.str []), (.nil 1), (.bool false), (.nil 2)]), no⟩, ⟨no, (.st 4 (.t 7) (.t 15)), no⟩, ⟨some 8, (.mv (.t 16)), no⟩]) (.seq (.seq 
 (.reg [⟨some 17, (.mv (.t 8)), no⟩, ⟨some 18, (.un .not (.t 17)), no⟩, ⟨some 19, (.mv (.t 18)), no⟩, ⟨some 20, (.mv (.t 2)), (some (19, false))⟩, ⟨some 21, (.len false (.t 20)), (some (19, false))⟩, ⟨some 22, (.fld 1 (.t 7)), (some (19, false))⟩, ⟨some 23, (.ld false 1 (.t 22)), (some (19, false))⟩, ⟨some 24, (.len false (.t 23)), (some (19, false))⟩, ⟨some 25, (.bin .neq (.t 21) (.t 24)), (some (19, false))⟩, ⟨some 26, (.pick (.t 19) (.k (.bool true)) (.t 25)), no⟩]) (.cond (.t 26) (.seq 
 (.reg [⟨some 6, (.mv (.k (.bool false))), no⟩]) .ret) .skip)) (.seq (.seq 
 (.reg [⟨some 27, (.mv (.t 2)), no⟩, ⟨some 28, (.len false (.t 27)), no⟩, ⟨some 29, (.mv (.k (.int .i64 0))), no⟩]) (.blk 0 (.loop (.seq 
 (.reg [⟨some 30, (.bin .lss (.t 29) (.t 28)), no⟩]) (.seq (.cond (.t 30) .skip (.exit 0)) (.seq (.blk 1 (.seq 
 (.reg [⟨some 31, (.mv (.t 29)), no⟩, ⟨some 32, (.ixa 3 (.t 27) (.t 29)), no⟩, ⟨some 33, (.ld true 3 (.t 32)), no⟩, ⟨some 10, (.box [(.bool false), (.int .i64 0), (.nil 1)]), no⟩, ⟨some 9, (.mv (.t 31)), no⟩, ⟨no, (.st 3 (.t 10) (.t 33)), no⟩]) (.seq (.draw (.op ⟨some 34, (.ld true 3 (.t 10)), no⟩ (.op ⟨some 35, (.call (.k (.fn (.func 192) [] [])) [(.t 34)]), no⟩ (.op ⟨some 36, (.un .not (.t 35)), no⟩ (.op ⟨some 37, (.mv (.t 36)), no⟩ (.op ⟨some 38, (.fld 0 (.t 10)), (some (37, false))⟩ (.op ⟨some 39, (.ld false 1 (.t 38)), (some (37, false))⟩ (.op ⟨some 40, (.fld 1 (.t 7)), (some (37, false))⟩ (.op ⟨some 41, (.ld false 1 (.t 40)), (some (37, false))⟩ (.op ⟨some 42, (.mv (.t 9)), (some (37, false))⟩ (.op ⟨some 43, (.ixa 1 (.t 41) (.t 42)), (some (37, false))⟩ (.op ⟨some 44, (.ld false 1 (.t 43)), (some (37, false))⟩ (.op ⟨some 45, (.call (.k (.fn (.func 112) [] [])) [(.t 44)]), (some (37, false))⟩ (.op ⟨some 46, (.beq true (.t 39) (.t 45)), (some (37, false))⟩ (.op ⟨some 47, (.pick (.t 37) (.k (.bool true)) (.t 46)), no⟩ .fin))))))))))))))) (.cond (.t 47) (.seq 
 (.reg [⟨some 6, (.mv (.k (.bool false))), no⟩]) .ret) .skip)))) 
 (.reg [⟨some 48, (.bin .add (.t 29) (.k (.int .i64 1))), no⟩, ⟨some 29, (.mv (.t 48)), no⟩]))))))) (.seq 
 (.reg [⟨some 6, (.mv (.k (.bool true))), no⟩]) .ret)))))⟩
theorem a101_ok : compFn Tryz.prog Tryz.f101 = some a101 := by kernel_rfl

def a96 : AFn :=
⟨57, [(.t 6)], (.seq 
 (.reg [⟨some 3, (.boxv (.t 0)), no⟩, ⟨some 6, (.mv (.k (.bool false))), no⟩]) (.seq 
 (.reg [⟨some 11, (.ld true 2 (.t 3)), no⟩, ⟨some 12, (.mv (.t 1)), no⟩, ⟨some 13, (.call (.k (.fn (.func 97) [] [])) [(.t 11), (.t 12)]), no⟩, ⟨some 10, (.mv (.t 13)), no⟩, ⟨some 14, (.ext (.t 10) 0), no⟩, ⟨some 15, (.ext (.t 10) 1), no⟩, ⟨some 7, (.box [(.str []), (.nil 1), (.bool false), (.nil 2)]), no⟩, ⟨no, (.st 4 (.t 7) (.t 14)), no⟩, ⟨some 8, (.mv (.t 15)), no⟩]) (.seq (.seq 
 (.reg [⟨some 16, (.mv (.t 8)), no⟩, ⟨some 17, (.un .not (.t 16)), no⟩, ⟨some 18, (.mv (.t 17)), no⟩, ⟨some 19, (.ld true 2 (.t 3)), (some (18, false))⟩, ⟨some 20, (.call (.k (.fn (.func 90) [] [])) [(.t 19)]), (some (18, false))⟩, ⟨some 21, (.un .not (.t 20)), (some (18, false))⟩, ⟨some 22, (.pick (.t 18) (.k (.bool true)) (.t 21)), no⟩, ⟨some 23, (.mv (.t 22)), no⟩, ⟨some 24, (.mv (.t 2)), (some (23, false))⟩, ⟨some 25, (.len false (.t 24)), (some (23, false))⟩, ⟨some 26, (.fld 1 (.t 7)), (some (23, false))⟩, ⟨some 27, (.ld false 1 (.t 26)), (some (23, false))⟩, ⟨some 28, (.len false (.t 27)), (some (23, false))⟩, ⟨some 29, (.bin .neq (.t 25) (.t 28)), (some (23, false))⟩, ⟨some 30, (.pick (.t 23) (.k (.bool true)) (.t 29)), no⟩]) (.cond (.t 30) (.seq 
 (.reg [⟨some 6, (.mv (.k (.bool false))), no⟩]) .ret) .skip)) (.seq (.seq 
 (.reg [⟨some 9, (.mv (.k (.int .i64 0))), no⟩]) (.blk 0 (.loop (.seq (.seq 
 (.reg [⟨some 31, (.mv (.t 9)), no⟩, ⟨some 32, (.mv (.t 2)), no⟩, ⟨some 33, (.len false (.t 32)), no⟩, ⟨some 34, (.bin .lss (.t 31) (.t 33)), no⟩]) (.cond (.t 34) .skip (.exit 0))) (.seq (.blk 1 (.seq (.draw (.op ⟨some 37, (.mv (.t 2)), no⟩ (.op ⟨some 38, (.mv (.t 9)), no⟩ (.op ⟨some 39, (.ixa 3 (.t 37) (.t 38)), no⟩ (.op ⟨some 40, (.ld true 3 (.t 39)), no⟩ (.op ⟨some 41, (.call (.k (.fn (.func 185) [] [])) [(.t 40)]), no⟩ (.op ⟨some 42, (.un .not (.t 41)), no⟩ (.op ⟨some 43, (.mv (.t 42)), no⟩ (.op ⟨some 44, (.mv (.t 2)), (some (43, false))⟩ (.op ⟨some 45, (.mv (.t 9)), (some (43, false))⟩ (.op ⟨some 46, (.ixa 3 (.t 44) (.t 45)), (some (43, false))⟩ (.op ⟨some 47, (.fld 0 (.t 46)), (some (43, false))⟩ (.op ⟨some 48, (.ld false 1 (.t 47)), (some (43, false))⟩ (.op ⟨some 49, (.fld 1 (.t 7)), (some (43, false))⟩ (.op ⟨some 50, (.ld false 1 (.t 49)), (some (43, false))⟩ (.op ⟨some 51, (.mv (.t 9)), (some (43, false))⟩ (.op ⟨some 52, (.ixa 1 (.t 50) (.t 51)), (some (43, false))⟩ (.op ⟨some 53, (.ld false 1 (.t 52)), (some (43, false))⟩ (.op ⟨some 54, (.call (.k (.fn (.func 186) [] [])) [(.t 53)]), (some (43, false))⟩ (.op ⟨some 55, (.beq true (.t 48) (.t 54)), (some (43, false))⟩ (.op ⟨some 56, (.pick (.t 43) (.k (.bool true)) (.t 55)), no⟩ .fin))))))))))))))))))))) (.cond (.t 56) (.seq 
 (.reg [⟨some 6, (.mv (.k (.bool false))), no⟩]) .ret) .skip))) 
 (.reg [⟨some 35, (.mv (.t 9)), no⟩, ⟨some 36, (.bin .add (.t 35) (.k (.int .i64 1))), no⟩, ⟨some 9, (.mv (.t 36)), no⟩])))))) (.seq 
 (.reg [⟨some 6, (.mv (.k (.bool true))), no⟩]) .ret)))))⟩
theorem a96_ok : compFn Tryz.prog Tryz.f96 = some a96 := by kernel_rfl

def a30 : AFn :=
⟨29, [(.t 6)], (.seq 
 (.reg [⟨some 3, (.boxv (.t 0)), no⟩, ⟨some 6, (.mv (.k (.bool false))), no⟩]) (.seq (.seq 
 (.reg [⟨some 9, (.ld true 2 (.t 3)), no⟩, ⟨some 10, (.mv (.t 1)), no⟩, ⟨some 11, (.mv (.t 2)), no⟩, ⟨some 12, (.call (.k (.fn (.func 96) [] [])) [(.t 9), (.t 10), (.t 11)]), no⟩, ⟨some 13, (.un .not (.t 12)), no⟩]) (.cond (.t 13) (.seq 
 (.reg [⟨some 6, (.mv (.k (.bool false))), no⟩]) .ret) .skip)) (.seq 
 (.reg [⟨some 15, (.ld true 2 (.t 3)), no⟩, ⟨some 16, (.mv (.t 1)), no⟩, ⟨some 17, (.call (.k (.fn (.func 97) [] [])) [(.t 15), (.t 16)]), no⟩, ⟨some 14, (.mv (.t 17)), no⟩, ⟨some 18, (.ext (.t 14) 0), no⟩, ⟨some 19, (.ext (.t 14) 1), no⟩, ⟨some 7, (.box [(.str []), (.nil 1), (.bool false), (.nil 2)]), no⟩, ⟨no, (.st 4 (.t 7) (.t 18)), no⟩, ⟨some 8, (.mv (.t 19)), no⟩]) (.seq (.draw (.op ⟨some 20, (.fld 1 (.t 7)), no⟩ (.op ⟨some 21, (.ld false 1 (.t 20)), no⟩ (.op ⟨some 22, (.len false (.t 21)), no⟩ (.op ⟨some 23, (.fld 3 (.t 7)), no⟩ (.op ⟨some 24, (.ld false 1 (.t 23)), no⟩ (.op ⟨some 25, (.build [(.int .i64 0), (.nil 2)] [(0, (1, (.t 22))), (1, (1, (.t 24)))]), no⟩ (.op ⟨some 26, (.mv (.t 2)), no⟩ (.op ⟨some 27, (.call (.k (.fn (.func 99) [] [])) [(.t 26)]), no⟩ (.op ⟨some 28, (.call (.k (.fn (.func 98) [] [])) [(.t 25), (.t 27)]), no⟩ (.op ⟨some 6, (.mv (.t 28)), no⟩ .fin))))))))))) .ret))))⟩
theorem a30_ok : compFn Tryz.prog Tryz.f30 = some a30 := by kernel_rfl

def a32 : AFn :=
⟨60, [(.t 6)], (.seq 
 (.reg [⟨some 3, (.boxv (.t 0)), no⟩, ⟨some 6, (.mv (.k (.bool false))), no⟩]) (.seq (.seq 
 (.reg [⟨some 16, (.ld true 2 (.t 3)), no⟩, ⟨some 17, (.call (.k (.fn (.func 88) [] [])) [(.t 16)]), no⟩, ⟨some 18, (.un .not (.t 17)), no⟩, ⟨some 19, (.mv (.t 18)), no⟩, ⟨some 20, (.ld true 2 (.t 3)), (some (19, false))⟩, ⟨some 21, (.mv (.t 1)), (some (19, false))⟩, ⟨some 22, (.mv (.t 2)), (some (19, false))⟩, ⟨some 23, (.call (.k (.fn (.func 101) [] [])) [(.t 20), (.t 21), (.t 22)]), (some (19, false))⟩, ⟨some 24, (.un .not (.t 23)), (some (19, false))⟩, ⟨some 25, (.pick (.t 19) (.k (.bool true)) (.t 24)), no⟩]) (.cond (.t 25) (.seq 
 (.reg [⟨some 6, (.mv (.k (.bool false))), no⟩]) .ret) .skip)) (.seq 
 (.reg [⟨some 27, (.ld true 2 (.t 3)), no⟩, ⟨some 28, (.mv (.t 1)), no⟩, ⟨some 29, (.call (.k (.fn (.func 102) [] [])) [(.t 27), (.t 28)]), no⟩, ⟨some 26, (.mv (.t 29)), no⟩, ⟨some 30, (.ext (.t 26) 0), no⟩, ⟨some 31, (.ext (.t 26) 1), no⟩, ⟨some 7, (.box [(.str []), (.nil 1), (.bool false), (.nil 2)]), no⟩, ⟨no, (.st 4 (.t 7) (.t 30)), no⟩, ⟨some 8, (.mv (.t 31)), no⟩]) (.seq 
 (.reg [⟨some 9, (.mv (.k (.nil 1))), no⟩]) (.seq (.seq 
 (.reg [⟨some 32, (.mv (.t 2)), no⟩, ⟨some 33, (.len false (.t 32)), no⟩, ⟨some 34, (.mv (.k (.int .i64 0))), no⟩]) (.blk 0 (.loop (.seq 
 (.reg [⟨some 35, (.bin .lss (.t 34) (.t 33)), no⟩]) (.seq (.cond (.t 35) .skip (.exit 0)) (.seq (.blk 1 (.seq 
 (.reg [⟨some 36, (.ixa 3 (.t 32) (.t 34)), no⟩, ⟨some 37, (.ld true 3 (.t 36)), no⟩, ⟨some 11, (.box [(.bool false), (.int .i64 0), (.nil 1)]), no⟩, ⟨no, (.st 3 (.t 11) (.t 37)), no⟩]) 
 (.reg [⟨some 38, (.mv (.t 9)), no⟩, ⟨some 39, (.ld true 3 (.t 11)), no⟩, ⟨some 40, (.call (.k (.fn (.func 103) [] [])) [(.t 39)]), no⟩, ⟨some 41, (.bsl 1 [(.t 40)]), no⟩, ⟨some 42, (.app 8 1 (.t 38) (.t 41)), no⟩, ⟨some 9, (.mv (.t 42)), no⟩]))) 
 (.reg [⟨some 43, (.bin .add (.t 34) (.k (.int .i64 1))), no⟩, ⟨some 34, (.mv (.t 43)), no⟩]))))))) (.seq (.seq 
 (.reg [⟨some 44, (.fld 3 (.t 7)), no⟩, ⟨some 45, (.ld false 1 (.t 44)), no⟩, ⟨some 46, (.len false (.t 45)), no⟩, ⟨some 47, (.mv (.k (.int .i64 0))), no⟩]) (.blk 2 (.loop (.seq 
 (.reg [⟨some 48, (.bin .lss (.t 47) (.t 46)), no⟩]) (.seq (.cond (.t 48) .skip (.exit 2)) (.seq (.blk 3 (.seq 
 (.reg [⟨some 49, (.ixa 2 (.t 45) (.t 47)), no⟩, ⟨some 50, (.ld true 2 (.t 49)), no⟩, ⟨some 13, (.box [(.int .i64 0), (.nil 1)]), no⟩, ⟨no, (.st 2 (.t 13) (.t 50)), no⟩]) (.seq 
 (.reg [⟨some 52, (.ld true 2 (.t 13)), no⟩, ⟨some 53, (.mv (.t 9)), no⟩, ⟨some 54, (.call (.k (.fn (.func 104) [] [])) [(.t 52), (.t 53)]), no⟩, ⟨some 51, (.mv (.t 54)), no⟩, ⟨some 55, (.ext (.t 51) 0), no⟩, ⟨some 56, (.ext (.t 51) 1), no⟩, ⟨some 14, (.mv (.t 55)), no⟩, ⟨some 15, (.mv (.t 56)), no⟩]) (.seq 
 (.reg [⟨some 57, (.mv (.t 14)), no⟩, ⟨some 58, (.bin .lss (.t 57) (.k (.int .i64 0))), no⟩]) (.cond (.t 58) (.seq 
 (.reg [⟨some 6, (.mv (.k (.bool false))), no⟩]) .ret) .skip))))) 
 (.reg [⟨some 59, (.bin .add (.t 47) (.k (.int .i64 1))), no⟩, ⟨some 47, (.mv (.t 59)), no⟩]))))))) (.seq 
 (.reg [⟨some 6, (.mv (.k (.bool true))), no⟩]) .ret)))))))⟩
theorem a32_ok : compFn Tryz.prog Tryz.f32 = some a32 := by kernel_rfl



set_option maxRecDepth 20000
set_option maxHeartbeats 2000000
def AccC (b z : Nat) (rows : List (List AV)) (v : AV) (h : Heap) (n : Nat) : Prop := (rows = [] ∧ v = .nil z) ∨ ∃ id, b < id ∧ id < n ∧ v = .ref id 0 rows.length ∧ h id = some ⟨false, z, rows⟩

theorem k_argsOk (p : DProgram) (hp : wProgram p ≤ 1048576) (name : Str) (vs : List DValue) (hv : vs.length ≤ 1048576) : Holds Tryz.prog 101 [.agg (rAProgram p), .str name, .sl 3 (vs.map rAValue)] (fun r => r = .bool (argsV p name vs)) := by
  refine holds_of_run Tryz.func101 a101_ok rfl (by simp [a101]) ?_
  simp [a101, rAProgram]
  first | refine callD_of (k_FindFunction p name hp) (by simp [rAProgram]) ?_ | refine call_of (k_FindFunction p name hp) (by simp [rAProgram]) ?_ | refine callD_of (k_FindFunction p name hp) rfl ?_ | refine call_of (k_FindFunction p name hp) rfl ?_
  rintro r rfl
  unfold argsV
  generalize hG : (findFn p.Functions name).getD fn0 = G
  simp only [optFn, hG]
  generalize hb1 : (findFn p.Functions name).isSome = b1
  simp [rUFunction]
  cases b1
  · simp
  simp
  intro _ _
  by_cases h1 : (vs.length : Int) = G.Params.length
  case neg => simp [h1]
  have h1n : vs.length = G.Params.length := by omega
  simp [h1]
  intro _
  generalize hB : argF G.Params vs = B
  refine rL_forO [7, 27, 28] 29 vs.length (fun i s h n => 3 < n ∧ h 3 = some ⟨true, 4, [[.str G.Name, .ref 1 0 G.Params.length, .bool G.ListResult, .ref 2 0 G.Pre.length]]⟩ ∧ h 1 = some ⟨false, 1, strsR G.Params⟩ ∧ argF (G.Params.drop i) (vs.drop i) = B) (by unfold LIM; omega) (by simp) ⟨by simp, by simp, by simp, by simpa using hB⟩ ?_ ?_
  · rintro i st h n R hi hg hk s29 hw ⟨hn, e3, e1, hJ⟩ hR hret _
    simp at hk
    have hip : i < G.Params.length := by omega
    rw [argF_drop hip hi] at hJ
    have z1 : ¬ 1 = n := by omega
    have z2 : ¬ n = 1 := by omega
    have z3 : ¬ 3 = n := by omega
    have z4 : ¬ n = 3 := by omega
    refine rC_cut [7, 27, 28, 29] (fun s => s 30 = .bool true) (by simp [hk, s29, hi, ← h1n]) ?_
    intro st1 hk1 s30
    simp at hk1
    refine rC_pass s30 (rC_seqI (rC_blkI ?_))
    refine rC_cutH [7, 27, 28, 29] (fun s h' n' => s 9 = .int .i64 i ∧ s 10 = .ptr n 0 0 ∧ n' = n + 1 ∧ h' n = some ⟨true, 3, [rAValue vs[i]]⟩ ∧ h' 3 = some ⟨true, 4, [[.str G.Name, .ref 1 0 G.Params.length, .bool G.ListResult, .ref 2 0 G.Pre.length]]⟩ ∧ h' 1 = some ⟨false, 1, strsR G.Params⟩) (by simp [hk, hk1, s29, hi, rAValue, e3, e1, z1, z2, z3, z4]) ?_
    rintro st2 h2 n2 hk2 ⟨s9, s10, rfl, en, e3', e1'⟩
    simp at hk2
    refine rC_cut [7, 27, 28, 29] (fun s => s 47 = .bool (!(okVal vs[i] && (vs[i].Lst == listName G.Params[i])))) ?_ ?_
    · simp [hk, hk1, hk2, s10, en, rAValue]
      first | refine callD_of (k_IsValidValue (vs[i]'hi)) (by simp [rAValue]) ?_ | refine call_of (k_IsValidValue (vs[i]'hi)) (by simp [rAValue]) ?_ | refine callD_of (k_IsValidValue (vs[i]'hi)) rfl ?_ | refine call_of (k_IsValidValue (vs[i]'hi)) rfl ?_
      rintro r rfl
      cases hv1 : okVal vs[i]
      · simp
      simp [hk, hk1, hk2, s9, s10, en, e3', e1', hip, rAValue]
      first | refine callD_of (k_IsListName (G.Params[i]'hip)) (by simp) ?_ | refine call_of (k_IsListName (G.Params[i]'hip)) (by simp) ?_ | refine callD_of (k_IsListName (G.Params[i]'hip)) rfl ?_ | refine call_of (k_IsListName (G.Params[i]'hip)) rfl ?_
      rintro r rfl
      simp
    intro st3 hk3 s47
    simp at hk3
    cases hc : (okVal vs[i] && (vs[i].Lst == listName G.Params[i]))
    · rw [hc] at s47 hJ
      simp at hJ
      subst hJ
      simp [s47]
      refine hret _ _ _ ?_
      simp
    · rw [hc] at s47 hJ
      simp at hJ
      simp [hk, hk1, hk2, hk3, s47, s29, hw]
      exact hR _ _ _ (by simp [hk, hk1, hk2, hk3]) (by simp) ⟨by omega, e3', e1', hJ⟩
  rintro st h n R hk s29 ⟨hn, e3, e1, hJ⟩ hret hX
  simp at hk
  rw [List.drop_eq_nil_of_le (by omega), List.drop_eq_nil_of_le (by omega)] at hJ
  simp only [argF] at hJ
  subst hJ
  refine rC_cut [] (fun s => s 30 = .bool false) (by simp [hk, s29, ← h1n]) ?_
  intro st1 hk1 s30
  refine rC_stop s30 ?_
  refine hX _ _ _ _ ?_
  simp

theorem ks_l12Args (p : DProgram) (hp : wProgram p ≤ 1048576) (name : Str) (vs : List DValue) (hv : vs.length ≤ 1048576) : Holds Tryz.prog 96 [.agg (rAProgram p), .str name, .sl 3 (vs.map rAValue)] (fun r => r = .bool (progOk p && argsV p name vs)) := by
  refine holds_of_run Tryz.func96 a96_ok rfl (by simp [a96]) ?_
  simp [a96, rAProgram]
  first | refine callD_of (ks_FindFunction p name hp) (by simp [rAProgram]) ?_ | refine call_of (ks_FindFunction p name hp) (by simp [rAProgram]) ?_ | refine callD_of (ks_FindFunction p name hp) rfl ?_ | refine call_of (ks_FindFunction p name hp) rfl ?_
  rintro r rfl
  unfold argsV
  generalize hG : (findFn p.Functions name).getD fn0 = G
  simp only [optFn, hG]
  generalize hb1 : (findFn p.Functions name).isSome = b1
  simp [rUFunction]
  cases b1
  · simp
  simp
  first | refine callD_of (ks_IsValidProgram p hp) (by simp [rAProgram]) ?_ | refine call_of (ks_IsValidProgram p hp) (by simp [rAProgram]) ?_ | refine callD_of (ks_IsValidProgram p hp) rfl ?_ | refine call_of (ks_IsValidProgram p hp) rfl ?_
  rintro r rfl
  cases hpo : progOk p
  · simp
  simp
  intro _ _
  by_cases h1 : (vs.length : Int) = G.Params.length
  case neg => simp [h1]
  have h1n : vs.length = G.Params.length := by omega
  simp [h1]
  generalize hB : argF G.Params vs = B
  refine rL_forO [2, 7] 9 vs.length (fun i s h n => 3 < n ∧ h 3 = some ⟨true, 4, [[.str G.Name, .ref 1 0 G.Params.length, .bool G.ListResult, .ref 2 0 G.Pre.length]]⟩ ∧ h 1 = some ⟨false, 1, strsR G.Params⟩ ∧ argF (G.Params.drop i) (vs.drop i) = B) (by unfold LIM; omega) (by simp) ⟨by simp, by simp, by simp, by simpa using hB⟩ ?_ ?_
  · rintro i st h n R hi hg hk s9 hw ⟨hn, e3, e1, hJ⟩ hR hret _
    simp at hk
    have hip : i < G.Params.length := by omega
    rw [argF_drop hip hi] at hJ
    refine rC_seqI (rC_cut [2, 7, 9] (fun s => s 34 = .bool true) (by simp [hk, s9, hi]; try omega) ?_)
    intro st1 hk1 s34
    simp at hk1
    refine rC_pass1 s34 (rC_seqI (rC_blkI ?_))
    refine rC_cut [2, 7, 9] (fun s => s 56 = .bool (!(okVal vs[i] && (vs[i].Lst == listName G.Params[i])))) ?_ ?_
    · simp [hk, hk1, s9, hi, rAValue]
      first | refine callD_of (ks_IsValidValue (vs[i]'hi)) (by simp [rAValue]) ?_ | refine call_of (ks_IsValidValue (vs[i]'hi)) (by simp [rAValue]) ?_ | refine callD_of (ks_IsValidValue (vs[i]'hi)) rfl ?_ | refine call_of (ks_IsValidValue (vs[i]'hi)) rfl ?_
      rintro r rfl
      cases hv1 : okVal vs[i]
      · simp
      simp [hk, hk1, s9, hi, e3, e1, hip, rAValue]
      first | refine callD_of (ks_IsListName (G.Params[i]'hip)) (by simp) ?_ | refine call_of (ks_IsListName (G.Params[i]'hip)) (by simp) ?_ | refine callD_of (ks_IsListName (G.Params[i]'hip)) rfl ?_ | refine call_of (ks_IsListName (G.Params[i]'hip)) rfl ?_
      rintro r rfl
      simp
    intro st3 hk3 s56
    simp at hk3
    cases hc : (okVal vs[i] && (vs[i].Lst == listName G.Params[i]))
    · rw [hc] at s56 hJ
      simp at hJ
      subst hJ
      simp [s56]
      refine hret _ _ _ ?_
      simp
    · rw [hc] at s56 hJ
      simp at hJ
      simp [hk, hk1, hk3, s56, s9, hw]
      exact hR _ _ _ (by simp [hk, hk1, hk3]) (by simp) ⟨by omega, e3, e1, hJ⟩
  rintro st h n R hk s9 ⟨hn, e3, e1, hJ⟩ hret hX
  simp at hk
  rw [List.drop_eq_nil_of_le (by omega), List.drop_eq_nil_of_le (by omega)] at hJ
  simp only [argF] at hJ
  subst hJ
  refine rC_seqI (rC_cut [] (fun s => s 34 = .bool false) (by simp [hk, s9]; try omega) ?_)
  intro st1 hk1 s34
  refine rC_stop1 s34 ?_
  refine hX _ _ _ _ ?_
  simp

theorem ks_MeetsPre (p : DProgram) (hp : wProgram p ≤ 1048576) (name : Str) (vs : List DValue) (hv : vs.length ≤ 1048576) : Holds Tryz.prog 30 [.agg (rAProgram p), .str name, .sl 3 (vs.map rAValue)] (fun r => r = .bool (meets p name vs)) := by
  refine holds_of_run Tryz.func30 a30_ok rfl (by simp [a30]) ?_
  simp [a30, rAProgram]
  first | refine callD_of (ks_l12Args p hp name vs hv) (by simp [rAProgram]) ?_ | refine call_of (ks_l12Args p hp name vs hv) (by simp [rAProgram]) ?_ | refine callD_of (ks_l12Args p hp name vs hv) rfl ?_ | refine call_of (ks_l12Args p hp name vs hv) rfl ?_
  rintro r rfl
  unfold meets
  cases ha : (progOk p && argsV p name vs)
  · simp
  simp
  simp only [Bool.and_eq_true] at ha
  have hs : (findFn p.Functions name).isSome = true := by have := ha.2; unfold argsV at this; simp only [Bool.and_eq_true] at this; exact this.1.1
  have hl : (vs.length : Int) = ((findFn p.Functions name).getD fn0).Params.length := by have := ha.2; unfold argsV at this; simp only [Bool.and_eq_true, decide_eq_true_eq] at this; exact this.1.2
  have hF : argF ((findFn p.Functions name).getD fn0).Params vs = true := by have := ha.2; unfold argsV at this; simp only [Bool.and_eq_true] at this; exact this.2
  have ho := progOk_fn ha.1 hs
  first | refine callD_of (ks_FindFunction p name hp) (by simp [rAProgram]) ?_ | refine call_of (ks_FindFunction p name hp) (by simp [rAProgram]) ?_ | refine callD_of (ks_FindFunction p name hp) rfl ?_ | refine call_of (ks_FindFunction p name hp) rfl ?_
  rintro r rfl
  generalize hG : (findFn p.Functions name).getD fn0 = G at *
  simp only [optFn, hG, hs]
  simp [rUFunction]
  have hfit := argF_fits (by omega) hF
  first | refine callD_of (ks_l12Sizes vs hv) (by simp) ?_ | refine call_of (ks_l12Sizes vs hv) (by simp) ?_ | refine callD_of (ks_l12Sizes vs hv) rfl ?_ | refine call_of (ks_l12Sizes vs hv) rfl ?_
  rintro r rfl
  simp
  have ht : List.take vs.length (intsR (vs.map sizeV)) = intsR (vs.map sizeV) := List.take_of_length_le (by simp [intsR])
  first | refine callD_of (ks_Satisfies ⟨G.Params.length, G.Pre⟩ (vs.map sizeV) (fnOk_sys ho) (by simp [hl]) hfit) (by simp [rASystem, ht]) ?_ | refine call_of (ks_Satisfies ⟨G.Params.length, G.Pre⟩ (vs.map sizeV) (fnOk_sys ho) (by simp [hl]) hfit) (by simp [rASystem, ht]) ?_ | refine callD_of (ks_Satisfies ⟨G.Params.length, G.Pre⟩ (vs.map sizeV) (fnOk_sys ho) (by simp [hl]) hfit) rfl ?_ | refine call_of (ks_Satisfies ⟨G.Params.length, G.Pre⟩ (vs.map sizeV) (fnOk_sys ho) (by simp [hl]) hfit) rfl ?_
  rintro r rfl
  simp

theorem k_MeetsPre (p : DProgram) (hp : wProgram p ≤ 1048576) (name : Str) (vs : List DValue) (hv : vs.length ≤ 1048576) : Holds Tryz.prog 32 [.agg (rAProgram p), .str name, .sl 3 (vs.map rAValue)] (fun r => r = .bool (meets p name vs)) := by
  refine holds_of_run Tryz.func32 a32_ok rfl (by simp [a32]) ?_
  simp [a32, rAProgram]
  first | refine callD_of (k_IsValidProgram p hp) (by simp [rAProgram]) ?_ | refine call_of (k_IsValidProgram p hp) (by simp [rAProgram]) ?_ | refine callD_of (k_IsValidProgram p hp) rfl ?_ | refine call_of (k_IsValidProgram p hp) rfl ?_
  rintro r rfl
  unfold meets
  cases hpo : progOk p
  · simp
  simp
  first | refine callD_of (k_argsOk p hp name vs hv) (by simp [rAProgram]) ?_ | refine call_of (k_argsOk p hp name vs hv) (by simp [rAProgram]) ?_ | refine callD_of (k_argsOk p hp name vs hv) rfl ?_ | refine call_of (k_argsOk p hp name vs hv) rfl ?_
  rintro r rfl
  cases ha : argsV p name vs
  · simp
  simp
  have hs : (findFn p.Functions name).isSome = true := by have := ha; unfold argsV at this; simp only [Bool.and_eq_true] at this; exact this.1.1
  have hl : (vs.length : Int) = ((findFn p.Functions name).getD fn0).Params.length := by have := ha; unfold argsV at this; simp only [Bool.and_eq_true, decide_eq_true_eq] at this; exact this.1.2
  have hF : argF ((findFn p.Functions name).getD fn0).Params vs = true := by have := ha; unfold argsV at this; simp only [Bool.and_eq_true] at this; exact this.2
  have ho := progOk_fn hpo hs
  first | refine callD_of (k_FindFunction p name hp) (by simp [rAProgram]) ?_ | refine call_of (k_FindFunction p name hp) (by simp [rAProgram]) ?_ | refine callD_of (k_FindFunction p name hp) rfl ?_ | refine call_of (k_FindFunction p name hp) rfl ?_
  rintro r rfl
  generalize hG : (findFn p.Functions name).getD fn0 = G at *
  simp only [optFn, hG, hs]
  simp [rUFunction]
  intro _
  generalize hT : vs.map sizeV = T
  have hTl : T.length = vs.length := by rw [← hT]; simp
  have hfit : T.all fits = true := by rw [← hT]; exact argF_fits (by omega) hF
  have hpl : G.Pre.length ≤ 2 := by unfold fnOk at ho; simp only [Bool.and_eq_true, decide_eq_true_eq] at ho; exact ho.1.2
  have hrow : ∀ r ∈ G.Pre, okLin r T.length = true := by
    intro r hr
    rw [hTl, hl]
    unfold fnOk at ho
    simp only [Bool.and_eq_true] at ho
    exact List.all_eq_true.1 ho.2 r hr
  generalize hB : G.Pre.all (posB T) = B
  refine rL_forO [2, 7, 32, 33] 34 vs.length (fun i s h n => 3 < n ∧ h 3 = some ⟨true, 4, [[.str G.Name, .ref 1 0 G.Params.length, .bool G.ListResult, .ref 2 0 G.Pre.length]]⟩ ∧ h 2 = some ⟨false, 2, G.Pre.map rULin⟩ ∧ ∃ acc : List Int, acc ++ (vs.drop i).map sizeV = T ∧ AccC 3 1 (intsR acc) (s 9) h n) (by unfold LIM; omega) (by simp) ⟨by simp, by simp, by simp, [], by simpa using hT, .inl (by simp [intsR])⟩ ?_ ?_
  · rintro i st h n R hi hg hk s34 hw ⟨hn, e3, e2, acc, hJ, hA⟩ hR hret _
    simp at hk
    rw [List.drop_eq_getElem_cons hi, List.map_cons] at hJ
    have hal := congrArg List.length hJ
    simp at hal
    have z0 : ¬ 3 = n := by omega
    have z1 : ¬ n = 3 := by omega
    have z2 : ¬ 2 = n := by omega
    have z3 : ¬ n = 2 := by omega
    have z4 : ¬ 3 = n + 1 := by omega
    have z5 : ¬ 2 = n + 1 := by omega
    have z6 : ¬ n = 1 := by omega
    have z7 : ¬ 3 = n + 1 + 1 := by omega
    have z8 : ¬ 2 = n + 1 + 1 := by omega
    have z9 : ¬ n = 0 := by omega
    refine rC_cut [2, 7, 9, 32, 33, 34] (fun s => s 35 = .bool true) (by simp [hk, s34, hi]) ?_
    intro st1 hk1 s35
    simp at hk1
    refine rC_pass s35 (rC_seqI (rC_blkI ?_))
    simp [hk, hk1, s34, hi, rAValue]
    first | refine callD_of (k_SizeOf (vs[i]'hi)) (by simp [rAValue]) ?_ | refine call_of (k_SizeOf (vs[i]'hi)) (by simp [rAValue]) ?_ | refine callD_of (k_SizeOf (vs[i]'hi)) rfl ?_ | refine call_of (k_SizeOf (vs[i]'hi)) rfl ?_
    rintro r rfl
    rcases hA with ⟨hz, hv⟩ | ⟨id, hid, hid', hv, hc⟩
    · simp [intsR] at hz
      subst hz
      simp [hk, hk1, hv, s34, hw]
      refine ⟨by unfold LIM; omega, ?_⟩
      exact hR _ _ _ (by simp [hk, hk1]) (by simp) ⟨by omega, by simp [e3, z0, z1, z2, z3, z4, z5, z6, z7, z8, z9], by simp [e2, z0, z1, z2, z3, z4, z5, z6, z7, z8, z9], [sizeV vs[i]], by simpa using hJ, .inr ⟨n + 1 + 1, by omega, by omega, by simp [intsR], by simp [intsR]⟩⟩
    · simp [intsR] at hv
      have x0 : ¬ id = n := by omega
      have x1 : ¬ id = n + 1 := by omega
      have x2 : ¬ n + 1 = id := by omega
      have x3 : ¬ n = id := by omega
      have y4 : ¬ 3 = id := by omega
      have y5 : ¬ 2 = id := by omega
      simp [hk, hk1, hv, hc, s34, hw, x0, x1, x2, x3]
      refine ⟨by unfold LIM; omega, ?_⟩
      exact hR _ _ _ (by simp [hk, hk1]) (by simp) ⟨by omega, by simp [e3, z0, z1, z2, z3, z4, z5, z6, z7, z8, z9, y4, y5], by simp [e2, z0, z1, z2, z3, z4, z5, z6, z7, z8, z9, y4, y5], acc ++ [sizeV vs[i]], by simpa using hJ, .inr ⟨n + 1 + 1, by omega, by omega, by simp [intsR], by simp [intsR, List.take_of_length_le]⟩⟩
  rintro st h n R hk s34 ⟨hn, e3, e2, acc, hJ, hA⟩ hret hX
  simp at hk
  rw [List.drop_eq_nil_of_le (by omega)] at hJ
  simp at hJ
  subst hJ
  refine rC_cut [2, 7, 9] (fun s => s 35 = .bool false) (by simp [hk, s34]) ?_
  intro st1 hk1 s35
  simp at hk1
  refine rC_stop s35 ?_
  refine hX _ _ _ _ ?_
  simp [hk, hk1, e3, e2]
  intro _
  refine rL_forO [9, 45, 46] 47 G.Pre.length (fun i s h n => 3 < n ∧ h 2 = some ⟨false, 2, G.Pre.map rULin⟩ ∧ AccC 3 1 (intsR acc) (st 9) h n ∧ (G.Pre.drop i).all (posB acc) = B) (by unfold LIM; omega) (by simp) ⟨hn, by simpa using e2, by simpa using hA, by simpa using hB⟩ ?_ ?_
  · rintro i st2 h2 n2 R2 hi hg hk2 s47 hw ⟨hn2, e22, hA2, hJ⟩ hR2 hret2 _
    simp at hk2
    rw [List.drop_eq_getElem_cons hi, List.all_cons] at hJ
    have z0 : ¬ 2 = n2 := by omega
    have z1 : ¬ n2 = 2 := by omega
    refine rC_cut [9, 45, 46, 47] (fun s => s 48 = .bool true) (by simp [hk2, s47, hi]) ?_
    intro st3 hk3 s48
    simp at hk3
    refine rC_pass s48 (rC_seqI (rC_blkI ?_))
    have hcl : AccC 3 1 (intsR acc) (st 9) h2 n2 := hA2
    rcases hA2 with ⟨hz, hv⟩ | ⟨id, hid, hid', hv, hc⟩
    · have hz' : acc = [] := by simpa [intsR] using hz
      simp [hk2, hk3, hk1, s47, hi, e22, z0, z1, hv, rULin]
      first | refine callD_of (k_EvalLin (G.Pre[i]'hi) acc (hrow _ (List.getElem_mem hi)) hfit) (by simp [rALin, hv, hz', intsR]) ?_ | refine call_of (k_EvalLin (G.Pre[i]'hi) acc (hrow _ (List.getElem_mem hi)) hfit) (by simp [rALin, hv, hz', intsR]) ?_ | refine callD_of (k_EvalLin (G.Pre[i]'hi) acc (hrow _ (List.getElem_mem hi)) hfit) rfl ?_ | refine call_of (k_EvalLin (G.Pre[i]'hi) acc (hrow _ (List.getElem_mem hi)) hfit) rfl ?_
      rintro r rfl
      by_cases hq : evalW G.Pre[i].Const G.Pre[i].Coeffs acc < 0
      · rw [posB, decide_eq_false (by omega), Bool.false_and] at hJ
        subst hJ
        simp [hq]
        refine hret2 _ _ _ ?_
        simp
      · rw [posB, decide_eq_true (by omega), Bool.true_and] at hJ
        simp [hk2, hk3, s47, hq, hw]
        exact hR2 _ _ _ (by simp [hk2, hk3]) (by simp) ⟨by omega, by simp [e22, z0, z1], .inl ⟨hz, hv⟩, hJ⟩
    · simp at hv
      have x0 : ¬ id = n2 := by omega
      have x1 : ¬ n2 = id := by omega
      simp [hk2, hk3, hk1, s47, hi, e22, z0, z1, hv, hc, x0, x1, rULin]
      first | refine callD_of (k_EvalLin (G.Pre[i]'hi) acc (hrow _ (List.getElem_mem hi)) hfit) (by simp [rALin, hv, hc, x0, x1]) ?_ | refine call_of (k_EvalLin (G.Pre[i]'hi) acc (hrow _ (List.getElem_mem hi)) hfit) (by simp [rALin, hv, hc, x0, x1]) ?_ | refine callD_of (k_EvalLin (G.Pre[i]'hi) acc (hrow _ (List.getElem_mem hi)) hfit) rfl ?_ | refine call_of (k_EvalLin (G.Pre[i]'hi) acc (hrow _ (List.getElem_mem hi)) hfit) rfl ?_
      rintro r rfl
      by_cases hq : evalW G.Pre[i].Const G.Pre[i].Coeffs acc < 0
      · rw [posB, decide_eq_false (by omega), Bool.false_and] at hJ
        subst hJ
        simp [hq]
        refine hret2 _ _ _ ?_
        simp
      · rw [posB, decide_eq_true (by omega), Bool.true_and] at hJ
        simp [hk2, hk3, s47, hq, hw]
        exact hR2 _ _ _ (by simp [hk2, hk3]) (by simp) ⟨by omega, by simp [e22, z0, z1], .inr ⟨id, hid, by omega, by simpa [intsR] using hv, by simp [hc, x0]⟩, hJ⟩
  rintro st2 h2 n2 R2 hk2 s47 ⟨hn2, e22, hA2, hJ⟩ hret2 hX2
  simp at hk2
  rw [List.drop_eq_nil_of_le (by omega)] at hJ
  simp only [List.all_nil] at hJ
  subst hJ
  refine rC_cut [] (fun s => s 48 = .bool false) (by simp [hk2, s47]) ?_
  intro st3 hk3 s48
  refine rC_stop s48 ?_
  refine hX2 _ _ _ _ ?_
  simp
end Go.Proofs.YtlmajgghnenbpaaGreat
