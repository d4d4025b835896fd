/- Contracts: EqualProgram of both. -/
import Derived.Test.YtlbdgpkgmheikaaT1
import Derived.Test.YtlbdgpkgmheikaaR33
import Derived.Test.YtlbdgpkgmheikaaProg
namespace Go.Proofs.Ytlbdgpkgmheikaa
set_option linter.all false
open Go Go.RowKit Go.Proofs
def a215 : AFn :=
⟨17, [(.t 4)], (.seq 
 (.reg [⟨some 2, (.boxv (.t 0)), no⟩, ⟨some 3, (.boxv (.t 1)), no⟩, ⟨some 4, (.mv (.k (.bool false))), no⟩]) (.seq 
 (.reg [⟨some 5, (.fld 0 (.t 2)), no⟩, ⟨some 6, (.ld false 1 (.t 5)), no⟩, ⟨some 7, (.fld 0 (.t 3)), no⟩, ⟨some 8, (.ld false 1 (.t 7)), no⟩, ⟨some 9, (.bin .eql (.t 6) (.t 8)), no⟩, ⟨some 10, (.mv (.t 9)), no⟩, ⟨some 11, (.fld 1 (.t 2)), (some (10, true))⟩, ⟨some 12, (.ld false 1 (.t 11)), (some (10, true))⟩, ⟨some 13, (.fld 1 (.t 3)), (some (10, true))⟩, ⟨some 14, (.ld false 1 (.t 13)), (some (10, true))⟩, ⟨some 15, (.call (.k (.fn (.func 237) [] [])) [(.t 12), (.t 14)]), (some (10, true))⟩, ⟨some 16, (.pick (.t 10) (.t 15) (.k (.bool false))), no⟩, ⟨some 4, (.mv (.t 16)), no⟩]) .ret))⟩
theorem a215_ok : compFn Try.prog Try.f215 = some a215 := by kernel_rfl

def a181 : AFn :=
⟨8, [(.t 4)], (.seq 
 (.reg [⟨some 4, (.mv (.k (.bool false))), no⟩]) (.seq 
 (.reg [⟨some 5, (.mv (.t 0)), no⟩, ⟨some 6, (.mv (.t 1)), no⟩, ⟨some 7, (.call (.k (.fn (.func 214) [] [])) [(.t 5), (.t 6), (.k (.fn (.func 215) [] []))]), no⟩, ⟨some 4, (.mv (.t 7)), no⟩]) .ret))⟩
theorem a181_ok : compFn Try.prog Try.f181 = some a181 := by kernel_rfl

def a184 : AFn :=
⟨17, [(.t 4)], (.seq 
 (.reg [⟨some 2, (.boxv (.t 0)), no⟩, ⟨some 3, (.boxv (.t 1)), no⟩, ⟨some 4, (.mv (.k (.bool false))), no⟩]) (.seq 
 (.reg [⟨some 5, (.fld 0 (.t 2)), no⟩, ⟨some 6, (.ld false 1 (.t 5)), no⟩, ⟨some 7, (.fld 0 (.t 3)), no⟩, ⟨some 8, (.ld false 1 (.t 7)), no⟩, ⟨some 9, (.bin .eql (.t 6) (.t 8)), no⟩, ⟨some 10, (.mv (.t 9)), no⟩, ⟨some 11, (.fld 1 (.t 2)), (some (10, true))⟩, ⟨some 12, (.ld false 1 (.t 11)), (some (10, true))⟩, ⟨some 13, (.fld 1 (.t 3)), (some (10, true))⟩, ⟨some 14, (.ld false 1 (.t 13)), (some (10, true))⟩, ⟨some 15, (.call (.k (.fn (.func 216) [] [])) [(.t 12), (.t 14)]), (some (10, true))⟩, ⟨some 16, (.pick (.t 10) (.t 15) (.k (.bool false))), no⟩, ⟨some 4, (.mv (.t 16)), no⟩]) .ret))⟩
theorem a184_ok : compFn Try.prog Try.f184 = some a184 := by kernel_rfl

def a187 : AFn :=
⟨24, [(.t 4)], (.seq 
 (.reg [⟨some 2, (.boxv (.t 0)), no⟩, ⟨some 3, (.boxv (.t 1)), no⟩, ⟨some 4, (.mv (.k (.bool false))), no⟩]) (.seq 
 (.reg [⟨some 5, (.fld 0 (.t 2)), no⟩, ⟨some 6, (.ld false 1 (.t 5)), no⟩, ⟨some 7, (.fld 0 (.t 3)), no⟩, ⟨some 8, (.ld false 1 (.t 7)), no⟩, ⟨some 9, (.beq false (.t 6) (.t 8)), no⟩, ⟨some 10, (.mv (.t 9)), no⟩, ⟨some 11, (.fld 2 (.t 2)), (some (10, true))⟩, ⟨some 12, (.ld false 1 (.t 11)), (some (10, true))⟩, ⟨some 13, (.fld 2 (.t 3)), (some (10, true))⟩, ⟨some 14, (.ld false 1 (.t 13)), (some (10, true))⟩, ⟨some 15, (.bin .eql (.t 12) (.t 14)), (some (10, true))⟩, ⟨some 16, (.pick (.t 10) (.t 15) (.k (.bool false))), no⟩, ⟨some 17, (.mv (.t 16)), no⟩, ⟨some 18, (.fld 1 (.t 2)), (some (17, true))⟩, ⟨some 19, (.ld false 1 (.t 18)), (some (17, true))⟩, ⟨some 20, (.fld 1 (.t 3)), (some (17, true))⟩, ⟨some 21, (.ld false 1 (.t 20)), (some (17, true))⟩, ⟨some 22, (.call (.k (.fn (.func 183) [] [])) [(.t 19), (.t 21), (.k (.fn (.func 184) [] []))]), (some (17, true))⟩, ⟨some 23, (.pick (.t 17) (.t 22) (.k (.bool false))), no⟩, ⟨some 4, (.mv (.t 23)), no⟩]) .ret))⟩
theorem a187_ok : compFn Try.prog Try.f187 = some a187 := by kernel_rfl

def a186 : AFn :=
⟨24, [(.t 4)], (.seq 
 (.reg [⟨some 2, (.boxv (.t 0)), no⟩, ⟨some 3, (.boxv (.t 1)), no⟩, ⟨some 4, (.mv (.k (.bool false))), no⟩]) (.seq 
 (.reg [⟨some 5, (.fld 0 (.t 2)), no⟩, ⟨some 6, (.ld false 1 (.t 5)), no⟩, ⟨some 7, (.fld 0 (.t 3)), no⟩, ⟨some 8, (.ld false 1 (.t 7)), no⟩, ⟨some 9, (.bin .eql (.t 6) (.t 8)), no⟩, ⟨some 10, (.mv (.t 9)), no⟩, ⟨some 11, (.fld 1 (.t 2)), (some (10, true))⟩, ⟨some 12, (.ld false 1 (.t 11)), (some (10, true))⟩, ⟨some 13, (.fld 1 (.t 3)), (some (10, true))⟩, ⟨some 14, (.ld false 1 (.t 13)), (some (10, true))⟩, ⟨some 15, (.bin .eql (.t 12) (.t 14)), (some (10, true))⟩, ⟨some 16, (.pick (.t 10) (.t 15) (.k (.bool false))), no⟩, ⟨some 17, (.mv (.t 16)), no⟩, ⟨some 18, (.fld 2 (.t 2)), (some (17, true))⟩, ⟨some 19, (.ld false 1 (.t 18)), (some (17, true))⟩, ⟨some 20, (.fld 2 (.t 3)), (some (17, true))⟩, ⟨some 21, (.ld false 1 (.t 20)), (some (17, true))⟩, ⟨some 22, (.call (.k (.fn (.func 217) [] [])) [(.t 19), (.t 21), (.k (.fn (.func 187) [] []))]), (some (17, true))⟩, ⟨some 23, (.pick (.t 17) (.t 22) (.k (.bool false))), no⟩, ⟨some 4, (.mv (.t 23)), no⟩]) .ret))⟩
theorem a186_ok : compFn Try.prog Try.f186 = some a186 := by kernel_rfl

def a133 : AFn :=
⟨31, [(.t 4)], (.seq 
 (.reg [⟨some 2, (.boxv (.t 0)), no⟩, ⟨some 3, (.boxv (.t 1)), no⟩, ⟨some 4, (.mv (.k (.bool false))), no⟩]) (.seq 
 (.reg [⟨some 5, (.fld 0 (.t 2)), no⟩, ⟨some 6, (.ld false 1 (.t 5)), no⟩, ⟨some 7, (.fld 0 (.t 3)), no⟩, ⟨some 8, (.ld false 1 (.t 7)), no⟩, ⟨some 9, (.bin .eql (.t 6) (.t 8)), no⟩, ⟨some 10, (.mv (.t 9)), no⟩, ⟨some 11, (.fld 1 (.t 2)), (some (10, true))⟩, ⟨some 12, (.ld false 1 (.t 11)), (some (10, true))⟩, ⟨some 13, (.fld 1 (.t 3)), (some (10, true))⟩, ⟨some 14, (.ld false 1 (.t 13)), (some (10, true))⟩, ⟨some 15, (.call (.k (.fn (.func 180) [] [])) [(.t 12), (.t 14)]), (some (10, true))⟩, ⟨some 16, (.pick (.t 10) (.t 15) (.k (.bool false))), no⟩, ⟨some 17, (.mv (.t 16)), no⟩, ⟨some 18, (.fld 2 (.t 2)), (some (17, true))⟩, ⟨some 19, (.ld false 1 (.t 18)), (some (17, true))⟩, ⟨some 20, (.fld 2 (.t 3)), (some (17, true))⟩, ⟨some 21, (.ld false 1 (.t 20)), (some (17, true))⟩, ⟨some 22, (.beq false (.t 19) (.t 21)), (some (17, true))⟩, ⟨some 23, (.pick (.t 17) (.t 22) (.k (.bool false))), no⟩, ⟨some 24, (.mv (.t 23)), no⟩, ⟨some 25, (.fld 3 (.t 2)), (some (24, true))⟩, ⟨some 26, (.ld false 1 (.t 25)), (some (24, true))⟩, ⟨some 27, (.fld 3 (.t 3)), (some (24, true))⟩, ⟨some 28, (.ld false 1 (.t 27)), (some (24, true))⟩, ⟨some 29, (.call (.k (.fn (.func 181) [] [])) [(.t 26), (.t 28)]), (some (24, true))⟩, ⟨some 30, (.pick (.t 24) (.t 29) (.k (.bool false))), no⟩, ⟨some 4, (.mv (.t 30)), no⟩]) .ret))⟩
theorem a133_ok : compFn Try.prog Try.f133 = some a133 := by kernel_rfl

def a135 : AFn :=
⟨38, [(.t 4)], (.seq 
 (.reg [⟨some 2, (.boxv (.t 0)), no⟩, ⟨some 3, (.boxv (.t 1)), no⟩, ⟨some 4, (.mv (.k (.bool false))), no⟩]) (.seq 
 (.reg [⟨some 5, (.fld 0 (.t 2)), no⟩, ⟨some 6, (.ld false 1 (.t 5)), no⟩, ⟨some 7, (.fld 0 (.t 3)), no⟩, ⟨some 8, (.ld false 1 (.t 7)), no⟩, ⟨some 9, (.bin .eql (.t 6) (.t 8)), no⟩, ⟨some 10, (.mv (.t 9)), no⟩, ⟨some 11, (.fld 1 (.t 2)), (some (10, true))⟩, ⟨some 12, (.ld false 1 (.t 11)), (some (10, true))⟩, ⟨some 13, (.fld 1 (.t 3)), (some (10, true))⟩, ⟨some 14, (.ld false 1 (.t 13)), (some (10, true))⟩, ⟨some 15, (.call (.k (.fn (.func 182) [] [])) [(.t 12), (.t 14)]), (some (10, true))⟩, ⟨some 16, (.pick (.t 10) (.t 15) (.k (.bool false))), no⟩, ⟨some 17, (.mv (.t 16)), no⟩, ⟨some 18, (.fld 2 (.t 2)), (some (17, true))⟩, ⟨some 19, (.ld false 1 (.t 18)), (some (17, true))⟩, ⟨some 20, (.fld 2 (.t 3)), (some (17, true))⟩, ⟨some 21, (.ld false 1 (.t 20)), (some (17, true))⟩, ⟨some 22, (.call (.k (.fn (.func 183) [] [])) [(.t 19), (.t 21), (.k (.fn (.func 184) [] []))]), (some (17, true))⟩, ⟨some 23, (.pick (.t 17) (.t 22) (.k (.bool false))), no⟩, ⟨some 24, (.mv (.t 23)), no⟩, ⟨some 25, (.fld 3 (.t 2)), (some (24, true))⟩, ⟨some 26, (.ld false 1 (.t 25)), (some (24, true))⟩, ⟨some 27, (.fld 3 (.t 3)), (some (24, true))⟩, ⟨some 28, (.ld false 1 (.t 27)), (some (24, true))⟩, ⟨some 29, (.call (.k (.fn (.func 185) [] [])) [(.t 26), (.t 28), (.k (.fn (.func 186) [] []))]), (some (24, true))⟩, ⟨some 30, (.pick (.t 24) (.t 29) (.k (.bool false))), no⟩, ⟨some 31, (.mv (.t 30)), no⟩, ⟨some 32, (.fld 4 (.t 2)), (some (31, true))⟩, ⟨some 33, (.ld true 3 (.t 32)), (some (31, true))⟩, ⟨some 34, (.fld 4 (.t 3)), (some (31, true))⟩, ⟨some 35, (.ld true 3 (.t 34)), (some (31, true))⟩, ⟨some 36, (.call (.k (.fn (.func 187) [] [])) [(.t 33), (.t 35)]), (some (31, true))⟩, ⟨some 37, (.pick (.t 31) (.t 36) (.k (.bool false))), no⟩, ⟨some 4, (.mv (.t 37)), no⟩]) .ret))⟩
theorem a135_ok : compFn Try.prog Try.f135 = some a135 := by kernel_rfl

def a62 : AFn :=
⟨17, [(.t 4)], (.seq 
 (.reg [⟨some 2, (.boxv (.t 0)), no⟩, ⟨some 3, (.boxv (.t 1)), no⟩, ⟨some 4, (.mv (.k (.bool false))), no⟩]) (.seq 
 (.reg [⟨some 5, (.fld 0 (.t 2)), no⟩, ⟨some 6, (.ld false 1 (.t 5)), no⟩, ⟨some 7, (.fld 0 (.t 3)), no⟩, ⟨some 8, (.ld false 1 (.t 7)), no⟩, ⟨some 9, (.call (.k (.fn (.func 132) [] [])) [(.t 6), (.t 8), (.k (.fn (.func 133) [] []))]), no⟩, ⟨some 10, (.mv (.t 9)), no⟩, ⟨some 11, (.fld 1 (.t 2)), (some (10, true))⟩, ⟨some 12, (.ld false 1 (.t 11)), (some (10, true))⟩, ⟨some 13, (.fld 1 (.t 3)), (some (10, true))⟩, ⟨some 14, (.ld false 1 (.t 13)), (some (10, true))⟩, ⟨some 15, (.call (.k (.fn (.func 134) [] [])) [(.t 12), (.t 14), (.k (.fn (.func 135) [] []))]), (some (10, true))⟩, ⟨some 16, (.pick (.t 10) (.t 15) (.k (.bool false))), no⟩, ⟨some 4, (.mv (.t 16)), no⟩]) .ret))⟩
theorem a62_ok : compFn Try.prog Try.f62 = some a62 := by kernel_rfl


theorem setO_s {s : Env} {k : Nat} {v : AV} : setO s (some k) v k = v := by simp
theorem setO_n {s : Env} {k j : Nat} {v : AV} (hj : ¬ j = k) : setO s (some k) v j = s j := by simp [hj]
theorem upd_s {α : Type} {f : Nat → α} {k : Nat} {v : α} : upd f k v k = v := by simp
theorem upd_n {α : Type} {f : Nat → α} {k j : Nat} {v : α} (hj : ¬ j = k) : upd f k v j = f j := by simp [hj]
/- A slot is read without a walk through the whole state (tenfold faster where guards are asked). -/
attribute [simp ↓ high] setO_s setO_n upd_s upd_n

theorem bqd {α : Type} [BEq α] [LawfulBEq α] [DecidableEq α] (x y : α) : (x == y) = decide (x = y) := by by_cases h : x = y <;> simp [h]
theorem a132_ok : compFn Try.prog Try.f132 = some (tEqualFunc 4 [(.str []), (.nil 1), (.bool false), (.nil 2)]) := by kernel_rfl
theorem a134_ok : compFn Try.prog Try.f134 = some (tEqualFunc 7 [(.str []), (.nil 4), (.nil 2), (.nil 3), (.bool false), (.nil 2), (.str [])]) := by kernel_rfl
theorem a183_ok : compFn Try.prog Try.f183 = some (tEqualFunc 2 [(.int .i64 0), (.nil 2)]) := by kernel_rfl
theorem a185_ok : compFn Try.prog Try.f185 = some (tEqualFunc 3 [(.str []), (.str []), (.nil 3)]) := by kernel_rfl
theorem a214_ok : compFn Try.prog Try.f214 = some (tEqualFunc 2 [(.int .i64 0), (.nil 1)]) := by kernel_rfl
theorem a217_ok : compFn Try.prog Try.f217 = some (tEqualFunc 3 [(.bool false), (.nil 2), (.str [])]) := by kernel_rfl
theorem a180_ok : compFn Try.prog Try.f180 = some (tSlEq false 1 (.bin .neq (.t 19) (.t 23))) := by kernel_rfl
theorem a237_ok : compFn Try.prog Try.f237 = some (tSlEq false 1 (.bin .neq (.t 19) (.t 23))) := by kernel_rfl
theorem a182_ok : compFn Try.prog Try.f182 = some (tSlEq true 4 (.aeq true [1, 2, 1, 1] (.t 19) (.t 23))) := by kernel_rfl
theorem a216_ok : compFn Try.prog Try.f216 = some (tSlEq true 2 (.aeq true [0, 1] (.t 19) (.t 23))) := by kernel_rfl

theorem k_seStr (a b : List Str) : Holds Try.prog 180 [.sl 1 (strsR a), .sl 1 (strsR b)] (fun r => r = .bool (decide (a = b))) := by
  rw [← eqL_dec]
  refine holds_tSlEq Try.func180 a180_ok rfl (rowOf := fun x => [.str x]) (eltOf := fun x => .str x) (fun x => by simp) ?_ a b
  intro s h n K x y hx hy hK
  simp [hx, hy]
  simpa [bqd, bne] using hK

theorem k_seInt (a b : List Int) : Holds Try.prog 237 [.sl 1 (intsR a), .sl 1 (intsR b)] (fun r => r = .bool (decide (a = b))) := by
  rw [← eqL_dec]
  refine holds_tSlEq Try.func237 a237_ok rfl (rowOf := fun x => [i64 x]) (eltOf := fun x => i64 x) (fun x => by simp) ?_ a b
  intro s h n K x y hx hy hK
  simp [hx, hy]
  simpa [bqd, bne] using hK

theorem k_sePattern (a b : List DPattern) : Holds Try.prog 182 [.sl 4 (a.map rAPattern), .sl 4 (b.map rAPattern)] (fun r => r = .bool (decide (a = b))) := by
  rw [← eqL_dec]
  refine holds_tSlEq Try.func182 a182_ok rfl (rowOf := rAPattern) (eltOf := fun x => .agg (rAPattern x)) (fun x => by simp [rAPattern]) ?_ a b
  intro s h n K x y hx hy hK
  simp [hx, hy, rAPattern, eqK]
  have e : decide (x = y) = (decide (x.Lst = y.Lst) && decide (x.Cons = y.Cons) && decide (x.Head = y.Head) && decide (x.Tail = y.Tail)) := by cases x; cases y; simp [Bool.and_assoc]
  rw [e] at hK
  simpa [bqd, Bool.or_assoc] using hK

theorem k_seTerm (a b : List DTerm) : Holds Try.prog 216 [.sl 2 (a.map rATerm), .sl 2 (b.map rATerm)] (fun r => r = .bool (decide (a = b))) := by
  rw [← eqL_dec]
  refine holds_tSlEq Try.func216 a216_ok rfl (rowOf := rATerm) (eltOf := fun x => .agg (rATerm x)) (fun x => by simp [rATerm]) ?_ a b
  intro s h n K x y hx hy hK
  simp [hx, hy, rATerm, eqK]
  have e : decide (x = y) = (decide (x.Coeff = y.Coeff) && decide (x.Name = y.Name)) := by cases x; cases y; simp [Bool.and_assoc]
  rw [e] at hK
  simpa [bqd, Bool.or_assoc] using hK

set_option maxRecDepth 20000 in
set_option maxHeartbeats 2000000 in
theorem k_EqualLin (x y : DLin) : Holds Try.prog 215 [.agg (rALin x), .agg (rALin y)] (fun r => r = .bool (decide (x = y))) := by
  by_cases h0 : x.Const = y.Const
  case neg =>
    refine holds_of_run Try.func215 a215_ok rfl (by simp [a215]) ?_
    simp (maxSteps := 3000000) [a215, rALin, h0]
    try exact fun e => h0 (by rw [e])
  refine holds_of_run Try.func215 a215_ok rfl (by simp [a215]) ?_
  simp (maxSteps := 3000000) [a215, rALin, h0]
  first | refine callD_of (k_seInt x.Coeffs y.Coeffs) (by simp) ?_ | refine call_of (k_seInt x.Coeffs y.Coeffs) (by simp) ?_ | refine callD_of (k_seInt x.Coeffs y.Coeffs) rfl ?_ | refine call_of (k_seInt x.Coeffs y.Coeffs) rfl ?_
  rintro r rfl
  by_cases h1 : x.Coeffs = y.Coeffs
  case neg => simp (maxSteps := 3000000) [h1]; try exact fun e => h1 (by rw [e])
  simp (maxSteps := 3000000) [h1]
  cases x; cases y; simp_all

set_option maxRecDepth 100000 in
theorem k_efLin (a b : List DLin) : Holds Try.prog 214 [.sl 2 (a.map rALin), .sl 2 (b.map rALin), .fn (.func 215) [] []] (fun r => r = .bool (decide (a = b))) := by
  rw [← eqL_dec]
  exact holds_tEqualFunc Try.func214 a214_ok rfl rfl (fun x => len_ALin x) (fun x => cell_ALin x) (fun x h => bw_ALin x h) a b (fun x y _ _ => k_EqualLin x y)

theorem k_equalLins (a b : List DLin) : Holds Try.prog 181 [.sl 2 (a.map rALin), .sl 2 (b.map rALin)] (fun r => r = .bool (decide (a = b))) := by
  refine holds_of_run Try.func181 a181_ok rfl (by simp [a181]) ?_
  simp [a181]
  first | refine callD_of (k_efLin a b) (by simp) ?_ | refine call_of (k_efLin a b) (by simp) ?_ | refine callD_of (k_efLin a b) rfl ?_ | refine call_of (k_efLin a b) rfl ?_
  rintro r rfl
  simp

set_option maxRecDepth 20000 in
set_option maxHeartbeats 2000000 in
theorem k_equalSum (x y : DSum) : Holds Try.prog 184 [.agg (rASum x), .agg (rASum y)] (fun r => r = .bool (decide (x = y))) := by
  by_cases h0 : x.Const = y.Const
  case neg =>
    refine holds_of_run Try.func184 a184_ok rfl (by simp [a184]) ?_
    simp (maxSteps := 3000000) [a184, rASum, h0]
    try exact fun e => h0 (by rw [e])
  refine holds_of_run Try.func184 a184_ok rfl (by simp [a184]) ?_
  simp (maxSteps := 3000000) [a184, rASum, h0]
  first | refine callD_of (k_seTerm x.Terms y.Terms) (by simp) ?_ | refine call_of (k_seTerm x.Terms y.Terms) (by simp) ?_ | refine callD_of (k_seTerm x.Terms y.Terms) rfl ?_ | refine call_of (k_seTerm x.Terms y.Terms) rfl ?_
  rintro r rfl
  by_cases h1 : x.Terms = y.Terms
  case neg => simp (maxSteps := 3000000) [h1]; try exact fun e => h1 (by rw [e])
  simp (maxSteps := 3000000) [h1]
  cases x; cases y; simp_all

set_option maxRecDepth 100000 in
theorem k_efSum (a b : List DSum) : Holds Try.prog 183 [.sl 2 (a.map rASum), .sl 2 (b.map rASum), .fn (.func 184) [] []] (fun r => r = .bool (decide (a = b))) := by
  rw [← eqL_dec]
  exact holds_tEqualFunc Try.func183 a183_ok rfl rfl (fun x => len_ASum x) (fun x => cell_ASum x) (fun x h => bw_ASum x h) a b (fun x y _ _ => k_equalSum x y)

set_option maxRecDepth 20000 in
set_option maxHeartbeats 2000000 in
theorem k_EqualArg (x y : DArg) : Holds Try.prog 187 [.agg (rAArg x), .agg (rAArg y)] (fun r => r = .bool (decide (x = y))) := by
  by_cases h0 : x.Lst = y.Lst
  case neg =>
    refine holds_of_run Try.func187 a187_ok rfl (by simp [a187]) ?_
    simp (maxSteps := 3000000) [a187, rAArg, h0]
    try exact fun e => h0 (by rw [e])
  by_cases h1 : x.Base = y.Base
  case neg =>
    refine holds_of_run Try.func187 a187_ok rfl (by simp [a187]) ?_
    simp (maxSteps := 3000000) [a187, rAArg, h0, h1]
    try exact fun e => h1 (by rw [e])
  refine holds_of_run Try.func187 a187_ok rfl (by simp [a187]) ?_
  simp (maxSteps := 3000000) [a187, rAArg, h0, h1]
  first | refine callD_of (k_efSum x.Heads y.Heads) (by simp) ?_ | refine call_of (k_efSum x.Heads y.Heads) (by simp) ?_ | refine callD_of (k_efSum x.Heads y.Heads) rfl ?_ | refine call_of (k_efSum x.Heads y.Heads) rfl ?_
  rintro r rfl
  by_cases h2 : x.Heads = y.Heads
  case neg => simp (maxSteps := 3000000) [h2]; try exact fun e => h2 (by rw [e])
  simp (maxSteps := 3000000) [h2]
  cases x; cases y; simp_all

set_option maxRecDepth 100000 in
theorem k_efArg (a b : List DArg) : Holds Try.prog 217 [.sl 3 (a.map rAArg), .sl 3 (b.map rAArg), .fn (.func 187) [] []] (fun r => r = .bool (decide (a = b))) := by
  rw [← eqL_dec]
  exact holds_tEqualFunc Try.func217 a217_ok rfl rfl (fun x => len_AArg x) (fun x => cell_AArg x) (fun x h => bw_AArg x h) a b (fun x y _ _ => k_EqualArg x y)

set_option maxRecDepth 20000 in
set_option maxHeartbeats 2000000 in
theorem k_equalCall (x y : DCall) : Holds Try.prog 186 [.agg (rACall x), .agg (rACall y)] (fun r => r = .bool (decide (x = y))) := by
  by_cases h0 : x.Func = y.Func
  case neg =>
    refine holds_of_run Try.func186 a186_ok rfl (by simp [a186]) ?_
    simp (maxSteps := 3000000) [a186, rACall, h0]
    try exact fun e => h0 (by rw [e])
  by_cases h1 : x.Bind = y.Bind
  case neg =>
    refine holds_of_run Try.func186 a186_ok rfl (by simp [a186]) ?_
    simp (maxSteps := 3000000) [a186, rACall, h0, h1]
    try exact fun e => h1 (by rw [e])
  refine holds_of_run Try.func186 a186_ok rfl (by simp [a186]) ?_
  simp (maxSteps := 3000000) [a186, rACall, h0, h1]
  first | refine callD_of (k_efArg x.Args y.Args) (by simp) ?_ | refine call_of (k_efArg x.Args y.Args) (by simp) ?_ | refine callD_of (k_efArg x.Args y.Args) rfl ?_ | refine call_of (k_efArg x.Args y.Args) rfl ?_
  rintro r rfl
  by_cases h2 : x.Args = y.Args
  case neg => simp (maxSteps := 3000000) [h2]; try exact fun e => h2 (by rw [e])
  simp (maxSteps := 3000000) [h2]
  cases x; cases y; simp_all

set_option maxRecDepth 100000 in
theorem k_efCall (a b : List DCall) : Holds Try.prog 185 [.sl 3 (a.map rACall), .sl 3 (b.map rACall), .fn (.func 186) [] []] (fun r => r = .bool (decide (a = b))) := by
  rw [← eqL_dec]
  exact holds_tEqualFunc Try.func185 a185_ok rfl rfl (fun x => len_ACall x) (fun x => cell_ACall x) (fun x h => bw_ACall x h) a b (fun x y _ _ => k_equalCall x y)

set_option maxRecDepth 20000 in
set_option maxHeartbeats 2000000 in
theorem k_equalFunction (x y : DFunction) : Holds Try.prog 133 [.agg (rAFunction x), .agg (rAFunction y)] (fun r => r = .bool (decide (x = y))) := by
  by_cases h0 : x.Name = y.Name
  case neg =>
    refine holds_of_run Try.func133 a133_ok rfl (by simp [a133]) ?_
    simp (maxSteps := 3000000) [a133, rAFunction, h0]
    try exact fun e => h0 (by rw [e])
  by_cases h2 : x.ListResult = y.ListResult
  case neg =>
    refine holds_of_run Try.func133 a133_ok rfl (by simp [a133]) ?_
    simp (maxSteps := 3000000) [a133, rAFunction, h0, h2]
    first | refine callD_of (k_seStr x.Params y.Params) (by simp) ?_ | refine call_of (k_seStr x.Params y.Params) (by simp) ?_ | refine callD_of (k_seStr x.Params y.Params) rfl ?_ | refine call_of (k_seStr x.Params y.Params) rfl ?_
    rintro r rfl
    by_cases h1 : x.Params = y.Params
    case neg => simp (maxSteps := 3000000) [h1, h2]; try exact fun e => h1 (by rw [e])
    simp (maxSteps := 3000000) [h1, h2]
    try exact fun e => h2 (by rw [e])
  refine holds_of_run Try.func133 a133_ok rfl (by simp [a133]) ?_
  simp (maxSteps := 3000000) [a133, rAFunction, h0, h2]
  first | refine callD_of (k_seStr x.Params y.Params) (by simp) ?_ | refine call_of (k_seStr x.Params y.Params) (by simp) ?_ | refine callD_of (k_seStr x.Params y.Params) rfl ?_ | refine call_of (k_seStr x.Params y.Params) rfl ?_
  rintro r rfl
  by_cases h1 : x.Params = y.Params
  case neg => simp (maxSteps := 3000000) [h1]; try exact fun e => h1 (by rw [e])
  simp (maxSteps := 3000000) [h1]
  first | refine callD_of (k_equalLins x.Pre y.Pre) (by simp) ?_ | refine call_of (k_equalLins x.Pre y.Pre) (by simp) ?_ | refine callD_of (k_equalLins x.Pre y.Pre) rfl ?_ | refine call_of (k_equalLins x.Pre y.Pre) rfl ?_
  rintro r rfl
  by_cases h3 : x.Pre = y.Pre
  case neg => simp (maxSteps := 3000000) [h3]; try exact fun e => h3 (by rw [e])
  simp (maxSteps := 3000000) [h3]
  cases x; cases y; simp_all

set_option maxRecDepth 100000 in
theorem k_efFunction (a b : List DFunction) : Holds Try.prog 132 [.sl 4 (a.map rAFunction), .sl 4 (b.map rAFunction), .fn (.func 133) [] []] (fun r => r = .bool (decide (a = b))) := by
  rw [← eqL_dec]
  exact holds_tEqualFunc Try.func132 a132_ok rfl rfl (fun x => len_AFunction x) (fun x => cell_AFunction x) (fun x h => bw_AFunction x h) a b (fun x y _ _ => k_equalFunction x y)

set_option maxRecDepth 20000 in
set_option maxHeartbeats 2000000 in
theorem k_equalRule (x y : DRule) : Holds Try.prog 135 [.agg (rARule x), .agg (rARule y)] (fun r => r = .bool (decide (x = y))) := by
  by_cases h0 : x.Func = y.Func
  case neg =>
    refine holds_of_run Try.func135 a135_ok rfl (by simp [a135]) ?_
    simp (maxSteps := 3000000) [a135, rARule, h0]
    try exact fun e => h0 (by rw [e])
  refine holds_of_run Try.func135 a135_ok rfl (by simp [a135]) ?_
  simp (maxSteps := 3000000) [a135, rARule, h0]
  first | refine callD_of (k_sePattern x.Patterns y.Patterns) (by simp) ?_ | refine call_of (k_sePattern x.Patterns y.Patterns) (by simp) ?_ | refine callD_of (k_sePattern x.Patterns y.Patterns) rfl ?_ | refine call_of (k_sePattern x.Patterns y.Patterns) rfl ?_
  rintro r rfl
  by_cases h1 : x.Patterns = y.Patterns
  case neg => simp (maxSteps := 3000000) [h1]; try exact fun e => h1 (by rw [e])
  simp (maxSteps := 3000000) [h1]
  first | refine callD_of (k_efSum x.Guards y.Guards) (by simp) ?_ | refine call_of (k_efSum x.Guards y.Guards) (by simp) ?_ | refine callD_of (k_efSum x.Guards y.Guards) rfl ?_ | refine call_of (k_efSum x.Guards y.Guards) rfl ?_
  rintro r rfl
  by_cases h2 : x.Guards = y.Guards
  case neg => simp (maxSteps := 3000000) [h2]; try exact fun e => h2 (by rw [e])
  simp (maxSteps := 3000000) [h2]
  first | refine callD_of (k_efCall x.Calls y.Calls) (by simp) ?_ | refine call_of (k_efCall x.Calls y.Calls) (by simp) ?_ | refine callD_of (k_efCall x.Calls y.Calls) rfl ?_ | refine call_of (k_efCall x.Calls y.Calls) rfl ?_
  rintro r rfl
  by_cases h3 : x.Calls = y.Calls
  case neg => simp (maxSteps := 3000000) [h3]; try exact fun e => h3 (by rw [e])
  simp (maxSteps := 3000000) [h3]
  first | refine callD_of (k_EqualArg x.Result y.Result) (by simp [rAArg]) ?_ | refine call_of (k_EqualArg x.Result y.Result) (by simp [rAArg]) ?_ | refine callD_of (k_EqualArg x.Result y.Result) rfl ?_ | refine call_of (k_EqualArg x.Result y.Result) rfl ?_
  rintro r rfl
  by_cases h4 : x.Result = y.Result
  case neg => simp (maxSteps := 3000000) [h4]; try exact fun e => h4 (by rw [e])
  simp (maxSteps := 3000000) [h4]
  cases x; cases y; simp_all

set_option maxRecDepth 100000 in
theorem k_efRule (a b : List DRule) : Holds Try.prog 134 [.sl 7 (a.map rARule), .sl 7 (b.map rARule), .fn (.func 135) [] []] (fun r => r = .bool (decide (a = b))) := by
  rw [← eqL_dec]
  exact holds_tEqualFunc Try.func134 a134_ok rfl rfl (fun x => len_ARule x) (fun x => cell_ARule x) (fun x h => bw_ARule x h) a b (fun x y _ _ => k_equalRule x y)

set_option maxRecDepth 20000 in
set_option maxHeartbeats 2000000 in
theorem k_EqualProgram (x y : DProgram) : Holds Try.prog 62 [.agg (rAProgram x), .agg (rAProgram y)] (fun r => r = .bool (decide (x = y))) := by
  refine holds_of_run Try.func62 a62_ok rfl (by simp [a62]) ?_
  simp (maxSteps := 3000000) [a62, rAProgram]
  first | refine callD_of (k_efFunction x.Functions y.Functions) (by simp) ?_ | refine call_of (k_efFunction x.Functions y.Functions) (by simp) ?_ | refine callD_of (k_efFunction x.Functions y.Functions) rfl ?_ | refine call_of (k_efFunction x.Functions y.Functions) rfl ?_
  rintro r rfl
  by_cases h0 : x.Functions = y.Functions
  case neg => simp (maxSteps := 3000000) [h0]; try exact fun e => h0 (by rw [e])
  simp (maxSteps := 3000000) [h0]
  first | refine callD_of (k_efRule x.Rules y.Rules) (by simp) ?_ | refine call_of (k_efRule x.Rules y.Rules) (by simp) ?_ | refine callD_of (k_efRule x.Rules y.Rules) rfl ?_ | refine call_of (k_efRule x.Rules y.Rules) rfl ?_
  rintro r rfl
  by_cases h1 : x.Rules = y.Rules
  case neg => simp (maxSteps := 3000000) [h1]; try exact fun e => h1 (by rw [e])
  simp (maxSteps := 3000000) [h1]
  cases x; cases y; simp_all

end Go.Proofs.Ytlbdgpkgmheikaa
