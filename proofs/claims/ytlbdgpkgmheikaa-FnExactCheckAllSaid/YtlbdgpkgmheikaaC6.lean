/- Contracts: certificates, checked one by one and all. -/
import Derived.Test.YtlbdgpkgmheikaaC5
namespace Go.Proofs.Ytlbdgpkgmheikaa
open Go Go.RowKit Go.Proofs
def a113 : AFn :=
⟨66, [(.t 6)], (.seq 
 (.reg [⟨some 3, (.boxv (.t 0)), no⟩, ⟨some 4, (.boxv (.t 1)), no⟩, ⟨some 5, (.boxv (.t 2)), no⟩, ⟨some 6, (.mv (.k (.bool false))), no⟩]) (.seq (.seq 
 (.reg [⟨some 13, (.ld true 2 (.t 3)), no⟩, ⟨some 14, (.call (.k (.fn (.func 163) [] [])) [(.t 13)]), no⟩, ⟨some 15, (.un .not (.t 14)), no⟩, ⟨some 16, (.mv (.t 15)), no⟩, ⟨some 17, (.ld true 2 (.t 4)), (some (16, false))⟩, ⟨some 18, (.fld 0 (.t 3)), (some (16, false))⟩, ⟨some 19, (.ld false 1 (.t 18)), (some (16, false))⟩, ⟨some 20, (.call (.k (.fn (.func 78) [] [])) [(.t 17), (.t 19)]), (some (16, false))⟩, ⟨some 21, (.un .not (.t 20)), (some (16, false))⟩, ⟨some 22, (.pick (.t 16) (.k (.bool true)) (.t 21)), no⟩, ⟨some 23, (.mv (.t 22)), no⟩, ⟨some 24, (.fld 0 (.t 5)), (some (23, false))⟩, ⟨some 25, (.ld false 1 (.t 24)), (some (23, false))⟩, ⟨some 26, (.call (.k (.fn (.func 102) [] [])) [(.t 25), (.k (.int .i64 0)), (.k (.int .i64 1000000000))]), (some (23, false))⟩, ⟨some 27, (.un .not (.t 26)), (some (23, false))⟩, ⟨some 28, (.pick (.t 23) (.k (.bool true)) (.t 27)), no⟩]) (.cond (.t 28) (.seq 
 (.reg [⟨some 6, (.mv (.k (.bool false))), no⟩]) .ret) .skip)) (.seq 
 (.reg [⟨some 30, (.ld true 2 (.t 3)), no⟩, ⟨some 31, (.fld 1 (.t 5)), no⟩, ⟨some 32, (.ld false 1 (.t 31)), no⟩, ⟨some 33, (.call (.k (.fn (.func 164) [] [])) [(.t 30), (.t 32)]), no⟩, ⟨some 29, (.mv (.t 33)), no⟩, ⟨some 34, (.ext (.t 29) 0), no⟩, ⟨some 35, (.ext (.t 29) 1), no⟩, ⟨some 7, (.box [(.int .i64 0), (.nil 1)]), no⟩, ⟨no, (.st 2 (.t 7) (.t 34)), no⟩, ⟨some 8, (.mv (.t 35)), no⟩]) (.seq 
 (.reg [⟨some 37, (.ld true 2 (.t 4)), no⟩, ⟨some 38, (.call (.k (.fn (.func 117) [] [])) [(.t 37), (.k (.int .i64 1))]), no⟩, ⟨some 36, (.mv (.t 38)), no⟩, ⟨some 39, (.ext (.t 36) 0), no⟩, ⟨some 40, (.ext (.t 36) 1), no⟩, ⟨some 9, (.box [(.int .i64 0), (.nil 1)]), no⟩, ⟨no, (.st 2 (.t 9) (.t 39)), no⟩, ⟨some 10, (.mv (.t 40)), no⟩]) (.seq (.seq 
 (.reg [⟨some 41, (.mv (.t 8)), no⟩, ⟨some 42, (.un .not (.t 41)), no⟩, ⟨some 43, (.mv (.t 42)), no⟩, ⟨some 44, (.mv (.t 10)), (some (43, false))⟩, ⟨some 45, (.un .not (.t 44)), (some (43, false))⟩, ⟨some 46, (.pick (.t 43) (.k (.bool true)) (.t 45)), no⟩]) (.cond (.t 46) (.seq 
 (.reg [⟨some 6, (.mv (.k (.bool false))), no⟩]) .ret) .skip)) (.seq 
 (.reg [⟨some 48, (.ld true 2 (.t 7)), no⟩, ⟨some 49, (.fld 0 (.t 5)), no⟩, ⟨some 50, (.ld false 1 (.t 49)), no⟩, ⟨some 51, (.un .neg (.t 50)), no⟩, ⟨some 52, (.ld true 2 (.t 9)), no⟩, ⟨some 53, (.call (.k (.fn (.func 82) [] [])) [(.t 48), (.t 51), (.t 52)]), no⟩, ⟨some 47, (.mv (.t 53)), no⟩, ⟨some 54, (.ext (.t 47) 0), no⟩, ⟨some 55, (.ext (.t 47) 1), no⟩, ⟨some 11, (.box [(.int .i64 0), (.nil 1)]), no⟩, ⟨no, (.st 2 (.t 11) (.t 54)), no⟩, ⟨some 12, (.mv (.t 55)), no⟩]) (.seq 
 (.reg [⟨some 56, (.mv (.t 12)), no⟩, ⟨some 57, (.mv (.t 56)), no⟩, ⟨some 58, (.ld true 2 (.t 11)), (some (57, true))⟩, ⟨some 59, (.call (.k (.fn (.func 165) [] [])) [(.t 58)]), (some (57, true))⟩, ⟨some 60, (.pick (.t 57) (.t 59) (.k (.bool false))), no⟩, ⟨some 61, (.mv (.t 60)), no⟩, ⟨some 62, (.fld 0 (.t 11)), (some (61, true))⟩, ⟨some 63, (.ld false 1 (.t 62)), (some (61, true))⟩, ⟨some 64, (.bin .lss (.t 63) (.k (.int .i64 0))), (some (61, true))⟩, ⟨some 65, (.pick (.t 61) (.t 64) (.k (.bool false))), no⟩, ⟨some 6, (.mv (.t 65)), no⟩]) .ret)))))))⟩
theorem a113_ok : compFn Try.prog Try.f113 = some a113 := by kernel_rfl

def a110 : AFn :=
⟨65, [(.t 6)], (.seq 
 (.reg [⟨some 3, (.boxv (.t 0)), no⟩, ⟨some 4, (.boxv (.t 1)), no⟩, ⟨some 5, (.boxv (.t 2)), no⟩, ⟨some 6, (.mv (.k (.bool false))), no⟩]) (.seq 
 (.reg [⟨some 14, (.ld true 2 (.t 3)), no⟩, ⟨some 15, (.fld 1 (.t 5)), no⟩, ⟨some 16, (.ld false 1 (.t 15)), no⟩, ⟨some 17, (.call (.k (.fn (.func 161) [] [])) [(.t 14), (.t 16)]), no⟩, ⟨some 13, (.mv (.t 17)), no⟩, ⟨some 18, (.ext (.t 13) 0), no⟩, ⟨some 19, (.ext (.t 13) 1), no⟩, ⟨some 7, (.box [(.int .i64 0), (.nil 1)]), no⟩, ⟨no, (.st 2 (.t 7) (.t 18)), no⟩, ⟨some 8, (.mv (.t 19)), no⟩]) (.seq (.seq 
 (.reg [⟨some 20, (.mv (.t 8)), no⟩, ⟨some 21, (.un .not (.t 20)), no⟩, ⟨some 22, (.mv (.t 21)), no⟩, ⟨some 23, (.ld true 2 (.t 4)), (some (22, false))⟩, ⟨some 24, (.fld 0 (.t 3)), (some (22, false))⟩, ⟨some 25, (.ld false 1 (.t 24)), (some (22, false))⟩, ⟨some 26, (.call (.k (.fn (.func 75) [] [])) [(.t 23), (.t 25)]), (some (22, false))⟩, ⟨some 27, (.un .not (.t 26)), (some (22, false))⟩, ⟨some 28, (.pick (.t 22) (.k (.bool true)) (.t 27)), no⟩, ⟨some 29, (.mv (.t 28)), no⟩, ⟨some 30, (.fld 0 (.t 5)), (some (29, false))⟩, ⟨some 31, (.ld false 1 (.t 30)), (some (29, false))⟩, ⟨some 32, (.call (.k (.fn (.func 98) [] [])) [(.t 31), (.k (.int .i64 0)), (.k (.int .i64 1000000000))]), (some (29, false))⟩, ⟨some 33, (.un .not (.t 32)), (some (29, false))⟩, ⟨some 34, (.pick (.t 29) (.k (.bool true)) (.t 33)), no⟩]) (.cond (.t 34) (.seq 
 (.reg [⟨some 6, (.mv (.k (.bool false))), no⟩]) .ret) .skip)) (.seq (.draw (.op ⟨some 36, (.ld true 2 (.t 4)), no⟩ (.op ⟨some 37, (.fld 0 (.t 3)), no⟩ (.op ⟨some 38, (.ld false 1 (.t 37)), no⟩ (.both (.op ⟨some 39, (.call (.k (.fn (.func 74) [] [])) [(.k (.int .i64 1)), (.t 38)]), no⟩ (.both (.op ⟨some 40, (.call (.k (.fn (.func 76) [] [])) [(.t 36), (.k (.int .i64 1)), (.t 39)]), no⟩ (.op ⟨some 35, (.mv (.t 40)), no⟩ (.op ⟨some 41, (.ext (.t 35) 0), no⟩ (.op ⟨some 42, (.ext (.t 35) 1), no⟩ (.op ⟨some 9, (.box [(.int .i64 0), (.nil 1)]), no⟩ (.hop ⟨no, (.st 2 (.t 9) (.t 41)), no⟩ [] (.op ⟨some 10, (.mv (.t 42)), no⟩ .fin))))))) (.op ⟨some 9, (.box [(.int .i64 0), (.nil 1)]), no⟩ (.op ⟨some 40, (.call (.k (.fn (.func 76) [] [])) [(.t 36), (.k (.int .i64 1)), (.t 39)]), no⟩ (.op ⟨some 35, (.mv (.t 40)), no⟩ (.op ⟨some 41, (.ext (.t 35) 0), no⟩ (.op ⟨some 42, (.ext (.t 35) 1), no⟩ (.hop ⟨no, (.st 2 (.t 9) (.t 41)), no⟩ [] (.op ⟨some 10, (.mv (.t 42)), no⟩ .fin))))))))) (.op ⟨some 9, (.box [(.int .i64 0), (.nil 1)]), no⟩ (.op ⟨some 39, (.call (.k (.fn (.func 74) [] [])) [(.k (.int .i64 1)), (.t 38)]), no⟩ (.op ⟨some 40, (.call (.k (.fn (.func 76) [] [])) [(.t 36), (.k (.int .i64 1)), (.t 39)]), no⟩ (.op ⟨some 35, (.mv (.t 40)), no⟩ (.op ⟨some 41, (.ext (.t 35) 0), no⟩ (.op ⟨some 42, (.ext (.t 35) 1), no⟩ (.hop ⟨no, (.st 2 (.t 9) (.t 41)), no⟩ [] (.op ⟨some 10, (.mv (.t 42)), no⟩ .fin))))))))))))) (.seq 
 (.reg [⟨some 44, (.ld true 2 (.t 7)), no⟩, ⟨some 45, (.fld 0 (.t 5)), no⟩, ⟨some 46, (.ld false 1 (.t 45)), no⟩, ⟨some 47, (.bin .sub (.k (.int .i64 0)) (.t 46)), no⟩, ⟨some 48, (.ld true 2 (.t 9)), no⟩, ⟨some 49, (.call (.k (.fn (.func 76) [] [])) [(.t 44), (.t 47), (.t 48)]), no⟩, ⟨some 43, (.mv (.t 49)), no⟩, ⟨some 50, (.ext (.t 43) 0), no⟩, ⟨some 51, (.ext (.t 43) 1), no⟩, ⟨some 11, (.box [(.int .i64 0), (.nil 1)]), no⟩, ⟨no, (.st 2 (.t 11) (.t 50)), no⟩, ⟨some 12, (.mv (.t 51)), no⟩]) (.seq 
 (.reg [⟨some 52, (.mv (.t 10)), no⟩, ⟨some 53, (.mv (.t 52)), no⟩, ⟨some 54, (.mv (.t 12)), (some (53, true))⟩, ⟨some 55, (.pick (.t 53) (.t 54) (.k (.bool false))), no⟩, ⟨some 56, (.mv (.t 55)), no⟩, ⟨some 57, (.ld true 2 (.t 11)), (some (56, true))⟩, ⟨some 58, (.call (.k (.fn (.func 162) [] [])) [(.t 57)]), (some (56, true))⟩, ⟨some 59, (.pick (.t 56) (.t 58) (.k (.bool false))), no⟩, ⟨some 60, (.mv (.t 59)), no⟩, ⟨some 61, (.fld 0 (.t 11)), (some (60, true))⟩, ⟨some 62, (.ld false 1 (.t 61)), (some (60, true))⟩, ⟨some 63, (.bin .lss (.t 62) (.k (.int .i64 0))), (some (60, true))⟩, ⟨some 64, (.pick (.t 60) (.t 63) (.k (.bool false))), no⟩, ⟨some 6, (.mv (.t 64)), no⟩]) .ret))))))⟩
theorem a110_ok : compFn Try.prog Try.f110 = some a110 := by kernel_rfl



theorem optLin_eq (o : Option DLin) : optLin o = .tup [.agg (rULin (o.getD lin0)), .bool o.isSome] := by cases o <;> rfl

def lastF (x : DSystem) (t : DLin) (f : DFarkas) : Option DLin := addScaled ((combO x f.Mult).getD lin0) (-f.Scale) ((plusL t 1).getD lin0)
def checkF (x : DSystem) (t : DLin) (f : DFarkas) : Bool :=
  (combO x f.Mult).isSome && okLin t x.N && inR f.Scale 0 1000000000 && (plusL t 1).isSome && (lastF x t f).isSome && isConst ((lastF x t f).getD lin0) && decide (((lastF x t f).getD lin0).Const < 0)

theorem comb_sys {x : DSystem} {m : List Int} (h : (combO x m).isSome = true) : okSys x = true := by
  unfold combO at h
  cases hs : okSys x
  · rw [hs] at h; simp at h
  · rfl

theorem plus_add {t : DLin} {n : Int} (h : okLin t n = true) : addScaled t 1 (constLin 1 n) = plusL t 1 := by
  have hl := okLin_len h
  have hc : constLin 1 n = ⟨1, List.replicate n.toNat 0⟩ := by
    unfold constLin
    rw [if_pos (by simp [inR, okC]; omega)]
  have hz : ∀ c, okC c = true → scaledO c 1 0 = some c := fun c hc => by
    have h0 : okC 0 = true := by decide
    have h1 : okC 1 = true := by decide
    simp [scaledO, mulL, addL, h0, h1, hc]
  have h1 : scaledO t.Const 1 1 = if (addL t.Const 1).2 then some (addL t.Const 1).1 else Option.none := by
    have h1 : okC 1 = true := by decide
    simp [scaledO, mulL, h1]
  have hok : okLin t t.Coeffs.length = true := by rw [hl.1]; exact h
  have hok2 : okLin (constLin 1 n) t.Coeffs.length = true := by
    rw [hc]; unfold okLin
    simp [inR]
    exact ⟨⟨⟨by omega, by omega⟩, by decide⟩, .inr (by decide)⟩
  have hall : t.Coeffs.all okC = true := by
    unfold okLin at h; simp at h; simpa using h.2
  have hZ : combZ t 1 (constLin 1 n) = t.Coeffs.map some := by
    rw [hc]
    unfold combZ
    refine List.ext_getElem (by simp; omega) fun i h1 h2 => ?_
    simp
    exact hz _ (List.all_eq_true.1 hall _ (List.getElem_mem _))
  have hO : combOk t 1 (constLin 1 n) = true := by unfold combOk; rw [hZ]; simp
  unfold addScaled plusL
  rw [hok, hok2, hO, hZ]
  have hc1 : (constLin 1 n).Const = 1 := by rw [hc]
  rw [hc1, h1]
  have h11 : okC 1 = true := by decide
  rw [h11]
  cases (addL t.Const 1).2 <;> simp [Function.comp_def]

set_option maxRecDepth 20000 in
set_option maxHeartbeats 2000000 in
theorem k_CheckFarkas (x : DSystem) (t : DLin) (f : DFarkas) : Holds Try.prog 113 [.agg (rASystem x), .agg (rALin t), .agg (rAFarkas f)] (fun r => r = .bool (checkF x t f)) := by
  refine holds_of_run Try.func113 a113_ok rfl (by simp [a113]) ?_
  simp [a113, rASystem, rALin, rAFarkas]
  first | refine callD_of (k_IsValidSystem x) (by simp [rASystem]) ?_ | refine call_of (k_IsValidSystem x) (by simp [rASystem]) ?_ | refine callD_of (k_IsValidSystem x) rfl ?_ | refine call_of (k_IsValidSystem x) rfl ?_
  rintro r rfl
  unfold checkF
  cases h1 : okSys x
  · have h1' : (combO x f.Mult).isSome = false := by
      cases hc : (combO x f.Mult).isSome
      · rfl
      · rw [comb_sys hc] at h1; cases h1
    simp [h1']
  simp
  first | refine callD_of (k_IsValidLin t x.N) (by simp [rALin]) ?_ | refine call_of (k_IsValidLin t x.N) (by simp [rALin]) ?_ | refine callD_of (k_IsValidLin t x.N) rfl ?_ | refine call_of (k_IsValidLin t x.N) rfl ?_
  rintro r rfl
  cases h2 : okLin t x.N
  · simp
  simp
  first | refine callD_of (k_within f.Scale 0 1000000000) (by simp) ?_ | refine call_of (k_within f.Scale 0 1000000000) (by simp) ?_ | refine callD_of (k_within f.Scale 0 1000000000) rfl ?_ | refine call_of (k_within f.Scale 0 1000000000) rfl ?_
  rintro r rfl
  cases h3 : inR f.Scale 0 1000000000
  · simp
  have hs : 0 ≤ f.Scale ∧ f.Scale ≤ 1000000000 := by simpa [inR] using h3
  simp
  first | refine callD_of (k_CombineRows x f.Mult) (by simp [rASystem]) ?_ | refine call_of (k_CombineRows x f.Mult) (by simp [rASystem]) ?_ | refine callD_of (k_CombineRows x f.Mult) rfl ?_ | refine call_of (k_CombineRows x f.Mult) rfl ?_
  rintro r rfl
  rw [optLin_eq]
  generalize hb1 : (combO x f.Mult).isSome = b1
  simp [rULin]
  first | refine callD_of (k_plus t 1) (by simp [rALin]) ?_ | refine call_of (k_plus t 1) (by simp [rALin]) ?_ | refine callD_of (k_plus t 1) rfl ?_ | refine call_of (k_plus t 1) rfl ?_
  rintro r rfl
  rw [optLin_eq]
  generalize hb2 : (plusL t 1).isSome = b2
  cases b1
  · simp [rULin]
  cases b2
  · simp [rULin]
  simp [rULin]
  rw [wrap64 (by omega)]
  first | refine callD_of (k_AddScaled ((combO x f.Mult).getD lin0) (-f.Scale) ((plusL t 1).getD lin0)) (by simp [rALin]) ?_ | refine call_of (k_AddScaled ((combO x f.Mult).getD lin0) (-f.Scale) ((plusL t 1).getD lin0)) (by simp [rALin]) ?_ | refine callD_of (k_AddScaled ((combO x f.Mult).getD lin0) (-f.Scale) ((plusL t 1).getD lin0)) rfl ?_ | refine call_of (k_AddScaled ((combO x f.Mult).getD lin0) (-f.Scale) ((plusL t 1).getD lin0)) rfl ?_
  rintro r rfl
  rw [show addScaled ((combO x f.Mult).getD lin0) (-f.Scale) ((plusL t 1).getD lin0) = lastF x t f from rfl, optLin_eq]
  generalize hb3 : (lastF x t f).isSome = b3
  cases b3
  · simp [rULin]
  simp [rULin]
  first | refine callD_of (k_IsConstant ((lastF x t f).getD lin0)) (by simp [rALin]) ?_ | refine call_of (k_IsConstant ((lastF x t f).getD lin0)) (by simp [rALin]) ?_ | refine callD_of (k_IsConstant ((lastF x t f).getD lin0)) rfl ?_ | refine call_of (k_IsConstant ((lastF x t f).getD lin0)) rfl ?_
  rintro r rfl
  cases h7 : isConst ((lastF x t f).getD lin0) <;> simp

set_option maxRecDepth 20000 in
set_option maxHeartbeats 2000000 in
theorem ks_CheckFarkas (x : DSystem) (t : DLin) (f : DFarkas) : Holds Try.prog 110 [.agg (rASystem x), .agg (rALin t), .agg (rAFarkas f)] (fun r => r = .bool (checkF x t f)) := by
  refine holds_of_run Try.func110 a110_ok rfl (by simp [a110]) ?_
  simp [a110, rASystem, rALin, rAFarkas]
  first | refine callD_of (ks_CombineRows x f.Mult) (by simp [rASystem]) ?_ | refine call_of (ks_CombineRows x f.Mult) (by simp [rASystem]) ?_ | refine callD_of (ks_CombineRows x f.Mult) rfl ?_ | refine call_of (ks_CombineRows x f.Mult) rfl ?_
  rintro r rfl
  rw [optLin_eq]
  unfold checkF
  generalize hb1 : (combO x f.Mult).isSome = b1
  cases b1
  · simp [rULin]
  simp [rULin]
  first | refine callD_of (ks_IsValidLin t x.N) (by simp [rALin]) ?_ | refine call_of (ks_IsValidLin t x.N) (by simp [rALin]) ?_ | refine callD_of (ks_IsValidLin t x.N) rfl ?_ | refine call_of (ks_IsValidLin t x.N) rfl ?_
  rintro r rfl
  cases h2 : okLin t x.N
  · simp
  simp
  first | refine callD_of (k_l1In f.Scale 0 1000000000) (by simp) ?_ | refine call_of (k_l1In f.Scale 0 1000000000) (by simp) ?_ | refine callD_of (k_l1In f.Scale 0 1000000000) rfl ?_ | refine call_of (k_l1In f.Scale 0 1000000000) rfl ?_
  rintro r rfl
  cases h3 : inR f.Scale 0 1000000000
  · simp
  have hs : 0 ≤ f.Scale ∧ f.Scale ≤ 1000000000 := by simpa [inR] using h3
  simp
  refine ⟨?_, ?_⟩
  all_goals
    first | refine callD_of (ks_ConstLin 1 x.N) (by simp) ?_ | refine call_of (ks_ConstLin 1 x.N) (by simp) ?_ | refine callD_of (ks_ConstLin 1 x.N) rfl ?_ | refine call_of (ks_ConstLin 1 x.N) rfl ?_
    rintro r rfl
    simp [rULin]
  refine And.intro ?_ ?_
  all_goals
    first | refine callD_of (ks_AddScaled t 1 (constLin 1 x.N)) (by simp [rALin]) ?_ | refine call_of (ks_AddScaled t 1 (constLin 1 x.N)) (by simp [rALin]) ?_ | refine callD_of (ks_AddScaled t 1 (constLin 1 x.N)) rfl ?_ | refine call_of (ks_AddScaled t 1 (constLin 1 x.N)) rfl ?_
    rintro r rfl
    rw [plus_add h2, optLin_eq]
    generalize hb2 : (plusL t 1).isSome = b2
    simp [rULin]
    rw [wrap64 (by omega)]
    first | refine callD_of (ks_AddScaled ((combO x f.Mult).getD lin0) (-f.Scale) ((plusL t 1).getD lin0)) (by simp [rALin]) ?_ | refine call_of (ks_AddScaled ((combO x f.Mult).getD lin0) (-f.Scale) ((plusL t 1).getD lin0)) (by simp [rALin]) ?_ | refine callD_of (ks_AddScaled ((combO x f.Mult).getD lin0) (-f.Scale) ((plusL t 1).getD lin0)) rfl ?_ | refine call_of (ks_AddScaled ((combO x f.Mult).getD lin0) (-f.Scale) ((plusL t 1).getD lin0)) rfl ?_
    rintro r rfl
    rw [show addScaled ((combO x f.Mult).getD lin0) (-f.Scale) ((plusL t 1).getD lin0) = lastF x t f from rfl, optLin_eq]
    generalize hb3 : (lastF x t f).isSome = b3
    cases b2
    · simp [rULin]
    cases b3
    · simp [rULin]
    simp [rULin]
    first | refine callD_of (ks_IsConstant ((lastF x t f).getD lin0)) (by simp [rALin]) ?_ | refine call_of (ks_IsConstant ((lastF x t f).getD lin0)) (by simp [rALin]) ?_ | refine callD_of (ks_IsConstant ((lastF x t f).getD lin0)) rfl ?_ | refine call_of (ks_IsConstant ((lastF x t f).getD lin0)) rfl ?_
    rintro r rfl
    cases h7 : isConst ((lastF x t f).getD lin0) <;> simp
end Go.Proofs.Ytlbdgpkgmheikaa
