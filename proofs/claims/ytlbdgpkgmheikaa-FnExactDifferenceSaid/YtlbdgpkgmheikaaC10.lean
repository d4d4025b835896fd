/- Contracts: differences. -/
import Derived.Test.YtlbdgpkgmheikaaC9
namespace Go.Proofs.Ytlbdgpkgmheikaa
set_option linter.all false
open Go Go.RowKit Go.Proofs
def a44 : AFn :=
⟨62, [(.c 10 true 2), (.t 11)], (.seq 
 (.reg [⟨some 5, (.boxv (.t 0)), no⟩, ⟨some 6, (.boxv (.t 1)), no⟩, ⟨some 8, (.boxv (.t 3)), no⟩, ⟨some 10, (.box [(.int .i64 0), (.nil 1)]), no⟩, ⟨some 11, (.mv (.k (.bool false))), no⟩]) (.seq 
 (.reg [⟨some 19, (.ld true 2 (.t 6)), no⟩, ⟨some 20, (.fld 2 (.t 5)), no⟩, ⟨some 21, (.ld false 1 (.t 20)), no⟩, ⟨some 22, (.fld 0 (.t 5)), no⟩, ⟨some 23, (.fld 0 (.t 22)), no⟩, ⟨some 24, (.ld false 1 (.t 23)), no⟩, ⟨some 25, (.call (.k (.fn (.func 103) [] [])) [(.t 19), (.t 21), (.t 24)]), no⟩, ⟨some 18, (.mv (.t 25)), no⟩, ⟨some 26, (.ext (.t 18) 0), no⟩, ⟨some 27, (.ext (.t 18) 1), no⟩, ⟨some 12, (.box [(.int .i64 0), (.nil 1)]), no⟩, ⟨no, (.st 2 (.t 12) (.t 26)), no⟩, ⟨some 13, (.mv (.t 27)), no⟩]) (.seq 
 (.reg [⟨some 29, (.ld true 6 (.t 5)), no⟩, ⟨some 30, (.ld true 2 (.t 8)), no⟩, ⟨some 31, (.mv (.t 2)), no⟩, ⟨some 32, (.call (.k (.fn (.func 32) [] [])) [(.t 29), (.t 30), (.t 31)]), no⟩, ⟨some 28, (.mv (.t 32)), no⟩, ⟨some 33, (.ext (.t 28) 0), no⟩, ⟨some 34, (.ext (.t 28) 1), no⟩, ⟨some 14, (.box [(.int .i64 0), (.nil 1)]), no⟩, ⟨no, (.st 2 (.t 14) (.t 33)), no⟩, ⟨some 15, (.mv (.t 34)), no⟩]) (.seq (.seq 
 (.reg [⟨some 35, (.mv (.t 13)), no⟩, ⟨some 36, (.un .not (.t 35)), no⟩, ⟨some 37, (.mv (.t 36)), no⟩, ⟨some 38, (.mv (.t 15)), (some (37, false))⟩, ⟨some 39, (.un .not (.t 38)), (some (37, false))⟩, ⟨some 40, (.pick (.t 37) (.k (.bool true)) (.t 39)), no⟩, ⟨some 41, (.mv (.t 40)), no⟩, ⟨some 42, (.mv (.t 4)), (some (41, false))⟩, ⟨some 43, (.call (.k (.fn (.func 116) [] [])) [(.t 42)]), (some (41, false))⟩, ⟨some 44, (.un .not (.t 43)), (some (41, false))⟩, ⟨some 45, (.pick (.t 41) (.k (.bool true)) (.t 44)), no⟩]) (.cond (.t 45) (.seq 
 (.reg [⟨some 46, (.build [(.int .i64 0), (.nil 1)] []), no⟩, ⟨no, (.st 2 (.t 10) (.t 46)), no⟩, ⟨some 11, (.mv (.k (.bool false))), no⟩]) .ret) .skip)) (.seq 
 (.reg [⟨some 48, (.ld true 2 (.t 12)), no⟩, ⟨some 49, (.ld true 2 (.t 14)), no⟩, ⟨some 50, (.call (.k (.fn (.func 82) [] [])) [(.t 48), (.k (.int .i64 (-1))), (.t 49)]), no⟩, ⟨some 47, (.mv (.t 50)), no⟩, ⟨some 51, (.ext (.t 47) 0), no⟩, ⟨some 52, (.ext (.t 47) 1), no⟩, ⟨some 16, (.box [(.int .i64 0), (.nil 1)]), no⟩, ⟨no, (.st 2 (.t 16) (.t 51)), no⟩, ⟨some 17, (.mv (.t 52)), no⟩]) (.seq (.seq 
 (.reg [⟨some 53, (.mv (.t 17)), no⟩, ⟨some 54, (.un .not (.t 53)), no⟩]) (.cond (.t 54) (.seq 
 (.reg [⟨some 55, (.build [(.int .i64 0), (.nil 1)] []), no⟩, ⟨no, (.st 2 (.t 10) (.t 55)), no⟩, ⟨some 11, (.mv (.k (.bool false))), no⟩]) .ret) .skip)) (.seq 
 (.reg [⟨some 56, (.ld true 2 (.t 16)), no⟩, ⟨some 57, (.mv (.t 4)), no⟩, ⟨some 58, (.un .neg (.t 57)), no⟩, ⟨some 59, (.call (.k (.fn (.func 117) [] [])) [(.t 56), (.t 58)]), no⟩, ⟨some 60, (.ext (.t 59) 0), no⟩, ⟨some 61, (.ext (.t 59) 1), no⟩, ⟨no, (.st 2 (.t 10) (.t 60)), no⟩, ⟨some 11, (.mv (.t 61)), no⟩]) .ret)))))))⟩
theorem a44_ok : compFn Try.prog Try.f44 = some a44 := by kernel_rfl

def a43 : AFn :=
⟨68, [(.c 10 true 2), (.t 11)], (.seq 
 (.reg [⟨some 5, (.boxv (.t 0)), no⟩, ⟨some 6, (.boxv (.t 1)), no⟩, ⟨some 8, (.boxv (.t 3)), no⟩, ⟨some 10, (.box [(.int .i64 0), (.nil 1)]), no⟩, ⟨some 11, (.mv (.k (.bool false))), no⟩]) (.seq 
 (.reg [⟨some 21, (.ld true 6 (.t 5)), no⟩, ⟨some 22, (.ld true 2 (.t 6)), no⟩, ⟨some 23, (.fld 2 (.t 5)), no⟩, ⟨some 24, (.ld false 1 (.t 23)), no⟩, ⟨some 25, (.call (.k (.fn (.func 99) [] [])) [(.t 21), (.t 22), (.t 24)]), no⟩, ⟨some 20, (.mv (.t 25)), no⟩, ⟨some 26, (.ext (.t 20) 0), no⟩, ⟨some 27, (.ext (.t 20) 1), no⟩, ⟨some 12, (.box [(.int .i64 0), (.nil 1)]), no⟩, ⟨no, (.st 2 (.t 12) (.t 26)), no⟩, ⟨some 13, (.mv (.t 27)), no⟩]) (.seq 
 (.reg [⟨some 29, (.ld true 6 (.t 5)), no⟩, ⟨some 30, (.ld true 2 (.t 8)), no⟩, ⟨some 31, (.mv (.t 2)), no⟩, ⟨some 32, (.call (.k (.fn (.func 30) [] [])) [(.t 29), (.t 30), (.t 31)]), no⟩, ⟨some 28, (.mv (.t 32)), no⟩, ⟨some 33, (.ext (.t 28) 0), no⟩, ⟨some 34, (.ext (.t 28) 1), no⟩, ⟨some 14, (.box [(.int .i64 0), (.nil 1)]), no⟩, ⟨no, (.st 2 (.t 14) (.t 33)), no⟩, ⟨some 15, (.mv (.t 34)), no⟩]) (.seq 
 (.reg [⟨some 36, (.ld true 2 (.t 12)), no⟩, ⟨some 37, (.ld true 2 (.t 14)), no⟩, ⟨some 38, (.call (.k (.fn (.func 76) [] [])) [(.t 36), (.k (.int .i64 (-1))), (.t 37)]), no⟩, ⟨some 35, (.mv (.t 38)), no⟩, ⟨some 39, (.ext (.t 35) 0), no⟩, ⟨some 40, (.ext (.t 35) 1), no⟩, ⟨some 16, (.box [(.int .i64 0), (.nil 1)]), no⟩, ⟨no, (.st 2 (.t 16) (.t 39)), no⟩, ⟨some 17, (.mv (.t 40)), no⟩]) (.seq (.draw (.op ⟨some 42, (.ld true 2 (.t 16)), no⟩ (.op ⟨some 43, (.mv (.t 4)), no⟩ (.op ⟨some 44, (.fld 1 (.t 16)), no⟩ (.op ⟨some 45, (.ld false 1 (.t 44)), no⟩ (.op ⟨some 46, (.len false (.t 45)), no⟩ (.both (.op ⟨some 47, (.mks 8 [(.int .i64 0)] (.t 46) (.t 46)), no⟩ (.op ⟨some 48, (.build [(.int .i64 0), (.nil 1)] [(0, (1, (.t 43))), (1, (1, (.t 47)))]), no⟩ (.both (.op ⟨some 49, (.call (.k (.fn (.func 76) [] [])) [(.t 42), (.k (.int .i64 (-1))), (.t 48)]), no⟩ (.op ⟨some 41, (.mv (.t 49)), no⟩ (.op ⟨some 50, (.ext (.t 41) 0), no⟩ (.op ⟨some 51, (.ext (.t 41) 1), no⟩ (.op ⟨some 18, (.box [(.int .i64 0), (.nil 1)]), no⟩ (.hop ⟨no, (.st 2 (.t 18) (.t 50)), no⟩ [] (.op ⟨some 19, (.mv (.t 51)), no⟩ .fin))))))) (.op ⟨some 18, (.box [(.int .i64 0), (.nil 1)]), no⟩ (.op ⟨some 49, (.call (.k (.fn (.func 76) [] [])) [(.t 42), (.k (.int .i64 (-1))), (.t 48)]), no⟩ (.op ⟨some 41, (.mv (.t 49)), no⟩ (.op ⟨some 50, (.ext (.t 41) 0), no⟩ (.op ⟨some 51, (.ext (.t 41) 1), no⟩ (.hop ⟨no, (.st 2 (.t 18) (.t 50)), no⟩ [] (.op ⟨some 19, (.mv (.t 51)), no⟩ .fin)))))))))) (.op ⟨some 18, (.box [(.int .i64 0), (.nil 1)]), no⟩ (.op ⟨some 47, (.mks 8 [(.int .i64 0)] (.t 46) (.t 46)), no⟩ (.op ⟨some 48, (.build [(.int .i64 0), (.nil 1)] [(0, (1, (.t 43))), (1, (1, (.t 47)))]), no⟩ (.op ⟨some 49, (.call (.k (.fn (.func 76) [] [])) [(.t 42), (.k (.int .i64 (-1))), (.t 48)]), no⟩ (.op ⟨some 41, (.mv (.t 49)), no⟩ (.op ⟨some 50, (.ext (.t 41) 0), no⟩ (.op ⟨some 51, (.ext (.t 41) 1), no⟩ (.hop ⟨no, (.st 2 (.t 18) (.t 50)), no⟩ [] (.op ⟨some 19, (.mv (.t 51)), no⟩ .fin)))))))))))))))) (.seq (.seq 
 (.reg [⟨some 52, (.mv (.t 13)), no⟩, ⟨some 53, (.un .not (.t 52)), no⟩, ⟨some 54, (.mv (.t 53)), no⟩, ⟨some 55, (.mv (.t 15)), (some (54, false))⟩, ⟨some 56, (.un .not (.t 55)), (some (54, false))⟩, ⟨some 57, (.pick (.t 54) (.k (.bool true)) (.t 56)), no⟩, ⟨some 58, (.mv (.t 57)), no⟩, ⟨some 59, (.mv (.t 17)), (some (58, false))⟩, ⟨some 60, (.un .not (.t 59)), (some (58, false))⟩, ⟨some 61, (.pick (.t 58) (.k (.bool true)) (.t 60)), no⟩, ⟨some 62, (.mv (.t 61)), no⟩, ⟨some 63, (.mv (.t 19)), (some (62, false))⟩, ⟨some 64, (.un .not (.t 63)), (some (62, false))⟩, ⟨some 65, (.pick (.t 62) (.k (.bool true)) (.t 64)), no⟩]) (.cond (.t 65) (.seq 
 (.reg [⟨some 66, (.build [(.int .i64 0), (.nil 1)] []), no⟩, ⟨no, (.st 2 (.t 10) (.t 66)), no⟩, ⟨some 11, (.mv (.k (.bool false))), no⟩]) .ret) .skip)) (.seq 
 (.reg [⟨some 67, (.ld true 2 (.t 18)), no⟩, ⟨no, (.st 2 (.t 10) (.t 67)), no⟩, ⟨some 11, (.mv (.k (.bool true))), no⟩]) .ret)))))))⟩
theorem a43_ok : compFn Try.prog Try.f43 = some a43 := by kernel_rfl



@[simp] theorem drr_rep (m : Nat) : drr (List.replicate m [AV.int .i64 0]) = List.replicate m [AV.int .i64 0] := by rw [drr_eq]; simp [drl, dr]
theorem sub_add (z : DLin) (k : Int) : addScaled z (-1) ⟨k, List.replicate z.Coeffs.length 0⟩ = if okC k then plusL z (-k) else Option.none := by
  cases hz : okLin z z.Coeffs.length
  · unfold addScaled plusL; simp [hz]
  have hl := okLin_len hz
  cases hk : okC k
  · have hb : okLin ⟨k, List.replicate z.Coeffs.length 0⟩ z.Coeffs.length = false := by simp [okLin, hk]
    unfold addScaled; simp [hb]
  have hm1 : okC (-1) = true := by decide
  have hk' : okC (-k) = true := by rw [okC_iff] at hk ⊢; omega
  have hall : z.Coeffs.all okC = true := by
    unfold okLin at hz; simp only [Bool.and_eq_true] at hz; exact hz.2
  have hmul : mulL (-1) k = (-k, true) := by
    have h : (-1 : Int) * k = -k := by omega
    unfold mulL; rw [h, hm1, hk, hk']; rfl
  have h1 : scaledO z.Const (-1) k = if (addL z.Const (-k)).2 then some (addL z.Const (-k)).1 else Option.none := by
    unfold scaledO; rw [hmul]; simp
  have hb : okLin ⟨k, List.replicate z.Coeffs.length 0⟩ z.Coeffs.length = true := by
    simp [okLin, inR, hk]
    exact ⟨by omega, .inr (by decide)⟩
  have h0 : okC 0 = true := by decide
  have hzero : ∀ c, okC c = true → scaledO c (-1) 0 = some c := fun c hc => by
    have hmul0 : mulL (-1) 0 = (0, true) := by decide
    unfold scaledO; rw [hmul0]; simp [addL, hc, h0]
  have hZ : combZ z (-1) ⟨k, List.replicate z.Coeffs.length 0⟩ = z.Coeffs.map some := by
    unfold combZ
    refine List.ext_getElem (by simp) fun i h1 h2 => ?_
    simp
    exact hzero _ (List.all_eq_true.1 hall _ (List.getElem_mem _))
  have hO : combOk z (-1) ⟨k, List.replicate z.Coeffs.length 0⟩ = true := by unfold combOk; rw [hZ]; simp
  unfold addScaled plusL
  rw [hz, hb, hO, hZ, hm1]
  simp only [h1]
  cases (addL z.Const (-k)).2 <;> simp [Function.comp_def]

set_option maxRecDepth 20000 in
set_option maxHeartbeats 1000000 in
theorem k_Difference (m : DModel) (a : DLin) (call : Int) (b : DLin) (k : Int) : Holds Try.prog 44 [.agg (rAModel m), .agg (rALin a), i64 call, .agg (rALin b), i64 k] (fun r => r = optLin (diffL m a call b k)) := by
  refine holds_of_run Try.func44 a44_ok rfl (by simp [a44]) ?_
  simp [a44, rALin, rAModel]
  unfold diffL
  first | refine callD_of (k_instantiated a m.Params m.System.N) (by simp [rALin]) ?_ | refine call_of (k_instantiated a m.Params m.System.N) (by simp [rALin]) ?_ | refine callD_of (k_instantiated a m.Params m.System.N) rfl ?_ | refine call_of (k_instantiated a m.Params m.System.N) rfl ?_
  rintro r rfl
  rw [optLin_eq (placeLin a m.Params m.System.N)]
  generalize hb1 : (placeLin a m.Params m.System.N).isSome = b1
  simp [rULin]
  first | refine callD_of (k_Transport m b call) (by simp [rALin, rAModel]) ?_ | refine call_of (k_Transport m b call) (by simp [rALin, rAModel]) ?_ | refine callD_of (k_Transport m b call) rfl ?_ | refine call_of (k_Transport m b call) rfl ?_
  rintro r rfl
  rw [optLin_eq (transp m b call)]
  generalize hb2 : (transp m b call).isSome = b2
  simp [rULin]
  cases b1
  · simp [optLin, lin0, rULin, intsR]
  cases b2
  · simp [optLin, lin0, rULin, intsR]
  simp
  first | refine callD_of (k_coeffOk k) (by simp) ?_ | refine call_of (k_coeffOk k) (by simp) ?_ | refine callD_of (k_coeffOk k) rfl ?_ | refine call_of (k_coeffOk k) rfl ?_
  rintro r rfl
  cases h3 : okC k
  · simp [optLin, lin0, rULin, intsR]
  simp
  first | refine callD_of (k_AddScaled ((placeLin a m.Params m.System.N).getD lin0) (-1) ((transp m b call).getD lin0)) (by simp [rALin]) ?_ | refine call_of (k_AddScaled ((placeLin a m.Params m.System.N).getD lin0) (-1) ((transp m b call).getD lin0)) (by simp [rALin]) ?_ | refine callD_of (k_AddScaled ((placeLin a m.Params m.System.N).getD lin0) (-1) ((transp m b call).getD lin0)) rfl ?_ | refine call_of (k_AddScaled ((placeLin a m.Params m.System.N).getD lin0) (-1) ((transp m b call).getD lin0)) rfl ?_
  rintro r rfl
  rw [optLin_eq (addScaled ((placeLin a m.Params m.System.N).getD lin0) (-1) ((transp m b call).getD lin0))]
  generalize hb4 : (addScaled ((placeLin a m.Params m.System.N).getD lin0) (-1) ((transp m b call).getD lin0)).isSome = b4
  simp [rULin]
  cases b4
  · simp [optLin, lin0, rULin, intsR]
  rw [okC_iff] at h3
  simp
  rw [wrap64 (by omega)]
  first | refine callD_of (k_plus ((addScaled ((placeLin a m.Params m.System.N).getD lin0) (-1) ((transp m b call).getD lin0)).getD lin0) (-k)) (by simp [rALin]) ?_ | refine call_of (k_plus ((addScaled ((placeLin a m.Params m.System.N).getD lin0) (-1) ((transp m b call).getD lin0)).getD lin0) (-k)) (by simp [rALin]) ?_ | refine callD_of (k_plus ((addScaled ((placeLin a m.Params m.System.N).getD lin0) (-1) ((transp m b call).getD lin0)).getD lin0) (-k)) rfl ?_ | refine call_of (k_plus ((addScaled ((placeLin a m.Params m.System.N).getD lin0) (-1) ((transp m b call).getD lin0)).getD lin0) (-k)) rfl ?_
  rintro r rfl
  simp [optLin_eq, rULin]

/-- What the reference computes at last. -/
def diffV (m : DModel) (a : DLin) (call : Int) (b : DLin) (k : Int) : Option DLin :=
  addScaled ((addScaled ((placeLin a m.Params m.System.N).getD lin0) (-1) ((transp m b call).getD lin0)).getD lin0) (-1)
    ⟨k, List.replicate ((addScaled ((placeLin a m.Params m.System.N).getD lin0) (-1) ((transp m b call).getD lin0)).getD lin0).Coeffs.length 0⟩
theorem diff_eq (m : DModel) (a : DLin) (call : Int) (b : DLin) (k : Int) : diffL m a call b k =
    if (placeLin a m.Params m.System.N).isSome && (transp m b call).isSome && (addScaled ((placeLin a m.Params m.System.N).getD lin0) (-1) ((transp m b call).getD lin0)).isSome then diffV m a call b k else Option.none := by
  unfold diffL diffV
  rw [sub_add]
  cases (placeLin a m.Params m.System.N).isSome <;> cases (transp m b call).isSome <;> cases okC k <;> cases (addScaled ((placeLin a m.Params m.System.N).getD lin0) (-1) ((transp m b call).getD lin0)).isSome <;> simp

theorem sumlen (o : Option DLin) (h : ∀ r, o = some r → r.Coeffs.length ≤ 8) : (o.getD lin0).Coeffs.length ≤ 8 := by
  cases o with
  | none => simp [lin0]
  | some r => exact h r rfl
theorem addScaled_len8 (a b : DLin) (k : Int) : ((addScaled a k b).getD lin0).Coeffs.length ≤ 8 := by
  refine sumlen _ fun r hr => ?_
  rw [(addScaled_some hr).1]
  unfold addScaled at hr
  split at hr
  · rename_i hc
    simp only [Bool.and_eq_true] at hc
    have := okLin_len hc.1.1.1.1
    omega
  · cases hr

/-- What the reference does behind its four computations. -/
def dtail : AC := (.seq (.seq 
 (.reg [⟨some 52, (.mv (.t 13)), no⟩, ⟨some 53, (.un .not (.t 52)), no⟩, ⟨some 54, (.mv (.t 53)), no⟩, ⟨some 55, (.mv (.t 15)), (some (54, false))⟩, ⟨some 56, (.un .not (.t 55)), (some (54, false))⟩, ⟨some 57, (.pick (.t 54) (.k (.bool true)) (.t 56)), no⟩, ⟨some 58, (.mv (.t 57)), no⟩, ⟨some 59, (.mv (.t 17)), (some (58, false))⟩, ⟨some 60, (.un .not (.t 59)), (some (58, false))⟩, ⟨some 61, (.pick (.t 58) (.k (.bool true)) (.t 60)), no⟩, ⟨some 62, (.mv (.t 61)), no⟩, ⟨some 63, (.mv (.t 19)), (some (62, false))⟩, ⟨some 64, (.un .not (.t 63)), (some (62, false))⟩, ⟨some 65, (.pick (.t 62) (.k (.bool true)) (.t 64)), no⟩]) (.cond (.t 65) (.seq 
 (.reg [⟨some 66, (.build [(.int .i64 0), (.nil 1)] []), no⟩, ⟨no, (.st 2 (.t 10) (.t 66)), no⟩, ⟨some 11, (.mv (.k (.bool false))), no⟩]) .ret) .skip)) (.seq 
 (.reg [⟨some 67, (.ld true 2 (.t 18)), no⟩, ⟨no, (.st 2 (.t 10) (.t 67)), no⟩, ⟨some 11, (.mv (.k (.bool true))), no⟩]) .ret))
set_option maxRecDepth 20000 in
theorem diff_tail {b1 b2 b3 b5 : Bool} {G : DLin} {s : Env} {h : Heap} {n id bid : Nat} {Q : AV → Prop} (s10 : s 10 = .ptr 3 0 0) (s13 : s 13 = .bool b1) (s15 : s 15 = .bool b2) (s17 : s 17 = .bool b3) (s18 : s 18 = .ptr bid 0 0) (s19 : s 19 = .bool b5)
    (h3 : h 3 = some ⟨true, 2, [[.int .i64 0, .nil 1]]⟩) (hb : h bid = some ⟨true, 2, [[.int .i64 G.Const, .ref id 0 G.Coeffs.length]]⟩) (hi : h id = some ⟨false, 1, intsR G.Coeffs⟩) (n1 : ¬ bid = 3) (n2 : ¬ id = 3)
    (hQ : Q (if b1 && b2 && b3 && b5 then .tup [.agg (rULin G), .bool true] else .tup [.agg (rULin lin0), .bool false])) : kont Try.prog [Kt.seq dtail] .normal s h n (finH [(.c 10 true 2), (.t 11)] Q) := by
  unfold dtail
  have n1' : ¬ 3 = bid := fun e => n1 e.symm
  have n2' : ¬ 3 = id := fun e => n2 e.symm
  cases b1
  · simp [s10, s13, h3]; simpa [rULin, lin0, intsR] using hQ
  cases b2
  · simp [s10, s13, s15, h3]; simpa [rULin, lin0, intsR] using hQ
  cases b3
  · simp [s10, s13, s15, s17, h3]; simpa [rULin, lin0, intsR] using hQ
  cases b5
  · simp [s10, s13, s15, s17, s19, h3]; simpa [rULin, lin0, intsR] using hQ
  simp [s10, s13, s15, s17, s18, s19, h3, hb, hi, n1, n2, n1', n2']
  simpa [rULin] using hQ

set_option maxRecDepth 20000 in
set_option maxHeartbeats 1000000 in
theorem ks_Difference (m : DModel) (a : DLin) (call : Int) (b : DLin) (k : Int) : Holds Try.prog 43 [.agg (rAModel m), .agg (rALin a), i64 call, .agg (rALin b), i64 k] (fun r => r = optLin (diffL m a call b k)) := by
  refine holds_of_run Try.func43 a43_ok rfl (by simp [a43]) ?_
  simp [a43, rALin, rAModel]
  rw [diff_eq]
  first | refine callD_of (ks_l15Place m a m.Params) (by simp [rALin, rAModel]) ?_ | refine call_of (ks_l15Place m a m.Params) (by simp [rALin, rAModel]) ?_ | refine callD_of (ks_l15Place m a m.Params) rfl ?_ | refine call_of (ks_l15Place m a m.Params) rfl ?_
  rintro r rfl
  rw [optLin_eq (placeLin a m.Params m.System.N)]
  generalize hb1 : (placeLin a m.Params m.System.N).isSome = b1
  simp [rULin]
  first | refine callD_of (ks_Transport m b call) (by simp [rALin, rAModel]) ?_ | refine call_of (ks_Transport m b call) (by simp [rALin, rAModel]) ?_ | refine callD_of (ks_Transport m b call) rfl ?_ | refine call_of (ks_Transport m b call) rfl ?_
  rintro r rfl
  rw [optLin_eq (transp m b call)]
  generalize hb2 : (transp m b call).isSome = b2
  simp [rULin]
  first | refine callD_of (ks_AddScaled ((placeLin a m.Params m.System.N).getD lin0) (-1) ((transp m b call).getD lin0)) (by simp [rALin]) ?_ | refine call_of (ks_AddScaled ((placeLin a m.Params m.System.N).getD lin0) (-1) ((transp m b call).getD lin0)) (by simp [rALin]) ?_ | refine callD_of (ks_AddScaled ((placeLin a m.Params m.System.N).getD lin0) (-1) ((transp m b call).getD lin0)) rfl ?_ | refine call_of (ks_AddScaled ((placeLin a m.Params m.System.N).getD lin0) (-1) ((transp m b call).getD lin0)) rfl ?_
  rintro r rfl
  rw [optLin_eq (addScaled ((placeLin a m.Params m.System.N).getD lin0) (-1) ((transp m b call).getD lin0))]
  have hlen := addScaled_len8 ((placeLin a m.Params m.System.N).getD lin0) ((transp m b call).getD lin0) (-1)
  unfold diffV
  generalize hb3 : (addScaled ((placeLin a m.Params m.System.N).getD lin0) (-1) ((transp m b call).getD lin0)).isSome = b3
  generalize hZ : (addScaled ((placeLin a m.Params m.System.N).getD lin0) (-1) ((transp m b call).getD lin0)).getD lin0 = Z at *
  simp [rULin]
  have hL : (Z.Coeffs.length : Int) * 8 ≤ (LIM : Int) := by unfold LIM; omega
  refine ⟨⟨hL, ?_, ?_⟩, hL, ?_⟩
  · skip
    first | refine callD_of (ks_AddScaled Z (-1) ⟨k, List.replicate Z.Coeffs.length 0⟩) (by simp [rALin]) ?_ | refine call_of (ks_AddScaled Z (-1) ⟨k, List.replicate Z.Coeffs.length 0⟩) (by simp [rALin]) ?_ | refine callD_of (ks_AddScaled Z (-1) ⟨k, List.replicate Z.Coeffs.length 0⟩) rfl ?_ | refine call_of (ks_AddScaled Z (-1) ⟨k, List.replicate Z.Coeffs.length 0⟩) rfl ?_
    rintro r rfl
    generalize hV : addScaled Z (-1) ⟨k, List.replicate Z.Coeffs.length 0⟩ = V
    rw [optLin_eq V]
    generalize hb5 : V.isSome = b5
    generalize hG : V.getD lin0 = G
    generalize hKS : (List.cons (Kt.seq _) _ : List Kt) = KS
    simp [rULin]
    subst hKS
    refine diff_tail (b1 := b1) (b2 := b2) (b3 := b3) (b5 := b5) (G := G) (bid := 12) (id := 11) (by simp) (by simp) (by simp) (by simp) (by simp) (by simp) (by simp) (by simp) (by simp) (by decide) (by decide) ?_
    subst hG hb5
    cases V <;> cases b1 <;> cases b2 <;> cases b3 <;> simp [optLin]
  · skip
    first | refine callD_of (ks_AddScaled Z (-1) ⟨k, List.replicate Z.Coeffs.length 0⟩) (by simp [rALin]) ?_ | refine call_of (ks_AddScaled Z (-1) ⟨k, List.replicate Z.Coeffs.length 0⟩) (by simp [rALin]) ?_ | refine callD_of (ks_AddScaled Z (-1) ⟨k, List.replicate Z.Coeffs.length 0⟩) rfl ?_ | refine call_of (ks_AddScaled Z (-1) ⟨k, List.replicate Z.Coeffs.length 0⟩) rfl ?_
    rintro r rfl
    generalize hV : addScaled Z (-1) ⟨k, List.replicate Z.Coeffs.length 0⟩ = V
    rw [optLin_eq V]
    generalize hb5 : V.isSome = b5
    generalize hG : V.getD lin0 = G
    generalize hKS : (List.cons (Kt.seq _) _ : List Kt) = KS
    simp [rULin]
    subst hKS
    refine diff_tail (b1 := b1) (b2 := b2) (b3 := b3) (b5 := b5) (G := G) (bid := 11) (id := 12) (by simp) (by simp) (by simp) (by simp) (by simp) (by simp) (by simp) (by simp) (by simp) (by decide) (by decide) ?_
    subst hG hb5
    cases V <;> cases b1 <;> cases b2 <;> cases b3 <;> simp [optLin]
  · skip
    first | refine callD_of (ks_AddScaled Z (-1) ⟨k, List.replicate Z.Coeffs.length 0⟩) (by simp [rALin]) ?_ | refine call_of (ks_AddScaled Z (-1) ⟨k, List.replicate Z.Coeffs.length 0⟩) (by simp [rALin]) ?_ | refine callD_of (ks_AddScaled Z (-1) ⟨k, List.replicate Z.Coeffs.length 0⟩) rfl ?_ | refine call_of (ks_AddScaled Z (-1) ⟨k, List.replicate Z.Coeffs.length 0⟩) rfl ?_
    rintro r rfl
    generalize hV : addScaled Z (-1) ⟨k, List.replicate Z.Coeffs.length 0⟩ = V
    rw [optLin_eq V]
    generalize hb5 : V.isSome = b5
    generalize hG : V.getD lin0 = G
    generalize hKS : (List.cons (Kt.seq _) _ : List Kt) = KS
    simp [rULin]
    subst hKS
    refine diff_tail (b1 := b1) (b2 := b2) (b3 := b3) (b5 := b5) (G := G) (bid := 10) (id := 12) (by simp) (by simp) (by simp) (by simp) (by simp) (by simp) (by simp) (by simp) (by simp) (by decide) (by decide) ?_
    subst hG hb5
    cases V <;> cases b1 <;> cases b2 <;> cases b3 <;> simp [optLin]
theorem plusL_c (l : DLin) (k : Int) : cLin ((plusL l k).getD lin0) ≤ 8 := by
  unfold cLin; rw [cIntS_len]
  refine sumlen _ fun r hr => ?_
  unfold plusL at hr
  split at hr
  · rename_i hc
    simp only [Bool.and_eq_true] at hc
    have := okLin_len hc.2
    cases hr
    simp only; omega
  · cases hr
theorem diffL_c (m : DModel) (a : DLin) (call : Int) (b : DLin) (k : Int) : cLin ((diffL m a call b k).getD lin0) ≤ 8 := by
  unfold diffL
  split
  · split
    · exact plusL_c _ _
    · unfold cLin; rw [cIntS_len]; simp [lin0]
  · unfold cLin; rw [cIntS_len]; simp [lin0]
end Go.Proofs.Ytlbdgpkgmheikaa
