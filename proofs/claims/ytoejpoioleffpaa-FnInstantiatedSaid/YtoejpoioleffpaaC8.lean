/- Contracts: an expression at the values of its arguments. -/
import Derived.Test.YtoejpoioleffpaaC3
import Derived.Test.YtoejpoioleffpaaM1
namespace Go.Proofs.Ytoejpoioleffpaa
set_option linter.all false
open Go Go.RowKit Go.Proofs
theorem a26_ok : compFn Try.prog Try.f26 = some (tContainsFunc 58) := by kernel_rfl
theorem a58_ok : compFn Try.prog Try.f58 = some (tIndexFunc true 2) := by kernel_rfl
def a27 : AFn :=
⟨8, [(.t 3)], (.seq 
 (.reg [⟨some 2, (.boxv (.t 0)), no⟩, ⟨some 3, (.mv (.k (.bool false))), no⟩]) (.seq 
 (.reg [⟨some 4, (.ld true 2 (.t 2)), no⟩, ⟨some 5, (.ld false 1 (.t 1)), no⟩, ⟨some 6, (.call (.k (.fn (.func 25) [] [])) [(.t 4), (.t 5)]), no⟩, ⟨some 7, (.un .not (.t 6)), no⟩, ⟨some 3, (.mv (.t 7)), no⟩]) .ret))⟩
theorem a27_ok : compFn Try.prog Try.f27 = some a27 := by kernel_rfl

def a8 : AFn :=
⟨57, [(.c 4 true 2), (.t 5)], (.seq 
 (.reg [⟨some 2, (.boxv (.t 0)), no⟩, ⟨some 4, (.box [(.int .i64 0), (.nil 1)]), no⟩, ⟨some 5, (.mv (.k (.bool false))), no⟩]) (.seq 
 (.reg [⟨some 6, (.box [(.int .i64 0)]), no⟩, ⟨no, (.st 1 (.t 6) (.k (.int .i64 0))), no⟩]) (.seq (.seq 
 (.reg [⟨some 11, (.mv (.t 1)), no⟩, ⟨some 12, (.len false (.t 11)), no⟩, ⟨some 13, (.bin .gtr (.t 12) (.k (.int .i64 0))), no⟩]) (.cond (.t 13) 
 (.reg [⟨some 14, (.mv (.t 1)), no⟩, ⟨some 15, (.ixa 2 (.t 14) (.k (.int .i64 0))), no⟩, ⟨some 16, (.fld 1 (.t 15)), no⟩, ⟨some 17, (.ld false 1 (.t 16)), no⟩, ⟨some 18, (.len false (.t 17)), no⟩, ⟨no, (.st 1 (.t 6) (.t 18)), no⟩]) .skip)) (.seq (.seq 
 (.reg [⟨some 19, (.ld true 2 (.t 2)), no⟩, ⟨some 20, (.mv (.t 1)), no⟩, ⟨some 21, (.len false (.t 20)), no⟩, ⟨some 22, (.call (.k (.fn (.func 25) [] [])) [(.t 19), (.t 21)]), no⟩, ⟨some 23, (.un .not (.t 22)), no⟩, ⟨some 24, (.mv (.t 23)), no⟩, ⟨some 25, (.mv (.t 1)), (some (24, false))⟩, ⟨some 26, (.mkf (.func 27) [] [(.t 6)]), (some (24, false))⟩, ⟨some 27, (.call (.k (.fn (.func 26) [] [])) [(.t 25), (.t 26)]), (some (24, false))⟩, ⟨some 28, (.pick (.t 24) (.k (.bool true)) (.t 27)), no⟩]) (.cond (.t 28) (.seq 
 (.reg [⟨some 29, (.build [(.int .i64 0), (.nil 1)] []), no⟩, ⟨no, (.st 2 (.t 4) (.t 29)), no⟩, ⟨some 5, (.mv (.k (.bool false))), no⟩]) .ret) .skip)) (.seq 
 (.reg [⟨some 30, (.fld 0 (.t 2)), no⟩, ⟨some 31, (.ld false 1 (.t 30)), no⟩, ⟨some 32, (.ld false 1 (.t 6)), no⟩, ⟨some 33, (.call (.k (.fn (.func 28) [] [])) [(.t 31), (.t 32)]), no⟩, ⟨some 7, (.box [(.int .i64 0), (.nil 1)]), no⟩, ⟨no, (.st 2 (.t 7) (.t 33)), no⟩]) (.seq 
 (.reg [⟨some 8, (.mv (.k (.bool true))), no⟩]) (.seq (.seq 
 (.reg [⟨some 34, (.mv (.t 1)), no⟩, ⟨some 35, (.len false (.t 34)), no⟩, ⟨some 36, (.mv (.k (.int .i64 0))), no⟩]) (.blk 0 (.loop (.seq 
 (.reg [⟨some 37, (.bin .lss (.t 36) (.t 35)), no⟩]) (.seq (.cond (.t 37) .skip (.exit 0)) (.seq (.blk 1 (.seq 
 (.reg [⟨some 38, (.mv (.t 36)), no⟩, ⟨some 39, (.ixa 2 (.t 34) (.t 36)), no⟩, ⟨some 40, (.ld true 2 (.t 39)), no⟩, ⟨some 10, (.box [(.int .i64 0), (.nil 1)]), no⟩, ⟨some 9, (.mv (.t 38)), no⟩, ⟨no, (.st 2 (.t 10) (.t 40)), no⟩]) (.seq (.draw (.op ⟨some 42, (.ld true 2 (.t 7)), no⟩ (.op ⟨some 43, (.fld 1 (.t 2)), no⟩ (.op ⟨some 44, (.ld false 1 (.t 43)), no⟩ (.op ⟨some 45, (.mv (.t 9)), no⟩ (.op ⟨some 46, (.ixa 1 (.t 44) (.t 45)), no⟩ (.op ⟨some 47, (.ld false 1 (.t 46)), no⟩ (.op ⟨some 48, (.ld true 2 (.t 10)), no⟩ (.op ⟨some 49, (.call (.k (.fn (.func 29) [] [])) [(.t 42), (.t 47), (.t 48)]), no⟩ (.op ⟨some 41, (.mv (.t 49)), no⟩ (.op ⟨some 50, (.ext (.t 41) 0), no⟩ (.op ⟨some 51, (.ext (.t 41) 1), no⟩ (.hop ⟨no, (.st 2 (.t 7) (.t 50)), no⟩ [] (.op ⟨some 8, (.mv (.t 51)), no⟩ .fin)))))))))))))) (.seq 
 (.reg [⟨some 52, (.mv (.t 8)), no⟩, ⟨some 53, (.un .not (.t 52)), no⟩]) (.cond (.t 53) (.seq 
 (.reg [⟨some 54, (.build [(.int .i64 0), (.nil 1)] []), no⟩, ⟨no, (.st 2 (.t 4) (.t 54)), no⟩, ⟨some 5, (.mv (.k (.bool false))), no⟩]) .ret) .skip))))) 
 (.reg [⟨some 55, (.bin .add (.t 36) (.k (.int .i64 1))), no⟩, ⟨some 36, (.mv (.t 55)), no⟩]))))))) (.seq 
 (.reg [⟨some 56, (.ld true 2 (.t 7)), no⟩, ⟨no, (.st 2 (.t 4) (.t 56)), no⟩, ⟨some 5, (.mv (.k (.bool true))), no⟩]) .ret))))))))⟩
theorem a8_ok : compFn Try.prog Try.f8 = some a8 := by kernel_rfl

def a9 : AFn :=
⟨60, [(.c 4 true 2), (.t 5)], (.seq 
 (.reg [⟨some 2, (.boxv (.t 0)), no⟩, ⟨some 4, (.box [(.int .i64 0), (.nil 1)]), no⟩, ⟨some 5, (.mv (.k (.bool false))), no⟩]) (.seq 
 (.reg [⟨some 6, (.mv (.k (.int .i64 0))), no⟩]) (.seq (.seq 
 (.reg [⟨some 11, (.mv (.t 1)), no⟩, ⟨some 12, (.len false (.t 11)), no⟩, ⟨some 13, (.bin .gtr (.t 12) (.k (.int .i64 0))), no⟩]) (.cond (.t 13) 
 (.reg [⟨some 14, (.mv (.t 1)), no⟩, ⟨some 15, (.ixa 2 (.t 14) (.k (.int .i64 0))), no⟩, ⟨some 16, (.fld 1 (.t 15)), no⟩, ⟨some 17, (.ld false 1 (.t 16)), no⟩, ⟨some 18, (.len false (.t 17)), no⟩, ⟨some 6, (.mv (.t 18)), no⟩]) .skip)) (.seq 
 (.reg [⟨some 19, (.fld 0 (.t 2)), no⟩, ⟨some 20, (.ld false 1 (.t 19)), no⟩, ⟨some 21, (.mv (.t 6)), no⟩, ⟨some 22, (.call (.k (.fn (.func 30) [] [])) [(.t 20), (.t 21)]), no⟩, ⟨some 7, (.box [(.int .i64 0), (.nil 1)]), no⟩, ⟨no, (.st 2 (.t 7) (.t 22)), no⟩]) (.seq (.seq 
 (.reg [⟨some 23, (.ld true 2 (.t 2)), no⟩, ⟨some 24, (.mv (.t 1)), no⟩, ⟨some 25, (.len false (.t 24)), no⟩, ⟨some 26, (.call (.k (.fn (.func 31) [] [])) [(.t 23), (.t 25)]), no⟩, ⟨some 27, (.un .not (.t 26)), no⟩, ⟨some 28, (.mv (.t 27)), no⟩, ⟨some 29, (.ld true 2 (.t 7)), (some (28, false))⟩, ⟨some 30, (.mv (.t 6)), (some (28, false))⟩, ⟨some 31, (.call (.k (.fn (.func 31) [] [])) [(.t 29), (.t 30)]), (some (28, false))⟩, ⟨some 32, (.un .not (.t 31)), (some (28, false))⟩, ⟨some 33, (.pick (.t 28) (.k (.bool true)) (.t 32)), no⟩]) (.cond (.t 33) (.seq 
 (.reg [⟨some 34, (.build [(.int .i64 0), (.nil 1)] []), no⟩, ⟨no, (.st 2 (.t 4) (.t 34)), no⟩, ⟨some 5, (.mv (.k (.bool false))), no⟩]) .ret) .skip)) (.seq (.seq 
 (.reg [⟨some 8, (.mv (.k (.int .i64 0))), no⟩]) (.blk 0 (.loop (.seq (.seq 
 (.reg [⟨some 35, (.mv (.t 8)), no⟩, ⟨some 36, (.mv (.t 1)), no⟩, ⟨some 37, (.len false (.t 36)), no⟩, ⟨some 38, (.bin .lss (.t 35) (.t 37)), no⟩]) (.cond (.t 38) .skip (.exit 0))) (.seq (.blk 1 (.seq (.draw (.op ⟨some 42, (.ld true 2 (.t 7)), no⟩ (.op ⟨some 43, (.fld 1 (.t 2)), no⟩ (.op ⟨some 44, (.ld false 1 (.t 43)), no⟩ (.op ⟨some 45, (.mv (.t 8)), no⟩ (.op ⟨some 46, (.ixa 1 (.t 44) (.t 45)), no⟩ (.op ⟨some 47, (.ld false 1 (.t 46)), no⟩ (.op ⟨some 48, (.mv (.t 1)), no⟩ (.op ⟨some 49, (.mv (.t 8)), no⟩ (.op ⟨some 50, (.ixa 2 (.t 48) (.t 49)), no⟩ (.op ⟨some 51, (.ld true 2 (.t 50)), no⟩ (.both (.op ⟨some 52, (.call (.k (.fn (.func 32) [] [])) [(.t 42), (.t 47), (.t 51)]), no⟩ (.op ⟨some 41, (.mv (.t 52)), no⟩ (.op ⟨some 53, (.ext (.t 41) 0), no⟩ (.op ⟨some 54, (.ext (.t 41) 1), no⟩ (.op ⟨some 9, (.box [(.int .i64 0), (.nil 1)]), no⟩ (.hop ⟨no, (.st 2 (.t 9) (.t 53)), no⟩ [] (.op ⟨some 10, (.mv (.t 54)), no⟩ .fin))))))) (.op ⟨some 9, (.box [(.int .i64 0), (.nil 1)]), no⟩ (.op ⟨some 52, (.call (.k (.fn (.func 32) [] [])) [(.t 42), (.t 47), (.t 51)]), no⟩ (.op ⟨some 41, (.mv (.t 52)), no⟩ (.op ⟨some 53, (.ext (.t 41) 0), no⟩ (.op ⟨some 54, (.ext (.t 41) 1), no⟩ (.hop ⟨no, (.st 2 (.t 9) (.t 53)), no⟩ [] (.op ⟨some 10, (.mv (.t 54)), no⟩ .fin))))))))))))))))))) (.seq (.seq 
 (.reg [⟨some 55, (.mv (.t 10)), no⟩, ⟨some 56, (.un .not (.t 55)), no⟩]) (.cond (.t 56) (.seq 
 (.reg [⟨some 57, (.build [(.int .i64 0), (.nil 1)] []), no⟩, ⟨no, (.st 2 (.t 4) (.t 57)), no⟩, ⟨some 5, (.mv (.k (.bool false))), no⟩]) .ret) .skip)) 
 (.reg [⟨some 58, (.ld true 2 (.t 9)), no⟩, ⟨no, (.st 2 (.t 7) (.t 58)), no⟩])))) 
 (.reg [⟨some 39, (.mv (.t 8)), no⟩, ⟨some 40, (.bin .add (.t 39) (.k (.int .i64 1))), no⟩, ⟨some 8, (.mv (.t 40)), no⟩])))))) (.seq 
 (.reg [⟨some 59, (.ld true 2 (.t 7)), no⟩, ⟨no, (.st 2 (.t 4) (.t 59)), no⟩, ⟨some 5, (.mv (.k (.bool true))), no⟩]) .ret)))))))⟩
theorem a9_ok : compFn Try.prog Try.f9 = some a9 := by kernel_rfl



def goInst : List (Int × DLin) → DLin → Option DLin
  | [], o => some o
  | p :: l, o => match addScaled o p.1 p.2 with
    | some o' => goInst l o'
    | Option.none => Option.none
def argN (args : List DLin) : Nat := match args with | [] => 0 | a :: _ => a.Coeffs.length
def instLin (l : DLin) (args : List DLin) : Option DLin :=
  if okLin l args.length && okLin (constLin l.Const (argN args)) (argN args) then goInst (l.Coeffs.zip args) (constLin l.Const (argN args)) else Option.none

theorem addScaled_some {a b o : DLin} {k : Int} (h : addScaled a k b = some o) : o.Coeffs.length = a.Coeffs.length ∧ okLin b a.Coeffs.length = true := by
  unfold addScaled at h
  split at h
  · rename_i hc
    simp only [Bool.and_eq_true] at hc
    have h1 := okLin_len hc.1.1.1.1
    have h2 := okLin_len hc.1.1.1.2
    cases h
    refine ⟨?_, hc.1.1.1.2⟩
    simp [combZ]; omega
  · cases h
theorem goInst_bad {n : Nat} : ∀ (l : List (Int × DLin)) (o : DLin), o.Coeffs.length = n → (∃ p ∈ l, okLin p.2 n = false) → goInst l o = Option.none
  | [], o, _, h => by obtain ⟨p, hp, _⟩ := h; cases hp
  | q :: l, o, hn, h => by
    obtain ⟨p, hp, hb⟩ := h
    simp only [goInst]
    split
    · rename_i o' ho
      obtain ⟨h1, h2⟩ := addScaled_some ho
      rcases List.mem_cons.1 hp with rfl | hp
      · rw [hn, hb] at h2; cases h2
      · exact goInst_bad l o' (by omega) ⟨p, hp, hb⟩
    · rfl
theorem constLin_ok {c : Int} {n : Nat} (hc : okC c = true) (hn : (n : Int) ≤ 8) : constLin c n = ⟨c, List.replicate n 0⟩ ∧ okLin (constLin c n) n = true := by
  have h : constLin c n = ⟨c, List.replicate n 0⟩ := by
    unfold constLin
    rw [if_pos (by simp [inR, hc]; omega)]; simp
  refine ⟨h, ?_⟩
  rw [h]
  simp [okLin, inR, hc, hn]
  right; decide
theorem okLin_c {l : DLin} {n : Int} (h : okLin l n = true) : okC l.Const = true := by
  unfold okLin at h; simp only [Bool.and_eq_true] at h; exact h.1.2
/-- What the program asks first, all arguments' shape, is asked on the way anyhow. -/
theorem inst_impl {l : DLin} {args : List DLin} (h1 : okLin l args.length = true) : instLin l args = if args.all (fun a => okLin a (argN args)) then goInst (l.Coeffs.zip args) (constLin l.Const (argN args)) else Option.none := by
  unfold instLin
  rw [h1, Bool.true_and]
  have hl := okLin_len h1
  cases h2 : args.all (fun a => okLin a (argN args))
  · simp only [Bool.false_eq_true, if_false]
    split
    · rename_i h3
      have h3' := okLin_len h3
      rw [List.all_eq_false] at h2
      obtain ⟨a, ha, hb⟩ := h2
      obtain ⟨i, hi, rfl⟩ := List.mem_iff_getElem.1 ha
      refine goInst_bad (n := argN args) _ _ (by omega) ⟨(l.Coeffs[i]'(by omega), args[i]), List.mem_iff_getElem.2 ⟨i, by simp; omega, by simp⟩, by simpa using hb⟩
    · rfl
  · have hn : ((argN args : Nat) : Int) ≤ 8 := by
      cases args with
      | nil => simp [argN]
      | cons a rest =>
        simp only [List.all_cons, Bool.and_eq_true] at h2
        exact (okLin_len h2.1).2.2
    rw [if_pos (constLin_ok (okLin_c h1) hn).2, if_pos rfl]

theorem pure_Inst1 {h : Heap} {n id : Nat} {v : Int} (x : DLin) (hv : h id = some ⟨true, 1, [[i64 v]]⟩) (hid : id < n) : Pure1 Try.prog 27 [] [.ptr id 0 0] h n (.agg (rALin x)) (.bool (!okLin x v)) := by
  intro K hK
  refine acall_gc ?_
  refine acall_body Try.func27 a27_ok rfl (by simp [a27]) ?_
  have n1 : ¬ id = n := by omega
  simp [a27, hv, n1, rALin]
  first | refine callD_of (k_IsValidLin x v) (by simp [rALin]) ?_ | refine call_of (k_IsValidLin x v) (by simp [rALin]) ?_ | refine callD_of (k_IsValidLin x v) rfl ?_ | refine call_of (k_IsValidLin x v) rfl ?_
  rintro r rfl
  simp [scal, hK]
  intro j hj hj'
  omega

set_option maxRecDepth 20000 in
set_option maxHeartbeats 1000000 in
theorem k_InstantiateLin (l : DLin) (args : List DLin) : Holds Try.prog 8 [.agg (rALin l), .sl 2 (args.map rALin)] (fun r => r = optLin (instLin l args)) := by
  refine holds_of_lim Try.func8 rfl rfl fun hlm => ?_
  simp [rALin] at hlm
  have hN : (args.length = 0 ∧ argN args = 0) ∨ ∃ hz : 0 < args.length, argN args = (args[0]'hz).Coeffs.length := by
    cases args with
    | nil => exact .inl ⟨rfl, rfl⟩
    | cons a rest => exact .inr ⟨by simp, rfl⟩
  rcases hN with ⟨hz, hN⟩ | ⟨hz, hN⟩
  · refine holds_of_run Try.func8 a8_ok rfl (by simp [a8]) ?_
    simp [a8, rALin]
    simp [hz]
    intro hnil
    subst hnil
    first | refine callD_of (k_IsValidLin l 0) (by simp [rALin]) ?_ | refine call_of (k_IsValidLin l 0) (by simp [rALin]) ?_ | refine callD_of (k_IsValidLin l 0) rfl ?_ | refine call_of (k_IsValidLin l 0) rfl ?_
    rintro r rfl
    cases h1 : okLin l 0
    · have e : instLin l [] = Option.none := by simp [instLin, h1]
      simp [e, optLin, lin0, rULin, intsR]
    have e : instLin l [] = some (constLin l.Const 0) := by rw [inst_impl h1]; simp [argN, goInst]
    rw [e]
    simp
    refine acall_tContainsFunc (p := fun x => !okLin x 0) (rowOf := rALin) (eltOf := fun x => .agg (rALin x)) Try.func26 a26_ok rfl Try.func58 a58_ok rfl (fun x => by simp) [] (fun x hx => by cases hx) ?_
    simp
    first | refine callD_of (k_ConstLin l.Const 0) (by simp) ?_ | refine call_of (k_ConstLin l.Const 0) (by simp) ?_ | refine callD_of (k_ConstLin l.Const 0) rfl ?_ | refine call_of (k_ConstLin l.Const 0) rfl ?_
    rintro r rfl
    simp [rULin]
    refine rL_forS [4, 5, 7, 35] 36 0 (fun i s => True) (by decide) (by simp) trivial ?_ ?_
    · intro i s h R hi; omega
    · rintro s h R hk s36 _ hh _ hX
      simp at hk hh
      simp [hk, s36, hh]
      refine hX _ _ ?_
      simp [hk, hh, optLin, rULin]
  · refine holds_of_run Try.func8 a8_ok rfl (by simp [a8]) ?_
    simp [a8, rALin]
    have hne : ¬ args = [] := by rintro rfl; simp at hz
    simp [hz, hne, rALin]
    intro _ _ _
    first | refine callD_of (k_IsValidLin l args.length) (by simp [rALin]) ?_ | refine call_of (k_IsValidLin l args.length) (by simp [rALin]) ?_ | refine callD_of (k_IsValidLin l args.length) rfl ?_ | refine call_of (k_IsValidLin l args.length) rfl ?_
    rintro r rfl
    cases h1 : okLin l args.length
    · have e : instLin l args = Option.none := by simp [instLin, h1]
      simp [e, optLin, lin0, rULin, intsR]
    rw [inst_impl h1, hN]
    generalize hc3 : (args.all fun x => okLin x (args[0].Coeffs.length : Int)) = b3
    have hla := okLin_len h1
    simp
    refine acall_tContainsFunc (p := fun x => !okLin x (args[0].Coeffs.length : Int)) (rowOf := rALin) (eltOf := fun x => .agg (rALin x)) Try.func26 a26_ok rfl Try.func58 a58_ok rfl (fun x => by simp) args (fun x _ => pure_Inst1 x (by simp [i64]) (by omega)) ?_
    rw [any_not (fun x : DLin => okLin x (args[0].Coeffs.length : Int)), hc3]
    cases b3
    · simp [optLin, lin0, rULin, intsR]
    simp
    first | refine callD_of (k_ConstLin l.Const (args[0].Coeffs.length : Int)) (by simp) ?_ | refine call_of (k_ConstLin l.Const (args[0].Coeffs.length : Int)) (by simp) ?_ | refine callD_of (k_ConstLin l.Const (args[0].Coeffs.length : Int)) rfl ?_ | refine call_of (k_ConstLin l.Const (args[0].Coeffs.length : Int)) rfl ?_
    rintro r rfl
    simp [rULin]
    intro _
    have hzl : (l.Coeffs.zip args).length = args.length := by simp; omega
    generalize hG : goInst (l.Coeffs.zip args) (constLin l.Const (args[0].Coeffs.length : Int)) = G
    refine rL_forO [1, 2, 4, 7, 34, 35] 36 args.length (fun i s h n => h 0 = some ⟨true, 2, [[.int .i64 l.Const, .sl 1 (intsR l.Coeffs)]]⟩ ∧ h 1 = some ⟨true, 2, [[.int .i64 0, .nil 1]]⟩ ∧ 4 < n ∧
        ∃ (o : DLin) (id : Nat), h 4 = some ⟨true, 2, [[.int .i64 o.Const, .ref id 0 o.Coeffs.length]]⟩ ∧ h id = some ⟨false, 1, intsR o.Coeffs⟩ ∧ id < n ∧ (id = 3 ∨ 4 < id) ∧ goInst ((l.Coeffs.zip args).drop i) o = G)
      hlm.2 (by simp) ⟨by simp, by simp, by simp, constLin l.Const (args[0].Coeffs.length : Int), 3, by simp, by simp, by omega, by omega, by simpa using hG⟩ ?_ ?_
    · rintro i s h n R hi hg hk s36 hw ⟨e0, e1, hn, o, id, e4, eid, hidn, hid, hJ⟩ hR hret _
      simp at hk
      have hir : i < l.Coeffs.length := by omega
      rw [List.drop_eq_getElem_cons (by omega : i < (l.Coeffs.zip args).length)] at hJ
      simp only [goInst, List.getElem_zip] at hJ
      have n0 : ¬ 0 = n := by omega
      have n1 : ¬ 1 = n := by omega
      have n4 : ¬ 4 = n := by omega
      have n4' : ¬ n = 4 := by omega
      have nid : ¬ id = n := by omega
      simp [hk, s36, hi, hg, hw, hir, e0, e1, e4, eid, n0, n1, n4, n4', nid]
      refine ⟨by simp [rALin], ?_⟩
      have m0 : ¬ 0 = n + 1 := by omega
      have m1 : ¬ 1 = n + 1 := by omega
      have m4 : ¬ 4 = n + 1 := by omega
      have m4' : ¬ n + 1 = 4 := by omega
      have m3' : ¬ n = 3 := by omega
      have z0 : ¬ n = 0 := by omega
      first | refine callD_of (k_AddScaled o (l.Coeffs[i]'hir) (args[i]'hi)) (by simp [rALin, eid, nid]) ?_ | refine call_of (k_AddScaled o (l.Coeffs[i]'hir) (args[i]'hi)) (by simp [rALin, eid, nid]) ?_ | refine callD_of (k_AddScaled o (l.Coeffs[i]'hir) (args[i]'hi)) rfl ?_ | refine call_of (k_AddScaled o (l.Coeffs[i]'hir) (args[i]'hi)) rfl ?_
      rintro r rfl
      cases ho : addScaled o l.Coeffs[i] args[i]
      · rw [ho] at hJ
        simp [optLin, lin0, rULin, hk, e0, e1, e4, n0, n1, n4, n4', m0, m1, m4, m4', m3', z0]
        refine hret _ _ _ ?_
        simp [hk, ← hJ, optLin, lin0, rULin, intsR, m1, n1, z0]
      · rename_i o'
        rw [ho] at hJ
        simp only at hJ
        simp [optLin, rULin, hk, s36, hw, e0, e1, e4, n0, n1, n4, n4', m0, m1, m4, m4', m3', z0]
        exact hR _ _ _ (by simp [hk]) (by simp) ⟨by simp [e0, n0, m0], by simp [e1, n1, m1, z0], by omega, o', n + 1, by simp, by simp [m3'], by omega, by omega, hJ⟩
    · rintro s h n R hk s36 ⟨e0, e1, hn, o, id, e4, eid, hidn, hid, hJ⟩ hret hX
      simp at hk
      rw [List.drop_eq_nil_of_le (by omega)] at hJ
      simp only [goInst] at hJ
      simp [hk, s36]
      refine hX _ _ _ _ ?_
      have i1 : ¬ 1 = id := by omega
      have i1' : ¬ id = 1 := by omega
      simp [hk, e1, e4, eid, ← hJ, optLin, rULin, i1, i1']

set_option maxRecDepth 20000 in
set_option maxHeartbeats 1000000 in
theorem ks_InstantiateLin (l : DLin) (args : List DLin) : Holds Try.prog 9 [.agg (rALin l), .sl 2 (args.map rALin)] (fun r => r = optLin (instLin l args)) := by
  refine holds_of_lim Try.func9 rfl rfl fun hlm => ?_
  simp [rALin] at hlm
  have hN : (args.length = 0 ∧ argN args = 0) ∨ ∃ hz : 0 < args.length, argN args = (args[0]'hz).Coeffs.length := by
    cases args with
    | nil => exact .inl ⟨rfl, rfl⟩
    | cons a rest => exact .inr ⟨by simp, rfl⟩
  rcases hN with ⟨hz, hN⟩ | ⟨hz, hN⟩
  · refine holds_of_run Try.func9 a9_ok rfl (by simp [a9]) ?_
    simp [a9, rALin]
    simp [hz]
    intro hnil
    subst hnil
    first | refine callD_of (ks_ConstLin l.Const 0) (by simp) ?_ | refine call_of (ks_ConstLin l.Const 0) (by simp) ?_ | refine callD_of (ks_ConstLin l.Const 0) rfl ?_ | refine call_of (ks_ConstLin l.Const 0) rfl ?_
    rintro r rfl
    simp [rULin]
    first | refine callD_of (ks_IsValidLin l 0) (by simp [rALin]) ?_ | refine call_of (ks_IsValidLin l 0) (by simp [rALin]) ?_ | refine callD_of (ks_IsValidLin l 0) rfl ?_ | refine call_of (ks_IsValidLin l 0) rfl ?_
    rintro r rfl
    cases h1 : okLin l 0
    · have e : instLin l [] = Option.none := by simp [instLin, h1]
      simp [e, optLin, lin0, rULin, intsR]
    have e : instLin l [] = some (constLin l.Const 0) := by rw [inst_impl h1]; simp [argN, goInst]
    rw [e]
    simp
    first | refine callD_of (ks_IsValidLin (constLin l.Const 0) 0) (by simp [rALin]) ?_ | refine call_of (ks_IsValidLin (constLin l.Const 0) 0) (by simp [rALin]) ?_ | refine callD_of (ks_IsValidLin (constLin l.Const 0) 0) rfl ?_ | refine call_of (ks_IsValidLin (constLin l.Const 0) 0) rfl ?_
    rintro r rfl
    have h2 := (constLin_ok (n := 0) (okLin_c h1) (by decide)).2
    rw [show ((0 : Nat) : Int) = 0 from rfl] at h2
    simp [h2]
    refine rL_forS [1, 4, 5, 6, 7] 8 0 (fun i s => True) (by decide) (by simp) trivial ?_ ?_
    · intro i s h R hi; omega
    · rintro s h R hk s8 _ hh _ hX
      simp at hk hh
      simp [hk, s8, hh]
      refine hX _ _ ?_
      simp [hk, hh, optLin, rULin]
  · refine holds_of_run Try.func9 a9_ok rfl (by simp [a9]) ?_
    simp [a9, rALin]
    have hne : ¬ args = [] := by rintro rfl; simp at hz
    simp [hz, hne, rALin]
    intro _ _
    first | refine callD_of (ks_ConstLin l.Const (args[0].Coeffs.length : Int)) (by simp) ?_ | refine call_of (ks_ConstLin l.Const (args[0].Coeffs.length : Int)) (by simp) ?_ | refine callD_of (ks_ConstLin l.Const (args[0].Coeffs.length : Int)) rfl ?_ | refine call_of (ks_ConstLin l.Const (args[0].Coeffs.length : Int)) rfl ?_
    rintro r rfl
    simp [rULin]
    intro _
    first | refine callD_of (ks_IsValidLin l args.length) (by simp [rALin]) ?_ | refine call_of (ks_IsValidLin l args.length) (by simp [rALin]) ?_ | refine callD_of (ks_IsValidLin l args.length) rfl ?_ | refine call_of (ks_IsValidLin l args.length) rfl ?_
    rintro r rfl
    cases h1 : okLin l args.length
    · have e : instLin l args = Option.none := by simp [instLin, h1]
      simp [e, optLin, lin0, rULin, intsR]
    have e : instLin l args = if okLin (constLin l.Const (args[0].Coeffs.length : Int)) (args[0].Coeffs.length : Int) then goInst (l.Coeffs.zip args) (constLin l.Const (args[0].Coeffs.length : Int)) else Option.none := by
      unfold instLin; rw [h1, hN, Bool.true_and]
    rw [e]
    have hla := okLin_len h1
    simp
    first | refine callD_of (ks_IsValidLin (constLin l.Const (args[0].Coeffs.length : Int)) (args[0].Coeffs.length : Int)) (by simp [rALin]) ?_ | refine call_of (ks_IsValidLin (constLin l.Const (args[0].Coeffs.length : Int)) (args[0].Coeffs.length : Int)) (by simp [rALin]) ?_ | refine callD_of (ks_IsValidLin (constLin l.Const (args[0].Coeffs.length : Int)) (args[0].Coeffs.length : Int)) rfl ?_ | refine call_of (ks_IsValidLin (constLin l.Const (args[0].Coeffs.length : Int)) (args[0].Coeffs.length : Int)) rfl ?_
    rintro r rfl
    generalize hc3 : okLin (constLin l.Const (args[0].Coeffs.length : Int)) (args[0].Coeffs.length : Int) = b3
    cases b3
    · simp [optLin, lin0, rULin, intsR]
    simp
    have hzl : (l.Coeffs.zip args).length = args.length := by simp; omega
    generalize hG : goInst (l.Coeffs.zip args) (constLin l.Const (args[0].Coeffs.length : Int)) = G
    refine rL_forO [1, 2, 4, 6, 7] 8 args.length (fun i s h n => h 0 = some ⟨true, 2, [[.int .i64 l.Const, .sl 1 (intsR l.Coeffs)]]⟩ ∧ h 1 = some ⟨true, 2, [[.int .i64 0, .nil 1]]⟩ ∧ 3 < n ∧
        ∃ (o : DLin) (id : Nat), h 3 = some ⟨true, 2, [[.int .i64 o.Const, .ref id 0 o.Coeffs.length]]⟩ ∧ h id = some ⟨false, 1, intsR o.Coeffs⟩ ∧ id < n ∧ (id = 2 ∨ 3 < id) ∧ goInst ((l.Coeffs.zip args).drop i) o = G)
      hlm.2 (by simp) ⟨by simp, by simp, by simp, constLin l.Const (args[0].Coeffs.length : Int), 2, by simp, by simp, by omega, by omega, by simpa using hG⟩ ?_ ?_
    · rintro i s h n R hi hg hk s8 hw ⟨e0, e1, hn, o, id, e3, eid, hidn, hid, hJ⟩ hR hret _
      simp at hk
      have hir : i < l.Coeffs.length := by omega
      rw [List.drop_eq_getElem_cons (by omega : i < (l.Coeffs.zip args).length)] at hJ
      simp only [goInst, List.getElem_zip] at hJ
      have n0 : ¬ 0 = n := by omega
      have n1 : ¬ 1 = n := by omega
      have n3 : ¬ 3 = n := by omega
      have n3' : ¬ n = 3 := by omega
      have nid : ¬ id = n := by omega
      have m0 : ¬ 0 = n + 1 := by omega
      have m1 : ¬ 1 = n + 1 := by omega
      have m3 : ¬ 3 = n + 1 := by omega
      have m3' : ¬ n + 1 = 3 := by omega
      have mid : ¬ id = n + 1 := by omega
      have z0 : ¬ n = 0 := by omega
      have z2 : ¬ n = 2 := by omega
      simp [hk, s8, hi, hg, hir, e0, e1, e3, eid]
      intro _
      constructor
      · skip
        first | refine callD_of (ks_AddScaled o (l.Coeffs[i]'hir) (args[i]'hi)) (by simp [rALin, eid]) ?_ | refine call_of (ks_AddScaled o (l.Coeffs[i]'hir) (args[i]'hi)) (by simp [rALin, eid]) ?_ | refine callD_of (ks_AddScaled o (l.Coeffs[i]'hir) (args[i]'hi)) rfl ?_ | refine call_of (ks_AddScaled o (l.Coeffs[i]'hir) (args[i]'hi)) rfl ?_
        rintro r rfl
        cases ho : addScaled o l.Coeffs[i] args[i]
        · rw [ho] at hJ
          simp [optLin, lin0, rULin, hk, s8, hi, e0, e1, e3, n0, n1, n3, n3', z0, z2]
          refine hret _ _ _ ?_
          simp [hk, ← hJ, optLin, lin0, rULin, intsR]
        · rename_i o'
          rw [ho] at hJ
          simp only at hJ
          simp [optLin, rULin, hk, s8, hi, hw, e0, e1, e3, n0, n1, n3, n3', z0, z2]
          exact hR _ _ _ (by simp [hk]) (by simp) ⟨by simp [e0, n0], by simp [e1, n1, z0], by omega, o', n, by simp, by simp [n3'], by omega, by omega, hJ⟩
      · skip
        first | refine callD_of (ks_AddScaled o (l.Coeffs[i]'hir) (args[i]'hi)) (by simp [rALin, eid, mid, nid]) ?_ | refine call_of (ks_AddScaled o (l.Coeffs[i]'hir) (args[i]'hi)) (by simp [rALin, eid, mid, nid]) ?_ | refine callD_of (ks_AddScaled o (l.Coeffs[i]'hir) (args[i]'hi)) rfl ?_ | refine call_of (ks_AddScaled o (l.Coeffs[i]'hir) (args[i]'hi)) rfl ?_
        rintro r rfl
        cases ho : addScaled o l.Coeffs[i] args[i]
        · rw [ho] at hJ
          simp [optLin, lin0, rULin, hk, s8, hi, e0, e1, e3, n0, n1, n3, n3', z0, z2]
          refine hret _ _ _ ?_
          simp [hk, ← hJ, optLin, lin0, rULin, intsR]
        · rename_i o'
          rw [ho] at hJ
          simp only at hJ
          simp [optLin, rULin, hk, s8, hi, hw, e0, e1, e3, n0, n1, n3, n3', z0, z2]
          exact hR _ _ _ (by simp [hk]) (by simp) ⟨by simp [e0, n0], by simp [e1, n1, z0], by omega, o', n + 1, by simp, by simp [z2], by omega, by omega, hJ⟩
    · rintro s h n R hk s8 ⟨e0, e1, hn, o, id, e3, eid, hidn, hid, hJ⟩ hret hX
      simp at hk
      rw [List.drop_eq_nil_of_le (by omega)] at hJ
      simp only [goInst] at hJ
      simp [hk, s8]
      intro _
      refine hX _ _ _ _ ?_
      have i1 : ¬ 1 = id := by omega
      have i1' : ¬ id = 1 := by omega
      simp [hk, e1, e3, eid, ← hJ, optLin, rULin, i1, i1']
theorem goInst_len : ∀ (l : List (Int × DLin)) (o r : DLin), goInst l o = some r → r.Coeffs.length = o.Coeffs.length
  | [], o, r, h => by cases h; rfl
  | p :: l, o, r, h => by
    simp only [goInst] at h
    split at h
    · rename_i o' ho
      rw [goInst_len l o' r h, (addScaled_some ho).1]
    · cases h
theorem constLin_len (c : Int) (n : Int) : (constLin c n).Coeffs.length ≤ 8 := by
  unfold constLin
  split
  · rename_i h
    simp [inR] at h
    simp; omega
  · simp
theorem instLin_c (l : DLin) (args : List DLin) : cLin ((instLin l args).getD lin0) ≤ 8 := by
  unfold cLin
  rw [cIntS_len]
  cases h : instLin l args with
  | none => simp [lin0]
  | some r =>
    unfold instLin at h
    split at h
    · simp [goInst_len _ _ _ h, constLin_len]
    · cases h
end Go.Proofs.Ytoejpoioleffpaa
