/- Contracts: expressions carried over a call; differences. -/
import Derived.Test.YtlmajgghnenbpaaGreatC8
import Derived.Test.YtlmajgghnenbpaaGreatC4
namespace Go.Proofs.YtlmajgghnenbpaaGreat
set_option linter.all false
open Go Go.RowKit Go.Proofs
def a135 : AFn :=
⟨29, [(.c 6 true 2), (.t 7)], (.seq 
 (.reg [⟨some 3, (.boxv (.t 0)), no⟩, ⟨some 6, (.box [(.int .i64 0), (.nil 1)]), no⟩, ⟨some 7, (.mv (.k (.bool false))), no⟩]) (.seq (.seq 
 (.reg [⟨some 8, (.mv (.t 1)), no⟩, ⟨some 9, (.len false (.t 8)), no⟩, ⟨some 10, (.bin .gtr (.t 9) (.k (.int .i64 0))), no⟩]) (.cond (.t 10) (.seq 
 (.reg [⟨some 11, (.ld true 2 (.t 3)), no⟩, ⟨some 12, (.mv (.t 1)), no⟩, ⟨some 13, (.call (.k (.fn (.func 211) [] [])) [(.t 11), (.t 12)]), no⟩, ⟨some 14, (.ext (.t 13) 0), no⟩, ⟨some 15, (.ext (.t 13) 1), no⟩, ⟨no, (.st 2 (.t 6) (.t 14)), no⟩, ⟨some 7, (.mv (.t 15)), no⟩]) .ret) .skip)) (.seq (.seq 
 (.reg [⟨some 16, (.ld true 2 (.t 3)), no⟩, ⟨some 17, (.call (.k (.fn (.func 174) [] [])) [(.t 16), (.k (.int .i64 0))]), no⟩, ⟨some 18, (.un .not (.t 17)), no⟩, ⟨some 19, (.mv (.t 18)), no⟩, ⟨some 20, (.mv (.t 2)), (some (19, false))⟩, ⟨some 21, (.call (.k (.fn (.func 132) [] [])) [(.t 20), (.k (.int .i64 0)), (.k (.int .i64 8))]), (some (19, false))⟩, ⟨some 22, (.un .not (.t 21)), (some (19, false))⟩, ⟨some 23, (.pick (.t 19) (.k (.bool true)) (.t 22)), no⟩]) (.cond (.t 23) (.seq 
 (.reg [⟨some 24, (.build [(.int .i64 0), (.nil 1)] []), no⟩, ⟨no, (.st 2 (.t 6) (.t 24)), no⟩, ⟨some 7, (.mv (.k (.bool false))), no⟩]) .ret) .skip)) (.seq 
 (.reg [⟨some 25, (.fld 0 (.t 3)), no⟩, ⟨some 26, (.ld false 1 (.t 25)), no⟩, ⟨some 27, (.mv (.t 2)), no⟩, ⟨some 28, (.call (.k (.fn (.func 137) [] [])) [(.t 26), (.t 27)]), no⟩, ⟨no, (.st 2 (.t 6) (.t 28)), no⟩, ⟨some 7, (.mv (.k (.bool true))), no⟩]) .ret))))⟩
theorem a135_ok : compFn Tryz.prog Tryz.f135 = some a135 := by kernel_rfl

def a215 : AFn :=
⟨36, [(.c 6 true 2), (.t 7)], (.seq 
 (.reg [⟨some 3, (.boxv (.t 0)), no⟩, ⟨some 4, (.boxv (.t 1)), no⟩, ⟨some 6, (.box [(.int .i64 0), (.nil 1)]), no⟩, ⟨some 7, (.mv (.k (.bool false))), no⟩]) (.seq (.seq 
 (.reg [⟨some 9, (.mv (.t 2)), no⟩, ⟨some 10, (.len false (.t 9)), no⟩, ⟨some 11, (.bin .gtr (.t 10) (.k (.int .i64 0))), no⟩]) (.cond (.t 11) (.seq 
 (.reg [⟨some 12, (.ld true 2 (.t 4)), no⟩, ⟨some 13, (.mv (.t 2)), no⟩, ⟨some 14, (.call (.k (.fn (.func 274) [] [])) [(.t 12), (.t 13)]), no⟩, ⟨some 15, (.ext (.t 14) 0), no⟩, ⟨some 16, (.ext (.t 14) 1), no⟩, ⟨no, (.st 2 (.t 6) (.t 15)), no⟩, ⟨some 7, (.mv (.t 16)), no⟩]) .ret) .skip)) (.seq 
 (.reg [⟨some 17, (.fld 0 (.t 4)), no⟩, ⟨some 18, (.ld false 1 (.t 17)), no⟩, ⟨some 19, (.fld 0 (.t 3)), no⟩, ⟨some 20, (.fld 0 (.t 19)), no⟩, ⟨some 21, (.ld false 1 (.t 20)), no⟩, ⟨some 22, (.call (.k (.fn (.func 146) [] [])) [(.t 18), (.t 21)]), no⟩, ⟨some 8, (.box [(.int .i64 0), (.nil 1)]), no⟩, ⟨no, (.st 2 (.t 8) (.t 22)), no⟩]) (.seq (.seq 
 (.reg [⟨some 23, (.ld true 2 (.t 4)), no⟩, ⟨some 24, (.call (.k (.fn (.func 218) [] [])) [(.t 23), (.k (.int .i64 0))]), no⟩, ⟨some 25, (.un .not (.t 24)), no⟩, ⟨some 26, (.mv (.t 25)), no⟩, ⟨some 27, (.ld true 2 (.t 8)), (some (26, false))⟩, ⟨some 28, (.fld 0 (.t 3)), (some (26, false))⟩, ⟨some 29, (.fld 0 (.t 28)), (some (26, false))⟩, ⟨some 30, (.ld false 1 (.t 29)), (some (26, false))⟩, ⟨some 31, (.call (.k (.fn (.func 218) [] [])) [(.t 27), (.t 30)]), (some (26, false))⟩, ⟨some 32, (.un .not (.t 31)), (some (26, false))⟩, ⟨some 33, (.pick (.t 26) (.k (.bool true)) (.t 32)), no⟩]) (.cond (.t 33) (.seq 
 (.reg [⟨some 34, (.build [(.int .i64 0), (.nil 1)] []), no⟩, ⟨no, (.st 2 (.t 6) (.t 34)), no⟩, ⟨some 7, (.mv (.k (.bool false))), no⟩]) .ret) .skip)) (.seq 
 (.reg [⟨some 35, (.ld true 2 (.t 8)), no⟩, ⟨no, (.st 2 (.t 6) (.t 35)), no⟩, ⟨some 7, (.mv (.k (.bool true))), no⟩]) .ret)))))⟩
theorem a215_ok : compFn Tryz.prog Tryz.f215 = some a215 := by kernel_rfl

def a148 : AFn :=
⟨28, [(.c 6 true 2), (.t 7)], (.seq 
 (.reg [⟨some 3, (.boxv (.t 0)), no⟩, ⟨some 4, (.boxv (.t 1)), no⟩, ⟨some 6, (.box [(.int .i64 0), (.nil 1)]), no⟩, ⟨some 7, (.mv (.k (.bool false))), no⟩]) (.seq (.seq 
 (.reg [⟨some 8, (.mv (.t 2)), no⟩, ⟨some 9, (.fld 3 (.t 3)), no⟩, ⟨some 10, (.ld false 1 (.t 9)), no⟩, ⟨some 11, (.len false (.t 10)), no⟩, ⟨some 12, (.bin .sub (.t 11) (.k (.int .i64 1))), no⟩, ⟨some 13, (.call (.k (.fn (.func 132) [] [])) [(.t 8), (.k (.int .i64 0)), (.t 12)]), no⟩, ⟨some 14, (.un .not (.t 13)), no⟩]) (.cond (.t 14) (.seq 
 (.reg [⟨some 15, (.build [(.int .i64 0), (.nil 1)] []), no⟩, ⟨no, (.st 2 (.t 6) (.t 15)), no⟩, ⟨some 7, (.mv (.k (.bool false))), no⟩]) .ret) .skip)) (.seq (.draw (.op ⟨some 16, (.ld true 2 (.t 4)), no⟩ (.op ⟨some 17, (.fld 3 (.t 3)), no⟩ (.op ⟨some 18, (.ld false 1 (.t 17)), no⟩ (.op ⟨some 19, (.mv (.t 2)), no⟩ (.op ⟨some 20, (.ixa 1 (.t 18) (.t 19)), no⟩ (.op ⟨some 21, (.ld false 1 (.t 20)), no⟩ (.op ⟨some 22, (.fld 0 (.t 3)), no⟩ (.op ⟨some 23, (.fld 0 (.t 22)), no⟩ (.op ⟨some 24, (.ld false 1 (.t 23)), no⟩ (.op ⟨some 25, (.call (.k (.fn (.func 135) [] [])) [(.t 16), (.t 21), (.t 24)]), no⟩ (.op ⟨some 26, (.ext (.t 25) 0), no⟩ (.op ⟨some 27, (.ext (.t 25) 1), no⟩ (.hop ⟨no, (.st 2 (.t 6) (.t 26)), no⟩ [] (.op ⟨some 7, (.mv (.t 27)), no⟩ .fin))))))))))))))) .ret)))⟩
theorem a148_ok : compFn Tryz.prog Tryz.f148 = some a148 := by kernel_rfl

def a145 : AFn :=
⟨26, [(.c 6 true 2), (.t 7)], (.seq 
 (.reg [⟨some 3, (.boxv (.t 0)), no⟩, ⟨some 4, (.boxv (.t 1)), no⟩, ⟨some 6, (.box [(.int .i64 0), (.nil 1)]), no⟩, ⟨some 7, (.mv (.k (.bool false))), no⟩]) (.seq (.seq 
 (.reg [⟨some 8, (.mv (.t 2)), no⟩, ⟨some 9, (.fld 3 (.t 3)), no⟩, ⟨some 10, (.ld false 1 (.t 9)), no⟩, ⟨some 11, (.len false (.t 10)), no⟩, ⟨some 12, (.bin .sub (.t 11) (.k (.int .i64 1))), no⟩, ⟨some 13, (.call (.k (.fn (.func 130) [] [])) [(.t 8), (.k (.int .i64 0)), (.t 12)]), no⟩, ⟨some 14, (.un .not (.t 13)), no⟩]) (.cond (.t 14) (.seq 
 (.reg [⟨some 15, (.build [(.int .i64 0), (.nil 1)] []), no⟩, ⟨no, (.st 2 (.t 6) (.t 15)), no⟩, ⟨some 7, (.mv (.k (.bool false))), no⟩]) .ret) .skip)) (.seq (.draw (.op ⟨some 16, (.ld true 6 (.t 3)), no⟩ (.op ⟨some 17, (.ld true 2 (.t 4)), no⟩ (.op ⟨some 18, (.fld 3 (.t 3)), no⟩ (.op ⟨some 19, (.ld false 1 (.t 18)), no⟩ (.op ⟨some 20, (.mv (.t 2)), no⟩ (.op ⟨some 21, (.ixa 1 (.t 19) (.t 20)), no⟩ (.op ⟨some 22, (.ld false 1 (.t 21)), no⟩ (.op ⟨some 23, (.call (.k (.fn (.func 215) [] [])) [(.t 16), (.t 17), (.t 22)]), no⟩ (.op ⟨some 24, (.ext (.t 23) 0), no⟩ (.op ⟨some 25, (.ext (.t 23) 1), no⟩ (.hop ⟨no, (.st 2 (.t 6) (.t 24)), no⟩ [] (.op ⟨some 7, (.mv (.t 25)), no⟩ .fin))))))))))))) .ret)))⟩
theorem a145_ok : compFn Tryz.prog Tryz.f145 = some a145 := by kernel_rfl



def placeLin (l : DLin) (args : List DLin) (n : Int) : Option DLin :=
  if 0 < args.length then instLin l args else if okLin l 0 && inR n 0 8 then some (constLin l.Const n) else Option.none
def transp (m : DModel) (l : DLin) (call : Int) : Option DLin :=
  if inR call 0 ((m.Args.length : Int) - 1) then placeLin l (m.Args.getD call.toNat []) m.System.N else Option.none
def okO (o : Option DLin) : Bool := o.isSome
def diffL (m : DModel) (a : DLin) (call : Int) (b : DLin) (k : Int) : Option DLin :=
  if (placeLin a m.Params m.System.N).isSome && (transp m b call).isSome && okC k then
    (if (addScaled ((placeLin a m.Params m.System.N).getD lin0) (-1) ((transp m b call).getD lin0)).isSome then
      plusL ((addScaled ((placeLin a m.Params m.System.N).getD lin0) (-1) ((transp m b call).getD lin0)).getD lin0) (-k) else Option.none)
  else Option.none

set_option maxRecDepth 20000 in
theorem k_instantiated (l : DLin) (args : List DLin) (n : Int) : Holds Tryz.prog 135 [.agg (rALin l), .sl 2 (args.map rALin), i64 n] (fun r => r = optLin (placeLin l args n)) := by
  refine holds_of_run Tryz.func135 a135_ok rfl (by simp [a135]) ?_
  simp [a135, rALin]
  unfold placeLin
  intro _
  by_cases h : 0 < args.length
  · have hne : ¬ args = [] := by rintro rfl; simp at h
    simp [h, hne]
    first | refine callD_of (k_InstantiateLin l args) (by simp [rALin]) ?_ | refine call_of (k_InstantiateLin l args) (by simp [rALin]) ?_ | refine callD_of (k_InstantiateLin l args) rfl ?_ | refine call_of (k_InstantiateLin l args) rfl ?_
    rintro r rfl
    simp [optLin_eq, rULin]
  have hne : args = [] := List.eq_nil_of_length_eq_zero (by omega)
  subst hne
  simp
  first | refine callD_of (k_IsValidLin l 0) (by simp [rALin]) ?_ | refine call_of (k_IsValidLin l 0) (by simp [rALin]) ?_ | refine callD_of (k_IsValidLin l 0) rfl ?_ | refine call_of (k_IsValidLin l 0) rfl ?_
  rintro r rfl
  cases h1 : okLin l 0
  · simp [optLin, lin0, rULin, intsR]
  simp
  first | refine callD_of (k_within n 0 8) (by simp) ?_ | refine call_of (k_within n 0 8) (by simp) ?_ | refine callD_of (k_within n 0 8) rfl ?_ | refine call_of (k_within n 0 8) rfl ?_
  rintro r rfl
  cases h2 : inR n 0 8
  · simp [optLin, lin0, rULin, intsR]
  simp
  first | refine callD_of (k_ConstLin l.Const n) (by simp) ?_ | refine call_of (k_ConstLin l.Const n) (by simp) ?_ | refine callD_of (k_ConstLin l.Const n) rfl ?_ | refine call_of (k_ConstLin l.Const n) rfl ?_
  rintro r rfl
  simp [optLin, rULin]

set_option maxRecDepth 20000 in
theorem ks_l15Place (m : DModel) (l : DLin) (args : List DLin) : Holds Tryz.prog 215 [.agg (rAModel m), .agg (rALin l), .sl 2 (args.map rALin)] (fun r => r = optLin (placeLin l args m.System.N)) := by
  refine holds_of_run Tryz.func215 a215_ok rfl (by simp [a215]) ?_
  simp [a215, rALin, rAModel]
  unfold placeLin
  intro _
  by_cases h : 0 < args.length
  · have hne : ¬ args = [] := by rintro rfl; simp at h
    simp [h, hne]
    first | refine callD_of (ks_InstantiateLin l args) (by simp [rALin]) ?_ | refine call_of (ks_InstantiateLin l args) (by simp [rALin]) ?_ | refine callD_of (ks_InstantiateLin l args) rfl ?_ | refine call_of (ks_InstantiateLin l args) rfl ?_
    rintro r rfl
    simp [optLin_eq, rULin]
  have hne : args = [] := List.eq_nil_of_length_eq_zero (by omega)
  subst hne
  simp
  first | refine callD_of (ks_ConstLin l.Const m.System.N) (by simp) ?_ | refine call_of (ks_ConstLin l.Const m.System.N) (by simp) ?_ | refine callD_of (ks_ConstLin l.Const m.System.N) rfl ?_ | refine call_of (ks_ConstLin l.Const m.System.N) rfl ?_
  rintro r rfl
  simp [rULin]
  first | refine callD_of (ks_IsValidLin l 0) (by simp [rALin]) ?_ | refine call_of (ks_IsValidLin l 0) (by simp [rALin]) ?_ | refine callD_of (ks_IsValidLin l 0) rfl ?_ | refine call_of (ks_IsValidLin l 0) rfl ?_
  rintro r rfl
  cases h1 : okLin l 0
  · simp [optLin, lin0, rULin, intsR]
  simp
  first | refine callD_of (ks_IsValidLin (constLin l.Const m.System.N) m.System.N) (by simp [rALin]) ?_ | refine call_of (ks_IsValidLin (constLin l.Const m.System.N) m.System.N) (by simp [rALin]) ?_ | refine callD_of (ks_IsValidLin (constLin l.Const m.System.N) m.System.N) rfl ?_ | refine call_of (ks_IsValidLin (constLin l.Const m.System.N) m.System.N) rfl ?_
  rintro r rfl
  have hv : okLin (constLin l.Const m.System.N) m.System.N = inR m.System.N 0 8 := by
    cases h2 : inR m.System.N 0 8
    · simp [okLin, h2]
    · have h3 : 0 ≤ m.System.N ∧ m.System.N ≤ 8 := by simpa [inR] using h2
      have := (constLin_ok (n := m.System.N.toNat) (okLin_c h1) (by omega)).2
      rwa [show ((m.System.N.toNat : Nat) : Int) = m.System.N by omega] at this
  rw [hv]
  cases h2 : inR m.System.N 0 8
  · simp [optLin, lin0, rULin, intsR]
  simp [optLin, rULin]

set_option maxRecDepth 20000 in
theorem k_Transport (m : DModel) (l : DLin) (call : Int) : Holds Tryz.prog 148 [.agg (rAModel m), .agg (rALin l), i64 call] (fun r => r = optLin (transp m l call)) := by
  refine holds_of_lim Tryz.func148 rfl rfl fun hlm => ?_
  simp [rALin, rAModel] at hlm
  refine holds_of_run Tryz.func148 a148_ok rfl (by simp [a148]) ?_
  simp [a148, rALin, rAModel]
  intro hl
  unfold LIM at hl
  rw [wrap64 (by omega)]
  unfold transp
  first | refine callD_of (k_within call 0 ((m.Args.length : Int) - 1)) (by simp) ?_ | refine call_of (k_within call 0 ((m.Args.length : Int) - 1)) (by simp) ?_ | refine callD_of (k_within call 0 ((m.Args.length : Int) - 1)) rfl ?_ | refine call_of (k_within call 0 ((m.Args.length : Int) - 1)) rfl ?_
  rintro r rfl
  cases h1 : inR call 0 ((m.Args.length : Int) - 1)
  · simp [optLin, lin0, rULin, intsR]
  have hc : 0 ≤ call ∧ call ≤ (m.Args.length : Int) - 1 := by simpa [inR] using h1
  obtain ⟨c, rfl⟩ : ∃ c : Nat, call = c := ⟨call.toNat, by omega⟩
  have hcl : c < m.Args.length := by omega
  simp [hcl, rALinS]
  first | refine callD_of (k_instantiated l (m.Args[c]'hcl) m.System.N) (by simp [rALin]) ?_ | refine call_of (k_instantiated l (m.Args[c]'hcl) m.System.N) (by simp [rALin]) ?_ | refine callD_of (k_instantiated l (m.Args[c]'hcl) m.System.N) rfl ?_ | refine call_of (k_instantiated l (m.Args[c]'hcl) m.System.N) rfl ?_
  rintro r rfl
  simp [optLin_eq, rULin]

set_option maxRecDepth 20000 in
theorem ks_Transport (m : DModel) (l : DLin) (call : Int) : Holds Tryz.prog 145 [.agg (rAModel m), .agg (rALin l), i64 call] (fun r => r = optLin (transp m l call)) := by
  refine holds_of_lim Tryz.func145 rfl rfl fun hlm => ?_
  simp [rALin, rAModel] at hlm
  refine holds_of_run Tryz.func145 a145_ok rfl (by simp [a145]) ?_
  simp [a145, rALin, rAModel]
  intro hl
  unfold LIM at hl
  rw [wrap64 (by omega)]
  unfold transp
  first | refine callD_of (k_l1In call 0 ((m.Args.length : Int) - 1)) (by simp) ?_ | refine call_of (k_l1In call 0 ((m.Args.length : Int) - 1)) (by simp) ?_ | refine callD_of (k_l1In call 0 ((m.Args.length : Int) - 1)) rfl ?_ | refine call_of (k_l1In call 0 ((m.Args.length : Int) - 1)) rfl ?_
  rintro r rfl
  cases h1 : inR call 0 ((m.Args.length : Int) - 1)
  · simp [optLin, lin0, rULin, intsR]
  have hc : 0 ≤ call ∧ call ≤ (m.Args.length : Int) - 1 := by simpa [inR] using h1
  obtain ⟨c, rfl⟩ : ∃ c : Nat, call = c := ⟨call.toNat, by omega⟩
  have hcl : c < m.Args.length := by omega
  simp [hcl, rALinS]
  first | refine callD_of (ks_l15Place m l (m.Args[c]'hcl)) (by simp [rALin, rAModel]) ?_ | refine call_of (ks_l15Place m l (m.Args[c]'hcl)) (by simp [rALin, rAModel]) ?_ | refine callD_of (ks_l15Place m l (m.Args[c]'hcl)) rfl ?_ | refine call_of (ks_l15Place m l (m.Args[c]'hcl)) rfl ?_
  rintro r rfl
  simp [optLin_eq, rULin]

theorem placeLin_c (l : DLin) (args : List DLin) (n : Int) : cLin ((placeLin l args n).getD lin0) ≤ 8 := by
  unfold placeLin
  split
  · exact instLin_c l args
  · split
    · unfold cLin; rw [cIntS_len]; exact constLin_len _ _
    · unfold cLin; rw [cIntS_len]; simp [lin0]
theorem transp_c (m : DModel) (l : DLin) (call : Int) : cLin ((transp m l call).getD lin0) ≤ 8 := by
  unfold transp
  split
  · exact placeLin_c _ _ _
  · unfold cLin; rw [cIntS_len]; simp [lin0]
end Go.Proofs.YtlmajgghnenbpaaGreat
