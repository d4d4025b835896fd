/- Contracts: constants, copies, sums of linear expressions. -/
import Derived.Test.YtilcageplifbgaaGreatKC1
namespace Go.Proofs.YtilcageplifbgaaGreat
set_option linter.all false
open Go Go.RowKit Go.Proofs
def a103 : AFn :=
⟨18, [(.c 4 true 2)], (.seq
 (.reg [⟨some 4, (.box [(.int .i64 0), (.nil 1)]), no⟩]) (.seq (.seq
 (.reg [⟨some 5, (.mv (.t 1)), no⟩, ⟨some 6, (.call (.k (.fn (.func 98) [] [])) [(.t 5), (.k (.int .i64 0)), (.k (.int .i64 8))]), no⟩, ⟨some 7, (.un .not (.t 6)), no⟩, ⟨some 8, (.mv (.t 7)), no⟩, ⟨some 9, (.mv (.t 0)), (some (8, false))⟩, ⟨some 10, (.call (.k (.fn (.func 183) [] [])) [(.t 9)]), (some (8, false))⟩, ⟨some 11, (.un .not (.t 10)), (some (8, false))⟩, ⟨some 12, (.pick (.t 8) (.k (.bool true)) (.t 11)), no⟩]) (.cond (.t 12) (.seq
 (.reg [⟨some 13, (.build [(.int .i64 0), (.nil 1)] []), no⟩, ⟨no, (.st 2 (.t 4) (.t 13)), no⟩]) .ret) .skip)) (.seq
 (.reg [⟨some 14, (.mv (.t 0)), no⟩, ⟨some 15, (.mv (.t 1)), no⟩, ⟨some 16, (.mks 8 [(.int .i64 0)] (.t 15) (.t 15)), no⟩, ⟨some 17, (.build [(.int .i64 0), (.nil 1)] [(0, (1, (.t 14))), (1, (1, (.t 16)))]), no⟩, ⟨no, (.st 2 (.t 4) (.t 17)), no⟩]) .ret)))⟩
theorem a103_ok : compFn Tryz.prog Tryz.f103 = some a103 := by kernel_rfl
def a174 : AFn :=
⟨8, [(.t 2)], (.seq
 (.reg [⟨some 2, (.mv (.k (.nil 1))), no⟩]) (.seq (.seq
 (.reg [⟨some 3, (.mv (.t 0)), no⟩, ⟨some 4, (.inil false (.t 3)), no⟩]) (.cond (.t 4) (.seq
 (.reg [⟨some 2, (.mv (.k (.nil 1))), no⟩]) .ret) .skip)) (.seq
 (.reg [⟨some 5, (.bsl 1 []), no⟩, ⟨some 6, (.mv (.t 0)), no⟩, ⟨some 7, (.app 8 1 (.t 5) (.t 6)), no⟩, ⟨some 2, (.mv (.t 7)), no⟩]) .ret)))⟩
theorem a174_ok : compFn Tryz.prog Tryz.f174 = some a174 := by kernel_rfl
def a91 : AFn :=
⟨9, [(.c 2 true 2)], (.seq
 (.reg [⟨some 1, (.boxv (.t 0)), no⟩, ⟨some 2, (.box [(.int .i64 0), (.nil 1)]), no⟩]) (.seq (.draw (.op ⟨some 3, (.fld 0 (.t 1)), no⟩ (.op ⟨some 4, (.ld false 1 (.t 3)), no⟩ (.op ⟨some 5, (.fld 1 (.t 1)), no⟩ (.op ⟨some 6, (.ld false 1 (.t 5)), no⟩ (.op ⟨some 7, (.call (.k (.fn (.func 174) [] [])) [(.t 6)]), no⟩ (.op ⟨some 8, (.build [(.int .i64 0), (.nil 1)] [(0, (1, (.t 4))), (1, (1, (.t 7)))]), no⟩ (.hop ⟨no, (.st 2 (.t 2) (.t 8)), no⟩ [] .fin)))))))) .ret))⟩
theorem a91_ok : compFn Tryz.prog Tryz.f91 = some a91 := by kernel_rfl
def a87 : AFn :=
⟨10, [(.c 2 true 2)], (.seq
 (.reg [⟨some 1, (.boxv (.t 0)), no⟩, ⟨some 2, (.box [(.int .i64 0), (.nil 1)]), no⟩]) (.seq (.draw (.op ⟨some 3, (.fld 0 (.t 1)), no⟩ (.op ⟨some 4, (.ld false 1 (.t 3)), no⟩ (.op ⟨some 6, (.fld 1 (.t 1)), no⟩ (.op ⟨some 7, (.ld false 1 (.t 6)), no⟩ (.hop ⟨some 5, (.bsl 1 []), no⟩ [(.ld false 1 (.t 6)), (.fld 1 (.t 1)), (.ld false 1 (.t 3)), (.fld 0 (.t 1))] (.hop ⟨some 8, (.app 8 1 (.t 5) (.t 7)), no⟩ [(.ld false 1 (.t 3)), (.fld 0 (.t 1))] (.op ⟨some 9, (.build [(.int .i64 0), (.nil 1)] [(0, (1, (.t 4))), (1, (1, (.t 8)))]), no⟩ (.hop ⟨no, (.st 2 (.t 2) (.t 9)), no⟩ [] .fin))))))))) .ret))⟩
theorem a87_ok : compFn Tryz.prog Tryz.f87 = some a87 := by kernel_rfl
def constLin (k n : Int) : DLin := if inR n 0 8 && okC k then ⟨k, List.replicate n.toNat 0⟩ else ⟨0, []⟩
@[simp] theorem intsR_rep (m : Nat) : intsR (List.replicate m 0) = List.replicate m [AV.int .i64 0] := by simp [intsR]
@[simp] theorem clean_rep (m : Nat) : cleanr (List.replicate m [AV.int .i64 0]) = true := by rw [← intsR_rep]; exact clean_intsR _
@[simp] theorem intsR_set (l : List Int) (i : Nat) (v : Int) : (intsR l).set i [AV.int .i64 v] = intsR (l.set i v) := by simp [intsR, List.map_set]
theorem k_ConstLin (k n : Int) : Holds Tryz.prog 103 [i64 k, i64 n] (fun r => r = .agg (rULin (constLin k n))) := by
  refine holds_of_run Tryz.func103 a103_ok rfl (by simp [a103]) ?_
  simp [a103]
  first | refine callD_of (k_within n 0 8) (by simp) ?_ | refine call_of (k_within n 0 8) (by simp) ?_ | refine callD_of (k_within n 0 8) rfl ?_ | refine call_of (k_within n 0 8) rfl ?_
  rintro r rfl
  unfold constLin
  cases h1 : inR n 0 8
  · simp [rULin, intsR]
  simp
  first | refine callD_of (k_coeffOk k) (by simp) ?_ | refine call_of (k_coeffOk k) (by simp) ?_ | refine callD_of (k_coeffOk k) rfl ?_ | refine call_of (k_coeffOk k) rfl ?_
  rintro r rfl
  cases h2 : okC k
  · simp [rULin, intsR]
  have hn : 0 ≤ n ∧ n ≤ 8 := by simpa [inR] using h1
  obtain ⟨m, rfl⟩ : ∃ m : Nat, n = m := ⟨n.toNat, by omega⟩
  simp [rULin]
  unfold LIM
  omega
theorem k_CloneInt (l : List Int) (hl : l.length ≤ 1048576) : Holds Tryz.prog 174 [.sl 1 (intsR l)] (fun r => r = .us 1 (intsR l)) := by
  refine holds_of_run Tryz.func174 a174_ok rfl (by simp [a174]) ?_
  simp [a174]
  unfold LIM
  omega
theorem k_copyLin (x : DLin) (hl : x.Coeffs.length ≤ 1048576) : Holds Tryz.prog 91 [.agg (rALin x)] (fun r => r = .agg (rULin x)) := by
  refine holds_of_run Tryz.func91 a91_ok rfl (by simp [a91]) ?_
  simp [a91, rALin]
  first | refine callD_of (k_CloneInt x.Coeffs hl) (by simp [rULin]) ?_ | refine call_of (k_CloneInt x.Coeffs hl) (by simp [rULin]) ?_ | refine callD_of (k_CloneInt x.Coeffs hl) rfl ?_ | refine call_of (k_CloneInt x.Coeffs hl) rfl ?_
  rintro r rfl
  simp [rULin]
theorem ks_l4Copy (x : DLin) (hl : x.Coeffs.length ≤ 1048576) : Holds Tryz.prog 87 [.agg (rALin x)] (fun r => r = .agg (rULin x)) := by
  refine holds_of_run Tryz.func87 a87_ok rfl (by simp [a87]) ?_
  simp [a87, rALin, rULin]
  unfold LIM
  omega
def lin0 : DLin := ⟨0, []⟩
def combZ (a : DLin) (k : Int) (b : DLin) : List (Option Int) := List.zipWith (fun x y => scaledO x k y) a.Coeffs b.Coeffs
def combOk (a : DLin) (k : Int) (b : DLin) : Bool := (combZ a k b).all Option.isSome
def addScaled (a : DLin) (k : Int) (b : DLin) : Option DLin :=
  if okLin a a.Coeffs.length && okLin b a.Coeffs.length && okC k && (scaledO a.Const k b.Const).isSome && combOk a k b then
    some ⟨(scaledO a.Const k b.Const).getD 0, (combZ a k b).map (·.getD 0)⟩
  else Option.none
theorem okLin_len {l : DLin} {n : Int} (h : okLin l n = true) : (l.Coeffs.length : Int) = n ∧ 0 ≤ n ∧ n ≤ 8 := by
  unfold okLin at h
  simp [inR] at h
  omega
end Go.Proofs.YtilcageplifbgaaGreat
