/- Contracts: constants, copies, sums of linear expressions. -/
import Derived.Test.YtlbdgpkgmheikaaGreatC1
namespace Go.Proofs.YtlbdgpkgmheikaaGreat
set_option linter.all false
open Go Go.RowKit Go.Proofs
def a144 : AFn :=
⟨8, [(.t 2)], (.seq 
 (.reg [⟨some 2, (.mv (.k (.nil 1))), no⟩]) (.seq (.seq 
 (.reg [⟨some 3, (.mv (.t 0)), no⟩, ⟨some 4, (.inil false (.t 3)), no⟩]) (.cond (.t 4) (.seq 
 (.reg [⟨some 2, (.mv (.k (.nil 1))), no⟩]) .ret) .skip)) (.seq 
 (.reg [⟨some 5, (.bsl 1 []), no⟩, ⟨some 6, (.mv (.t 0)), no⟩, ⟨some 7, (.app 8 1 (.t 5) (.t 6)), no⟩, ⟨some 2, (.mv (.t 7)), no⟩]) .ret)))⟩
theorem a144_ok : compFn Tryz.prog Tryz.f144 = some a144 := by kernel_rfl

def a136 : AFn :=
⟨9, [(.c 2 true 2)], (.seq 
 (.reg [⟨some 1, (.boxv (.t 0)), no⟩, ⟨some 2, (.box [(.int .i64 0), (.nil 1)]), no⟩]) (.seq (.draw (.op ⟨some 3, (.fld 0 (.t 1)), no⟩ (.op ⟨some 4, (.ld false 1 (.t 3)), no⟩ (.op ⟨some 5, (.fld 1 (.t 1)), no⟩ (.op ⟨some 6, (.ld false 1 (.t 5)), no⟩ (.op ⟨some 7, (.call (.k (.fn (.func 144) [] [])) [(.t 6)]), no⟩ (.op ⟨some 8, (.build [(.int .i64 0), (.nil 1)] [(0, (1, (.t 4))), (1, (1, (.t 7)))]), no⟩ (.hop ⟨no, (.st 2 (.t 2) (.t 8)), no⟩ [] .fin)))))))) .ret))⟩
theorem a136_ok : compFn Tryz.prog Tryz.f136 = some a136 := by kernel_rfl

def a109 : AFn :=
⟨10, [(.c 2 true 2)], (.seq 
 (.reg [⟨some 1, (.boxv (.t 0)), no⟩, ⟨some 2, (.box [(.int .i64 0), (.nil 1)]), no⟩]) (.seq (.draw (.op ⟨some 3, (.fld 0 (.t 1)), no⟩ (.op ⟨some 4, (.ld false 1 (.t 3)), no⟩ (.op ⟨some 6, (.fld 1 (.t 1)), no⟩ (.op ⟨some 7, (.ld false 1 (.t 6)), no⟩ (.hop ⟨some 5, (.bsl 1 []), no⟩ [(.ld false 1 (.t 6)), (.fld 1 (.t 1)), (.ld false 1 (.t 3)), (.fld 0 (.t 1))] (.hop ⟨some 8, (.app 8 1 (.t 5) (.t 7)), no⟩ [(.ld false 1 (.t 3)), (.fld 0 (.t 1))] (.op ⟨some 9, (.build [(.int .i64 0), (.nil 1)] [(0, (1, (.t 4))), (1, (1, (.t 8)))]), no⟩ (.hop ⟨no, (.st 2 (.t 2) (.t 9)), no⟩ [] .fin))))))))) .ret))⟩
theorem a109_ok : compFn Tryz.prog Tryz.f109 = some a109 := by kernel_rfl



def constLin (k n : Int) : DLin := if inR n 0 8 && okC k then ⟨k, List.replicate n.toNat 0⟩ else ⟨0, []⟩
@[simp] theorem intsR_rep (m : Nat) : intsR (List.replicate m 0) = List.replicate m [AV.int .i64 0] := by simp [intsR]

@[simp] theorem clean_rep (m : Nat) : cleanr (List.replicate m [AV.int .i64 0]) = true := by rw [← intsR_rep]; exact clean_intsR _
@[simp] theorem intsR_set (l : List Int) (i : Nat) (v : Int) : (intsR l).set i [AV.int .i64 v] = intsR (l.set i v) := by simp [intsR, List.map_set]

theorem k_CloneInt (l : List Int) (hl : l.length ≤ 1048576) : Holds Tryz.prog 144 [.sl 1 (intsR l)] (fun r => r = .us 1 (intsR l)) := by
  refine holds_of_run Tryz.func144 a144_ok rfl (by simp [a144]) ?_
  simp [a144]
  unfold LIM
  omega

theorem k_copyLin (x : DLin) (hl : x.Coeffs.length ≤ 1048576) : Holds Tryz.prog 136 [.agg (rALin x)] (fun r => r = .agg (rULin x)) := by
  refine holds_of_run Tryz.func136 a136_ok rfl (by simp [a136]) ?_
  simp [a136, rALin]
  first | refine callD_of (k_CloneInt x.Coeffs hl) (by simp [rULin]) ?_ | refine call_of (k_CloneInt x.Coeffs hl) (by simp [rULin]) ?_ | refine callD_of (k_CloneInt x.Coeffs hl) rfl ?_ | refine call_of (k_CloneInt x.Coeffs hl) rfl ?_
  rintro r rfl
  simp [rULin]

theorem ks_l4Copy (x : DLin) (hl : x.Coeffs.length ≤ 1048576) : Holds Tryz.prog 109 [.agg (rALin x)] (fun r => r = .agg (rULin x)) := by
  refine holds_of_run Tryz.func109 a109_ok rfl (by simp [a109]) ?_
  simp [a109, rALin, rULin]
  unfold LIM
  omega

def lin0 : DLin := ⟨0, []⟩
def optLin : Option DLin → AV
  | some l => .tup [.agg (rULin l), .bool true]
  | Option.none => .tup [.agg (rULin lin0), .bool false]
theorem optLin_eq (o : Option DLin) : optLin o = .tup [.agg (rULin (o.getD lin0)), .bool o.isSome] := by cases o <;> rfl
/-- The values of a combination, where there are any. -/
def combZ (a : DLin) (k : Int) (b : DLin) : List (Option Int) := List.zipWith (fun x y => scaledO x k y) a.Coeffs b.Coeffs
def combOk (a : DLin) (k : Int) (b : DLin) : Bool := (combZ a k b).all Option.isSome
def addScaled (a : DLin) (k : Int) (b : DLin) : Option DLin :=
  if okLin a a.Coeffs.length && okLin b a.Coeffs.length && okC k && (scaledO a.Const k b.Const).isSome && combOk a k b then
    some ⟨(scaledO a.Const k b.Const).getD 0, (combZ a k b).map (·.getD 0)⟩
  else Option.none

theorem okLin_len {l : DLin} {n : Int} (h : okLin l n = true) : (l.Coeffs.length : Int) = n ∧ 0 ≤ n ∧ n ≤ 8 := by
  unfold okLin at h
  simp [inR] at h
  omega

theorem comb_vals {a b : DLin} {k : Int} {vs : List Int} (hl : b.Coeffs.length = a.Coeffs.length) (hv : vs.length = a.Coeffs.length) (g : Int → Int → Int → Int) (hg : ∀ x y v, scaledO x k y = some v → g x k y = v)
    (hj : ∀ j (h : j < a.Coeffs.length) (h' : j < b.Coeffs.length), vs[j]? = some (g a.Coeffs[j] k b.Coeffs[j])) (hZ : (combZ a k b).all Option.isSome = true) : vs = (combZ a k b).map (·.getD 0) := by
  refine List.ext_getElem (by simp [combZ, hv, hl]) fun j h1 h2 => ?_
  have h3 : j < a.Coeffs.length := by omega
  have h4 : j < b.Coeffs.length := by omega
  have h5 := hj j h3 h4
  rw [List.getElem?_eq_getElem h1] at h5
  rw [Option.some.inj h5, List.getElem_map]
  have h6 : (combZ a k b)[j]'(by simpa using h2) = scaledO a.Coeffs[j] k b.Coeffs[j] := by simp [combZ]
  rw [h6]
  have h7 := List.all_eq_true.1 hZ _ (List.getElem_mem (by simpa using h2 : j < (combZ a k b).length))
  rw [h6] at h7
  obtain ⟨v, hv'⟩ := Option.isSome_iff_exists.1 h7
  rw [hg _ _ _ hv', hv']; rfl

end Go.Proofs.YtlbdgpkgmheikaaGreat
