/- Draws: what the cursor gives. -/
import Derived.Test.YtoejpoioleffpaaZ0
import Derived.Test.YtoejpoioleffpaaR49
namespace Go.Proofs.Ytoejpoioleffpaa
set_option linter.all false
open Go Go.RowKit Go.Proofs
def a22 : AFn :=
⟨37, [(.t 4)], (.seq 
 (.reg [⟨some 4, (.mv (.k (.int .i64 0))), no⟩]) (.seq (.seq 
 (.reg [⟨some 9, (.mv (.t 1)), no⟩, ⟨some 10, (.bin .leq (.t 9) (.k (.int .i64 0))), no⟩]) (.cond (.t 10) (.seq 
 (.reg [⟨some 4, (.mv (.k (.int .i64 0))), no⟩]) .ret) .skip)) (.seq (.seq 
 (.reg [⟨some 11, (.mv (.t 1)), no⟩, ⟨some 12, (.bin .leq (.t 11) (.k (.int .i64 256))), no⟩]) (.cond (.t 12) (.seq 
 (.reg [⟨some 13, (.mv (.t 0)), no⟩, ⟨some 14, (.call (.k (.fn (.func 53) [] [])) [(.t 13)]), no⟩, ⟨some 15, (.mv (.t 1)), no⟩, ⟨some 16, (.bin .rem (.t 14) (.t 15)), no⟩, ⟨some 4, (.mv (.t 16)), no⟩]) .ret) .skip)) (.seq 
 (.reg [⟨some 17, (.mv (.t 0)), no⟩, ⟨some 18, (.call (.k (.fn (.func 53) [] [])) [(.t 17)]), no⟩, ⟨some 5, (.mv (.t 18)), no⟩]) (.seq 
 (.reg [⟨some 19, (.mv (.t 0)), no⟩, ⟨some 20, (.call (.k (.fn (.func 53) [] [])) [(.t 19)]), no⟩, ⟨some 6, (.mv (.t 20)), no⟩]) (.seq 
 (.reg [⟨some 21, (.mv (.t 0)), no⟩, ⟨some 22, (.call (.k (.fn (.func 53) [] [])) [(.t 21)]), no⟩, ⟨some 7, (.mv (.t 22)), no⟩]) (.seq 
 (.reg [⟨some 23, (.mv (.t 0)), no⟩, ⟨some 24, (.call (.k (.fn (.func 53) [] [])) [(.t 23)]), no⟩, ⟨some 8, (.mv (.t 24)), no⟩]) (.seq 
 (.reg [⟨some 25, (.mv (.t 5)), no⟩, ⟨some 26, (.bin .mul (.t 25) (.k (.int .i64 16777216))), no⟩, ⟨some 27, (.mv (.t 6)), no⟩, ⟨some 28, (.bin .mul (.t 27) (.k (.int .i64 65536))), no⟩, ⟨some 29, (.bin .add (.t 26) (.t 28)), no⟩, ⟨some 30, (.mv (.t 7)), no⟩, ⟨some 31, (.bin .mul (.t 30) (.k (.int .i64 256))), no⟩, ⟨some 32, (.bin .add (.t 29) (.t 31)), no⟩, ⟨some 33, (.mv (.t 8)), no⟩, ⟨some 34, (.bin .add (.t 32) (.t 33)), no⟩, ⟨some 35, (.mv (.t 1)), no⟩, ⟨some 36, (.bin .rem (.t 34) (.t 35)), no⟩, ⟨some 4, (.mv (.t 36)), no⟩]) .ret))))))))⟩
theorem a22_ok : compFn Try.prog Try.f22 = some a22 := by kernel_rfl

def a24 : AFn :=
⟨9, [(.t 4)], (.seq 
 (.reg [⟨some 4, (.mv (.k (.bool false))), no⟩]) (.seq 
 (.reg [⟨some 5, (.mv (.t 0)), no⟩, ⟨some 6, (.mv (.t 1)), no⟩, ⟨some 7, (.call (.k (.fn (.func 22) [] [])) [(.t 5), (.t 6)]), no⟩, ⟨some 8, (.bin .eql (.t 7) (.k (.int .i64 0))), no⟩, ⟨some 4, (.mv (.t 8)), no⟩]) .ret))⟩
theorem a24_ok : compFn Try.prog Try.f24 = some a24 := by kernel_rfl

def a66 : AFn :=
⟨12, [(.t 4)], (.seq 
 (.reg [⟨some 4, (.mv (.k (.int .i64 0))), no⟩]) (.seq 
 (.reg [⟨some 5, (.mv (.t 1)), no⟩, ⟨some 6, (.mv (.t 0)), no⟩, ⟨some 7, (.mv (.t 1)), no⟩, ⟨some 8, (.len false (.t 7)), no⟩, ⟨some 9, (.call (.k (.fn (.func 22) [] [])) [(.t 6), (.t 8)]), no⟩, ⟨some 10, (.ixa 1 (.t 5) (.t 9)), no⟩, ⟨some 11, (.ld false 1 (.t 10)), no⟩, ⟨some 4, (.mv (.t 11)), no⟩]) .ret))⟩
theorem a66_ok : compFn Try.prog Try.f66 = some a66 := by kernel_rfl

def a54 : AFn :=
⟨6, [(.t 2)], (.seq 
 (.reg [⟨some 2, (.mv (.k (.int .i64 0))), no⟩]) (.seq 
 (.reg [⟨some 3, (.mv (.t 0)), no⟩, ⟨some 4, (.bsl 1 [(.k (.int .i64 0)), (.k (.int .i64 0)), (.k (.int .i64 1)), (.k (.int .i64 (-1))), (.k (.int .i64 1)), (.k (.int .i64 2)), (.k (.int .i64 (-2))), (.k (.int .i64 3))]), no⟩, ⟨some 5, (.call (.k (.fn (.func 66) [] [])) [(.t 3), (.t 4)]), no⟩, ⟨some 2, (.mv (.t 5)), no⟩]) .ret))⟩
theorem a54_ok : compFn Try.prog Try.f54 = some a54 := by kernel_rfl

def a52 : AFn :=
⟨6, [(.t 2)], (.seq 
 (.reg [⟨some 2, (.mv (.k (.int .i64 0))), no⟩]) (.seq 
 (.reg [⟨some 3, (.mv (.t 0)), no⟩, ⟨some 4, (.bsl 1 [(.k (.int .i64 0)), (.k (.int .i64 1)), (.k (.int .i64 (-1))), (.k (.int .i64 2)), (.k (.int .i64 5)), (.k (.int .i64 (-6))), (.k (.int .i64 12)), (.k (.int .i64 1000000)), (.k (.int .i64 (-1000001))), (.k (.int .i64 1000000000)), (.k (.int .i64 (-1000000000))), (.k (.int .i64 1000000001)), (.k (.int .i64 40000)), (.k (.int .i64 9223372036854775807)), (.k (.int .i64 (-9223372036854775808)))]), no⟩, ⟨some 5, (.call (.k (.fn (.func 66) [] [])) [(.t 3), (.t 4)]), no⟩, ⟨some 2, (.mv (.t 5)), no⟩]) .ret))⟩
theorem a52_ok : compFn Try.prog Try.f52 = some a52 := by kernel_rfl


def lcgA : Int := 6364136223846793005
def lcgC : Int := 1442695040888963407
def lb0 : AC := (.reg [⟨some 2, (.mv (.k (.int .i64 0))), no⟩])
def lb1 : AC := (.reg [⟨some 4, (.mv (.t 0)), no⟩, ⟨some 5, (.mv (.t 0)), no⟩, ⟨some 6, (.nchk (.t 5)), no⟩, ⟨some 7, (.fld 2 (.t 6)), no⟩, ⟨some 8, (.ld false 1 (.t 7)), no⟩, ⟨some 9, (.bin .mul (.t 8) (.k (.int .i64 lcgA))), no⟩, ⟨some 10, (.bin .add (.t 9) (.k (.int .i64 lcgC))), no⟩, ⟨some 11, (.nchk (.t 4)), no⟩, ⟨some 12, (.fld 2 (.t 11)), no⟩, ⟨no, (.st 1 (.t 12) (.t 10)), no⟩])
def lb2 : AC := (.draw (.op ⟨some 13, (.mv (.t 0)), no⟩ (.op ⟨some 14, (.nchk (.t 13)), no⟩ (.op ⟨some 15, (.fld 2 (.t 14)), no⟩ (.op ⟨some 16, (.ld false 1 (.t 15)), no⟩ (.op ⟨some 17, (.shr (.t 16) 33), no⟩ (.op ⟨some 18, (.mv (.t 0)), no⟩ (.op ⟨some 19, (.nchk (.t 18)), no⟩ (.op ⟨some 20, (.fld 2 (.t 19)), no⟩ (.op ⟨some 21, (.ld false 1 (.t 20)), no⟩ (.op ⟨some 22, (.shr (.t 21) 45), no⟩ (.op ⟨some 23, (.bin .xor (.t 17) (.t 22)), no⟩ (.op ⟨some 24, (.bin .and (.t 23) (.k (.int .i64 255))), no⟩ (.op ⟨some 3, (.mv (.t 24)), no⟩ .fin))))))))))))))
def lbc : AC := (.draw (.op ⟨some 25, (.mv (.t 0)), no⟩ (.op ⟨some 26, (.nchk (.t 25)), no⟩ (.op ⟨some 27, (.fld 1 (.t 26)), no⟩ (.op ⟨some 28, (.ld false 1 (.t 27)), no⟩ (.op ⟨some 29, (.mv (.t 0)), no⟩ (.op ⟨some 30, (.nchk (.t 29)), no⟩ (.op ⟨some 31, (.fld 0 (.t 30)), no⟩ (.op ⟨some 32, (.ld false 1 (.t 31)), no⟩ (.op ⟨some 33, (.len false (.t 32)), no⟩ (.op ⟨some 34, (.bin .lss (.t 28) (.t 33)), no⟩ .fin)))))))))))
def lbx : AC := (.draw (.op ⟨some 35, (.mv (.t 3)), no⟩ (.op ⟨some 36, (.mv (.t 0)), no⟩ (.op ⟨some 37, (.nchk (.t 36)), no⟩ (.op ⟨some 38, (.fld 0 (.t 37)), no⟩ (.op ⟨some 39, (.ld false 1 (.t 38)), no⟩ (.op ⟨some 40, (.mv (.t 0)), no⟩ (.op ⟨some 41, (.nchk (.t 40)), no⟩ (.op ⟨some 42, (.fld 1 (.t 41)), no⟩ (.op ⟨some 43, (.ld false 1 (.t 42)), no⟩ (.op ⟨some 44, (.ixa 1 (.t 39) (.t 43)), no⟩ (.op ⟨some 45, (.ld false 1 (.t 44)), no⟩ (.op ⟨some 46, (.cvi .i64 (.t 45)), no⟩ (.op ⟨some 47, (.bin .add (.t 35) (.t 46)), no⟩ (.op ⟨some 48, (.bin .and (.t 47) (.k (.int .i64 255))), no⟩ (.hop ⟨some 3, (.mv (.t 48)), no⟩ [] .fin))))))))))))))))
def lby : AC := (.reg [⟨some 49, (.mv (.t 0)), no⟩, ⟨some 50, (.mv (.t 0)), no⟩, ⟨some 51, (.nchk (.t 50)), no⟩, ⟨some 52, (.fld 1 (.t 51)), no⟩, ⟨some 53, (.ld false 1 (.t 52)), no⟩, ⟨some 54, (.bin .add (.t 53) (.k (.int .i64 1))), no⟩, ⟨some 55, (.nchk (.t 49)), no⟩, ⟨some 56, (.fld 1 (.t 55)), no⟩, ⟨no, (.st 1 (.t 56) (.t 54)), no⟩])
def lb3 : AC := (.seq lbc (.cond (.t 34) (.seq lbx lby) .skip))
def lb4 : AC := (.reg [⟨some 57, (.mv (.t 3)), no⟩, ⟨some 2, (.mv (.t 57)), no⟩])
def a53 : AFn := ⟨58, [(.t 2)], (.seq lb0 (.seq lb1 (.seq lb2 (.seq lb3 (.seq lb4 .ret)))))⟩
theorem a53_ok : compFn Try.prog Try.f53 = some a53 := by kernel_rfl


set_option maxRecDepth 20000
set_option maxHeartbeats 2000000
section
variable {l : List UInt8} {h : Heap} {n id : Nat} {c : List AV} {K : AV → Heap → Nat → Prop}
theorem codeR_len : (codeR l).length = l.length := by simp [codeR]
theorem c_l1Byte (hid : h id = curB c) (hc : CurC (codeR l) c) (hK : ∀ (x : Int) c', 0 ≤ x → x < 256 → CurC (codeR l) c' → K (i64 x) (upd h id (curB c')) n) : ACall Try.prog 53 [.ptr id 0 0] h n K := by
  obtain ⟨hlim, i, hh, h0, h1, rfl⟩ := hc
  have hid' : h id = some ⟨true, 3, [[.sl 1 (codeR l), .int .i64 i, .int .i64 hh]]⟩ := hid
  rw [codeR_len] at h1 hlim
  unfold LIM at hlim
  refine acall_body Try.func53 a53_ok rfl (by simp [a53]) ?_
  simp [a53, lb0]
  generalize hh2 : IntKind.i64.wrap (IntKind.i64.wrap (hh * lcgA) + lcgC) = h2
  refine rK_cutH [0] (fun _ h' n' => n' = n ∧ h' = upd h id (curB [.sl 1 (codeR l), .int .i64 i, .int .i64 h2])) ?_ ?_
  · simp [lb1, hid', hh2, curB]
  rintro s1 _ _ hk1 ⟨rfl, rfl⟩
  simp at hk1
  refine rC_cut [0] (fun s => ∃ x : Int, s 3 = i64 x ∧ 0 ≤ x ∧ x < 256) ?_ ?_
  · simp [lb2, hk1, curB]
    exact bits_255 _
  rintro s2 hk2 ⟨x, s3, x0, x1⟩
  simp at hk2
  refine rC_seqI ?_
  simp only [lb3]
  refine rC_cut [0, 3] (fun s => s 34 = .bool (decide (i < (l.length : Int)))) ?_ ?_
  · simp [lbc, hk2, hk1, curB, codeR_len]
  intro s4 hk3 s34
  simp at hk3
  by_cases hlt : i < (l.length : Int)
  · obtain ⟨m, rfl⟩ : ∃ m : Nat, i = m := ⟨i.toNat, by omega⟩
    have hm : m < l.length := by omega
    have hg : (codeR l)[m]'(by rw [codeR_len]; exact hm) = [.int .u8 (l[m]).toNat] := by simp [codeR]
    rw [rC_cond]
    simp [s34, hm]
    refine rK_cut [0] (fun s => ∃ x : Int, s 3 = i64 x ∧ 0 ≤ x ∧ x < 256) ?_ ?_
    · simp [lbx, hk3, hk2, hk1, s3, curB, codeR_len, hm, hg]
      exact bits_255 _
    rintro s5 hk5 ⟨y, t3, y0, y1⟩
    simp at hk5
    have hw : IntKind.i64.wrap ((m : Int) + 1) = ((m + 1 : Nat) : Int) := by rw [wrap64 (by omega)]; rfl
    simp [lby, lb4, hk5, hk3, hk2, hk1, curB, t3, hw]
    exact hK y [.sl 1 (codeR l), .int .i64 ((m + 1 : Nat) : Int), .int .i64 h2] y0 y1 ⟨by rw [codeR_len]; unfold LIM; omega, _, h2, by omega, by rw [codeR_len]; omega, rfl⟩
  · rw [rC_cond]
    simp [s34, hlt]
    simp [lb4, hk3, s3]
    exact hK x [.sl 1 (codeR l), .int .i64 i, .int .i64 h2] x0 x1 ⟨by rw [codeR_len]; unfold LIM; omega, i, h2, h0, by rw [codeR_len]; exact h1, rfl⟩
theorem mod_in {x m : Int} (hx : 0 ≤ x) (hm : 0 < m) : 0 ≤ x.tmod m ∧ x.tmod m < m := ⟨Int.tmod_nonneg m hx, Int.tmod_lt_of_pos x hm⟩
theorem c_l1Below {m : Int} (hm : m ≤ 9223372036854775807) (hid : h id = curB c) (hc : CurC (codeR l) c) (hK : ∀ (x : Int) c', (0 < m → 0 ≤ x ∧ x < m) → (m ≤ 0 → x = 0) → CurC (codeR l) c' → K (i64 x) (upd h id (curB c')) n) : ACall Try.prog 22 [.ptr id 0 0, i64 m] h n K := by
  refine acall_body Try.func22 a22_ok rfl (by simp [a22]) ?_
  simp [a22, lb0]
  refine ⟨fun hm0 => ?_, fun hm0 => ?_⟩
  · have := hK 0 c (fun h => by omega) (fun _ => rfl) hc
    have e : upd h id (curB c) = h := by rw [← hid]; funext k; simp only [upd]; split <;> simp_all
    rw [e] at this
    exact this
  · have hne : ¬ m = 0 := by omega
    refine ⟨fun h256 => ?_, fun h256 => ?_⟩
    · refine c_l1Byte hid hc fun x c' x0 x1 hc' => ?_
      simp [hne]
      exact hK _ c' (fun _ => mod_in x0 hm0) (fun h => by omega) hc'
    · refine c_l1Byte hid hc fun x c1 x0 x1 hc1 => ?_
      simp
      refine c_l1Byte (c := c1) (by simp) hc1 fun y c2 y0 y1 hc2 => ?_
      simp
      refine c_l1Byte (c := c2) (by simp) hc2 fun z c3 z0 z1 hc3 => ?_
      simp
      refine c_l1Byte (c := c3) (by simp) hc3 fun w c4 w0 w1 hc4 => ?_
      simp [hne]
      rw [wrap64 (x := x * 16777216) (by omega), wrap64 (x := y * 65536) (by omega), wrap64 (x := z * 256) (by omega), wrap64 (x := x * 16777216 + y * 65536) (by omega), wrap64 (x := x * 16777216 + y * 65536 + z * 256) (by omega), wrap64 (by omega)]
      exact hK _ c4 (fun _ => mod_in (by omega) hm0) (fun h => by omega) hc4
theorem c_l1Once {m : Int} (hm : m ≤ 9223372036854775807) (hid : h id = curB c) (hc : CurC (codeR l) c) (hK : ∀ (b : Bool) c', CurC (codeR l) c' → K (.bool b) (upd h id (curB c')) n) : ACall Try.prog 24 [.ptr id 0 0, i64 m] h n K := by
  refine acall_body Try.func24 a24_ok rfl (by simp [a24]) ?_
  simp [a24]
  refine c_l1Below hm hid hc fun x c' _ _ hc' => ?_
  simp
  exact hK _ c' hc'
/-- A list that is handed over to be picked of. -/
theorem c_l1PickInt {xs : List Int} {k : Nat} (hxs : 0 < xs.length ∧ xs.length ≤ 1048576) (hk : h k = some ⟨false, 1, intsR xs⟩) (hki : ¬ k = id) (hid : h id = curB c) (hc : CurC (codeR l) c) (hK : ∀ x c', x ∈ xs → CurC (codeR l) c' → K (i64 x) (upd h id (curB c')) n) : ACall Try.prog 66 [.ptr id 0 0, .ref k 0 xs.length] h n K := by
  refine acall_body Try.func66 a66_ok rfl (by simp [a66]) ?_
  simp [a66, hk]
  intro _
  refine c_l1Below (by omega) hid hc fun x c' hx _ hc' => ?_
  have hx := hx (by omega)
  obtain ⟨m, rfl⟩ : ∃ m : Nat, x = m := ⟨x.toNat, by omega⟩
  have hm : m < xs.length := by omega
  simp [hki, hk, hm]
  exact hK _ c' (List.getElem_mem hm) hc'
theorem c_l4Small (hid : h id = curB c) (hc : CurC (codeR l) c) (hK : ∀ x c', CurC (codeR l) c' → K (i64 x) (upd h id (curB c')) n) : ACall Try.prog 54 [.ptr id 0 0] h n K := by
  refine acall_curS (code := codeR l) (by rfl) hid fun hlt => ?_
  have ne : ¬ n = id ∧ ¬ id = n := by omega
  refine acall_body Try.func54 a54_ok rfl (by simp [a54]) ?_
  simp [a54]
  refine c_l1PickInt (xs := [0, 0, 1, -1, 1, 2, -2, 3]) (by decide) (by simp [intsR]) (by omega) (by simpa [ne] using hid) hc fun x c' _ hc' => ?_
  simp [scal1, ne]
  exact ⟨c', hc', rfl, fun i hi hne => by simp [hne, show ¬ i = n by omega], hK _ c' hc'⟩
theorem c_l3Any (hid : h id = curB c) (hc : CurC (codeR l) c) (hK : ∀ x c', CurC (codeR l) c' → K (i64 x) (upd h id (curB c')) n) : ACall Try.prog 52 [.ptr id 0 0] h n K := by
  refine acall_curS (code := codeR l) (by rfl) hid fun hlt => ?_
  have ne : ¬ n = id ∧ ¬ id = n := by omega
  refine acall_body Try.func52 a52_ok rfl (by simp [a52]) ?_
  simp [a52]
  refine c_l1PickInt (xs := [0, 1, -1, 2, 5, -6, 12, 1000000, -1000001, 1000000000, -1000000000, 1000000001, 40000, 9223372036854775807, -9223372036854775808]) (by decide) (by simp [intsR]) (by omega) (by simpa [ne] using hid) hc fun x c' _ hc' => ?_
  simp [scal1, ne]
  exact ⟨c', hc', rfl, fun i hi hne => by simp [hne, show ¬ i = n by omega], hK _ c' hc'⟩
end
end Go.Proofs.Ytoejpoioleffpaa
