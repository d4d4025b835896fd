/- Draws: expressions. -/
import Derived.Test.YtoejpoioleffpaaZ1
namespace Go.Proofs.Ytoejpoioleffpaa
set_option linter.all false
open Go Go.RowKit Go.Proofs
def a20 : AFn :=
⟨32, [(.t 2)], (.seq 
 (.reg [⟨some 2, (.mv (.k .nilp)), no⟩]) (.seq 
 (.reg [⟨some 5, (.mv (.t 0)), no⟩, ⟨some 6, (.len false (.t 5)), no⟩, ⟨some 7, (.bin .add (.k (.int .i64 26583)) (.t 6)), no⟩, ⟨some 3, (.mv (.t 7)), no⟩]) (.seq (.seq 
 (.reg [⟨some 4, (.mv (.k (.int .i64 0))), no⟩]) (.blk 0 (.loop (.seq (.seq 
 (.reg [⟨some 8, (.mv (.t 4)), no⟩, ⟨some 9, (.mv (.t 0)), no⟩, ⟨some 10, (.len false (.t 9)), no⟩, ⟨some 11, (.bin .lss (.t 8) (.t 10)), no⟩, ⟨some 12, (.mv (.t 11)), no⟩, ⟨some 13, (.mv (.t 4)), (some (12, true))⟩, ⟨some 14, (.bin .lss (.t 13) (.k (.int .i64 4000))), (some (12, true))⟩, ⟨some 15, (.pick (.t 12) (.t 14) (.k (.bool false))), no⟩]) (.cond (.t 15) .skip (.exit 0))) (.seq (.blk 1 
 (.reg [⟨some 18, (.mv (.t 3)), no⟩, ⟨some 19, (.bin .mul (.t 18) (.k (.int .i64 131))), no⟩, ⟨some 20, (.mv (.t 0)), no⟩, ⟨some 21, (.mv (.t 4)), no⟩, ⟨some 22, (.ixa 1 (.t 20) (.t 21)), no⟩, ⟨some 23, (.ld false 1 (.t 22)), no⟩, ⟨some 24, (.cvi .i64 (.t 23)), no⟩, ⟨some 25, (.bin .add (.t 19) (.t 24)), no⟩, ⟨some 26, (.bin .add (.t 25) (.k (.int .i64 7))), no⟩, ⟨some 27, (.bin .and (.t 26) (.k (.int .i64 1073741823))), no⟩, ⟨some 3, (.mv (.t 27)), no⟩])) 
 (.reg [⟨some 16, (.mv (.t 4)), no⟩, ⟨some 17, (.bin .add (.t 16) (.k (.int .i64 1))), no⟩, ⟨some 4, (.mv (.t 17)), no⟩])))))) (.seq 
 (.reg [⟨some 28, (.mv (.t 0)), no⟩, ⟨some 29, (.mv (.t 3)), no⟩, ⟨some 30, (.build [(.nil 1), (.int .i64 0), (.int .i64 0)] [(0, (1, (.t 28))), (2, (1, (.t 29)))]), no⟩, ⟨some 31, (.boxv (.t 30)), no⟩, ⟨some 2, (.mv (.t 31)), no⟩]) .ret))))⟩
theorem a20_ok : compFn Try.prog Try.f20 = some a20 := by kernel_rfl


def ld0 : AC := (.reg [⟨some 4, (.box [(.int .i64 0), (.nil 1)]), no⟩])
def ld1 : AC := (.draw (.op ⟨some 7, (.mv (.t 0)), no⟩ (.op ⟨some 10, (.mv (.t 1)), no⟩ (.both (.hop ⟨some 8, (.call (.k (.fn (.func 22) [] [])) [(.t 7), (.k (.int .i64 9))]), no⟩ [] (.op ⟨some 9, (.bin .sub (.t 8) (.k (.int .i64 4))), no⟩ (.both (.op ⟨some 11, (.mks 8 [(.int .i64 0)] (.t 10) (.t 10)), no⟩ (.op ⟨some 12, (.build [(.int .i64 0), (.nil 1)] [(0, (1, (.t 9))), (1, (1, (.t 11)))]), no⟩ (.op ⟨some 5, (.box [(.int .i64 0), (.nil 1)]), no⟩ (.hop ⟨no, (.st 2 (.t 5) (.t 12)), no⟩ [] .fin)))) (.op ⟨some 5, (.box [(.int .i64 0), (.nil 1)]), no⟩ (.op ⟨some 11, (.mks 8 [(.int .i64 0)] (.t 10) (.t 10)), no⟩ (.op ⟨some 12, (.build [(.int .i64 0), (.nil 1)] [(0, (1, (.t 9))), (1, (1, (.t 11)))]), no⟩ (.hop ⟨no, (.st 2 (.t 5) (.t 12)), no⟩ [] .fin))))))) (.both (.op ⟨some 11, (.mks 8 [(.int .i64 0)] (.t 10) (.t 10)), no⟩ (.both (.hop ⟨some 8, (.call (.k (.fn (.func 22) [] [])) [(.t 7), (.k (.int .i64 9))]), no⟩ [] (.op ⟨some 9, (.bin .sub (.t 8) (.k (.int .i64 4))), no⟩ (.op ⟨some 12, (.build [(.int .i64 0), (.nil 1)] [(0, (1, (.t 9))), (1, (1, (.t 11)))]), no⟩ (.op ⟨some 5, (.box [(.int .i64 0), (.nil 1)]), no⟩ (.hop ⟨no, (.st 2 (.t 5) (.t 12)), no⟩ [] .fin))))) (.op ⟨some 5, (.box [(.int .i64 0), (.nil 1)]), no⟩ (.hop ⟨some 8, (.call (.k (.fn (.func 22) [] [])) [(.t 7), (.k (.int .i64 9))]), no⟩ [] (.op ⟨some 9, (.bin .sub (.t 8) (.k (.int .i64 4))), no⟩ (.op ⟨some 12, (.build [(.int .i64 0), (.nil 1)] [(0, (1, (.t 9))), (1, (1, (.t 11)))]), no⟩ (.hop ⟨no, (.st 2 (.t 5) (.t 12)), no⟩ [] .fin))))))) (.op ⟨some 5, (.box [(.int .i64 0), (.nil 1)]), no⟩ (.both (.hop ⟨some 8, (.call (.k (.fn (.func 22) [] [])) [(.t 7), (.k (.int .i64 9))]), no⟩ [] (.op ⟨some 9, (.bin .sub (.t 8) (.k (.int .i64 4))), no⟩ (.op ⟨some 11, (.mks 8 [(.int .i64 0)] (.t 10) (.t 10)), no⟩ (.op ⟨some 12, (.build [(.int .i64 0), (.nil 1)] [(0, (1, (.t 9))), (1, (1, (.t 11)))]), no⟩ (.hop ⟨no, (.st 2 (.t 5) (.t 12)), no⟩ [] .fin))))) (.op ⟨some 11, (.mks 8 [(.int .i64 0)] (.t 10) (.t 10)), no⟩ (.hop ⟨some 8, (.call (.k (.fn (.func 22) [] [])) [(.t 7), (.k (.int .i64 9))]), no⟩ [] (.op ⟨some 9, (.bin .sub (.t 8) (.k (.int .i64 4))), no⟩ (.op ⟨some 12, (.build [(.int .i64 0), (.nil 1)] [(0, (1, (.t 9))), (1, (1, (.t 11)))]), no⟩ (.hop ⟨no, (.st 2 (.t 5) (.t 12)), no⟩ [] .fin))))))))))))
def ld2 : AC := (.seq  (.reg [⟨some 6, (.mv (.k (.int .i64 0))), no⟩]) (.blk 0 (.loop (.seq (.seq  (.reg [⟨some 13, (.mv (.t 6)), no⟩, ⟨some 14, (.mv (.t 1)), no⟩, ⟨some 15, (.bin .lss (.t 13) (.t 14)), no⟩]) (.cond (.t 15) .skip (.exit 0))) (.seq (.blk 1 (.draw (.op ⟨some 18, (.fld 1 (.t 5)), no⟩ (.op ⟨some 19, (.ld false 1 (.t 18)), no⟩ (.op ⟨some 20, (.mv (.t 6)), no⟩ (.op ⟨some 21, (.mv (.t 0)), no⟩ (.hop ⟨some 22, (.call (.k (.fn (.func 54) [] [])) [(.t 21)]), no⟩ [(.ld false 1 (.t 18)), (.fld 1 (.t 5))] (.op ⟨some 23, (.ixa 1 (.t 19) (.t 20)), no⟩ (.hop ⟨no, (.st 1 (.t 23) (.t 22)), no⟩ [] .fin)))))))))  (.reg [⟨some 16, (.mv (.t 6)), no⟩, ⟨some 17, (.bin .add (.t 16) (.k (.int .i64 1))), no⟩, ⟨some 6, (.mv (.t 17)), no⟩]))))))
def ld3 : AC := (.reg [⟨some 24, (.ld true 2 (.t 5)), no⟩, ⟨no, (.st 2 (.t 4) (.t 24)), no⟩])
def a23 : AFn := ⟨25, [(.c 4 true 2)], (.seq ld0 (.seq ld1 (.seq ld2 (.seq ld3 .ret))))⟩
theorem a23_ok : compFn Try.prog Try.f23 = some a23 := by kernel_rfl

def lt0 : AC := (.reg [⟨some 2, (.box [(.int .i64 0), (.nil 1)]), no⟩])
def lt1 : AC := (.reg [⟨some 4, (.mv (.t 0)), no⟩, ⟨some 5, (.mv (.t 0)), no⟩, ⟨some 6, (.call (.k (.fn (.func 22) [] [])) [(.t 5), (.k (.int .i64 4))]), no⟩, ⟨some 7, (.call (.k (.fn (.func 23) [] [])) [(.t 4), (.t 6)]), no⟩, ⟨some 3, (.box [(.int .i64 0), (.nil 1)]), no⟩, ⟨no, (.st 2 (.t 3) (.t 7)), no⟩])
def lt2 : AC := (.seq  (.reg [⟨some 8, (.mv (.t 0)), no⟩, ⟨some 9, (.call (.k (.fn (.func 22) [] [])) [(.t 8), (.k (.int .i64 10))]), no⟩]) (.blk 0 (.seq  (.reg [⟨some 11, (.bin .eql (.t 9) (.k (.int .i64 0))), no⟩, ⟨some 10, (.mv (.t 11)), no⟩]) (.cond (.t 10)  (.reg [⟨some 12, (.mv (.t 0)), no⟩, ⟨some 13, (.call (.k (.fn (.func 52) [] [])) [(.t 12)]), no⟩, ⟨some 14, (.fld 0 (.t 3)), no⟩, ⟨no, (.st 1 (.t 14) (.t 13)), no⟩]) (.seq  (.reg [⟨some 16, (.bin .eql (.t 9) (.k (.int .i64 1))), no⟩, ⟨some 15, (.mv (.t 16)), no⟩]) (.cond (.t 15) (.draw (.op ⟨some 17, (.fld 1 (.t 3)), no⟩ (.op ⟨some 18, (.ld false 1 (.t 17)), no⟩ (.op ⟨some 19, (.mv (.t 0)), no⟩ (.hop ⟨some 20, (.call (.k (.fn (.func 52) [] [])) [(.t 19)]), no⟩ [(.ld false 1 (.t 17)), (.fld 1 (.t 3))] (.hop ⟨some 21, (.bsl 1 [(.t 20)]), no⟩ [(.ld false 1 (.t 17)), (.fld 1 (.t 3))] (.hop ⟨some 22, (.app 8 1 (.t 18) (.t 21)), no⟩ [] (.op ⟨some 23, (.fld 1 (.t 3)), no⟩ (.hop ⟨no, (.st 1 (.t 23) (.t 22)), no⟩ [] .fin))))))))) (.seq  (.reg [⟨some 25, (.bin .eql (.t 9) (.k (.int .i64 2))), no⟩, ⟨some 24, (.mv (.t 25)), no⟩]) (.cond (.t 24)  (.reg [⟨some 26, (.mks 8 [(.int .i64 0)] (.k (.int .i64 9)) (.k (.int .i64 9))), no⟩, ⟨some 27, (.fld 1 (.t 3)), no⟩, ⟨no, (.st 1 (.t 27) (.t 26)), no⟩]) .skip))))))))
def lt3 : AC := (.reg [⟨some 28, (.ld true 2 (.t 3)), no⟩, ⟨no, (.st 2 (.t 2) (.t 28)), no⟩])
def a21 : AFn := ⟨29, [(.c 2 true 2)], (.seq lt0 (.seq lt1 (.seq lt2 (.seq lt3 .ret))))⟩
theorem a21_ok : compFn Try.prog Try.f21 = some a21 := by kernel_rfl


set_option maxRecDepth 20000
set_option maxHeartbeats 2000000
/-- An expression in a box. -/
structure LinBox (b k : Nat) (d : DLin) (h : Heap) : Prop where
  hb : h b = some ⟨true, 2, [[.int .i64 d.Const, .ref k 0 d.Coeffs.length]]⟩
  hk : h k = some ⟨false, 1, intsR d.Coeffs⟩
section
variable {l : List UInt8} {h : Heap} {n id : Nat} {c : List AV} {K : AV → Heap → Nat → Prop}
theorem ld1_run {ks : List Kt} {s : Env} {Q : Fin} {m : Nat} (hm : m ≤ 1048576) (s0 : s 0 = .ptr id 0 0) (s1 : s 1 = i64 m) (hlt : id < n) (hid : h id = curB c) (hc : CurC (codeR l) c)
    (hK : ∀ s' h2 b k c1 x, s' 0 = s 0 → s' 1 = s 1 → s' 4 = s 4 → s' 5 = .ptr b 0 0 → LinBox b k ⟨x, List.replicate m 0⟩ h2 → CurC (codeR l) c1 → h2 id = curB c1 → n ≤ b → n ≤ k → ¬ b = k → b < n + 2 → k < n + 2 → (∀ i, i < n → ¬ i = id → h2 i = h i) → kont Try.prog ks .normal s' h2 (n + 2) Q) : rC Try.prog ld1 ks s h n Q := by
  have ne : ¬ n = id ∧ ¬ id = n ∧ ¬ n + 1 = id ∧ ¬ id = n + 1 ∧ ¬ n = n + 1 ∧ ¬ n + 1 = n := by omega
  have hb : (m : Int) * 8 ≤ LIM := by unfold LIM; omega
  have fin1 : ∀ s' (x : Int) c1 n', n' = n + 2 → CurC (codeR l) c1 → s' 0 = s 0 → s' 1 = s 1 → s' 4 = s 4 → s' 5 = .ptr (n + 1) 0 0 → ∀ h2, h2 (n + 1) = some ⟨true, 2, [[.int .i64 x, .ref n 0 m]]⟩ → h2 n = some ⟨false, 1, List.replicate m [.int .i64 0]⟩ → h2 id = curB c1 → (∀ i, i < n → ¬ i = id → h2 i = h i) → kont Try.prog ks .normal s' h2 n' Q := by
    rintro s' x c1 n' rfl k1 k2 k3 k4 k5 h2 k6 k7 k8 k9
    exact hK s' h2 (n + 1) n c1 x k2 k3 k4 k5 ⟨by simpa using k6, by simpa [intsR] using k7⟩ k1 k8 (by omega) (by omega) (by omega) (by omega) (by omega) k9
  have fin2 : ∀ s' (x : Int) c1 n', n' = n + 2 → CurC (codeR l) c1 → s' 0 = s 0 → s' 1 = s 1 → s' 4 = s 4 → s' 5 = .ptr n 0 0 → ∀ h2, h2 n = some ⟨true, 2, [[.int .i64 x, .ref (n + 1) 0 m]]⟩ → h2 (n + 1) = some ⟨false, 1, List.replicate m [.int .i64 0]⟩ → h2 id = curB c1 → (∀ i, i < n → ¬ i = id → h2 i = h i) → kont Try.prog ks .normal s' h2 n' Q := by
    rintro s' x c1 n' rfl k1 k2 k3 k4 k5 h2 k6 k7 k8 k9
    exact hK s' h2 n (n + 1) c1 x k2 k3 k4 k5 ⟨by simpa using k6, by simpa [intsR] using k7⟩ k1 k8 (by omega) (by omega) (by omega) (by omega) (by omega) k9
  clear hK
  have fr : ∀ i, i < n → ¬ i = n ∧ ¬ i = n + 1 := fun i _ => by omega
  simp [ld1, s0, s1, hb]
  refine ⟨?_, ⟨?_, ?_⟩, ?_, ?_⟩
  all_goals refine c_l1Below (l := l) (c := c) (by omega) (by simp [ne, hid]) hc fun x c1 _ _ hc1 => ?_
  all_goals simp [hb, ne, s1]
  case refine_1 =>
    exact ⟨fin1 _ (IntKind.i64.wrap (x - 4)) c1 _ rfl hc1 (by simp) (by simp) (by simp) (by simp) _ (by simp) (by simp [ne]) (by simp [ne]) (fun i hi hne => by simp [fr i hi, hne]),
      fin2 _ (IntKind.i64.wrap (x - 4)) c1 _ rfl hc1 (by simp) (by simp) (by simp) (by simp) _ (by simp) (by simp [ne]) (by simp [ne]) (fun i hi hne => by simp [fr i hi, hne])⟩
  case refine_2 => exact fin1 _ (IntKind.i64.wrap (x - 4)) c1 _ rfl hc1 (by simp) (by simp) (by simp) (by simp) _ (by simp) (by simp [ne]) (by simp [ne]) (fun i hi hne => by simp [fr i hi, hne])
  case refine_3 => exact fin1 _ (IntKind.i64.wrap (x - 4)) c1 _ rfl hc1 (by simp) (by simp) (by simp) (by simp) _ (by simp) (by simp [ne]) (by simp [ne]) (fun i hi hne => by simp [fr i hi, hne])
  case refine_4 => exact fin2 _ (IntKind.i64.wrap (x - 4)) c1 _ rfl hc1 (by simp) (by simp) (by simp) (by simp) _ (by simp) (by simp [ne]) (by simp [ne]) (fun i hi hne => by simp [fr i hi, hne])
  case refine_5 => exact fin2 _ (IntKind.i64.wrap (x - 4)) c1 _ rfl hc1 (by simp) (by simp) (by simp) (by simp) _ (by simp) (by simp [ne]) (by simp [ne]) (fun i hi hne => by simp [fr i hi, hne])
theorem ld2_run {ks : List Kt} {s : Env} {Q : Fin} {m b k N : Nat} {d : DLin} (hm : m ≤ 1048576) (hd : d.Coeffs.length = m) (s0 : s 0 = .ptr id 0 0) (s1 : s 1 = i64 m) (s5 : s 5 = .ptr b 0 0) (L : LinBox b k d h) (hid : h id = curB c) (hc : CurC (codeR l) c)
    (hne : ¬ b = id ∧ ¬ k = id ∧ ¬ b = k ∧ b < n ∧ k < n ∧ id < n ∧ N ≤ b ∧ N ≤ k)
    (hK : ∀ s' h2 (d' : DLin) c1, d'.Coeffs.length = m → s' 4 = s 4 → s' 5 = s 5 → LinBox b k d' h2 → CurC (codeR l) c1 → h2 id = curB c1 → (∀ i, ¬ i = b → ¬ i = k → ¬ i = id → h2 i = h i) → kont Try.prog ks .normal s' h2 n Q) : rC Try.prog ld2 ks s h n Q := by
  simp [ld2]
  refine rL_forO [0, 1, 4, 5] 6 m (fun i s h' n' => n' = n ∧ ∃ (d' : DLin) (c1 : List AV), d'.Coeffs.length = m ∧ LinBox b k d' h' ∧ CurC (codeR l) c1 ∧ h' id = curB c1 ∧ ∀ i, ¬ i = b → ¬ i = k → ¬ i = id → h' i = h i) (by unfold LIM; omega) (by simp) ⟨rfl, d, c, hd, L, hc, hid, fun _ _ _ _ => rfl⟩ ?_ ?_
  · rintro i st h' n' R hi hg hk s6 hw ⟨rfl, d', c1, k1, k2, k3, k4, k5⟩ hR _ _
    simp at hk
    have ne : ¬ b = id ∧ ¬ id = b ∧ ¬ k = id ∧ ¬ id = k ∧ ¬ b = k ∧ ¬ k = b := by omega
    have hi' : i < d'.Coeffs.length := by omega
    simp [hk, s6, s0, s1, s5, hi, k2.hb]
    refine c_l4Small (l := l) k4 k3 fun x c2 hc2 => ?_
    simp [hk, s6, s0, s1, s5, hi, hi', ne, k2.hb, k2.hk, hw]
    refine hR _ _ _ (by simp [hk]) (by simp) ⟨rfl, ⟨d'.Const, d'.Coeffs.set i x⟩, c2, by simpa using k1, ⟨by simp [ne, k2.hb], by simp [ne, intsR, List.map_set]⟩, hc2, by simp [ne], fun j j1 j2 j3 => by simp [j1, j2, j3, k5 j j1 j2 j3]⟩
  · rintro st h' n' R hk s6 ⟨rfl, d', c1, k1, k2, k3, k4, k5⟩ hret hX
    simp at hk
    simp [hk, s6, s1]
    refine hX _ _ _ _ ?_
    simp
    exact hK _ _ d' c1 k1 (by simp [hk]) (by simp [hk]) k2 k3 k4 k5
theorem c_l4Draw {m : Nat} (hm : m ≤ 1048576) (hid : h id = curB c) (hc : CurC (codeR l) c) (hK : ∀ (d : DLin) c', d.Coeffs.length = m → CurC (codeR l) c' → K (.agg [i64 d.Const, .ref n 0 m]) (upd (upd h id (curB c')) n (some ⟨false, 1, intsR d.Coeffs⟩)) (n + 1)) : ACall Try.prog 23 [.ptr id 0 0, i64 m] h n K := by
  refine acall_cur (code := codeR l) (by rfl) hid fun hlt hz => ?_
  refine acall_body Try.func23 a23_ok rfl (by simp [a23]) ?_
  simp [a23, ld0]
  have ne : ¬ n = id ∧ ¬ id = n := by omega
  refine ld1_run (l := l) (c := c) (id := id) hm (by simp) (by simp) (by omega) (by simp [ne, hid]) hc ?_
  intro s1 h2 b k c1 x e0 e1 e4 e5 L hc1 hid1 q1 q2 q3 q4 q5 fr1
  simp at e0 e1 e4
  simp
  refine ld2_run (l := l) (c := c1) (id := id) (N := n + 1) hm (by simp) e0 e1 e5 L hid1 hc1 (by omega) ?_
  intro s2 h3 d c2 hd e4' e5' L2 hc2 hid2 fr2
  rw [e4] at e4'
  rw [e5] at e5'
  have hn : h3 n = some ⟨true, 2, [[.int .i64 0, .nil 1]]⟩ := by rw [fr2 n (by omega) (by omega) (by omega), fr1 n (by omega) (by omega)]; simp
  have nb : ¬ b = n ∧ ¬ k = n ∧ ¬ n = k ∧ ¬ n = b := by omega
  simp [ld3, e4', e5', L2.hb, hn, nb]
  refine ⟨.agg (rULin d), [k], ?_, by simp, by simp; omega, by simp [rULin], c2, hc2, by simp [ne, hid2], ?_, ?_⟩
  · simp only [rULin, GR, GRl]
    exact ⟨_, rfl, _, _, [], [k], rfl, rfl, ⟨rfl, rfl⟩, _, [], [k], [], rfl, rfl, .inr ⟨k, [], by simp, rfl, .inl ⟨by simp [nb, L2.hk], rfl⟩⟩, rfl, rfl⟩
  · intro i hi hne
    simp [show ¬ i = n by omega]
    rw [fr2 i (by omega) (by omega) hne, fr1 i (by omega) hne]
    simp [show ¬ i = n by omega]
  · have := hK d c2 hd hc2
    simp [rULin]
    rw [hd]
    exact this
theorem c_l1New (hl : l.length ≤ 1048576) (hK : ∀ c', CurC (codeR l) c' → K (.ptr n 0 0) (upd h n (curB c')) (n + 1)) : ACall Try.prog 20 [.sl 1 (codeR l)] h n K := by
  refine acall_body Try.func20 a20_ok rfl (by simp [a20]) ?_
  simp [a20]
  intro _
  refine rL_forO [0] 4 (min l.length 4000) (fun i s h' n' => n' = n ∧ h' = h ∧ ∃ hh : Int, s 3 = i64 hh) (by unfold LIM; omega) (by simp) ⟨rfl, rfl, _, by simp; rfl⟩ ?_ ?_
  · rintro i st h' n' R hi hg hk s4 hw ⟨rfl, rfl, hh, s3⟩ hR _ _
    simp at hk
    have h1 : i < l.length := by omega
    have h2 : (i : Int) < 4000 := by omega
    have hg : (codeR l)[i]'(by rw [codeR_len]; exact h1) = [.int .u8 (l[i]).toNat] := by simp [codeR]
    refine rC_seqI (rC_cut [0, 3, 4] (fun s => s 15 = .bool true) ?_ ?_)
    · simp [hk, s4, codeR_len, h1, h2]
    intro s1 hk1 s15
    simp at hk1
    refine rC_pass1 s15 (rC_seqI (rC_blkI ?_))
    simp [hk1, hk, s4, s3, codeR_len, h1, hg, hw]
    exact hR _ _ _ (by simp [hk1, hk]) (by simp) ⟨rfl, rfl, _, by simp; rfl⟩
  · rintro st h' n' R hk s4 ⟨rfl, rfl, hh, s3⟩ hret hX
    simp at hk
    refine rC_seqI (rC_cut [0, 3] (fun s => s 15 = .bool false) ?_ ?_)
    · by_cases h1 : l.length < 4000
      · have e : min l.length 4000 = l.length := by omega
        rw [e] at s4
        simp [hk, s4, codeR_len]
      · have e : min l.length 4000 = 4000 := by omega
        rw [e] at s4
        by_cases h2 : l.length = 4000
        · simp [hk, s4, codeR_len, h2]
        · have h3 : (4000 : Int) < l.length := by omega
          simp [hk, s4, codeR_len, h3]
    intro s1 hk1 s15
    simp at hk1
    refine rC_stop1 s15 (hX _ _ _ _ ?_)
    simp [hk1, hk, s3]
    exact hK [.sl 1 (codeR l), .int .i64 0, .int .i64 hh] ⟨by rw [codeR_len]; unfold LIM; omega, 0, hh, by omega, by omega, rfl⟩
theorem lt2_run {ks : List Kt} {s : Env} {Q : Fin} {b k N : Nat} {d : DLin} (hd : d.Coeffs.length ≤ 8) (s0 : s 0 = .ptr id 0 0) (s3 : s 3 = .ptr b 0 0) (L : LinBox b k d h) (hid : h id = curB c) (hc : CurC (codeR l) c)
    (hne : ¬ b = id ∧ ¬ k = id ∧ ¬ b = k ∧ b < n ∧ k < n ∧ id < n ∧ N ≤ b ∧ N ≤ k ∧ N ≤ n)
    (hK : ∀ s' h2 (d' : DLin) k' n2 c1, d'.Coeffs.length ≤ 9 → s' 2 = s 2 → s' 3 = s 3 → LinBox b k' d' h2 → CurC (codeR l) c1 → h2 id = curB c1 → N ≤ k' → ¬ b = k' → (∀ i, i < n → ¬ i = b → ¬ i = k → ¬ i = id → h2 i = h i) → kont Try.prog ks .normal s' h2 n2 Q) : rC Try.prog lt2 ks s h n Q := by
  simp [lt2, s0]
  refine c_l1Below (l := l) (c := c) (by omega) hid hc fun x c1 _ _ hc1 => ?_
  have ne : ¬ b = id ∧ ¬ id = b ∧ ¬ k = id ∧ ¬ id = k ∧ ¬ b = k ∧ ¬ k = b ∧ ¬ n = id ∧ ¬ id = n ∧ ¬ b = n ∧ ¬ n = b ∧ ¬ k = n ∧ ¬ n = k ∧ ¬ n + 1 = b ∧ ¬ b = n + 1 ∧ ¬ n + 1 = k ∧ ¬ k = n + 1 ∧ ¬ n + 1 = id ∧ ¬ id = n + 1 := by omega
  have fr : ∀ i, i < n → ¬ i = n ∧ ¬ i = n + 1 := fun i _ => by omega
  simp [s0, s3, ne, L.hb]
  refine ⟨fun _ => ?_, fun _ => ⟨fun _ => ?_, fun _ => ⟨fun _ => ⟨by unfold LIM; omega, ?_⟩, fun _ => ?_⟩⟩⟩
  · refine c_l3Any (l := l) (c := c1) (by simp) hc1 fun y c2 hc2 => ?_
    simp [s3, ne, L.hb]
    exact hK _ _ ⟨y, d.Coeffs⟩ k n c2 (by simp; omega) (by simp) (by simp [s3]) ⟨by simp [ne], by simp [ne, L.hk]⟩ hc2 (by simp [ne]) hne.2.2.2.2.2.2.2.1 hne.2.2.1 (fun i hi h1 h2 h3 => by simp [h1, h3])
  · refine c_l3Any (l := l) (c := c1) (by simp) hc1 fun y c2 hc2 => ?_
    simp [s3, s0, ne, L.hb, L.hk]
    refine ⟨by unfold LIM; omega, ?_⟩
    have hN := hne.2.2.2.2.2.2.2.2
    refine hK _ _ ⟨d.Const, d.Coeffs ++ [y]⟩ (n + 1) _ c2 (by simp; omega) (by simp) (by simp [s3]) ⟨by simp [ne], by simp [ne, intsR]⟩ hc2 (by simp [ne]) (by omega) (by omega) (fun i hi h1 h2 h3 => by simp [h1, h2, h3, fr i hi])
  · have hN := hne.2.2.2.2.2.2.2.2
    exact hK _ _ ⟨d.Const, List.replicate 9 0⟩ n _ c1 (by simp) (by simp) (by simp [s3]) ⟨by simp [ne], by simp [ne, intsR, List.replicate]⟩ hc1 (by simp [ne]) hN (by omega) (fun i hi h1 h2 h3 => by simp [h1, h3, fr i hi])
  · exact hK _ _ d k n c1 (by omega) (by simp) (by simp) ⟨by simp [ne, L.hb], by simp [ne, L.hk]⟩ hc1 (by simp) hne.2.2.2.2.2.2.2.1 hne.2.2.1 (fun i hi h1 h2 h3 => by simp [h3])
theorem c_l4Bent (hid : h id = curB c) (hc : CurC (codeR l) c) (hK : ∀ (d : DLin) c', d.Coeffs.length ≤ 9 → CurC (codeR l) c' → K (.agg [i64 d.Const, .ref n 0 d.Coeffs.length]) (upd (upd h id (curB c')) n (some ⟨false, 1, intsR d.Coeffs⟩)) (n + 1)) : ACall Try.prog 21 [.ptr id 0 0] h n K := by
  refine acall_cur (code := codeR l) (by rfl) hid fun hlt hz => ?_
  refine acall_body Try.func21 a21_ok rfl (by simp [a21]) ?_
  have ne : ¬ n = id ∧ ¬ id = n ∧ ¬ n + 1 = id ∧ ¬ id = n + 1 ∧ ¬ n + 1 + 1 = id ∧ ¬ id = n + 1 + 1 := by omega
  simp [a21, lt0, lt1]
  refine c_l1Below (l := l) (c := c) (by omega) (by simp [ne, hid]) hc fun x c1 hx _ hc1 => ?_
  have hx := hx (by omega)
  obtain ⟨m, rfl⟩ : ∃ m : Nat, x = m := ⟨x.toNat, by omega⟩
  simp
  refine c_l4Draw (l := l) (c := c1) (by omega) (by simp) hc1 fun d c2 hd hc2 => ?_
  simp [ne]
  refine lt2_run (l := l) (c := c2) (id := id) (b := n + 2) (k := n + 1) (N := n) (d := d) (by omega) (by simp) (by simp) ⟨by simp [hd], by simp⟩ (by simp [ne]) hc2 (by omega) ?_
  intro s2 h2 d' k' n2 c3 hd' e2 e3 L hc3 hid3 hNk hbk fr
  simp at e2 e3
  have hn : h2 n = some ⟨true, 2, [[.int .i64 0, .nil 1]]⟩ := by rw [fr n (by omega) (by omega) (by omega) (by omega)]; simp [ne, show ¬ n = n + 1 + 1 by omega]
  have hkn : ¬ k' = n := by
    rintro rfl
    have := L.hk
    rw [hn] at this
    simp at this
  have nb : ¬ n = k' ∧ ¬ k' = n := by omega
  simp [lt3, e2, e3, L.hb, hn, nb]
  refine ⟨.agg (rULin d'), [k'], ?_, by simp, by simp; omega, by simp [rULin], c3, hc3, by simp [ne, hid3], ?_, ?_⟩
  · simp only [rULin, GR, GRl]
    exact ⟨_, rfl, _, _, [], [k'], rfl, rfl, ⟨rfl, rfl⟩, _, [], [k'], [], rfl, rfl, .inr ⟨k', [], by simp, rfl, .inl ⟨by simp [nb, L.hk], rfl⟩⟩, rfl, rfl⟩
  · intro i hi hne
    simp [show ¬ i = n by omega]
    rw [fr i (by omega) (by omega) (by omega) hne]
    simp [show ¬ i = n by omega, show ¬ i = n + 1 by omega, show ¬ i = n + 2 by omega, hne]
  · have := hK d' c3 hd' hc3
    simp [rULin]
    exact this
end
end Go.Proofs.Ytoejpoioleffpaa
