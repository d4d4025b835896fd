/- Draws: an expression and arguments. -/
import Derived.Test.YtoejpoioleffpaaZ2
namespace Go.Proofs.Ytoejpoioleffpaa
set_option linter.all false
open Go Go.RowKit Go.Proofs

def di0 : AC := (.reg [⟨some 2, (.box [(.int .i64 0), (.nil 1)]), no⟩, ⟨some 3, (.mv (.k (.nil 2))), no⟩])
def di1 : AC := (.reg [⟨some 9, (.mv (.t 0)), no⟩, ⟨some 10, (.call (.k (.fn (.func 20) [] [])) [(.t 9)]), no⟩, ⟨some 4, (.mv (.t 10)), no⟩])
def di2 : AC := (.reg [⟨some 11, (.mv (.t 4)), no⟩, ⟨some 12, (.call (.k (.fn (.func 21) [] [])) [(.t 11)]), no⟩, ⟨some 5, (.box [(.int .i64 0), (.nil 1)]), no⟩, ⟨no, (.st 2 (.t 5) (.t 12)), no⟩])
def di3 : AC := (.reg [⟨some 13, (.mv (.t 4)), no⟩, ⟨some 14, (.call (.k (.fn (.func 22) [] [])) [(.t 13), (.k (.int .i64 4))]), no⟩, ⟨some 6, (.mv (.t 14)), no⟩])
def di4 : AC := (.reg [⟨some 15, (.bsl 2 []), no⟩, ⟨some 7, (.mv (.t 15)), no⟩])
def di5 : AC := (.seq  (.reg [⟨some 8, (.mv (.k (.int .i64 0))), no⟩]) (.blk 0 (.loop (.seq (.seq  (.reg [⟨some 16, (.mv (.t 8)), no⟩, ⟨some 17, (.fld 1 (.t 5)), no⟩, ⟨some 18, (.ld false 1 (.t 17)), no⟩, ⟨some 19, (.len false (.t 18)), no⟩, ⟨some 20, (.bin .lss (.t 16) (.t 19)), no⟩]) (.cond (.t 20) .skip (.exit 0))) (.seq (.blk 1  (.reg [⟨some 23, (.mv (.t 7)), no⟩, ⟨some 24, (.mv (.t 4)), no⟩, ⟨some 25, (.mv (.t 6)), no⟩, ⟨some 26, (.call (.k (.fn (.func 23) [] [])) [(.t 24), (.t 25)]), no⟩, ⟨some 27, (.bsl 2 [(.t 26)]), no⟩, ⟨some 28, (.app 32 2 (.t 23) (.t 27)), no⟩, ⟨some 7, (.mv (.t 28)), no⟩]))  (.reg [⟨some 21, (.mv (.t 8)), no⟩, ⟨some 22, (.bin .add (.t 21) (.k (.int .i64 1))), no⟩, ⟨some 8, (.mv (.t 22)), no⟩]))))))
def di6 : AC := (.seq  (.reg [⟨some 29, (.mv (.t 7)), no⟩, ⟨some 30, (.len false (.t 29)), no⟩, ⟨some 31, (.bin .gtr (.t 30) (.k (.int .i64 0))), no⟩, ⟨some 32, (.mv (.t 31)), no⟩, ⟨some 33, (.mv (.t 4)), (some (32, true))⟩, ⟨some 34, (.call (.k (.fn (.func 24) [] [])) [(.t 33), (.k (.int .i64 10))]), (some (32, true))⟩, ⟨some 35, (.pick (.t 32) (.t 34) (.k (.bool false))), no⟩]) (.cond (.t 35)  (.reg [⟨some 36, (.mv (.t 7)), no⟩, ⟨some 37, (.mv (.t 4)), no⟩, ⟨some 38, (.call (.k (.fn (.func 21) [] [])) [(.t 37)]), no⟩, ⟨some 39, (.ixa 2 (.t 36) (.k (.int .i64 0))), no⟩, ⟨no, (.st 2 (.t 39) (.t 38)), no⟩]) .skip))
def di7 : AC := (.reg [⟨some 40, (.ld true 2 (.t 5)), no⟩, ⟨some 41, (.mv (.t 7)), no⟩, ⟨no, (.st 2 (.t 2) (.t 40)), no⟩, ⟨some 3, (.mv (.t 41)), no⟩])
def a7 : AFn := ⟨42, [(.c 2 true 2), (.t 3)], (.seq di0 (.seq di1 (.seq di2 (.seq di3 (.seq di4 (.seq di5 (.seq di6 (.seq di7 .ret))))))))⟩
theorem a7_ok : compFn Try.prog Try.f7 = some a7 := by kernel_rfl


set_option maxRecDepth 20000
set_option maxHeartbeats 2000000
section
variable {l : List UInt8} {h : Heap} {n : Nat} {c : List AV}
theorem di5_run {ks : List Kt} {s : Env} {Q : Fin} {m : Nat} {d : DLin} (hm : m ≤ 8) (hd : d.Coeffs.length ≤ 9) (s4 : s 4 = .ptr 1 0 0) (s5 : s 5 = .ptr 3 0 0) (s6 : s 6 = i64 m) (s7 : s 7 = .ref 4 0 0) (h4 : h 4 = some ⟨false, 2, []⟩) (L : LinBox 3 2 d h) (hid : h 1 = curB c) (hc : CurC (codeR l) c) (hn : 4 < n)
    (hK : ∀ s' h2 n2 a c1 (as' : List DLin), s' 2 = s 2 → s' 4 = s 4 → s' 5 = s 5 → s' 7 = .ref a 0 as'.length → h2 a = some ⟨false, 2, as'.map rULin⟩ → as'.length = d.Coeffs.length → (∀ x ∈ as', x.Coeffs.length ≤ 9) → LinBox 3 2 d h2 → CurC (codeR l) c1 → h2 1 = curB c1 → 3 < a → a < n2 → h2 0 = h 0 → kont Try.prog ks .normal s' h2 n2 Q) : rC Try.prog di5 ks s h n Q := by
  simp [di5]
  refine rL_forO [2, 4, 5, 6] 8 d.Coeffs.length (fun i s h' n' => ∃ (a : Nat) (c1 : List AV) (as' : List DLin), s 7 = .ref a 0 i ∧ h' a = some ⟨false, 2, as'.map rULin⟩ ∧ as'.length = i ∧ (∀ x ∈ as', x.Coeffs.length ≤ 9) ∧ LinBox 3 2 d h' ∧ CurC (codeR l) c1 ∧ h' 1 = curB c1 ∧ 3 < a ∧ a < n' ∧ h' 0 = h 0) (by unfold LIM; omega) (by simp) ⟨4, c, [], by simp [s7], by simp [h4], rfl, by simp, L, hc, hid, by omega, hn, rfl⟩ ?_ ?_
  · rintro i st h' n' R hi hg hk s8 hw ⟨a, c1, as', k1, k2, k3, k4, k5, k6, k7, k8, k9, k10⟩ hR _ _
    simp at hk
    simp [hk, s8, s4, s5, s6, k5.hb, k5.hk, hi]
    intro _
    refine c_l4Draw (l := l) (c := c1) (m := m) (by omega) k7 k6 fun x c2 hx hc2 => ?_
    have e1 : ¬ a = n' ∧ ¬ n' = a ∧ ¬ a = 1 ∧ ¬ 1 = a ∧ ¬ a = 3 ∧ ¬ 3 = a ∧ ¬ a = 2 ∧ ¬ 2 = a ∧ ¬ a = 0 ∧ ¬ 0 = a ∧ ¬ a = n' + 1 ∧ ¬ n' + 1 = a ∧ ¬ a = n' + 1 + 1 := by omega
    have e2 : ¬ n' = 0 ∧ ¬ n' = 1 ∧ ¬ n' = 2 ∧ ¬ n' = 3 ∧ ¬ 0 = n' ∧ ¬ 1 = n' ∧ ¬ 2 = n' ∧ ¬ 3 = n' ∧ ¬ 0 = n' + 1 ∧ ¬ 1 = n' + 1 ∧ ¬ 2 = n' + 1 ∧ ¬ 3 = n' + 1 ∧ ¬ 0 = n' + 1 + 1 ∧ ¬ 1 = n' + 1 + 1 ∧ ¬ 2 = n' + 1 + 1 ∧ ¬ 3 = n' + 1 + 1 := by omega
    simp [hk, s8, k1, k2, e1, e2, hw, k3, ← hx]
    refine ⟨by unfold LIM; omega, hR _ _ _ (by simp [hk]) (by simp) ⟨n' + 1 + 1, c2, as' ++ [x], by simp, ?_, by simp [k3], ?_, ⟨by simp [e1, e2, k5.hb], by simp [e1, e2, k5.hk]⟩, hc2, by simp [e1, e2], by omega, by omega, by simp [e1, e2, k10]⟩⟩
    · have ht : List.take i (as'.map rULin) = as'.map rULin := List.take_of_length_le (by simp [k3])
      simp [ht, rULin]
    · intro y hy
      rcases List.mem_append.1 hy with hy | hy
      · exact k4 y hy
      · rw [List.mem_singleton.1 hy]; omega
  · rintro st h' n' R hk s8 ⟨a, c1, as', k1, k2, k3, k4, k5, k6, k7, k8, k9, k10⟩ hret hX
    simp at hk
    simp [hk, s8, s5, k5.hb, k5.hk]
    intro _
    refine hX _ _ _ _ ?_
    simp
    exact hK _ _ _ a c1 as' (by simp [hk]) (by simp [hk]) (by simp [hk]) (by simp [k1, k3]) k2 k3 k4 k5 k6 k7 k8 k9 k10
theorem di6_run {ks : List Kt} {s : Env} {Q : Fin} {a : Nat} {d : DLin} {as' : List DLin} (hl : as'.length ≤ 9) (ha' : ∀ x ∈ as', x.Coeffs.length ≤ 9) (s4 : s 4 = .ptr 1 0 0) (s7 : s 7 = .ref a 0 as'.length) (ha : h a = some ⟨false, 2, as'.map rULin⟩) (L : LinBox 3 2 d h) (hid : h 1 = curB c) (hc : CurC (codeR l) c) (hn : 3 < a) (han : a < n)
    (hK : ∀ s' h2 n2 (bs : List DLin), s' 2 = s 2 → s' 5 = s 5 → s' 7 = .ref a 0 bs.length → h2 a = some ⟨false, 2, bs.map rULin⟩ → bs.length ≤ 9 → (∀ x ∈ bs, x.Coeffs.length ≤ 9) → LinBox 3 2 d h2 → h2 0 = h 0 → kont Try.prog ks .normal s' h2 n2 Q) : rC Try.prog di6 ks s h n Q := by
  have e1 : ¬ a = n ∧ ¬ n = a ∧ ¬ a = 1 ∧ ¬ 1 = a ∧ ¬ a = 3 ∧ ¬ 3 = a ∧ ¬ a = 2 ∧ ¬ 2 = a ∧ ¬ a = 0 ∧ ¬ 0 = a := by omega
  have e2 : ¬ n = 0 ∧ ¬ n = 1 ∧ ¬ n = 2 ∧ ¬ n = 3 ∧ ¬ 0 = n ∧ ¬ 1 = n ∧ ¬ 2 = n ∧ ¬ 3 = n := by omega
  cases as' with
  | nil =>
    simp [di6, s7, ha, s4]
    exact hK _ _ _ [] (by simp) (by simp) (by simp [s7]) (by simp [ha]) (by simp) (by simp) L rfl
  | cons x0 rest =>
    simp at s7 ha
    simp [di6, s7, ha, s4]
    intro _
    refine c_l1Once (l := l) (c := c) (by omega) hid hc fun b c1 hc1 => ?_
    cases b
    · simp
      exact hK _ _ _ (x0 :: rest) (by simp) (by simp) (by simp [s7]) (by simp [e1, ha]) hl ha' ⟨by simp [e1, L.hb], by simp [e1, L.hk]⟩ (by simp)
    · simp [s4]
      refine c_l4Bent (l := l) (c := c1) (by simp) hc1 fun y c2 hy hc2 => ?_
      simp [s7, e1, ha]
      refine hK _ _ _ (y :: rest) (by simp) (by simp) (by simp [s7]) (by simp [e1, rULin]) (by simpa using hl) ?_ ⟨by simp [e1, e2, L.hb], by simp [e1, e2, L.hk]⟩ (by simp [e1, e2])
      intro z hz
      rcases List.mem_cons.1 hz with rfl | hz
      · exact hy
      · exact ha' z (List.mem_cons_of_mem _ hz)
end
theorem d_InstantiateLin (l : List UInt8) (hl : l.length ≤ 1048576) : Holds Try.prog 7 [.sl 1 (codeR l)] (fun r => ∃ (d : DLin) (bs : List DLin), d.Coeffs.length ≤ 9 ∧ bs.length ≤ 9 ∧ (∀ x ∈ bs, x.Coeffs.length ≤ 9) ∧ r = .tup [.agg (rULin d), .us 2 (bs.map rULin)]) := by
  refine holds_of_run Try.func7 a7_ok rfl (by simp [a7]) ?_
  simp [a7, di0, di1]
  refine c_l1New hl fun c hc => ?_
  simp [di2]
  refine c_l4Bent (l := l) (c := c) (by simp) hc fun d c1 hd hc1 => ?_
  simp [di3]
  refine c_l1Below (l := l) (c := c1) (by omega) (by simp) hc1 fun m c2 hm _ hc2 => ?_
  have hm := hm (by omega)
  obtain ⟨m, rfl⟩ : ∃ k : Nat, m = k := ⟨m.toNat, by omega⟩
  simp [di4]
  refine di5_run (l := l) (c := c2) (m := m) (d := d) (by omega) hd (by simp) (by simp) (by simp) (by simp) (by simp) ⟨by simp, by simp⟩ (by simp) hc2 (by omega) ?_
  intro s1 h1 n1 a c3 bs e2 e4 e5 e7 ha hbl hb L hc3 hid3 h3a han h0
  simp at e2 e4 e5 h0
  simp
  refine di6_run (l := l) (c := c3) (a := a) (d := d) (as' := bs) (by omega) hb e4 e7 ha L hid3 hc3 h3a han ?_
  intro s2 h2 n2 bs' f2 f5 f7 ha' hbl' hb' L' h0'
  rw [e2] at f2
  rw [e5] at f5
  rw [h0] at h0'
  have e1 : ¬ a = 0 ∧ ¬ 0 = a ∧ ¬ a = 2 ∧ ¬ 2 = a ∧ ¬ a = 3 ∧ ¬ a = 1 := by omega
  simp [di7, f2, f5, f7, L'.hb, h0', L'.hk, ha', e1]
  exact ⟨d, hd, bs', hbl', hb', by simp [rULin], by simp⟩
end Go.Proofs.Ytoejpoioleffpaa
