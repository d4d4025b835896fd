/- Functions of one make: the weight of a list, element by element. -/
import Derived.Test.YtlefdibgonpoaaaR27
namespace Go.Proofs.Ytlefdibgonpoaaa
open Go Go.RowKit

def tSz (agg : Bool) (sz g : Nat) : AFn :=
⟨27, [(.t 4)], (.seq 
 (.reg [⟨some 4, (.mv (.k (.int .i64 0))), no⟩]) (.seq 
 (.reg [⟨some 6, (.mv (.t 1)), no⟩, ⟨some 7, (.mv (.t 0)), no⟩, ⟨some 8, (.len false (.t 7)), no⟩, ⟨some 9, (.bin .sub (.t 6) (.t 8)), no⟩, ⟨some 1, (.mv (.t 9)), no⟩]) (.seq (.seq 
 (.reg [⟨some 10, (.mv (.t 1)), no⟩, ⟨some 11, (.bin .lss (.t 10) (.k (.int .i64 0))), no⟩]) (.cond (.t 11) (.seq 
 (.reg [⟨some 4, (.mv (.k (.int .i64 (-1)))), no⟩]) .ret) .skip)) (.seq (.seq 
 (.reg [⟨some 5, (.mv (.k (.int .i64 0))), no⟩]) (.blk 0 (.loop (.seq (.seq 
 (.reg [⟨some 12, (.mv (.t 5)), no⟩, ⟨some 13, (.mv (.t 0)), no⟩, ⟨some 14, (.len false (.t 13)), no⟩, ⟨some 15, (.bin .lss (.t 12) (.t 14)), no⟩]) (.cond (.t 15) .skip (.exit 0))) (.seq (.blk 1 (.seq 
 (.reg [⟨some 18, (.mv (.t 0)), no⟩, ⟨some 19, (.mv (.t 5)), no⟩, ⟨some 20, (.ixa sz (.t 18) (.t 19)), no⟩, ⟨some 21, (.ld agg sz (.t 20)), no⟩, ⟨some 22, (.mv (.t 1)), no⟩, ⟨some 23, (.call (.k (.fn (.func g) [] [])) [(.t 21), (.t 22)]), no⟩, ⟨some 1, (.mv (.t 23)), no⟩]) (.seq 
 (.reg [⟨some 24, (.mv (.t 1)), no⟩, ⟨some 25, (.bin .lss (.t 24) (.k (.int .i64 0))), no⟩]) (.cond (.t 25) (.seq 
 (.reg [⟨some 4, (.mv (.k (.int .i64 (-1)))), no⟩]) .ret) .skip)))) 
 (.reg [⟨some 16, (.mv (.t 5)), no⟩, ⟨some 17, (.bin .add (.t 16) (.k (.int .i64 1))), no⟩, ⟨some 5, (.mv (.t 17)), no⟩])))))) (.seq 
 (.reg [⟨some 26, (.mv (.t 1)), no⟩, ⟨some 4, (.mv (.t 26)), no⟩]) .ret)))))⟩

/-- What is left, element by element. -/
def szLoop {α : Type} (szE : α → Int → Int) : List α → Int → Int
  | [], left => left
  | x :: a, left => if szE x left < 0 then -1 else szLoop szE a (szE x left)

def szL {α : Type} (szE : α → Int → Int) (a : List α) (left : Int) : Int := if left - a.length < 0 then -1 else szLoop szE a (left - a.length)

theorem szLoop_le {α : Type} {szE : α → Int → Int} (hle : ∀ x left, 0 ≤ left → szE x left ≤ left) : ∀ (a : List α) (left : Int), 0 ≤ left → szLoop szE a left ≤ left
  | [], left, _ => Int.le_refl _
  | x :: a, left, h => by
    have := hle x left h
    simp only [szLoop]; split
    · omega
    · have := szLoop_le hle a (szE x left) (by omega); omega

theorem szL_le {α : Type} {szE : α → Int → Int} (hle : ∀ x left, 0 ≤ left → szE x left ≤ left) (a : List α) (left : Int) (h : 0 ≤ left) : szL szE a left ≤ left := by
  unfold szL; split
  · omega
  · have := szLoop_le hle a (left - a.length) (by omega); omega

theorem szL_len {α : Type} {szE : α → Int → Int} {a : List α} {left : Int} (h : 0 ≤ szL szE a left) : a.length ≤ left := by
  unfold szL at h; split at h <;> omega

theorem holds_tSz {P : Program} {f : FuncId} {fn : Func} {agg : Bool} {sz g : Nat} {α : Type} {rowOf : α → List AV} {eltOf : α → AV} {szE : α → Int → Int}
    (hf : P.funcs[f]? = some fn) (hc : compFn P fn = some (tSz agg sz g)) (hn : (fn.name == "runtime.NumGoroutine") = false)
    (helt : ∀ x, ldv true agg (rowOf x) 0 sz = some (eltOf x)) (hbw : ∀ x h, bw (eltOf x) h = some (eltOf x)) (hle : ∀ x left, 0 ≤ left → szE x left ≤ left)
    (a : List α) (left : Int) (h0 : 0 ≤ left ∧ left ≤ 4611686018427387904) (hg : ∀ x left, x ∈ a → 0 ≤ left ∧ left ≤ 4611686018427387904 → Holds P g [eltOf x, i64 left] (fun r => r = i64 (szE x left))) :
    Holds P f [.sl sz (a.map rowOf), i64 left] (fun r => r = i64 (szL szE a left)) := by
  refine holds_of_run hf hc hn (by simp [tSz]) ?_
  simp [tSz, -ldv]
  intro h1
  unfold LIM at h1
  rw [wrap64 (by omega)]
  refine ⟨fun h => by unfold szL; rw [if_pos h], fun h => rL_of (fun k s h n => ∃ (i : Nat) (l : Int), k = a.length - i ∧ i ≤ a.length ∧ s 0 = .sl sz (a.map rowOf) ∧ s 1 = i64 l ∧ s 5 = i64 i ∧ 0 ≤ l ∧ l ≤ left ∧ szLoop szE (a.drop i) l = szL szE a left ∧ h = noHeap ∧ n = 0) a.length ⟨0, left - a.length, by simp [szL]; omega⟩ ?_⟩
  rintro k s h n ⟨i, l, rfl, hi, s0, s1, s5, hl0, hl1, hR, rfl, rfl⟩
  by_cases hlt : i < a.length
  · simp [s0, s1, s5, hlt, helt, -ldv]
    intro _
    refine call_of (hg a[i] l (List.getElem_mem _) (by omega)) (by simp [hbw]) ?_
    rintro r rfl
    simp [s0, s5]
    rw [List.drop_eq_getElem_cons hlt] at hR
    simp only [szLoop] at hR
    have := hle a[i] l hl0
    refine ⟨fun hn => by rw [if_pos hn] at hR; exact hR, fun hp => ⟨a.length - (i + 1), by omega, i + 1, rfl, by omega, by rw [wrap64 (by omega)]; rfl, hp, by omega, by rw [if_neg (by omega)] at hR; exact hR⟩⟩
  · simp [s0, s1, s5, hlt]
    intro _
    rw [List.drop_eq_nil_of_le (by omega)] at hR
    exact hR
end Go.Proofs.Ytlefdibgonpoaaa
