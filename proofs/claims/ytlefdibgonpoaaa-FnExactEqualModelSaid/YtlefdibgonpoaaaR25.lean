/- Functions of one make: lists that are compared, element by element. -/
import Derived.Test.YtlefdibgonpoaaaR24
namespace Go.Proofs.Ytlefdibgonpoaaa
open Go Go.RowKit

abbrev no {α : Type} : Option α := Option.none

/-- Two lists are compared by a loop that calls g. -/
def tEq (agg : Bool) (sz g : Nat) : AFn :=
⟨27, [(.t 4)], (.seq 
 (.reg [⟨some 4, (.mv (.k (.bool false))), no⟩]) (.seq (.seq 
 (.reg [⟨some 6, (.mv (.t 0)), no⟩, ⟨some 7, (.len false (.t 6)), no⟩, ⟨some 8, (.mv (.t 1)), no⟩, ⟨some 9, (.len false (.t 8)), no⟩, ⟨some 10, (.bin .neq (.t 7) (.t 9)), no⟩]) (.cond (.t 10) (.seq 
 (.reg [⟨some 4, (.mv (.k (.bool false))), no⟩]) .ret) .skip)) (.seq (.seq 
 (.reg [⟨some 5, (.mv (.k (.int .i64 0))), no⟩]) (.blk 0 (.loop (.seq (.seq 
 (.reg [⟨some 11, (.mv (.t 5)), no⟩, ⟨some 12, (.mv (.t 0)), no⟩, ⟨some 13, (.len false (.t 12)), no⟩, ⟨some 14, (.bin .lss (.t 11) (.t 13)), no⟩]) (.cond (.t 14) .skip (.exit 0))) (.seq (.blk 1 (.seq (.draw (.op ⟨some 17, (.mv (.t 0)), no⟩ (.op ⟨some 18, (.mv (.t 5)), no⟩ (.op ⟨some 19, (.ixa sz (.t 17) (.t 18)), no⟩ (.op ⟨some 20, (.ld agg sz (.t 19)), no⟩ (.op ⟨some 21, (.mv (.t 1)), no⟩ (.op ⟨some 22, (.mv (.t 5)), no⟩ (.op ⟨some 23, (.ixa sz (.t 21) (.t 22)), no⟩ (.op ⟨some 24, (.ld agg sz (.t 23)), no⟩ (.op ⟨some 25, (.call (.k (.fn (.func g) [] [])) [(.t 20), (.t 24)]), no⟩ (.op ⟨some 26, (.un .not (.t 25)), no⟩ .fin))))))))))) (.cond (.t 26) (.seq 
 (.reg [⟨some 4, (.mv (.k (.bool false))), no⟩]) .ret) .skip))) 
 (.reg [⟨some 15, (.mv (.t 5)), no⟩, ⟨some 16, (.bin .add (.t 15) (.k (.int .i64 1))), no⟩, ⟨some 5, (.mv (.t 16)), no⟩])))))) (.seq 
 (.reg [⟨some 4, (.mv (.k (.bool true))), no⟩]) .ret))))⟩

def eqL {α : Type} (eq : α → α → Bool) : List α → List α → Bool
  | [], [] => true
  | x :: a, y :: b => eq x y && eqL eq a b
  | _, _ => false

theorem eqL_length {α : Type} {eq : α → α → Bool} : ∀ {a b : List α}, a.length ≠ b.length → eqL eq a b = false
  | [], [], h => absurd rfl h
  | [], _ :: _, _ => rfl
  | _ :: _, [], _ => rfl
  | x :: a, y :: b, h => by simp only [eqL, eqL_length (a := a) (b := b) (by simpa using h), Bool.and_false]

theorem eqL_true {α : Type} {eq : α → α → Bool} : ∀ {a b : List α}, a.length = b.length → (∀ (i : Nat) x y, a[i]? = some x → b[i]? = some y → eq x y = true) → eqL eq a b = true
  | [], [], _, _ => rfl
  | x :: a, y :: b, hl, h => by
    simp only [eqL, h 0 x y rfl rfl, Bool.true_and]
    exact eqL_true (by simpa using hl) fun i u v hu hv => h (i + 1) u v (by simpa using hu) (by simpa using hv)

theorem eqL_false {α : Type} {eq : α → α → Bool} : ∀ {a b : List α} {i : Nat} {x y : α}, a[i]? = some x → b[i]? = some y → eq x y = false → eqL eq a b = false
  | u :: a, v :: b, 0, x, y, hx, hy, h => by simp at hx hy; subst hx hy; simp only [eqL, h, Bool.false_and]
  | u :: a, v :: b, i + 1, x, y, hx, hy, h => by simp only [eqL, eqL_false (a := a) (b := b) (i := i) (by simpa using hx) (by simpa using hy) h, Bool.and_false]
  | [], _, _, _, _, hx, _, _ => by simp at hx
  | _ :: _, [], _, _, _, _, hy, _ => by simp at hy

theorem holds_tEq {P : Program} {f : FuncId} {fn : Func} {agg : Bool} {sz g : Nat} {α : Type} {rowOf : α → List AV} {eltOf : α → AV} {eq : α → α → Bool}
    (hf : P.funcs[f]? = some fn) (hc : compFn P fn = some (tEq agg sz g)) (hn : (fn.name == "runtime.NumGoroutine") = false)
    (helt : ∀ x, ldv true agg (rowOf x) 0 sz = some (eltOf x)) (hbw : ∀ x h, bw (eltOf x) h = some (eltOf x)) (a b : List α)
    (hg : ∀ x y, x ∈ a → y ∈ b → Holds P g [eltOf x, eltOf y] (fun r => r = .bool (eq x y))) :
    Holds P f [.sl sz (a.map rowOf), .sl sz (b.map rowOf)] (fun r => r = .bool (eqL eq a b)) := by
  refine holds_of_run hf hc hn (by simp [tEq]) ?_
  simp [tEq, -ldv]
  intro h1 h2
  refine ⟨fun h => eqL_length (fun e => h (by rw [e])), fun hl => rL_of (fun k s h n => ∃ i : Nat, k = a.length - i ∧ i ≤ a.length ∧ s 0 = .sl sz (a.map rowOf) ∧ s 1 = .sl sz (b.map rowOf) ∧ s 5 = i64 i ∧ (∀ (j : Nat) x y, j < i → a[j]? = some x → b[j]? = some y → eq x y = true) ∧ h = noHeap ∧ n = 0) a.length ⟨0, by simp⟩ ?_⟩
  rintro k s h n ⟨i, rfl, hi, s0, s1, s5, hj, rfl, rfl⟩
  have hl : a.length = b.length := by omega
  by_cases hlt : i < a.length
  · have hlt' : i < b.length := by omega
    unfold LIM at h1
    simp [s0, s1, s5, hlt, hlt', helt, -ldv]
    intro _
    refine callD_of (hg a[i] b[i] (List.getElem_mem _) (List.getElem_mem _)) (by simp [hbw]) ?_
    rintro r rfl
    simp [s0, s1, s5]
    refine ⟨fun h => eqL_false (List.getElem?_eq_getElem hlt) (List.getElem?_eq_getElem hlt') h, fun e => ⟨a.length - (i + 1), by omega, i + 1, rfl, by omega, by rw [wrap64 (by omega)]; rfl, fun j x y hj' hx hy => ?_⟩⟩
    by_cases hji : j = i
    · subst hji
      rw [List.getElem?_eq_getElem hlt] at hx; rw [List.getElem?_eq_getElem hlt'] at hy
      cases hx; cases hy; exact e
    · exact hj j x y (by omega) hx hy
  · simp [s0, s1, s5, hlt]
    intro _
    refine eqL_true hl fun j x y hx hy => hj j x y ?_ hx hy
    have := (List.getElem?_eq_some_iff.1 hx).1
    omega
end Go.Proofs.Ytlefdibgonpoaaa
