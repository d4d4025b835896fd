/- Contracts: linear expressions, systems, models. -/
import Derived.Test.YtlefdibgonpoaaaS6
import Derived.Test.YtlefdibgonpoaaaS7
namespace Go.Proofs.Ytlefdibgonpoaaa
open Go Go.RowKit Go.Proofs

abbrev LinD := Int × List Int
def linRow (x : LinD) : List AV := [i64 x.1, ints x.2]
def linA (x : LinD) : AV := .agg (linRow x)
def linU (x : LinD) : AV := .agg [i64 x.1, .us 1 (intsR x.2)]
attribute [simp] linRow linA linU
def linsA (l : List LinD) : AV := .sl 2 (l.map linRow)
def linsU (l : List LinD) : AV := .us 2 (l.map fun x => cellsOf (linU x))
def szLin (x : LinD) (left : Int) : Int := if left - x.2.length < 0 then -1 else left - x.2.length
theorem szLin_le (x : LinD) (left : Int) (h : 0 ≤ left) : szLin x left ≤ left := by unfold szLin; split <;> omega

theorem c34 (x : LinD) (left : Int) (hl : 0 ≤ left ∧ left ≤ 4611686018427387904) : Holds Try.prog 34 [linA x, i64 left] (fun r => r = i64 (szLin x left)) := by
  refine holds_of_run Try.func34 a34_ok rfl (by simp [a34]) ?_
  simp [a34]
  refine call_of (c46 x.2 left (by omega)) (by simp) ?_
  rintro r rfl
  simp [szLin]
  split <;> omega

theorem c36 (x : LinD) (hl : x.2.length ≤ 1048576) : Holds Try.prog 36 [linA x] (fun r => r = linU x) := by
  refine holds_of_run Try.func36 a36_ok rfl (by simp [a36]) ?_
  simp [a36]
  refine call_of (c47 x.2 hl) (by simp) ?_
  rintro r rfl
  simp

theorem c38 (x y : LinD) : Holds Try.prog 38 [linA x, linA y] (fun r => r = .bool (decide (x = y))) := by
  refine holds_of_run Try.func38 a38_ok rfl (by simp [a38]) ?_
  simp [a38]
  refine ⟨fun h e => h (by rw [e]), fun h => ?_⟩
  refine call_of (c48 x.2 y.2) (by simp) ?_
  rintro r rfl
  obtain ⟨x1, x2⟩ := x
  obtain ⟨y1, y2⟩ := y
  simp at h
  subst h
  simp

theorem c31 (x y : LinD) : Holds Try.prog 31 [linA x, linA y] (fun r => r = .bool (decide (x = y))) := by
  obtain ⟨x1, x2⟩ := x
  obtain ⟨y1, y2⟩ := y
  refine holds_of_run Try.func31 a31_ok rfl (by simp [a31]) ?_
  simp [a31]
  refine ⟨fun h => ?_, fun h e => absurd e h⟩
  subst h
  refine call_of (c81 x2 y2) (by simp) ?_
  rintro r rfl
  simp

theorem c65 (x y : LinD) : Holds Try.prog 65 [linA x, linA y] (fun r => r = .bool (decide (x = y))) := by
  obtain ⟨x1, x2⟩ := x
  obtain ⟨y1, y2⟩ := y
  refine holds_of_run Try.func65 a65_ok rfl (by simp [a65]) ?_
  simp [a65]
  refine ⟨fun h => ?_, fun h e => absurd e h⟩
  subst h
  refine call_of (c96 x2 y2) (by simp) ?_
  rintro r rfl
  simp

theorem eqL_decide {α : Type} [DecidableEq α] : ∀ (a b : List α), eqL (fun x y => decide (x = y)) a b = decide (a = b)
  | [], [] => rfl
  | [], _ :: _ => rfl
  | _ :: _, [] => rfl
  | x :: a, y :: b => by simp [eqL, eqL_decide a b]

theorem c35 (l : List LinD) (left : Int) (h0 : 0 ≤ left ∧ left ≤ 4611686018427387904) : Holds Try.prog 35 [linsA l, i64 left] (fun r => r = i64 (szL szLin l left)) :=
  holds_tSz Try.func35 a35_ok rfl (rowOf := linRow) (eltOf := linA) (fun x => by simp) (fun x h => by simp) szLin_le l left h0 (fun x lf _ hl => c34 x lf hl)
theorem c37 (l : List LinD) (hl : l.length ≤ 1048576) (hx : ∀ x ∈ l, x.2.length ≤ 1048576) : Holds Try.prog 37 [linsA l] (fun r => r = linsU l) :=
  holds_tTo Try.func37 a37_ok rfl (rowOf := linRow) (eltOf := linA) (eltU := linU) (fun x => by simp) (fun x h => by simp) (fun x => by simp) (fun x => by simp) (fun x => by simp) rfl l (by unfold LIM; omega) (fun x h => c36 x (hx x h))
theorem c39 (a b : List LinD) : Holds Try.prog 39 [linsA a, linsA b] (fun r => r = .bool (decide (a = b))) := by
  rw [← eqL_decide]
  exact holds_tEq Try.func39 a39_ok rfl (rowOf := linRow) (eltOf := linA) (fun x => by simp) (fun x h => by simp) a b (fun x y _ _ => c38 x y)

def linssA (l : List (List LinD)) : AV := .sl 1 (l.map fun x => [linsA x])
def linssU (l : List (List LinD)) : AV := .us 1 (l.map fun x => cellsOf (linsU x))
def szLins (l : List LinD) (left : Int) : Int := szL szLin l left
theorem szLins_le (l : List LinD) (left : Int) (h : 0 ≤ left) : szLins l left ≤ left := szL_le szLin_le l left h
theorem bw_linsA (x : List LinD) (h : Heap) : bw (linsA x) h = some (linsA x) := rfl
theorem clean_linsU (x : List LinD) : clean (linsU x) = true := by
  simp only [linsU, clean, cleanr_iff, List.all_eq_true]
  intro r hr
  obtain ⟨y, _, rfl⟩ := List.mem_map.1 hr
  simp

theorem c56 (l : List (List LinD)) (left : Int) (h0 : 0 ≤ left ∧ left ≤ 4611686018427387904) : Holds Try.prog 56 [linssA l, i64 left] (fun r => r = i64 (szL szLins l left)) :=
  holds_tSz Try.func56 a56_ok rfl (rowOf := fun x => [linsA x]) (eltOf := linsA) (fun x => by simp) bw_linsA szLins_le l left h0 (fun x lf _ hl => c35 x lf hl)
theorem c61 (l : List (List LinD)) (hl : l.length ≤ 1048576) (hx : ∀ x ∈ l, x.length ≤ 1048576 ∧ ∀ y ∈ x, y.2.length ≤ 1048576) : Holds Try.prog 61 [linssA l] (fun r => r = linssU l) :=
  holds_tTo Try.func61 a61_ok rfl (rowOf := fun x => [linsA x]) (eltOf := linsA) (eltU := linsU) (fun x => by simp) bw_linsA clean_linsU (fun x => by simp [linsU]) (fun x => by simp [linsU]) rfl l (by unfold LIM; omega) (fun x h => c37 x (hx x h).1 (hx x h).2)
theorem c67 (a b : List (List LinD)) : Holds Try.prog 67 [linssA a, linssA b] (fun r => r = .bool (decide (a = b))) := by
  rw [← eqL_decide]
  exact holds_tEq Try.func67 a67_ok rfl (rowOf := fun x => [linsA x]) (eltOf := linsA) (fun x => by simp) bw_linsA a b (fun x y _ _ => c39 x y)
end Go.Proofs.Ytlefdibgonpoaaa
