/- Contracts of the laws' functions over the types. -/
import Derived.Test.YtlmajgghnenbpaaGreatT2A
namespace Go.Proofs.YtlmajgghnenbpaaGreat
set_option linter.all false
open Go Go.RowKit Go.Proofs
def a18 : AFn :=
⟨11, [(.c 2 true 2)], (.seq 
 (.reg [⟨some 1, (.boxv (.t 0)), no⟩, ⟨some 2, (.box [(.int .i64 0), (.int .i64 0)]), no⟩]) (.seq 
 (.reg [⟨some 3, (.box [(.int .i64 0), (.int .i64 0)]), no⟩]) (.seq 
 (.reg [⟨some 4, (.fld 0 (.t 1)), no⟩, ⟨some 5, (.ld false 1 (.t 4)), no⟩, ⟨some 6, (.fld 0 (.t 3)), no⟩, ⟨no, (.st 1 (.t 6) (.t 5)), no⟩]) (.seq 
 (.reg [⟨some 7, (.fld 1 (.t 1)), no⟩, ⟨some 8, (.ld false 1 (.t 7)), no⟩, ⟨some 9, (.fld 1 (.t 3)), no⟩, ⟨no, (.st 1 (.t 9) (.t 8)), no⟩]) (.seq 
 (.reg [⟨some 10, (.ld true 2 (.t 3)), no⟩, ⟨no, (.st 2 (.t 2) (.t 10)), no⟩]) .ret)))))⟩
theorem a18_ok : compFn Tryz.prog Tryz.f18 = some a18 := by kernel_rfl

def a92 : AFn :=
⟨15, [(.t 4)], (.seq 
 (.reg [⟨some 2, (.boxv (.t 0)), no⟩, ⟨some 3, (.boxv (.t 1)), no⟩, ⟨some 4, (.mv (.k (.bool false))), no⟩]) (.seq (.seq 
 (.reg [⟨some 5, (.fld 0 (.t 2)), no⟩, ⟨some 6, (.ld false 1 (.t 5)), no⟩, ⟨some 7, (.fld 0 (.t 3)), no⟩, ⟨some 8, (.ld false 1 (.t 7)), no⟩, ⟨some 9, (.bin .neq (.t 6) (.t 8)), no⟩]) (.cond (.t 9) (.seq 
 (.reg [⟨some 4, (.mv (.k (.bool false))), no⟩]) .ret) .skip)) (.seq (.seq 
 (.reg [⟨some 10, (.fld 1 (.t 2)), no⟩, ⟨some 11, (.ld false 1 (.t 10)), no⟩, ⟨some 12, (.fld 1 (.t 3)), no⟩, ⟨some 13, (.ld false 1 (.t 12)), no⟩, ⟨some 14, (.bin .neq (.t 11) (.t 13)), no⟩]) (.cond (.t 14) (.seq 
 (.reg [⟨some 4, (.mv (.k (.bool false))), no⟩]) .ret) .skip)) (.seq 
 (.reg [⟨some 4, (.mv (.k (.bool true))), no⟩]) .ret))))⟩
theorem a92_ok : compFn Tryz.prog Tryz.f92 = some a92 := by kernel_rfl

def a95 : AFn :=
⟨12, [(.t 4)], (.seq 
 (.reg [⟨some 2, (.boxv (.t 0)), no⟩, ⟨some 4, (.mv (.k (.int .i64 0))), no⟩]) (.seq 
 (.reg [⟨some 5, (.fld 2 (.t 2)), no⟩, ⟨some 6, (.ld false 1 (.t 5)), no⟩, ⟨some 7, (.mv (.t 1)), no⟩, ⟨some 8, (.call (.k (.fn (.func 120) [] [])) [(.t 6), (.t 7)]), no⟩, ⟨some 1, (.mv (.t 8)), no⟩]) (.seq (.seq 
 (.reg [⟨some 9, (.mv (.t 1)), no⟩, ⟨some 10, (.bin .lss (.t 9) (.k (.int .i64 0))), no⟩]) (.cond (.t 10) (.seq 
 (.reg [⟨some 4, (.mv (.k (.int .i64 (-1)))), no⟩]) .ret) .skip)) (.seq 
 (.reg [⟨some 11, (.mv (.t 1)), no⟩, ⟨some 4, (.mv (.t 11)), no⟩]) .ret))))⟩
theorem a95_ok : compFn Tryz.prog Tryz.f95 = some a95 := by kernel_rfl

def a100 : AFn :=
⟨15, [(.c 2 true 3)], (.seq 
 (.reg [⟨some 1, (.boxv (.t 0)), no⟩, ⟨some 2, (.box [(.bool false), (.int .i64 0), (.nil 1)]), no⟩]) (.seq 
 (.reg [⟨some 3, (.box [(.bool false), (.int .i64 0), (.nil 1)]), no⟩]) (.seq 
 (.reg [⟨some 4, (.fld 0 (.t 1)), no⟩, ⟨some 5, (.ld false 1 (.t 4)), no⟩, ⟨some 6, (.fld 0 (.t 3)), no⟩, ⟨no, (.st 1 (.t 6) (.t 5)), no⟩]) (.seq 
 (.reg [⟨some 7, (.fld 1 (.t 1)), no⟩, ⟨some 8, (.ld false 1 (.t 7)), no⟩, ⟨some 9, (.fld 1 (.t 3)), no⟩, ⟨no, (.st 1 (.t 9) (.t 8)), no⟩]) (.seq 
 (.reg [⟨some 10, (.fld 2 (.t 1)), no⟩, ⟨some 11, (.ld false 1 (.t 10)), no⟩, ⟨some 12, (.call (.k (.fn (.func 123) [] [])) [(.t 11)]), no⟩, ⟨some 13, (.fld 2 (.t 3)), no⟩, ⟨no, (.st 1 (.t 13) (.t 12)), no⟩]) (.seq 
 (.reg [⟨some 14, (.ld true 3 (.t 3)), no⟩, ⟨no, (.st 3 (.t 2) (.t 14)), no⟩]) .ret))))))⟩
theorem a100_ok : compFn Tryz.prog Tryz.f100 = some a100 := by kernel_rfl

def a105 : AFn :=
⟨21, [(.t 4)], (.seq 
 (.reg [⟨some 2, (.boxv (.t 0)), no⟩, ⟨some 3, (.boxv (.t 1)), no⟩, ⟨some 4, (.mv (.k (.bool false))), no⟩]) (.seq (.seq 
 (.reg [⟨some 5, (.fld 0 (.t 2)), no⟩, ⟨some 6, (.ld false 1 (.t 5)), no⟩, ⟨some 7, (.fld 0 (.t 3)), no⟩, ⟨some 8, (.ld false 1 (.t 7)), no⟩, ⟨some 9, (.beq true (.t 6) (.t 8)), no⟩]) (.cond (.t 9) (.seq 
 (.reg [⟨some 4, (.mv (.k (.bool false))), no⟩]) .ret) .skip)) (.seq (.seq 
 (.reg [⟨some 10, (.fld 1 (.t 2)), no⟩, ⟨some 11, (.ld false 1 (.t 10)), no⟩, ⟨some 12, (.fld 1 (.t 3)), no⟩, ⟨some 13, (.ld false 1 (.t 12)), no⟩, ⟨some 14, (.bin .neq (.t 11) (.t 13)), no⟩]) (.cond (.t 14) (.seq 
 (.reg [⟨some 4, (.mv (.k (.bool false))), no⟩]) .ret) .skip)) (.seq (.seq 
 (.reg [⟨some 15, (.fld 2 (.t 2)), no⟩, ⟨some 16, (.ld false 1 (.t 15)), no⟩, ⟨some 17, (.fld 2 (.t 3)), no⟩, ⟨some 18, (.ld false 1 (.t 17)), no⟩, ⟨some 19, (.call (.k (.fn (.func 126) [] [])) [(.t 16), (.t 18)]), no⟩, ⟨some 20, (.un .not (.t 19)), no⟩]) (.cond (.t 20) (.seq 
 (.reg [⟨some 4, (.mv (.k (.bool false))), no⟩]) .ret) .skip)) (.seq 
 (.reg [⟨some 4, (.mv (.k (.bool true))), no⟩]) .ret)))))⟩
theorem a105_ok : compFn Tryz.prog Tryz.f105 = some a105 := by kernel_rfl

def a70 : AFn :=
⟨12, [(.t 4)], (.seq 
 (.reg [⟨some 2, (.boxv (.t 0)), no⟩, ⟨some 4, (.mv (.k (.int .i64 0))), no⟩]) (.seq 
 (.reg [⟨some 5, (.fld 1 (.t 2)), no⟩, ⟨some 6, (.ld false 1 (.t 5)), no⟩, ⟨some 7, (.mv (.t 1)), no⟩, ⟨some 8, (.call (.k (.fn (.func 152) [] [])) [(.t 6), (.t 7)]), no⟩, ⟨some 1, (.mv (.t 8)), no⟩]) (.seq (.seq 
 (.reg [⟨some 9, (.mv (.t 1)), no⟩, ⟨some 10, (.bin .lss (.t 9) (.k (.int .i64 0))), no⟩]) (.cond (.t 10) (.seq 
 (.reg [⟨some 4, (.mv (.k (.int .i64 (-1)))), no⟩]) .ret) .skip)) (.seq 
 (.reg [⟨some 11, (.mv (.t 1)), no⟩, ⟨some 4, (.mv (.t 11)), no⟩]) .ret))))⟩
theorem a70_ok : compFn Tryz.prog Tryz.f70 = some a70 := by kernel_rfl

def a72 : AFn :=
⟨12, [(.c 2 true 2)], (.seq 
 (.reg [⟨some 1, (.boxv (.t 0)), no⟩, ⟨some 2, (.box [(.int .i64 0), (.nil 2)]), no⟩]) (.seq 
 (.reg [⟨some 3, (.box [(.int .i64 0), (.nil 2)]), no⟩]) (.seq 
 (.reg [⟨some 4, (.fld 0 (.t 1)), no⟩, ⟨some 5, (.ld false 1 (.t 4)), no⟩, ⟨some 6, (.fld 0 (.t 3)), no⟩, ⟨no, (.st 1 (.t 6) (.t 5)), no⟩]) (.seq 
 (.reg [⟨some 7, (.fld 1 (.t 1)), no⟩, ⟨some 8, (.ld false 1 (.t 7)), no⟩, ⟨some 9, (.call (.k (.fn (.func 156) [] [])) [(.t 8)]), no⟩, ⟨some 10, (.fld 1 (.t 3)), no⟩, ⟨no, (.st 1 (.t 10) (.t 9)), no⟩]) (.seq 
 (.reg [⟨some 11, (.ld true 2 (.t 3)), no⟩, ⟨no, (.st 2 (.t 2) (.t 11)), no⟩]) .ret)))))⟩
theorem a72_ok : compFn Tryz.prog Tryz.f72 = some a72 := by kernel_rfl

def a74 : AFn :=
⟨16, [(.t 4)], (.seq 
 (.reg [⟨some 2, (.boxv (.t 0)), no⟩, ⟨some 3, (.boxv (.t 1)), no⟩, ⟨some 4, (.mv (.k (.bool false))), no⟩]) (.seq (.seq 
 (.reg [⟨some 5, (.fld 0 (.t 2)), no⟩, ⟨some 6, (.ld false 1 (.t 5)), no⟩, ⟨some 7, (.fld 0 (.t 3)), no⟩, ⟨some 8, (.ld false 1 (.t 7)), no⟩, ⟨some 9, (.bin .neq (.t 6) (.t 8)), no⟩]) (.cond (.t 9) (.seq 
 (.reg [⟨some 4, (.mv (.k (.bool false))), no⟩]) .ret) .skip)) (.seq (.seq 
 (.reg [⟨some 10, (.fld 1 (.t 2)), no⟩, ⟨some 11, (.ld false 1 (.t 10)), no⟩, ⟨some 12, (.fld 1 (.t 3)), no⟩, ⟨some 13, (.ld false 1 (.t 12)), no⟩, ⟨some 14, (.call (.k (.fn (.func 114) [] [])) [(.t 11), (.t 13)]), no⟩, ⟨some 15, (.un .not (.t 14)), no⟩]) (.cond (.t 15) (.seq 
 (.reg [⟨some 4, (.mv (.k (.bool false))), no⟩]) .ret) .skip)) (.seq 
 (.reg [⟨some 4, (.mv (.k (.bool true))), no⟩]) .ret))))⟩
theorem a74_ok : compFn Tryz.prog Tryz.f74 = some a74 := by kernel_rfl



def rAStringS (l : List Str) : List AV := [.sl 1 (strsR l)]
def rUStringS (l : List Str) : List AV := [.us 1 (strsR l)]
theorem k_toEdge (x : DEdge) (_hw : wEdge x ≤ 1048576) : Holds Tryz.prog 18 [.agg (rAEdge x)] (fun r => r = .agg (rUEdge x)) := by
  have hw := _hw; unfold wEdge at hw
  refine holds_of_run Tryz.func18 a18_ok rfl (by simp [a18]) ?_
  simp [a18, rAEdge]
  try simp [rUEdge]

theorem k_eqEdge (x y : DEdge) : Holds Tryz.prog 92 [.agg (rAEdge x), .agg (rAEdge y)] (fun r => r = .bool (decide (x = y))) := by
  refine holds_of_run Tryz.func92 a92_ok rfl (by simp [a92]) ?_
  simp [a92, rAEdge]
  by_cases h0 : x.Rule = y.Rule
  case neg => simp [h0]; try exact fun e => h0 (by rw [e])
  simp [h0]
  by_cases h1 : x.Call = y.Call
  case neg => simp [h1]; try exact fun e => h1 (by rw [e])
  simp [h1]
  cases x; cases y; simp_all

theorem a25_ok : compFn Tryz.prog Tryz.f25 = some (tEq true 2 92) := by kernel_rfl

theorem k_eqEdgeS (l m : List DEdge) : Holds Tryz.prog 25 [.sl 2 (l.map rAEdge), .sl 2 (m.map rAEdge)] (fun r => r = .bool (decide (l = m))) := by
  rw [← eqL_dec]
  exact holds_tEq Tryz.func25 a25_ok rfl (rowOf := rAEdge) (eltOf := (fun x => .agg (rAEdge x))) (fun x => by simp [rAEdge]) (fun x h => by simp [rAEdge]) l m (fun x y _ _ => k_eqEdge x y)

theorem a50_ok : compFn Tryz.prog Tryz.f50 = some (tEq false 1 36) := by kernel_rfl

theorem k_eqStringSS (l m : List (List Str)) : Holds Tryz.prog 50 [.sl 1 (l.map rAStringS), .sl 1 (m.map rAStringS)] (fun r => r = .bool (decide (l = m))) := by
  rw [← eqL_dec]
  exact holds_tEq Tryz.func50 a50_ok rfl (rowOf := rAStringS) (eltOf := (fun x => .sl 1 (strsR x))) (fun x => by simp [rAStringS]) (fun x h => by simp [rAStringS]) l m (fun x y _ _ => k_eqStringS x y)

theorem k_szValue (x : DValue) (left : Int) (h0 : 0 ≤ left ∧ left ≤ 4611686018427387904) : Holds Tryz.prog 95 [.agg (rAValue x), i64 left] (fun r => r = i64 (sub1 left (wValue x))) := by
  refine holds_of_run Tryz.func95 a95_ok rfl (by simp [a95]) ?_
  simp [a95, rAValue]
  have e0 : wValue x = wValue x := rfl
  conv at e0 => rhs; unfold wValue
  refine call_of (k_szIntS x.Items left (by omega)) (by simp) ?_
  rintro r rfl
  by_cases h1 : left - (wIntS x.Items : Nat) < 0
  case pos =>
    have q : left - (wValue x : Int) < 0 := by omega
    simp [sub1, h1, q]
    try first | omega | (constructor <;> intros <;> omega)
  simp [sub1, h1]
  try (rw [if_neg (by omega)]; omega)

theorem k_toValue (x : DValue) (_hw : wValue x ≤ 1048576) : Holds Tryz.prog 100 [.agg (rAValue x)] (fun r => r = .agg (rUValue x)) := by
  have hw := _hw; unfold wValue at hw
  refine holds_of_run Tryz.func100 a100_ok rfl (by simp [a100]) ?_
  simp [a100, rAValue]
  refine call_of (k_toIntS x.Items (by omega)) (by simp []) ?_
  rintro r rfl
  simp []
  try simp [rUValue]

theorem k_eqValue (x y : DValue) : Holds Tryz.prog 105 [.agg (rAValue x), .agg (rAValue y)] (fun r => r = .bool (decide (x = y))) := by
  refine holds_of_run Tryz.func105 a105_ok rfl (by simp [a105]) ?_
  simp [a105, rAValue]
  by_cases h0 : x.Lst = y.Lst
  case neg => simp [h0]; try exact fun e => h0 (by rw [e])
  simp [h0]
  by_cases h1 : x.N = y.N
  case neg => simp [h1]; try exact fun e => h1 (by rw [e])
  simp [h1]
  refine call_of (k_eqIntS x.Items y.Items) (by simp []) ?_
  rintro r rfl
  by_cases h2 : x.Items = y.Items
  case neg => simp [h2]; try exact fun e => h2 (by rw [e])
  simp [h2]
  cases x; cases y; simp_all

theorem a29_ok : compFn Tryz.prog Tryz.f29 = some (tSz true 3 95) := by kernel_rfl

theorem k_szValueS (l : List DValue) (left : Int) (h0 : 0 ≤ left ∧ left ≤ 4611686018427387904) : Holds Tryz.prog 29 [.sl 3 (l.map rAValue), i64 left] (fun r => r = i64 (sub1 left (wValueS l))) := by
  rw [show wValueS l = wL wValue l from rfl, ← szL_sub1 (w := wValue) (g := fun x lf => sub1 lf (wValue x)) (fun _ _ _ => rfl) l left h0.1]
  exact holds_tSz Tryz.func29 a29_ok rfl (rowOf := rAValue) (eltOf := (fun x => .agg (rAValue x))) (fun x => by simp [rAValue]) (fun x h => by simp [rAValue]) (fun x lf h => sub1_le h) l left h0 (fun x lf _ hl => k_szValue x lf hl)

theorem a31_ok : compFn Tryz.prog Tryz.f31 = some (tTo true 3 40 100 [.bool false, .int .i64 0, .nil 1]) := by kernel_rfl

theorem k_toValueS (l : List DValue) (hw : wValueS l ≤ 1048576) : Holds Tryz.prog 31 [.sl 3 (l.map rAValue)] (fun r => r = .us 3 (l.map rUValue)) :=
  holds_tTo Tryz.func31 a31_ok rfl (rowOf := rAValue) (eltOf := (fun x => .agg (rAValue x))) (eltU := (fun x => .agg (rUValue x))) (fun x => by simp [rAValue]) (fun x h => by simp [rAValue]) (fun x => by simp) (fun x => by simp [rUValue]) (fun x => by simp [rUValue]) rfl l (by have := wL_len wValue l; unfold wValueS at hw; unfold LIM; omega) (fun x h => k_toValue x (by have := wL_mem (w := wValue) h; unfold wValueS at hw; omega))

theorem a33_ok : compFn Tryz.prog Tryz.f33 = some (tEq true 3 105) := by kernel_rfl

theorem k_eqValueS (l m : List DValue) : Holds Tryz.prog 33 [.sl 3 (l.map rAValue), .sl 3 (m.map rAValue)] (fun r => r = .bool (decide (l = m))) := by
  rw [← eqL_dec]
  exact holds_tEq Tryz.func33 a33_ok rfl (rowOf := rAValue) (eltOf := (fun x => .agg (rAValue x))) (fun x => by simp [rAValue]) (fun x h => by simp [rAValue]) l m (fun x y _ _ => k_eqValue x y)

theorem k_szBounds (x : DBounds) (left : Int) (h0 : 0 ≤ left ∧ left ≤ 4611686018427387904) : Holds Tryz.prog 70 [.agg (rABounds x), i64 left] (fun r => r = i64 (sub1 left (wBounds x))) := by
  refine holds_of_run Tryz.func70 a70_ok rfl (by simp [a70]) ?_
  simp [a70, rABounds]
  have e0 : wBounds x = wBounds x := rfl
  conv at e0 => rhs; unfold wBounds
  refine call_of (k_szLinS x.Lins left (by omega)) (by simp) ?_
  rintro r rfl
  by_cases h1 : left - (wLinS x.Lins : Nat) < 0
  case pos =>
    have q : left - (wBounds x : Int) < 0 := by omega
    simp [sub1, h1, q]
    try first | omega | (constructor <;> intros <;> omega)
  simp [sub1, h1]
  try (rw [if_neg (by omega)]; omega)

theorem k_toBounds (x : DBounds) (_hw : wBounds x ≤ 1048576) : Holds Tryz.prog 72 [.agg (rABounds x)] (fun r => r = .agg (rUBounds x)) := by
  have hw := _hw; unfold wBounds at hw
  refine holds_of_run Tryz.func72 a72_ok rfl (by simp [a72]) ?_
  simp [a72, rABounds]
  refine call_of (k_toLinS x.Lins (by omega)) (by simp []) ?_
  rintro r rfl
  simp []
  try simp [rUBounds]

theorem k_eqBounds (x y : DBounds) : Holds Tryz.prog 74 [.agg (rABounds x), .agg (rABounds y)] (fun r => r = .bool (decide (x = y))) := by
  refine holds_of_run Tryz.func74 a74_ok rfl (by simp [a74]) ?_
  simp [a74, rABounds]
  by_cases h0 : x.Kind = y.Kind
  case neg => simp [h0]; try exact fun e => h0 (by rw [e])
  simp [h0]
  refine call_of (k_eqLinS x.Lins y.Lins) (by simp []) ?_
  rintro r rfl
  by_cases h1 : x.Lins = y.Lins
  case neg => simp [h1]; try exact fun e => h1 (by rw [e])
  simp [h1]
  cases x; cases y; simp_all

end Go.Proofs.YtlmajgghnenbpaaGreat
