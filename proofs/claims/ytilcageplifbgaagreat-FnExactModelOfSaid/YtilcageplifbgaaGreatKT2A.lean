/- Contracts of the laws' functions over the types. -/
import Derived.Test.YtilcageplifbgaaGreatKT1
import Derived.Test.YtilcageplifbgaaGreatProg
namespace Go.Proofs.YtilcageplifbgaaGreat
set_option linter.all false
open Go Go.RowKit Go.Proofs
def a85:AFn:=
⟨12,[(.t 4)],(.seq
 (.reg [⟨some 4,(.mv (.k (.int .i64 0))),no⟩]) (.seq
 (.reg [⟨some 5,(.mv (.t 1)),no⟩,⟨some 6,(.mv (.t 0)),no⟩,⟨some 7,(.len false (.t 6)),no⟩,⟨some 8,(.bin .sub (.t 5) (.t 7)),no⟩,⟨some 1,(.mv (.t 8)),no⟩]) (.seq (.seq
 (.reg [⟨some 9,(.mv (.t 1)),no⟩,⟨some 10,(.bin .lss (.t 9) (.k (.int .i64 0))),no⟩]) (.cond (.t 10) (.seq
 (.reg [⟨some 4,(.mv (.k (.int .i64 (-1)))),no⟩]) .ret) .skip)) (.seq
 (.reg [⟨some 11,(.mv (.t 1)),no⟩,⟨some 4,(.mv (.t 11)),no⟩]) .ret))))⟩
theorem a85_ok:compFn Tryz.prog Tryz.f85=some a85:=by kernel_rfl
def a88:AFn:=
⟨22,[(.t 2)],(.seq
 (.reg [⟨some 2,(.mv (.k (.nil 1))),no⟩]) (.seq
 (.reg [⟨some 5,(.mv (.t 0)),no⟩,⟨some 6,(.len false (.t 5)),no⟩,⟨some 7,(.mks 8 [(.int .i64 0)] (.t 6) (.t 6)),no⟩,⟨some 3,(.mv (.t 7)),no⟩]) (.seq (.seq
 (.reg [⟨some 4,(.mv (.k (.int .i64 0))),no⟩]) (.blk 0 (.loop (.seq (.seq
 (.reg [⟨some 8,(.mv (.t 4)),no⟩,⟨some 9,(.mv (.t 0)),no⟩,⟨some 10,(.len false (.t 9)),no⟩,⟨some 11,(.bin .lss (.t 8) (.t 10)),no⟩]) (.cond (.t 11) .skip (.exit 0))) (.seq (.blk 1
 (.reg [⟨some 14,(.mv (.t 3)),no⟩,⟨some 15,(.mv (.t 4)),no⟩,⟨some 16,(.mv (.t 0)),no⟩,⟨some 17,(.mv (.t 4)),no⟩,⟨some 18,(.ixa 1 (.t 16) (.t 17)),no⟩,⟨some 19,(.ld false 1 (.t 18)),no⟩,⟨some 20,(.ixa 1 (.t 14) (.t 15)),no⟩,⟨no,(.st 1 (.t 20) (.t 19)),no⟩]))
 (.reg [⟨some 12,(.mv (.t 4)),no⟩,⟨some 13,(.bin .add (.t 12) (.k (.int .i64 1))),no⟩,⟨some 4,(.mv (.t 13)),no⟩])))))) (.seq
 (.reg [⟨some 21,(.mv (.t 3)),no⟩,⟨some 2,(.mv (.t 21)),no⟩]) .ret))))⟩
theorem a88_ok:compFn Tryz.prog Tryz.f88=some a88:=by kernel_rfl
def a92:AFn:=
⟨26,[(.t 4)],(.seq
 (.reg [⟨some 4,(.mv (.k (.bool false))),no⟩]) (.seq (.seq
 (.reg [⟨some 6,(.mv (.t 0)),no⟩,⟨some 7,(.len false (.t 6)),no⟩,⟨some 8,(.mv (.t 1)),no⟩,⟨some 9,(.len false (.t 8)),no⟩,⟨some 10,(.bin .neq (.t 7) (.t 9)),no⟩]) (.cond (.t 10) (.seq
 (.reg [⟨some 4,(.mv (.k (.bool false))),no⟩]) .ret) .skip)) (.seq (.seq
 (.reg [⟨some 5,(.mv (.k (.int .i64 0))),no⟩]) (.blk 0 (.loop (.seq (.seq
 (.reg [⟨some 11,(.mv (.t 5)),no⟩,⟨some 12,(.mv (.t 0)),no⟩,⟨some 13,(.len false (.t 12)),no⟩,⟨some 14,(.bin .lss (.t 11) (.t 13)),no⟩]) (.cond (.t 14) .skip (.exit 0))) (.seq (.blk 1 (.seq (.draw (.op ⟨some 17,(.mv (.t 0)),no⟩ (.op ⟨some 18,(.mv (.t 5)),no⟩ (.op ⟨some 19,(.ixa 1 (.t 17) (.t 18)),no⟩ (.op ⟨some 20,(.ld false 1 (.t 19)),no⟩ (.op ⟨some 21,(.mv (.t 1)),no⟩ (.op ⟨some 22,(.mv (.t 5)),no⟩ (.op ⟨some 23,(.ixa 1 (.t 21) (.t 22)),no⟩ (.op ⟨some 24,(.ld false 1 (.t 23)),no⟩ (.op ⟨some 25,(.bin .neq (.t 20) (.t 24)),no⟩ .fin)))))))))) (.cond (.t 25) (.seq
 (.reg [⟨some 4,(.mv (.k (.bool false))),no⟩]) .ret) .skip)))
 (.reg [⟨some 15,(.mv (.t 5)),no⟩,⟨some 16,(.bin .add (.t 15) (.k (.int .i64 1))),no⟩,⟨some 5,(.mv (.t 16)),no⟩])))))) (.seq
 (.reg [⟨some 4,(.mv (.k (.bool true))),no⟩]) .ret))))⟩
theorem a92_ok:compFn Tryz.prog Tryz.f92=some a92:=by kernel_rfl
def a199:AFn:=
⟨28,[(.t 4)],(.seq
 (.reg [⟨some 4,(.mv (.k (.int .i64 0))),no⟩]) (.seq
 (.reg [⟨some 6,(.mv (.t 1)),no⟩,⟨some 7,(.mv (.t 0)),no⟩,⟨some 8,(.len false (.t 7)),no⟩,⟨some 9,(.bin .sub (.t 6) (.t 8)),no⟩,⟨some 1,(.mv (.t 9)),no⟩]) (.seq (.seq
 (.reg [⟨some 10,(.mv (.t 1)),no⟩,⟨some 11,(.bin .lss (.t 10) (.k (.int .i64 0))),no⟩]) (.cond (.t 11) (.seq
 (.reg [⟨some 4,(.mv (.k (.int .i64 (-1)))),no⟩]) .ret) .skip)) (.seq (.seq
 (.reg [⟨some 5,(.mv (.k (.int .i64 0))),no⟩]) (.blk 0 (.loop (.seq (.seq
 (.reg [⟨some 12,(.mv (.t 5)),no⟩,⟨some 13,(.mv (.t 0)),no⟩,⟨some 14,(.len false (.t 13)),no⟩,⟨some 15,(.bin .lss (.t 12) (.t 14)),no⟩]) (.cond (.t 15) .skip (.exit 0))) (.seq (.blk 1 (.seq
 (.reg [⟨some 18,(.mv (.t 1)),no⟩,⟨some 19,(.mv (.t 0)),no⟩,⟨some 20,(.mv (.t 5)),no⟩,⟨some 21,(.ixa 1 (.t 19) (.t 20)),no⟩,⟨some 22,(.ld false 1 (.t 21)),no⟩,⟨some 23,(.len true (.t 22)),no⟩,⟨some 24,(.bin .sub (.t 18) (.t 23)),no⟩,⟨some 1,(.mv (.t 24)),no⟩]) (.seq
 (.reg [⟨some 25,(.mv (.t 1)),no⟩,⟨some 26,(.bin .lss (.t 25) (.k (.int .i64 0))),no⟩]) (.cond (.t 26) (.seq
 (.reg [⟨some 4,(.mv (.k (.int .i64 (-1)))),no⟩]) .ret) .skip))))
 (.reg [⟨some 16,(.mv (.t 5)),no⟩,⟨some 17,(.bin .add (.t 16) (.k (.int .i64 1))),no⟩,⟨some 5,(.mv (.t 17)),no⟩])))))) (.seq
 (.reg [⟨some 27,(.mv (.t 1)),no⟩,⟨some 4,(.mv (.t 27)),no⟩]) .ret)))))⟩
theorem a199_ok:compFn Tryz.prog Tryz.f199=some a199:=by kernel_rfl
def a213:AFn:=
⟨22,[(.t 2)],(.seq
 (.reg [⟨some 2,(.mv (.k (.nil 1))),no⟩]) (.seq
 (.reg [⟨some 5,(.mv (.t 0)),no⟩,⟨some 6,(.len false (.t 5)),no⟩,⟨some 7,(.mks 16 [(.str [])] (.t 6) (.t 6)),no⟩,⟨some 3,(.mv (.t 7)),no⟩]) (.seq (.seq
 (.reg [⟨some 4,(.mv (.k (.int .i64 0))),no⟩]) (.blk 0 (.loop (.seq (.seq
 (.reg [⟨some 8,(.mv (.t 4)),no⟩,⟨some 9,(.mv (.t 0)),no⟩,⟨some 10,(.len false (.t 9)),no⟩,⟨some 11,(.bin .lss (.t 8) (.t 10)),no⟩]) (.cond (.t 11) .skip (.exit 0))) (.seq (.blk 1
 (.reg [⟨some 14,(.mv (.t 3)),no⟩,⟨some 15,(.mv (.t 4)),no⟩,⟨some 16,(.mv (.t 0)),no⟩,⟨some 17,(.mv (.t 4)),no⟩,⟨some 18,(.ixa 1 (.t 16) (.t 17)),no⟩,⟨some 19,(.ld false 1 (.t 18)),no⟩,⟨some 20,(.ixa 1 (.t 14) (.t 15)),no⟩,⟨no,(.st 1 (.t 20) (.t 19)),no⟩]))
 (.reg [⟨some 12,(.mv (.t 4)),no⟩,⟨some 13,(.bin .add (.t 12) (.k (.int .i64 1))),no⟩,⟨some 4,(.mv (.t 13)),no⟩])))))) (.seq
 (.reg [⟨some 21,(.mv (.t 3)),no⟩,⟨some 2,(.mv (.t 21)),no⟩]) .ret))))⟩
theorem a213_ok:compFn Tryz.prog Tryz.f213=some a213:=by kernel_rfl
def a82:AFn:=
⟨26,[(.t 4)],(.seq
 (.reg [⟨some 4,(.mv (.k (.bool false))),no⟩]) (.seq (.seq
 (.reg [⟨some 6,(.mv (.t 0)),no⟩,⟨some 7,(.len false (.t 6)),no⟩,⟨some 8,(.mv (.t 1)),no⟩,⟨some 9,(.len false (.t 8)),no⟩,⟨some 10,(.bin .neq (.t 7) (.t 9)),no⟩]) (.cond (.t 10) (.seq
 (.reg [⟨some 4,(.mv (.k (.bool false))),no⟩]) .ret) .skip)) (.seq (.seq
 (.reg [⟨some 5,(.mv (.k (.int .i64 0))),no⟩]) (.blk 0 (.loop (.seq (.seq
 (.reg [⟨some 11,(.mv (.t 5)),no⟩,⟨some 12,(.mv (.t 0)),no⟩,⟨some 13,(.len false (.t 12)),no⟩,⟨some 14,(.bin .lss (.t 11) (.t 13)),no⟩]) (.cond (.t 14) .skip (.exit 0))) (.seq (.blk 1 (.seq (.draw (.op ⟨some 17,(.mv (.t 0)),no⟩ (.op ⟨some 18,(.mv (.t 5)),no⟩ (.op ⟨some 19,(.ixa 1 (.t 17) (.t 18)),no⟩ (.op ⟨some 20,(.ld false 1 (.t 19)),no⟩ (.op ⟨some 21,(.mv (.t 1)),no⟩ (.op ⟨some 22,(.mv (.t 5)),no⟩ (.op ⟨some 23,(.ixa 1 (.t 21) (.t 22)),no⟩ (.op ⟨some 24,(.ld false 1 (.t 23)),no⟩ (.op ⟨some 25,(.bin .neq (.t 20) (.t 24)),no⟩ .fin)))))))))) (.cond (.t 25) (.seq
 (.reg [⟨some 4,(.mv (.k (.bool false))),no⟩]) .ret) .skip)))
 (.reg [⟨some 15,(.mv (.t 5)),no⟩,⟨some 16,(.bin .add (.t 15) (.k (.int .i64 1))),no⟩,⟨some 5,(.mv (.t 16)),no⟩])))))) (.seq
 (.reg [⟨some 4,(.mv (.k (.bool true))),no⟩]) .ret))))⟩
theorem a82_ok:compFn Tryz.prog Tryz.f82=some a82:=by kernel_rfl
def a25:AFn:=
⟨12,[(.t 4)],(.seq
 (.reg [⟨some 2,(.boxv (.t 0)),no⟩,⟨some 4,(.mv (.k (.int .i64 0))),no⟩]) (.seq
 (.reg [⟨some 5,(.fld 1 (.t 2)),no⟩,⟨some 6,(.ld false 1 (.t 5)),no⟩,⟨some 7,(.mv (.t 1)),no⟩,⟨some 8,(.call (.k (.fn (.func 85) [] [])) [(.t 6),(.t 7)]),no⟩,⟨some 1,(.mv (.t 8)),no⟩]) (.seq (.seq
 (.reg [⟨some 9,(.mv (.t 1)),no⟩,⟨some 10,(.bin .lss (.t 9) (.k (.int .i64 0))),no⟩]) (.cond (.t 10) (.seq
 (.reg [⟨some 4,(.mv (.k (.int .i64 (-1)))),no⟩]) .ret) .skip)) (.seq
 (.reg [⟨some 11,(.mv (.t 1)),no⟩,⟨some 4,(.mv (.t 11)),no⟩]) .ret))))⟩
theorem a25_ok:compFn Tryz.prog Tryz.f25=some a25:=by kernel_rfl
def a27:AFn:=
⟨12,[(.c 2 true 2)],(.seq
 (.reg [⟨some 1,(.boxv (.t 0)),no⟩,⟨some 2,(.box [(.int .i64 0),(.nil 1)]),no⟩]) (.seq
 (.reg [⟨some 3,(.box [(.int .i64 0),(.nil 1)]),no⟩]) (.seq
 (.reg [⟨some 4,(.fld 0 (.t 1)),no⟩,⟨some 5,(.ld false 1 (.t 4)),no⟩,⟨some 6,(.fld 0 (.t 3)),no⟩,⟨no,(.st 1 (.t 6) (.t 5)),no⟩]) (.seq
 (.reg [⟨some 7,(.fld 1 (.t 1)),no⟩,⟨some 8,(.ld false 1 (.t 7)),no⟩,⟨some 9,(.call (.k (.fn (.func 88) [] [])) [(.t 8)]),no⟩,⟨some 10,(.fld 1 (.t 3)),no⟩,⟨no,(.st 1 (.t 10) (.t 9)),no⟩]) (.seq
 (.reg [⟨some 11,(.ld true 2 (.t 3)),no⟩,⟨no,(.st 2 (.t 2) (.t 11)),no⟩]) .ret)))))⟩
theorem a27_ok:compFn Tryz.prog Tryz.f27=some a27:=by kernel_rfl
def a29:AFn:=
⟨16,[(.t 4)],(.seq
 (.reg [⟨some 2,(.boxv (.t 0)),no⟩,⟨some 3,(.boxv (.t 1)),no⟩,⟨some 4,(.mv (.k (.bool false))),no⟩]) (.seq (.seq
 (.reg [⟨some 5,(.fld 0 (.t 2)),no⟩,⟨some 6,(.ld false 1 (.t 5)),no⟩,⟨some 7,(.fld 0 (.t 3)),no⟩,⟨some 8,(.ld false 1 (.t 7)),no⟩,⟨some 9,(.bin .neq (.t 6) (.t 8)),no⟩]) (.cond (.t 9) (.seq
 (.reg [⟨some 4,(.mv (.k (.bool false))),no⟩]) .ret) .skip)) (.seq (.seq
 (.reg [⟨some 10,(.fld 1 (.t 2)),no⟩,⟨some 11,(.ld false 1 (.t 10)),no⟩,⟨some 12,(.fld 1 (.t 3)),no⟩,⟨some 13,(.ld false 1 (.t 12)),no⟩,⟨some 14,(.call (.k (.fn (.func 92) [] [])) [(.t 11),(.t 13)]),no⟩,⟨some 15,(.un .not (.t 14)),no⟩]) (.cond (.t 15) (.seq
 (.reg [⟨some 4,(.mv (.k (.bool false))),no⟩]) .ret) .skip)) (.seq
 (.reg [⟨some 4,(.mv (.k (.bool true))),no⟩]) .ret))))⟩
theorem a29_ok:compFn Tryz.prog Tryz.f29=some a29:=by kernel_rfl
def a15:AFn:=
⟨16,[(.t 4)],(.seq
 (.reg [⟨some 2,(.boxv (.t 0)),no⟩,⟨some 3,(.boxv (.t 1)),no⟩,⟨some 4,(.mv (.k (.bool false))),no⟩]) (.seq (.seq
 (.reg [⟨some 5,(.fld 0 (.t 2)),no⟩,⟨some 6,(.ld false 1 (.t 5)),no⟩,⟨some 7,(.fld 0 (.t 3)),no⟩,⟨some 8,(.ld false 1 (.t 7)),no⟩,⟨some 9,(.bin .neq (.t 6) (.t 8)),no⟩]) (.cond (.t 9) (.seq
 (.reg [⟨some 4,(.mv (.k (.bool false))),no⟩]) .ret) .skip)) (.seq (.seq
 (.reg [⟨some 10,(.fld 1 (.t 2)),no⟩,⟨some 11,(.ld false 1 (.t 10)),no⟩,⟨some 12,(.fld 1 (.t 3)),no⟩,⟨some 13,(.ld false 1 (.t 12)),no⟩,⟨some 14,(.call (.k (.fn (.func 66) [] [])) [(.t 11),(.t 13)]),no⟩,⟨some 15,(.un .not (.t 14)),no⟩]) (.cond (.t 15) (.seq
 (.reg [⟨some 4,(.mv (.k (.bool false))),no⟩]) .ret) .skip)) (.seq
 (.reg [⟨some 4,(.mv (.k (.bool true))),no⟩]) .ret))))⟩
theorem a15_ok:compFn Tryz.prog Tryz.f15=some a15:=by kernel_rfl
def a34:AFn:=
⟨29,[(.t 4)],(.seq
 (.reg [⟨some 2,(.boxv (.t 0)),no⟩,⟨some 3,(.boxv (.t 1)),no⟩,⟨some 4,(.mv (.k (.bool false))),no⟩]) (.seq (.seq
 (.reg [⟨some 5,(.fld 0 (.t 2)),no⟩,⟨some 6,(.ld true 2 (.t 5)),no⟩,⟨some 7,(.fld 0 (.t 3)),no⟩,⟨some 8,(.ld true 2 (.t 7)),no⟩,⟨some 9,(.call (.k (.fn (.func 15) [] [])) [(.t 6),(.t 8)]),no⟩,⟨some 10,(.un .not (.t 9)),no⟩]) (.cond (.t 10) (.seq
 (.reg [⟨some 4,(.mv (.k (.bool false))),no⟩]) .ret) .skip)) (.seq (.seq
 (.reg [⟨some 11,(.fld 2 (.t 2)),no⟩,⟨some 12,(.ld false 1 (.t 11)),no⟩,⟨some 13,(.fld 2 (.t 3)),no⟩,⟨some 14,(.ld false 1 (.t 13)),no⟩,⟨some 15,(.call (.k (.fn (.func 66) [] [])) [(.t 12),(.t 14)]),no⟩,⟨some 16,(.un .not (.t 15)),no⟩]) (.cond (.t 16) (.seq
 (.reg [⟨some 4,(.mv (.k (.bool false))),no⟩]) .ret) .skip)) (.seq (.seq
 (.reg [⟨some 17,(.fld 3 (.t 2)),no⟩,⟨some 18,(.ld false 1 (.t 17)),no⟩,⟨some 19,(.fld 3 (.t 3)),no⟩,⟨some 20,(.ld false 1 (.t 19)),no⟩,⟨some 21,(.call (.k (.fn (.func 107) [] [])) [(.t 18),(.t 20)]),no⟩,⟨some 22,(.un .not (.t 21)),no⟩]) (.cond (.t 22) (.seq
 (.reg [⟨some 4,(.mv (.k (.bool false))),no⟩]) .ret) .skip)) (.seq (.seq
 (.reg [⟨some 23,(.fld 4 (.t 2)),no⟩,⟨some 24,(.ld true 2 (.t 23)),no⟩,⟨some 25,(.fld 4 (.t 3)),no⟩,⟨some 26,(.ld true 2 (.t 25)),no⟩,⟨some 27,(.call (.k (.fn (.func 29) [] [])) [(.t 24),(.t 26)]),no⟩,⟨some 28,(.un .not (.t 27)),no⟩]) (.cond (.t 28) (.seq
 (.reg [⟨some 4,(.mv (.k (.bool false))),no⟩]) .ret) .skip)) (.seq
 (.reg [⟨some 4,(.mv (.k (.bool true))),no⟩]) .ret))))))⟩
theorem a34_ok:compFn Tryz.prog Tryz.f34=some a34:=by kernel_rfl
theorem k_szIntS (l:List Int) (left:Int) (h0:0≤left∧left≤4611686018427387904):Holds Tryz.prog 85 [.sl 1 (intsR l),i64 left] (fun r=>r=i64 (sub1 left (wIntS l))):=by
  refine holds_of_run Tryz.func85 a85_ok rfl (by simp [a85]) ?_
  simp [a85]
  unfold LIM
  intro h1
  rw [wrap64 (by omega)]
  unfold sub1 wIntS
  exact ⟨fun h=>by rw [if_pos h],fun h=>by rw [if_neg (by omega)]⟩
theorem k_toIntS (a:List Int) (hw:wIntS a≤1048576):Holds Tryz.prog 88 [.sl 1 (intsR a)] (fun r=>r = .us 1 (intsR a)):=by
  unfold wIntS at hw
  refine holds_of_run Tryz.func88 a88_ok rfl (by simp [a88]) ?_
  simp [a88]
  intro h1
  refine ⟨by unfold LIM; omega,rL_of (fun k s h n=>∃ (i:Nat) (rows:List (List AV)),k=a.length - i∧i≤a.length∧s 0=ints a∧s 3 = .ref 0 0 a.length∧s 4=i64 i∧h=upd noHeap 0 (some ⟨false,1,rows⟩)∧n=1 ∧
    rows.length=a.length∧(∀ j,j<i→rows[j]? = (intsR a)[j]?)∧(∀ j (hj:j<rows.length),rows[j].length=1)) a.length ⟨0,List.replicate a.length [i64 0],by simp⟩ ?_⟩
  rintro k s h n ⟨i,rows,rfl,hi,s0,s3,s4,rfl,rfl,hr,hj,hc⟩
  by_cases hlt:i<a.length
  · have hm:=hc i (by omega)
    have htl:rows[i].tail=[]:=List.eq_nil_of_length_eq_zero (by simp [hm])
    simp [s0,s3,s4,hlt,hr,hm]
    intro _
    refine ⟨a.length - (i+1),by omega,i+1,rfl,by omega,by rw [wrap64 (by omega)]; rfl,rows.set i [i64 a[i]],by simp [htl],by simp [hr],fun j hj' => ?_,fun j hj' => ?_⟩
    · rw [List.getElem?_set]
      by_cases hji:i=j
      · subst hji; simp [hr,hlt]
      · rw [if_neg hji]; simpa using hj j (by omega)
    · rw [List.getElem_set]
      split
      · rfl
      · exact hc j (by simpa using hj')
  · simp [s0,s3,s4,hlt,hr]
    intro _
    have:rows=intsR a:=List.ext_getElem? fun j=>by
      by_cases hji:j<i
      · exact hj j hji
      · rw [List.getElem?_eq_none (by omega),List.getElem?_eq_none (by simp; omega)]
    subst this
    simp [List.take_of_length_le]
theorem k_eqIntS (a b:List Int):Holds Tryz.prog 92 [.sl 1 (intsR a),.sl 1 (intsR b)] (fun r=>r = .bool (decide (a=b))):=by
  refine holds_of_run Tryz.func92 a92_ok rfl (by simp [a92]) ?_
  simp [a92]
  intro h1 h2
  refine ⟨fun h e=>h (by rw [e]),fun hl=>rL_of (fun k s h n=>∃ i:Nat,k=a.length - i∧i≤a.length∧s 0=ints a∧s 1=ints b∧s 5=i64 i∧(∀ j,j<i→a[j]? = b[j]?)∧h=noHeap∧n=0) a.length ⟨0,by simp⟩ ?_⟩
  rintro k s h n ⟨i,rfl,hi,s0,s1,s5,hj,rfl,rfl⟩
  have hl:a.length=b.length:=by omega
  by_cases hlt:i<a.length
  · have hlt':i<b.length:=by omega
    unfold LIM at h1
    simp [s0,s1,s5,hlt,hlt']
    intro _
    refine ⟨fun h e=>h (by subst e; rfl),fun e=>⟨a.length - (i+1),by omega,i+1,rfl,by omega,by rw [wrap64 (by omega)]; rfl,fun j hj' => ?_⟩⟩
    by_cases hji:j=i
    · subst hji; simp [hlt,hlt',e]
    · exact hj j (by omega)
  · simp [s0,s1,s5,hlt]
    intro _
    refine List.ext_getElem? fun j => ?_
    by_cases hji:j<i
    · exact hj j hji
    · rw [List.getElem?_eq_none (by omega),List.getElem?_eq_none (by omega)]
theorem k_szStringS (l:List Str) (left:Int) (h0:0≤left∧left≤4611686018427387904):Holds Tryz.prog 199 [.sl 1 (strsR l),i64 left] (fun r=>r=i64 (sub1 left (wStringS l))):=by
  rw [show wStringS l=wL List.length l from rfl,←szL_sub1 (w:=List.length) (g:=fun x lf=>sub1 lf x.length) (fun _ _ _=>rfl) l left h0.1]
  refine holds_of_run Tryz.func199 a199_ok rfl (by simp [a199]) ?_
  simp [a199]
  intro h1
  unfold LIM at h1
  unfold szL
  rw [wrap64 (by omega)]
  refine ⟨fun h=>by rw [if_pos (by omega)],fun h=>rL_of (fun k s h n=>∃ (i:Nat) (lf:Int),k=l.length - i∧i≤l.length∧s 0=strs l∧s 1=i64 lf∧s 5=i64 i∧0≤lf∧lf≤left∧szLoop (fun (x:Str) lf=>sub1 lf x.length) (l.drop i) lf=szLoop (fun (x:Str) lf=>sub1 lf x.length) l (left - l.length)∧h=noHeap∧n=0) l.length ⟨0,left - l.length,by simp; omega⟩ ?_⟩
  rintro k s h n ⟨i,lf,rfl,hi,s0,s1,s5,hf,hlf,hj,rfl,rfl⟩
  rw [if_neg (by omega),←hj]
  by_cases hlt:i<l.length
  · rw [List.drop_eq_getElem_cons hlt] at hj ⊢
    simp only [szLoop] at hj ⊢
    simp [s0,s1,s5,hlt]
    intro _ h2
    unfold LIM at h2
    rw [wrap64 (by omega)]
    by_cases hx:lf - (l[i].length:Int)<0
    · rw [sub1_neg hx]
      simp; exact fun h=>by omega
    · rw [sub1_pos hx] at hj ⊢
      rw [if_neg hx] at hj ⊢
      refine ⟨fun h=>by omega,fun _=>⟨l.length - (i+1),by omega,i+1,rfl,by omega,by rw [wrap64 (by omega)]; rfl,by omega,by omega,rfl⟩⟩
  · rw [List.drop_eq_nil_of_le (by omega)] at hj ⊢
    simp [s0,s1,s5,hlt,szLoop]
theorem k_toStringS (a:List Str) (hw:wStringS a≤1048576):Holds Tryz.prog 213 [.sl 1 (strsR a)] (fun r=>r = .us 1 (strsR a)):=by
  have hw:=Nat.le_trans (wL_len _ _) hw
  refine holds_of_run Tryz.func213 a213_ok rfl (by simp [a213]) ?_
  simp [a213]
  intro h1
  refine ⟨by unfold LIM; omega,rL_of (fun k s h n=>∃ (i:Nat) (rows:List (List AV)),k=a.length - i∧i≤a.length∧s 0=strs a∧s 3 = .ref 0 0 a.length∧s 4=i64 i∧h=upd noHeap 0 (some ⟨false,1,rows⟩)∧n=1 ∧
    rows.length=a.length∧(∀ j,j<i→rows[j]? = (strsR a)[j]?)∧(∀ j (hj:j<rows.length),rows[j].length=1)) a.length ⟨0,List.replicate a.length [.str []],by simp⟩ ?_⟩
  rintro k s h n ⟨i,rows,rfl,hi,s0,s3,s4,rfl,rfl,hr,hj,hc⟩
  by_cases hlt:i<a.length
  · have hm:=hc i (by omega)
    have htl:rows[i].tail=[]:=List.eq_nil_of_length_eq_zero (by simp [hm])
    simp [s0,s3,s4,hlt,hr,hm]
    intro _
    refine ⟨a.length - (i+1),by omega,i+1,rfl,by omega,by rw [wrap64 (by omega)]; rfl,rows.set i [.str a[i]],by simp [htl],by simp [hr],fun j hj' => ?_,fun j hj' => ?_⟩
    · rw [List.getElem?_set]
      by_cases hji:i=j
      · subst hji; simp [hr,hlt]
      · rw [if_neg hji]; simpa using hj j (by omega)
    · rw [List.getElem_set]
      split
      · rfl
      · exact hc j (by simpa using hj')
  · simp [s0,s3,s4,hlt,hr]
    intro _
    have:rows=strsR a:=List.ext_getElem? fun j=>by
      by_cases hji:j<i
      · exact hj j hji
      · rw [List.getElem?_eq_none (by omega),List.getElem?_eq_none (by simp; omega)]
    subst this
    simp [List.take_of_length_le]
theorem k_eqStringS (a b:List Str):Holds Tryz.prog 82 [.sl 1 (strsR a),.sl 1 (strsR b)] (fun r=>r = .bool (decide (a=b))):=by
  refine holds_of_run Tryz.func82 a82_ok rfl (by simp [a82]) ?_
  simp [a82]
  intro h1 h2
  refine ⟨fun h e=>h (by rw [e]),fun hl=>rL_of (fun k s h n=>∃ i:Nat,k=a.length - i∧i≤a.length∧s 0=strs a∧s 1=strs b∧s 5=i64 i∧(∀ j,j<i→a[j]? = b[j]?)∧h=noHeap∧n=0) a.length ⟨0,by simp⟩ ?_⟩
  rintro k s h n ⟨i,rfl,hi,s0,s1,s5,hj,rfl,rfl⟩
  have hl:a.length=b.length:=by omega
  by_cases hlt:i<a.length
  · have hlt':i<b.length:=by omega
    unfold LIM at h1
    simp [s0,s1,s5,hlt,hlt']
    intro _
    refine ⟨fun h e=>h (by subst e; rfl),fun e=>⟨a.length - (i+1),by omega,i+1,rfl,by omega,by rw [wrap64 (by omega)]; rfl,fun j hj' => ?_⟩⟩
    by_cases hji:j=i
    · subst hji; simp [hlt,hlt',e]
    · exact hj j (by omega)
  · simp [s0,s1,s5,hlt]
    intro _
    refine List.ext_getElem? fun j => ?_
    by_cases hji:j<i
    · exact hj j hji
    · rw [List.getElem?_eq_none (by omega),List.getElem?_eq_none (by omega)]
theorem k_szLin (x:DLin) (left:Int) (h0:0≤left∧left≤4611686018427387904):Holds Tryz.prog 25 [.agg (rALin x),i64 left] (fun r=>r=i64 (sub1 left (wLin x))):=by
  refine holds_of_run Tryz.func25 a25_ok rfl (by simp [a25]) ?_
  simp [a25,rALin]
  have e0:wLin x=wLin x:=rfl
  conv at e0=>rhs; unfold wLin
  refine call_of (k_szIntS x.Coeffs left (by omega)) (by simp) ?_
  rintro r rfl
  by_cases h1:left - (wIntS x.Coeffs:Nat)<0
  case pos=>
    have q:left - (wLin x:Int)<0:=by omega
    simp [sub1,h1,q]
    try first | omega | (constructor <;> intros <;> omega)
  simp [sub1,h1]
  try (rw [if_neg (by omega)]; omega)
theorem k_toLin (x:DLin) (_hw:wLin x≤1048576):Holds Tryz.prog 27 [.agg (rALin x)] (fun r=>r = .agg (rULin x)):=by
  have hw:=_hw; unfold wLin at hw
  refine holds_of_run Tryz.func27 a27_ok rfl (by simp [a27]) ?_
  simp [a27,rALin]
  refine call_of (k_toIntS x.Coeffs (by omega)) (by simp []) ?_
  rintro r rfl
  simp []
  try simp [rULin]
theorem k_eqLin (x y:DLin):Holds Tryz.prog 29 [.agg (rALin x),.agg (rALin y)] (fun r=>r = .bool (decide (x=y))):=by
  refine holds_of_run Tryz.func29 a29_ok rfl (by simp [a29]) ?_
  simp [a29,rALin]
  by_cases h0:x.Const=y.Const
  case neg=>simp [h0]; try exact fun e=>h0 (by rw [e])
  simp [h0]
  refine call_of (k_eqIntS x.Coeffs y.Coeffs) (by simp []) ?_
  rintro r rfl
  by_cases h1:x.Coeffs=y.Coeffs
  case neg=>simp [h1]; try exact fun e=>h1 (by rw [e])
  simp [h1]
  cases x; cases y; simp_all
theorem a124_ok:compFn Tryz.prog Tryz.f124=some (tSz true 2 25):=by kernel_rfl
theorem k_szLinS (l:List DLin) (left:Int) (h0:0≤left∧left≤4611686018427387904):Holds Tryz.prog 124 [.sl 2 (l.map rALin),i64 left] (fun r=>r=i64 (sub1 left (wLinS l))):=by
  rw [show wLinS l=wL wLin l from rfl,←szL_sub1 (w:=wLin) (g:=fun x lf=>sub1 lf (wLin x)) (fun _ _ _=>rfl) l left h0.1]
  exact holds_tSz Tryz.func124 a124_ok rfl (rowOf:=rALin) (eltOf:=(fun x => .agg (rALin x))) (fun x=>by simp [rALin]) (fun x h=>by simp [rALin]) (fun x lf h=>sub1_le h) l left h0 (fun x lf _ hl=>k_szLin x lf hl)
theorem a128_ok:compFn Tryz.prog Tryz.f128=some (tTo true 2 32 27 [.int .i64 0,.nil 1]):=by kernel_rfl
theorem k_toLinS (l:List DLin) (hw:wLinS l≤1048576):Holds Tryz.prog 128 [.sl 2 (l.map rALin)] (fun r=>r = .us 2 (l.map rULin)):=
  holds_tTo Tryz.func128 a128_ok rfl (rowOf:=rALin) (eltOf:=(fun x => .agg (rALin x))) (eltU:=(fun x => .agg (rULin x))) (fun x=>by simp [rALin]) (fun x h=>by simp [rALin]) (fun x=>by simp) (fun x=>by simp [rULin]) (fun x=>by simp [rULin]) rfl l (by have:=wL_len wLin l; unfold wLinS at hw; unfold LIM; omega) (fun x h=>k_toLin x (by have:=wL_mem (w:=wLin) h; unfold wLinS at hw; omega))
theorem a66_ok:compFn Tryz.prog Tryz.f66=some (tEq true 2 29):=by kernel_rfl
theorem k_eqLinS (l m:List DLin):Holds Tryz.prog 66 [.sl 2 (l.map rALin),.sl 2 (m.map rALin)] (fun r=>r = .bool (decide (l=m))):=by
  rw [←eqL_dec]
  exact holds_tEq Tryz.func66 a66_ok rfl (rowOf:=rALin) (eltOf:=(fun x => .agg (rALin x))) (fun x=>by simp [rALin]) (fun x h=>by simp [rALin]) l m (fun x y _ _=>k_eqLin x y)
theorem a107_ok:compFn Tryz.prog Tryz.f107=some (tEq false 1 66):=by kernel_rfl
theorem k_eqLinSS (l m:List (List DLin)):Holds Tryz.prog 107 [.sl 1 (l.map rALinS),.sl 1 (m.map rALinS)] (fun r=>r = .bool (decide (l=m))):=by
  rw [←eqL_dec]
  exact holds_tEq Tryz.func107 a107_ok rfl (rowOf:=rALinS) (eltOf:=(fun x => .sl 2 (x.map rALin))) (fun x=>by simp [rALinS]) (fun x h=>by simp [rALinS]) l m (fun x y _ _=>k_eqLinS x y)
theorem k_eqSystem (x y:DSystem):Holds Tryz.prog 15 [.agg (rASystem x),.agg (rASystem y)] (fun r=>r = .bool (decide (x=y))):=by
  refine holds_of_run Tryz.func15 a15_ok rfl (by simp [a15]) ?_
  simp [a15,rASystem]
  by_cases h0:x.N=y.N
  case neg=>simp [h0]; try exact fun e=>h0 (by rw [e])
  simp [h0]
  refine call_of (k_eqLinS x.Rows y.Rows) (by simp []) ?_
  rintro r rfl
  by_cases h1:x.Rows=y.Rows
  case neg=>simp [h1]; try exact fun e=>h1 (by rw [e])
  simp [h1]
  cases x; cases y; simp_all
theorem k_eqModel (x y:DModel):Holds Tryz.prog 34 [.agg (rAModel x),.agg (rAModel y)] (fun r=>r = .bool (decide (x=y))):=by
  refine holds_of_run Tryz.func34 a34_ok rfl (by simp [a34]) ?_
  simp [a34,rAModel]
  refine call_of (k_eqSystem x.System y.System) (by simp [rASystem]) ?_
  rintro r rfl
  by_cases h0:x.System=y.System
  case neg=>simp [h0]; try exact fun e=>h0 (by rw [e])
  simp [h0]
  refine call_of (k_eqLinS x.Params y.Params) (by simp []) ?_
  rintro r rfl
  by_cases h1:x.Params=y.Params
  case neg=>simp [h1]; try exact fun e=>h1 (by rw [e])
  simp [h1]
  refine call_of (k_eqLinSS x.Args y.Args) (by simp []) ?_
  rintro r rfl
  by_cases h2:x.Args=y.Args
  case neg=>simp [h2]; try exact fun e=>h2 (by rw [e])
  simp [h2]
  refine call_of (k_eqLin x.Result y.Result) (by simp [rALin]) ?_
  rintro r rfl
  by_cases h3:x.Result=y.Result
  case neg=>simp [h3]; try exact fun e=>h3 (by rw [e])
  simp [h3]
  cases x; cases y; simp_all
end Go.Proofs.YtilcageplifbgaaGreat

namespace Go.Proofs.YtilcageplifbgaaGreat
set_option linter.all false
open Go Go.RowKit Go.Proofs
def a309:AFn:=
⟨13,[(.t 4)],(.seq
 (.reg [⟨some 2,(.boxv (.t 0)),no⟩,⟨some 4,(.mv (.k (.int .i64 0))),no⟩]) (.seq
 (.reg [⟨some 5,(.mv (.t 1)),no⟩,⟨some 6,(.fld 1 (.t 2)),no⟩,⟨some 7,(.ld false 1 (.t 6)),no⟩,⟨some 8,(.len true (.t 7)),no⟩,⟨some 9,(.bin .sub (.t 5) (.t 8)),no⟩,⟨some 1,(.mv (.t 9)),no⟩]) (.seq (.seq
 (.reg [⟨some 10,(.mv (.t 1)),no⟩,⟨some 11,(.bin .lss (.t 10) (.k (.int .i64 0))),no⟩]) (.cond (.t 11) (.seq
 (.reg [⟨some 4,(.mv (.k (.int .i64 (-1)))),no⟩]) .ret) .skip)) (.seq
 (.reg [⟨some 12,(.mv (.t 1)),no⟩,⟨some 4,(.mv (.t 12)),no⟩]) .ret))))⟩
theorem a309_ok:compFn Tryz.prog Tryz.f309=some a309:=by kernel_rfl
def a310:AFn:=
⟨11,[(.c 2 true 2)],(.seq
 (.reg [⟨some 1,(.boxv (.t 0)),no⟩,⟨some 2,(.box [(.int .i64 0),(.str [])]),no⟩]) (.seq
 (.reg [⟨some 3,(.box [(.int .i64 0),(.str [])]),no⟩]) (.seq
 (.reg [⟨some 4,(.fld 0 (.t 1)),no⟩,⟨some 5,(.ld false 1 (.t 4)),no⟩,⟨some 6,(.fld 0 (.t 3)),no⟩,⟨no,(.st 1 (.t 6) (.t 5)),no⟩]) (.seq
 (.reg [⟨some 7,(.fld 1 (.t 1)),no⟩,⟨some 8,(.ld false 1 (.t 7)),no⟩,⟨some 9,(.fld 1 (.t 3)),no⟩,⟨no,(.st 1 (.t 9) (.t 8)),no⟩]) (.seq
 (.reg [⟨some 10,(.ld true 2 (.t 3)),no⟩,⟨no,(.st 2 (.t 2) (.t 10)),no⟩]) .ret)))))⟩
theorem a310_ok:compFn Tryz.prog Tryz.f310=some a310:=by kernel_rfl
def a313:AFn:=
⟨15,[(.t 4)],(.seq
 (.reg [⟨some 2,(.boxv (.t 0)),no⟩,⟨some 3,(.boxv (.t 1)),no⟩,⟨some 4,(.mv (.k (.bool false))),no⟩]) (.seq (.seq
 (.reg [⟨some 5,(.fld 0 (.t 2)),no⟩,⟨some 6,(.ld false 1 (.t 5)),no⟩,⟨some 7,(.fld 0 (.t 3)),no⟩,⟨some 8,(.ld false 1 (.t 7)),no⟩,⟨some 9,(.bin .neq (.t 6) (.t 8)),no⟩]) (.cond (.t 9) (.seq
 (.reg [⟨some 4,(.mv (.k (.bool false))),no⟩]) .ret) .skip)) (.seq (.seq
 (.reg [⟨some 10,(.fld 1 (.t 2)),no⟩,⟨some 11,(.ld false 1 (.t 10)),no⟩,⟨some 12,(.fld 1 (.t 3)),no⟩,⟨some 13,(.ld false 1 (.t 12)),no⟩,⟨some 14,(.bin .neq (.t 11) (.t 13)),no⟩]) (.cond (.t 14) (.seq
 (.reg [⟨some 4,(.mv (.k (.bool false))),no⟩]) .ret) .skip)) (.seq
 (.reg [⟨some 4,(.mv (.k (.bool true))),no⟩]) .ret))))⟩
theorem a313_ok:compFn Tryz.prog Tryz.f313=some a313:=by kernel_rfl
def a265:AFn:=
⟨12,[(.t 4)],(.seq
 (.reg [⟨some 2,(.boxv (.t 0)),no⟩,⟨some 4,(.mv (.k (.int .i64 0))),no⟩]) (.seq
 (.reg [⟨some 5,(.fld 1 (.t 2)),no⟩,⟨some 6,(.ld false 1 (.t 5)),no⟩,⟨some 7,(.mv (.t 1)),no⟩,⟨some 8,(.call (.k (.fn (.func 291) [] [])) [(.t 6),(.t 7)]),no⟩,⟨some 1,(.mv (.t 8)),no⟩]) (.seq (.seq
 (.reg [⟨some 9,(.mv (.t 1)),no⟩,⟨some 10,(.bin .lss (.t 9) (.k (.int .i64 0))),no⟩]) (.cond (.t 10) (.seq
 (.reg [⟨some 4,(.mv (.k (.int .i64 (-1)))),no⟩]) .ret) .skip)) (.seq
 (.reg [⟨some 11,(.mv (.t 1)),no⟩,⟨some 4,(.mv (.t 11)),no⟩]) .ret))))⟩
theorem a265_ok:compFn Tryz.prog Tryz.f265=some a265:=by kernel_rfl
def a273:AFn:=
⟨12,[(.c 2 true 2)],(.seq
 (.reg [⟨some 1,(.boxv (.t 0)),no⟩,⟨some 2,(.box [(.int .i64 0),(.nil 2)]),no⟩]) (.seq
 (.reg [⟨some 3,(.box [(.int .i64 0),(.nil 2)]),no⟩]) (.seq
 (.reg [⟨some 4,(.fld 0 (.t 1)),no⟩,⟨some 5,(.ld false 1 (.t 4)),no⟩,⟨some 6,(.fld 0 (.t 3)),no⟩,⟨no,(.st 1 (.t 6) (.t 5)),no⟩]) (.seq
 (.reg [⟨some 7,(.fld 1 (.t 1)),no⟩,⟨some 8,(.ld false 1 (.t 7)),no⟩,⟨some 9,(.call (.k (.fn (.func 296) [] [])) [(.t 8)]),no⟩,⟨some 10,(.fld 1 (.t 3)),no⟩,⟨no,(.st 1 (.t 10) (.t 9)),no⟩]) (.seq
 (.reg [⟨some 11,(.ld true 2 (.t 3)),no⟩,⟨no,(.st 2 (.t 2) (.t 11)),no⟩]) .ret)))))⟩
theorem a273_ok:compFn Tryz.prog Tryz.f273=some a273:=by kernel_rfl
def a284:AFn:=
⟨16,[(.t 4)],(.seq
 (.reg [⟨some 2,(.boxv (.t 0)),no⟩,⟨some 3,(.boxv (.t 1)),no⟩,⟨some 4,(.mv (.k (.bool false))),no⟩]) (.seq (.seq
 (.reg [⟨some 5,(.fld 0 (.t 2)),no⟩,⟨some 6,(.ld false 1 (.t 5)),no⟩,⟨some 7,(.fld 0 (.t 3)),no⟩,⟨some 8,(.ld false 1 (.t 7)),no⟩,⟨some 9,(.bin .neq (.t 6) (.t 8)),no⟩]) (.cond (.t 9) (.seq
 (.reg [⟨some 4,(.mv (.k (.bool false))),no⟩]) .ret) .skip)) (.seq (.seq
 (.reg [⟨some 10,(.fld 1 (.t 2)),no⟩,⟨some 11,(.ld false 1 (.t 10)),no⟩,⟨some 12,(.fld 1 (.t 3)),no⟩,⟨some 13,(.ld false 1 (.t 12)),no⟩,⟨some 14,(.call (.k (.fn (.func 302) [] [])) [(.t 11),(.t 13)]),no⟩,⟨some 15,(.un .not (.t 14)),no⟩]) (.cond (.t 15) (.seq
 (.reg [⟨some 4,(.mv (.k (.bool false))),no⟩]) .ret) .skip)) (.seq
 (.reg [⟨some 4,(.mv (.k (.bool true))),no⟩]) .ret))))⟩
theorem a284_ok:compFn Tryz.prog Tryz.f284=some a284:=by kernel_rfl
def a203:AFn:=
⟨19,[(.t 4)],(.seq
 (.reg [⟨some 2,(.boxv (.t 0)),no⟩,⟨some 4,(.mv (.k (.int .i64 0))),no⟩]) (.seq
 (.reg [⟨some 5,(.fld 1 (.t 2)),no⟩,⟨some 6,(.ld false 1 (.t 5)),no⟩,⟨some 7,(.mv (.t 1)),no⟩,⟨some 8,(.call (.k (.fn (.func 201) [] [])) [(.t 6),(.t 7)]),no⟩,⟨some 1,(.mv (.t 8)),no⟩]) (.seq (.seq
 (.reg [⟨some 9,(.mv (.t 1)),no⟩,⟨some 10,(.bin .lss (.t 9) (.k (.int .i64 0))),no⟩]) (.cond (.t 10) (.seq
 (.reg [⟨some 4,(.mv (.k (.int .i64 (-1)))),no⟩]) .ret) .skip)) (.seq
 (.reg [⟨some 11,(.mv (.t 1)),no⟩,⟨some 12,(.fld 2 (.t 2)),no⟩,⟨some 13,(.ld false 1 (.t 12)),no⟩,⟨some 14,(.len true (.t 13)),no⟩,⟨some 15,(.bin .sub (.t 11) (.t 14)),no⟩,⟨some 1,(.mv (.t 15)),no⟩]) (.seq (.seq
 (.reg [⟨some 16,(.mv (.t 1)),no⟩,⟨some 17,(.bin .lss (.t 16) (.k (.int .i64 0))),no⟩]) (.cond (.t 17) (.seq
 (.reg [⟨some 4,(.mv (.k (.int .i64 (-1)))),no⟩]) .ret) .skip)) (.seq
 (.reg [⟨some 18,(.mv (.t 1)),no⟩,⟨some 4,(.mv (.t 18)),no⟩]) .ret))))))⟩
theorem a203_ok:compFn Tryz.prog Tryz.f203=some a203:=by kernel_rfl
def a217:AFn:=
⟨15,[(.c 2 true 3)],(.seq
 (.reg [⟨some 1,(.boxv (.t 0)),no⟩,⟨some 2,(.box [(.bool false),(.nil 2),(.str [])]),no⟩]) (.seq
 (.reg [⟨some 3,(.box [(.bool false),(.nil 2),(.str [])]),no⟩]) (.seq
 (.reg [⟨some 4,(.fld 0 (.t 1)),no⟩,⟨some 5,(.ld false 1 (.t 4)),no⟩,⟨some 6,(.fld 0 (.t 3)),no⟩,⟨no,(.st 1 (.t 6) (.t 5)),no⟩]) (.seq
 (.reg [⟨some 7,(.fld 1 (.t 1)),no⟩,⟨some 8,(.ld false 1 (.t 7)),no⟩,⟨some 9,(.call (.k (.fn (.func 215) [] [])) [(.t 8)]),no⟩,⟨some 10,(.fld 1 (.t 3)),no⟩,⟨no,(.st 1 (.t 10) (.t 9)),no⟩]) (.seq
 (.reg [⟨some 11,(.fld 2 (.t 1)),no⟩,⟨some 12,(.ld false 1 (.t 11)),no⟩,⟨some 13,(.fld 2 (.t 3)),no⟩,⟨no,(.st 1 (.t 13) (.t 12)),no⟩]) (.seq
 (.reg [⟨some 14,(.ld true 3 (.t 3)),no⟩,⟨no,(.st 3 (.t 2) (.t 14)),no⟩]) .ret))))))⟩
theorem a217_ok:compFn Tryz.prog Tryz.f217=some a217:=by kernel_rfl
def a235:AFn:=
⟨21,[(.t 4)],(.seq
 (.reg [⟨some 2,(.boxv (.t 0)),no⟩,⟨some 3,(.boxv (.t 1)),no⟩,⟨some 4,(.mv (.k (.bool false))),no⟩]) (.seq (.seq
 (.reg [⟨some 5,(.fld 0 (.t 2)),no⟩,⟨some 6,(.ld false 1 (.t 5)),no⟩,⟨some 7,(.fld 0 (.t 3)),no⟩,⟨some 8,(.ld false 1 (.t 7)),no⟩,⟨some 9,(.beq true (.t 6) (.t 8)),no⟩]) (.cond (.t 9) (.seq
 (.reg [⟨some 4,(.mv (.k (.bool false))),no⟩]) .ret) .skip)) (.seq (.seq
 (.reg [⟨some 10,(.fld 1 (.t 2)),no⟩,⟨some 11,(.ld false 1 (.t 10)),no⟩,⟨some 12,(.fld 1 (.t 3)),no⟩,⟨some 13,(.ld false 1 (.t 12)),no⟩,⟨some 14,(.call (.k (.fn (.func 233) [] [])) [(.t 11),(.t 13)]),no⟩,⟨some 15,(.un .not (.t 14)),no⟩]) (.cond (.t 15) (.seq
 (.reg [⟨some 4,(.mv (.k (.bool false))),no⟩]) .ret) .skip)) (.seq (.seq
 (.reg [⟨some 16,(.fld 2 (.t 2)),no⟩,⟨some 17,(.ld false 1 (.t 16)),no⟩,⟨some 18,(.fld 2 (.t 3)),no⟩,⟨some 19,(.ld false 1 (.t 18)),no⟩,⟨some 20,(.bin .neq (.t 17) (.t 19)),no⟩]) (.cond (.t 20) (.seq
 (.reg [⟨some 4,(.mv (.k (.bool false))),no⟩]) .ret) .skip)) (.seq
 (.reg [⟨some 4,(.mv (.k (.bool true))),no⟩]) .ret)))))⟩
theorem a235_ok:compFn Tryz.prog Tryz.f235=some a235:=by kernel_rfl
def a264:AFn:=
⟨27,[(.t 4)],(.seq
 (.reg [⟨some 2,(.boxv (.t 0)),no⟩,⟨some 4,(.mv (.k (.int .i64 0))),no⟩]) (.seq
 (.reg [⟨some 5,(.mv (.t 1)),no⟩,⟨some 6,(.fld 0 (.t 2)),no⟩,⟨some 7,(.ld false 1 (.t 6)),no⟩,⟨some 8,(.len true (.t 7)),no⟩,⟨some 9,(.bin .sub (.t 5) (.t 8)),no⟩,⟨some 1,(.mv (.t 9)),no⟩]) (.seq (.seq
 (.reg [⟨some 10,(.mv (.t 1)),no⟩,⟨some 11,(.bin .lss (.t 10) (.k (.int .i64 0))),no⟩]) (.cond (.t 11) (.seq
 (.reg [⟨some 4,(.mv (.k (.int .i64 (-1)))),no⟩]) .ret) .skip)) (.seq
 (.reg [⟨some 12,(.mv (.t 1)),no⟩,⟨some 13,(.fld 2 (.t 2)),no⟩,⟨some 14,(.ld false 1 (.t 13)),no⟩,⟨some 15,(.len true (.t 14)),no⟩,⟨some 16,(.bin .sub (.t 12) (.t 15)),no⟩,⟨some 1,(.mv (.t 16)),no⟩]) (.seq (.seq
 (.reg [⟨some 17,(.mv (.t 1)),no⟩,⟨some 18,(.bin .lss (.t 17) (.k (.int .i64 0))),no⟩]) (.cond (.t 18) (.seq
 (.reg [⟨some 4,(.mv (.k (.int .i64 (-1)))),no⟩]) .ret) .skip)) (.seq
 (.reg [⟨some 19,(.mv (.t 1)),no⟩,⟨some 20,(.fld 3 (.t 2)),no⟩,⟨some 21,(.ld false 1 (.t 20)),no⟩,⟨some 22,(.len true (.t 21)),no⟩,⟨some 23,(.bin .sub (.t 19) (.t 22)),no⟩,⟨some 1,(.mv (.t 23)),no⟩]) (.seq (.seq
 (.reg [⟨some 24,(.mv (.t 1)),no⟩,⟨some 25,(.bin .lss (.t 24) (.k (.int .i64 0))),no⟩]) (.cond (.t 25) (.seq
 (.reg [⟨some 4,(.mv (.k (.int .i64 (-1)))),no⟩]) .ret) .skip)) (.seq
 (.reg [⟨some 26,(.mv (.t 1)),no⟩,⟨some 4,(.mv (.t 26)),no⟩]) .ret))))))))⟩
theorem a264_ok:compFn Tryz.prog Tryz.f264=some a264:=by kernel_rfl
def a272:AFn:=
⟨17,[(.c 2 true 4)],(.seq
 (.reg [⟨some 1,(.boxv (.t 0)),no⟩,⟨some 2,(.box [(.str []),(.bool false),(.str []),(.str [])]),no⟩]) (.seq
 (.reg [⟨some 3,(.box [(.str []),(.bool false),(.str []),(.str [])]),no⟩]) (.seq
 (.reg [⟨some 4,(.fld 0 (.t 1)),no⟩,⟨some 5,(.ld false 1 (.t 4)),no⟩,⟨some 6,(.fld 0 (.t 3)),no⟩,⟨no,(.st 1 (.t 6) (.t 5)),no⟩]) (.seq
 (.reg [⟨some 7,(.fld 1 (.t 1)),no⟩,⟨some 8,(.ld false 1 (.t 7)),no⟩,⟨some 9,(.fld 1 (.t 3)),no⟩,⟨no,(.st 1 (.t 9) (.t 8)),no⟩]) (.seq
 (.reg [⟨some 10,(.fld 2 (.t 1)),no⟩,⟨some 11,(.ld false 1 (.t 10)),no⟩,⟨some 12,(.fld 2 (.t 3)),no⟩,⟨no,(.st 1 (.t 12) (.t 11)),no⟩]) (.seq
 (.reg [⟨some 13,(.fld 3 (.t 1)),no⟩,⟨some 14,(.ld false 1 (.t 13)),no⟩,⟨some 15,(.fld 3 (.t 3)),no⟩,⟨no,(.st 1 (.t 15) (.t 14)),no⟩]) (.seq
 (.reg [⟨some 16,(.ld true 4 (.t 3)),no⟩,⟨no,(.st 4 (.t 2) (.t 16)),no⟩]) .ret)))))))⟩
theorem a272_ok:compFn Tryz.prog Tryz.f272=some a272:=by kernel_rfl
def a283:AFn:=
⟨25,[(.t 4)],(.seq
 (.reg [⟨some 2,(.boxv (.t 0)),no⟩,⟨some 3,(.boxv (.t 1)),no⟩,⟨some 4,(.mv (.k (.bool false))),no⟩]) (.seq (.seq
 (.reg [⟨some 5,(.fld 0 (.t 2)),no⟩,⟨some 6,(.ld false 1 (.t 5)),no⟩,⟨some 7,(.fld 0 (.t 3)),no⟩,⟨some 8,(.ld false 1 (.t 7)),no⟩,⟨some 9,(.bin .neq (.t 6) (.t 8)),no⟩]) (.cond (.t 9) (.seq
 (.reg [⟨some 4,(.mv (.k (.bool false))),no⟩]) .ret) .skip)) (.seq (.seq
 (.reg [⟨some 10,(.fld 1 (.t 2)),no⟩,⟨some 11,(.ld false 1 (.t 10)),no⟩,⟨some 12,(.fld 1 (.t 3)),no⟩,⟨some 13,(.ld false 1 (.t 12)),no⟩,⟨some 14,(.beq true (.t 11) (.t 13)),no⟩]) (.cond (.t 14) (.seq
 (.reg [⟨some 4,(.mv (.k (.bool false))),no⟩]) .ret) .skip)) (.seq (.seq
 (.reg [⟨some 15,(.fld 2 (.t 2)),no⟩,⟨some 16,(.ld false 1 (.t 15)),no⟩,⟨some 17,(.fld 2 (.t 3)),no⟩,⟨some 18,(.ld false 1 (.t 17)),no⟩,⟨some 19,(.bin .neq (.t 16) (.t 18)),no⟩]) (.cond (.t 19) (.seq
 (.reg [⟨some 4,(.mv (.k (.bool false))),no⟩]) .ret) .skip)) (.seq (.seq
 (.reg [⟨some 20,(.fld 3 (.t 2)),no⟩,⟨some 21,(.ld false 1 (.t 20)),no⟩,⟨some 22,(.fld 3 (.t 3)),no⟩,⟨some 23,(.ld false 1 (.t 22)),no⟩,⟨some 24,(.bin .neq (.t 21) (.t 23)),no⟩]) (.cond (.t 24) (.seq
 (.reg [⟨some 4,(.mv (.k (.bool false))),no⟩]) .ret) .skip)) (.seq
 (.reg [⟨some 4,(.mv (.k (.bool true))),no⟩]) .ret))))))⟩
theorem a283_ok:compFn Tryz.prog Tryz.f283=some a283:=by kernel_rfl
def a266:AFn:=
⟨26,[(.t 4)],(.seq
 (.reg [⟨some 2,(.boxv (.t 0)),no⟩,⟨some 4,(.mv (.k (.int .i64 0))),no⟩]) (.seq
 (.reg [⟨some 5,(.mv (.t 1)),no⟩,⟨some 6,(.fld 0 (.t 2)),no⟩,⟨some 7,(.ld false 1 (.t 6)),no⟩,⟨some 8,(.len true (.t 7)),no⟩,⟨some 9,(.bin .sub (.t 5) (.t 8)),no⟩,⟨some 1,(.mv (.t 9)),no⟩]) (.seq (.seq
 (.reg [⟨some 10,(.mv (.t 1)),no⟩,⟨some 11,(.bin .lss (.t 10) (.k (.int .i64 0))),no⟩]) (.cond (.t 11) (.seq
 (.reg [⟨some 4,(.mv (.k (.int .i64 (-1)))),no⟩]) .ret) .skip)) (.seq
 (.reg [⟨some 12,(.mv (.t 1)),no⟩,⟨some 13,(.fld 1 (.t 2)),no⟩,⟨some 14,(.ld false 1 (.t 13)),no⟩,⟨some 15,(.len true (.t 14)),no⟩,⟨some 16,(.bin .sub (.t 12) (.t 15)),no⟩,⟨some 1,(.mv (.t 16)),no⟩]) (.seq (.seq
 (.reg [⟨some 17,(.mv (.t 1)),no⟩,⟨some 18,(.bin .lss (.t 17) (.k (.int .i64 0))),no⟩]) (.cond (.t 18) (.seq
 (.reg [⟨some 4,(.mv (.k (.int .i64 (-1)))),no⟩]) .ret) .skip)) (.seq
 (.reg [⟨some 19,(.fld 2 (.t 2)),no⟩,⟨some 20,(.ld false 1 (.t 19)),no⟩,⟨some 21,(.mv (.t 1)),no⟩,⟨some 22,(.call (.k (.fn (.func 292) [] [])) [(.t 20),(.t 21)]),no⟩,⟨some 1,(.mv (.t 22)),no⟩]) (.seq (.seq
 (.reg [⟨some 23,(.mv (.t 1)),no⟩,⟨some 24,(.bin .lss (.t 23) (.k (.int .i64 0))),no⟩]) (.cond (.t 24) (.seq
 (.reg [⟨some 4,(.mv (.k (.int .i64 (-1)))),no⟩]) .ret) .skip)) (.seq
 (.reg [⟨some 25,(.mv (.t 1)),no⟩,⟨some 4,(.mv (.t 25)),no⟩]) .ret))))))))⟩
theorem a266_ok:compFn Tryz.prog Tryz.f266=some a266:=by kernel_rfl
def a274:AFn:=
⟨15,[(.c 2 true 3)],(.seq
 (.reg [⟨some 1,(.boxv (.t 0)),no⟩,⟨some 2,(.box [(.str []),(.str []),(.nil 3)]),no⟩]) (.seq
 (.reg [⟨some 3,(.box [(.str []),(.str []),(.nil 3)]),no⟩]) (.seq
 (.reg [⟨some 4,(.fld 0 (.t 1)),no⟩,⟨some 5,(.ld false 1 (.t 4)),no⟩,⟨some 6,(.fld 0 (.t 3)),no⟩,⟨no,(.st 1 (.t 6) (.t 5)),no⟩]) (.seq
 (.reg [⟨some 7,(.fld 1 (.t 1)),no⟩,⟨some 8,(.ld false 1 (.t 7)),no⟩,⟨some 9,(.fld 1 (.t 3)),no⟩,⟨no,(.st 1 (.t 9) (.t 8)),no⟩]) (.seq
 (.reg [⟨some 10,(.fld 2 (.t 1)),no⟩,⟨some 11,(.ld false 1 (.t 10)),no⟩,⟨some 12,(.call (.k (.fn (.func 297) [] [])) [(.t 11)]),no⟩,⟨some 13,(.fld 2 (.t 3)),no⟩,⟨no,(.st 1 (.t 13) (.t 12)),no⟩]) (.seq
 (.reg [⟨some 14,(.ld true 3 (.t 3)),no⟩,⟨no,(.st 3 (.t 2) (.t 14)),no⟩]) .ret))))))⟩
theorem a274_ok:compFn Tryz.prog Tryz.f274=some a274:=by kernel_rfl
def a285:AFn:=
⟨21,[(.t 4)],(.seq
 (.reg [⟨some 2,(.boxv (.t 0)),no⟩,⟨some 3,(.boxv (.t 1)),no⟩,⟨some 4,(.mv (.k (.bool false))),no⟩]) (.seq (.seq
 (.reg [⟨some 5,(.fld 0 (.t 2)),no⟩,⟨some 6,(.ld false 1 (.t 5)),no⟩,⟨some 7,(.fld 0 (.t 3)),no⟩,⟨some 8,(.ld false 1 (.t 7)),no⟩,⟨some 9,(.bin .neq (.t 6) (.t 8)),no⟩]) (.cond (.t 9) (.seq
 (.reg [⟨some 4,(.mv (.k (.bool false))),no⟩]) .ret) .skip)) (.seq (.seq
 (.reg [⟨some 10,(.fld 1 (.t 2)),no⟩,⟨some 11,(.ld false 1 (.t 10)),no⟩,⟨some 12,(.fld 1 (.t 3)),no⟩,⟨some 13,(.ld false 1 (.t 12)),no⟩,⟨some 14,(.bin .neq (.t 11) (.t 13)),no⟩]) (.cond (.t 14) (.seq
 (.reg [⟨some 4,(.mv (.k (.bool false))),no⟩]) .ret) .skip)) (.seq (.seq
 (.reg [⟨some 15,(.fld 2 (.t 2)),no⟩,⟨some 16,(.ld false 1 (.t 15)),no⟩,⟨some 17,(.fld 2 (.t 3)),no⟩,⟨some 18,(.ld false 1 (.t 17)),no⟩,⟨some 19,(.call (.k (.fn (.func 303) [] [])) [(.t 16),(.t 18)]),no⟩,⟨some 20,(.un .not (.t 19)),no⟩]) (.cond (.t 20) (.seq
 (.reg [⟨some 4,(.mv (.k (.bool false))),no⟩]) .ret) .skip)) (.seq
 (.reg [⟨some 4,(.mv (.k (.bool true))),no⟩]) .ret)))))⟩
theorem a285_ok:compFn Tryz.prog Tryz.f285=some a285:=by kernel_rfl
def a139:AFn:=
⟨37,[(.t 4)],(.seq
 (.reg [⟨some 2,(.boxv (.t 0)),no⟩,⟨some 4,(.mv (.k (.int .i64 0))),no⟩]) (.seq
 (.reg [⟨some 5,(.mv (.t 1)),no⟩,⟨some 6,(.fld 0 (.t 2)),no⟩,⟨some 7,(.ld false 1 (.t 6)),no⟩,⟨some 8,(.len true (.t 7)),no⟩,⟨some 9,(.bin .sub (.t 5) (.t 8)),no⟩,⟨some 1,(.mv (.t 9)),no⟩]) (.seq (.seq
 (.reg [⟨some 10,(.mv (.t 1)),no⟩,⟨some 11,(.bin .lss (.t 10) (.k (.int .i64 0))),no⟩]) (.cond (.t 11) (.seq
 (.reg [⟨some 4,(.mv (.k (.int .i64 (-1)))),no⟩]) .ret) .skip)) (.seq
 (.reg [⟨some 12,(.fld 1 (.t 2)),no⟩,⟨some 13,(.ld false 1 (.t 12)),no⟩,⟨some 14,(.mv (.t 1)),no⟩,⟨some 15,(.call (.k (.fn (.func 200) [] [])) [(.t 13),(.t 14)]),no⟩,⟨some 1,(.mv (.t 15)),no⟩]) (.seq (.seq
 (.reg [⟨some 16,(.mv (.t 1)),no⟩,⟨some 17,(.bin .lss (.t 16) (.k (.int .i64 0))),no⟩]) (.cond (.t 17) (.seq
 (.reg [⟨some 4,(.mv (.k (.int .i64 (-1)))),no⟩]) .ret) .skip)) (.seq
 (.reg [⟨some 18,(.fld 2 (.t 2)),no⟩,⟨some 19,(.ld false 1 (.t 18)),no⟩,⟨some 20,(.mv (.t 1)),no⟩,⟨some 21,(.call (.k (.fn (.func 201) [] [])) [(.t 19),(.t 20)]),no⟩,⟨some 1,(.mv (.t 21)),no⟩]) (.seq (.seq
 (.reg [⟨some 22,(.mv (.t 1)),no⟩,⟨some 23,(.bin .lss (.t 22) (.k (.int .i64 0))),no⟩]) (.cond (.t 23) (.seq
 (.reg [⟨some 4,(.mv (.k (.int .i64 (-1)))),no⟩]) .ret) .skip)) (.seq
 (.reg [⟨some 24,(.fld 3 (.t 2)),no⟩,⟨some 25,(.ld false 1 (.t 24)),no⟩,⟨some 26,(.mv (.t 1)),no⟩,⟨some 27,(.call (.k (.fn (.func 202) [] [])) [(.t 25),(.t 26)]),no⟩,⟨some 1,(.mv (.t 27)),no⟩]) (.seq (.seq
 (.reg [⟨some 28,(.mv (.t 1)),no⟩,⟨some 29,(.bin .lss (.t 28) (.k (.int .i64 0))),no⟩]) (.cond (.t 29) (.seq
 (.reg [⟨some 4,(.mv (.k (.int .i64 (-1)))),no⟩]) .ret) .skip)) (.seq
 (.reg [⟨some 30,(.fld 4 (.t 2)),no⟩,⟨some 31,(.ld true 3 (.t 30)),no⟩,⟨some 32,(.mv (.t 1)),no⟩,⟨some 33,(.call (.k (.fn (.func 203) [] [])) [(.t 31),(.t 32)]),no⟩,⟨some 1,(.mv (.t 33)),no⟩]) (.seq (.seq
 (.reg [⟨some 34,(.mv (.t 1)),no⟩,⟨some 35,(.bin .lss (.t 34) (.k (.int .i64 0))),no⟩]) (.cond (.t 35) (.seq
 (.reg [⟨some 4,(.mv (.k (.int .i64 (-1)))),no⟩]) .ret) .skip)) (.seq
 (.reg [⟨some 36,(.mv (.t 1)),no⟩,⟨some 4,(.mv (.t 36)),no⟩]) .ret))))))))))))⟩
theorem a139_ok:compFn Tryz.prog Tryz.f139=some a139:=by kernel_rfl
def a147:AFn:=
⟨24,[(.c 2 true 7)],(.seq
 (.reg [⟨some 1,(.boxv (.t 0)),no⟩,⟨some 2,(.box [(.str []),(.nil 4),(.nil 2),(.nil 3),(.bool false),(.nil 2),(.str [])]),no⟩]) (.seq
 (.reg [⟨some 3,(.box [(.str []),(.nil 4),(.nil 2),(.nil 3),(.bool false),(.nil 2),(.str [])]),no⟩]) (.seq
 (.reg [⟨some 4,(.fld 0 (.t 1)),no⟩,⟨some 5,(.ld false 1 (.t 4)),no⟩,⟨some 6,(.fld 0 (.t 3)),no⟩,⟨no,(.st 1 (.t 6) (.t 5)),no⟩]) (.seq
 (.reg [⟨some 7,(.fld 1 (.t 1)),no⟩,⟨some 8,(.ld false 1 (.t 7)),no⟩,⟨some 9,(.call (.k (.fn (.func 214) [] [])) [(.t 8)]),no⟩,⟨some 10,(.fld 1 (.t 3)),no⟩,⟨no,(.st 1 (.t 10) (.t 9)),no⟩]) (.seq
 (.reg [⟨some 11,(.fld 2 (.t 1)),no⟩,⟨some 12,(.ld false 1 (.t 11)),no⟩,⟨some 13,(.call (.k (.fn (.func 215) [] [])) [(.t 12)]),no⟩,⟨some 14,(.fld 2 (.t 3)),no⟩,⟨no,(.st 1 (.t 14) (.t 13)),no⟩]) (.seq
 (.reg [⟨some 15,(.fld 3 (.t 1)),no⟩,⟨some 16,(.ld false 1 (.t 15)),no⟩,⟨some 17,(.call (.k (.fn (.func 216) [] [])) [(.t 16)]),no⟩,⟨some 18,(.fld 3 (.t 3)),no⟩,⟨no,(.st 1 (.t 18) (.t 17)),no⟩]) (.seq
 (.reg [⟨some 19,(.fld 4 (.t 1)),no⟩,⟨some 20,(.ld true 3 (.t 19)),no⟩,⟨some 21,(.call (.k (.fn (.func 217) [] [])) [(.t 20)]),no⟩,⟨some 22,(.fld 4 (.t 3)),no⟩,⟨no,(.st 3 (.t 22) (.t 21)),no⟩]) (.seq
 (.reg [⟨some 23,(.ld true 7 (.t 3)),no⟩,⟨no,(.st 7 (.t 2) (.t 23)),no⟩]) .ret))))))))⟩
theorem a147_ok:compFn Tryz.prog Tryz.f147=some a147:=by kernel_rfl
def a160:AFn:=
⟨34,[(.t 4)],(.seq
 (.reg [⟨some 2,(.boxv (.t 0)),no⟩,⟨some 3,(.boxv (.t 1)),no⟩,⟨some 4,(.mv (.k (.bool false))),no⟩]) (.seq (.seq
 (.reg [⟨some 5,(.fld 0 (.t 2)),no⟩,⟨some 6,(.ld false 1 (.t 5)),no⟩,⟨some 7,(.fld 0 (.t 3)),no⟩,⟨some 8,(.ld false 1 (.t 7)),no⟩,⟨some 9,(.bin .neq (.t 6) (.t 8)),no⟩]) (.cond (.t 9) (.seq
 (.reg [⟨some 4,(.mv (.k (.bool false))),no⟩]) .ret) .skip)) (.seq (.seq
 (.reg [⟨some 10,(.fld 1 (.t 2)),no⟩,⟨some 11,(.ld false 1 (.t 10)),no⟩,⟨some 12,(.fld 1 (.t 3)),no⟩,⟨some 13,(.ld false 1 (.t 12)),no⟩,⟨some 14,(.call (.k (.fn (.func 232) [] [])) [(.t 11),(.t 13)]),no⟩,⟨some 15,(.un .not (.t 14)),no⟩]) (.cond (.t 15) (.seq
 (.reg [⟨some 4,(.mv (.k (.bool false))),no⟩]) .ret) .skip)) (.seq (.seq
 (.reg [⟨some 16,(.fld 2 (.t 2)),no⟩,⟨some 17,(.ld false 1 (.t 16)),no⟩,⟨some 18,(.fld 2 (.t 3)),no⟩,⟨some 19,(.ld false 1 (.t 18)),no⟩,⟨some 20,(.call (.k (.fn (.func 233) [] [])) [(.t 17),(.t 19)]),no⟩,⟨some 21,(.un .not (.t 20)),no⟩]) (.cond (.t 21) (.seq
 (.reg [⟨some 4,(.mv (.k (.bool false))),no⟩]) .ret) .skip)) (.seq (.seq
 (.reg [⟨some 22,(.fld 3 (.t 2)),no⟩,⟨some 23,(.ld false 1 (.t 22)),no⟩,⟨some 24,(.fld 3 (.t 3)),no⟩,⟨some 25,(.ld false 1 (.t 24)),no⟩,⟨some 26,(.call (.k (.fn (.func 234) [] [])) [(.t 23),(.t 25)]),no⟩,⟨some 27,(.un .not (.t 26)),no⟩]) (.cond (.t 27) (.seq
 (.reg [⟨some 4,(.mv (.k (.bool false))),no⟩]) .ret) .skip)) (.seq (.seq
 (.reg [⟨some 28,(.fld 4 (.t 2)),no⟩,⟨some 29,(.ld true 3 (.t 28)),no⟩,⟨some 30,(.fld 4 (.t 3)),no⟩,⟨some 31,(.ld true 3 (.t 30)),no⟩,⟨some 32,(.call (.k (.fn (.func 235) [] [])) [(.t 29),(.t 31)]),no⟩,⟨some 33,(.un .not (.t 32)),no⟩]) (.cond (.t 33) (.seq
 (.reg [⟨some 4,(.mv (.k (.bool false))),no⟩]) .ret) .skip)) (.seq
 (.reg [⟨some 4,(.mv (.k (.bool true))),no⟩]) .ret)))))))⟩
theorem a160_ok:compFn Tryz.prog Tryz.f160=some a160:=by kernel_rfl
def a138:AFn:=
⟨25,[(.t 4)],(.seq
 (.reg [⟨some 2,(.boxv (.t 0)),no⟩,⟨some 4,(.mv (.k (.int .i64 0))),no⟩]) (.seq
 (.reg [⟨some 5,(.mv (.t 1)),no⟩,⟨some 6,(.fld 0 (.t 2)),no⟩,⟨some 7,(.ld false 1 (.t 6)),no⟩,⟨some 8,(.len true (.t 7)),no⟩,⟨some 9,(.bin .sub (.t 5) (.t 8)),no⟩,⟨some 1,(.mv (.t 9)),no⟩]) (.seq (.seq
 (.reg [⟨some 10,(.mv (.t 1)),no⟩,⟨some 11,(.bin .lss (.t 10) (.k (.int .i64 0))),no⟩]) (.cond (.t 11) (.seq
 (.reg [⟨some 4,(.mv (.k (.int .i64 (-1)))),no⟩]) .ret) .skip)) (.seq
 (.reg [⟨some 12,(.fld 1 (.t 2)),no⟩,⟨some 13,(.ld false 1 (.t 12)),no⟩,⟨some 14,(.mv (.t 1)),no⟩,⟨some 15,(.call (.k (.fn (.func 199) [] [])) [(.t 13),(.t 14)]),no⟩,⟨some 1,(.mv (.t 15)),no⟩]) (.seq (.seq
 (.reg [⟨some 16,(.mv (.t 1)),no⟩,⟨some 17,(.bin .lss (.t 16) (.k (.int .i64 0))),no⟩]) (.cond (.t 17) (.seq
 (.reg [⟨some 4,(.mv (.k (.int .i64 (-1)))),no⟩]) .ret) .skip)) (.seq
 (.reg [⟨some 18,(.fld 3 (.t 2)),no⟩,⟨some 19,(.ld false 1 (.t 18)),no⟩,⟨some 20,(.mv (.t 1)),no⟩,⟨some 21,(.call (.k (.fn (.func 124) [] [])) [(.t 19),(.t 20)]),no⟩,⟨some 1,(.mv (.t 21)),no⟩]) (.seq (.seq
 (.reg [⟨some 22,(.mv (.t 1)),no⟩,⟨some 23,(.bin .lss (.t 22) (.k (.int .i64 0))),no⟩]) (.cond (.t 23) (.seq
 (.reg [⟨some 4,(.mv (.k (.int .i64 (-1)))),no⟩]) .ret) .skip)) (.seq
 (.reg [⟨some 24,(.mv (.t 1)),no⟩,⟨some 4,(.mv (.t 24)),no⟩]) .ret))))))))⟩
theorem a138_ok:compFn Tryz.prog Tryz.f138=some a138:=by kernel_rfl
def a146:AFn:=
⟨19,[(.c 2 true 4)],(.seq
 (.reg [⟨some 1,(.boxv (.t 0)),no⟩,⟨some 2,(.box [(.str []),(.nil 1),(.bool false),(.nil 2)]),no⟩]) (.seq
 (.reg [⟨some 3,(.box [(.str []),(.nil 1),(.bool false),(.nil 2)]),no⟩]) (.seq
 (.reg [⟨some 4,(.fld 0 (.t 1)),no⟩,⟨some 5,(.ld false 1 (.t 4)),no⟩,⟨some 6,(.fld 0 (.t 3)),no⟩,⟨no,(.st 1 (.t 6) (.t 5)),no⟩]) (.seq
 (.reg [⟨some 7,(.fld 1 (.t 1)),no⟩,⟨some 8,(.ld false 1 (.t 7)),no⟩,⟨some 9,(.call (.k (.fn (.func 213) [] [])) [(.t 8)]),no⟩,⟨some 10,(.fld 1 (.t 3)),no⟩,⟨no,(.st 1 (.t 10) (.t 9)),no⟩]) (.seq
 (.reg [⟨some 11,(.fld 2 (.t 1)),no⟩,⟨some 12,(.ld false 1 (.t 11)),no⟩,⟨some 13,(.fld 2 (.t 3)),no⟩,⟨no,(.st 1 (.t 13) (.t 12)),no⟩]) (.seq
 (.reg [⟨some 14,(.fld 3 (.t 1)),no⟩,⟨some 15,(.ld false 1 (.t 14)),no⟩,⟨some 16,(.call (.k (.fn (.func 128) [] [])) [(.t 15)]),no⟩,⟨some 17,(.fld 3 (.t 3)),no⟩,⟨no,(.st 1 (.t 17) (.t 16)),no⟩]) (.seq
 (.reg [⟨some 18,(.ld true 4 (.t 3)),no⟩,⟨no,(.st 4 (.t 2) (.t 18)),no⟩]) .ret)))))))⟩
theorem a146_ok:compFn Tryz.prog Tryz.f146=some a146:=by kernel_rfl
def a159:AFn:=
⟨27,[(.t 4)],(.seq
 (.reg [⟨some 2,(.boxv (.t 0)),no⟩,⟨some 3,(.boxv (.t 1)),no⟩,⟨some 4,(.mv (.k (.bool false))),no⟩]) (.seq (.seq
 (.reg [⟨some 5,(.fld 0 (.t 2)),no⟩,⟨some 6,(.ld false 1 (.t 5)),no⟩,⟨some 7,(.fld 0 (.t 3)),no⟩,⟨some 8,(.ld false 1 (.t 7)),no⟩,⟨some 9,(.bin .neq (.t 6) (.t 8)),no⟩]) (.cond (.t 9) (.seq
 (.reg [⟨some 4,(.mv (.k (.bool false))),no⟩]) .ret) .skip)) (.seq (.seq
 (.reg [⟨some 10,(.fld 1 (.t 2)),no⟩,⟨some 11,(.ld false 1 (.t 10)),no⟩,⟨some 12,(.fld 1 (.t 3)),no⟩,⟨some 13,(.ld false 1 (.t 12)),no⟩,⟨some 14,(.call (.k (.fn (.func 82) [] [])) [(.t 11),(.t 13)]),no⟩,⟨some 15,(.un .not (.t 14)),no⟩]) (.cond (.t 15) (.seq
 (.reg [⟨some 4,(.mv (.k (.bool false))),no⟩]) .ret) .skip)) (.seq (.seq
 (.reg [⟨some 16,(.fld 2 (.t 2)),no⟩,⟨some 17,(.ld false 1 (.t 16)),no⟩,⟨some 18,(.fld 2 (.t 3)),no⟩,⟨some 19,(.ld false 1 (.t 18)),no⟩,⟨some 20,(.beq true (.t 17) (.t 19)),no⟩]) (.cond (.t 20) (.seq
 (.reg [⟨some 4,(.mv (.k (.bool false))),no⟩]) .ret) .skip)) (.seq (.seq
 (.reg [⟨some 21,(.fld 3 (.t 2)),no⟩,⟨some 22,(.ld false 1 (.t 21)),no⟩,⟨some 23,(.fld 3 (.t 3)),no⟩,⟨some 24,(.ld false 1 (.t 23)),no⟩,⟨some 25,(.call (.k (.fn (.func 66) [] [])) [(.t 22),(.t 24)]),no⟩,⟨some 26,(.un .not (.t 25)),no⟩]) (.cond (.t 26) (.seq
 (.reg [⟨some 4,(.mv (.k (.bool false))),no⟩]) .ret) .skip)) (.seq
 (.reg [⟨some 4,(.mv (.k (.bool true))),no⟩]) .ret))))))⟩
theorem a159_ok:compFn Tryz.prog Tryz.f159=some a159:=by kernel_rfl
def a11:AFn:=
⟨18,[(.t 4)],(.seq
 (.reg [⟨some 2,(.boxv (.t 0)),no⟩,⟨some 4,(.mv (.k (.int .i64 0))),no⟩]) (.seq
 (.reg [⟨some 5,(.fld 0 (.t 2)),no⟩,⟨some 6,(.ld false 1 (.t 5)),no⟩,⟨some 7,(.mv (.t 1)),no⟩,⟨some 8,(.call (.k (.fn (.func 55) [] [])) [(.t 6),(.t 7)]),no⟩,⟨some 1,(.mv (.t 8)),no⟩]) (.seq (.seq
 (.reg [⟨some 9,(.mv (.t 1)),no⟩,⟨some 10,(.bin .lss (.t 9) (.k (.int .i64 0))),no⟩]) (.cond (.t 10) (.seq
 (.reg [⟨some 4,(.mv (.k (.int .i64 (-1)))),no⟩]) .ret) .skip)) (.seq
 (.reg [⟨some 11,(.fld 1 (.t 2)),no⟩,⟨some 12,(.ld false 1 (.t 11)),no⟩,⟨some 13,(.mv (.t 1)),no⟩,⟨some 14,(.call (.k (.fn (.func 56) [] [])) [(.t 12),(.t 13)]),no⟩,⟨some 1,(.mv (.t 14)),no⟩]) (.seq (.seq
 (.reg [⟨some 15,(.mv (.t 1)),no⟩,⟨some 16,(.bin .lss (.t 15) (.k (.int .i64 0))),no⟩]) (.cond (.t 16) (.seq
 (.reg [⟨some 4,(.mv (.k (.int .i64 (-1)))),no⟩]) .ret) .skip)) (.seq
 (.reg [⟨some 17,(.mv (.t 1)),no⟩,⟨some 4,(.mv (.t 17)),no⟩]) .ret))))))⟩
theorem a11_ok:compFn Tryz.prog Tryz.f11=some a11:=by kernel_rfl
def a13:AFn:=
⟨13,[(.c 2 true 2)],(.seq
 (.reg [⟨some 1,(.boxv (.t 0)),no⟩,⟨some 2,(.box [(.nil 4),(.nil 7)]),no⟩]) (.seq
 (.reg [⟨some 3,(.box [(.nil 4),(.nil 7)]),no⟩]) (.seq
 (.reg [⟨some 4,(.fld 0 (.t 1)),no⟩,⟨some 5,(.ld false 1 (.t 4)),no⟩,⟨some 6,(.call (.k (.fn (.func 60) [] [])) [(.t 5)]),no⟩,⟨some 7,(.fld 0 (.t 3)),no⟩,⟨no,(.st 1 (.t 7) (.t 6)),no⟩]) (.seq
 (.reg [⟨some 8,(.fld 1 (.t 1)),no⟩,⟨some 9,(.ld false 1 (.t 8)),no⟩,⟨some 10,(.call (.k (.fn (.func 61) [] [])) [(.t 9)]),no⟩,⟨some 11,(.fld 1 (.t 3)),no⟩,⟨no,(.st 1 (.t 11) (.t 10)),no⟩]) (.seq
 (.reg [⟨some 12,(.ld true 2 (.t 3)),no⟩,⟨no,(.st 2 (.t 2) (.t 12)),no⟩]) .ret)))))⟩
theorem a13_ok:compFn Tryz.prog Tryz.f13=some a13:=by kernel_rfl
def a16:AFn:=
⟨17,[(.t 4)],(.seq
 (.reg [⟨some 2,(.boxv (.t 0)),no⟩,⟨some 3,(.boxv (.t 1)),no⟩,⟨some 4,(.mv (.k (.bool false))),no⟩]) (.seq (.seq
 (.reg [⟨some 5,(.fld 0 (.t 2)),no⟩,⟨some 6,(.ld false 1 (.t 5)),no⟩,⟨some 7,(.fld 0 (.t 3)),no⟩,⟨some 8,(.ld false 1 (.t 7)),no⟩,⟨some 9,(.call (.k (.fn (.func 67) [] [])) [(.t 6),(.t 8)]),no⟩,⟨some 10,(.un .not (.t 9)),no⟩]) (.cond (.t 10) (.seq
 (.reg [⟨some 4,(.mv (.k (.bool false))),no⟩]) .ret) .skip)) (.seq (.seq
 (.reg [⟨some 11,(.fld 1 (.t 2)),no⟩,⟨some 12,(.ld false 1 (.t 11)),no⟩,⟨some 13,(.fld 1 (.t 3)),no⟩,⟨some 14,(.ld false 1 (.t 13)),no⟩,⟨some 15,(.call (.k (.fn (.func 68) [] [])) [(.t 12),(.t 14)]),no⟩,⟨some 16,(.un .not (.t 15)),no⟩]) (.cond (.t 16) (.seq
 (.reg [⟨some 4,(.mv (.k (.bool false))),no⟩]) .ret) .skip)) (.seq
 (.reg [⟨some 4,(.mv (.k (.bool true))),no⟩]) .ret))))⟩
theorem a16_ok:compFn Tryz.prog Tryz.f16=some a16:=by kernel_rfl
theorem k_szTerm (x:DTerm) (left:Int) (h0:0≤left∧left≤4611686018427387904):Holds Tryz.prog 309 [.agg (rATerm x),i64 left] (fun r=>r=i64 (sub1 left (wTerm x))):=by
  refine holds_of_run Tryz.func309 a309_ok rfl (by simp [a309]) ?_
  simp [a309,rATerm]
  have e0:wTerm x=wTerm x:=rfl
  conv at e0=>rhs; unfold wTerm
  intro hl0
  rw [wrap64 (by unfold LIM at hl0; omega)]
  by_cases h1:left - (x.Name.length:Nat)<0
  case pos=>
    have q:left - (wTerm x:Int)<0:=by omega
    simp [sub1,h1,q]
    try first | omega | (constructor <;> intros <;> omega)
  have g1:(x.Name.length:Nat)≤left:=by omega
  simp [sub1,h1,g1]
  try (rw [if_neg (by omega)]; omega)
theorem k_toTerm (x:DTerm) (_hw:wTerm x≤1048576):Holds Tryz.prog 310 [.agg (rATerm x)] (fun r=>r = .agg (rUTerm x)):=by
  have hw:=_hw; unfold wTerm at hw
  refine holds_of_run Tryz.func310 a310_ok rfl (by simp [a310]) ?_
  simp [a310,rATerm]
  try simp [rUTerm]
theorem k_eqTerm (x y:DTerm):Holds Tryz.prog 313 [.agg (rATerm x),.agg (rATerm y)] (fun r=>r = .bool (decide (x=y))):=by
  refine holds_of_run Tryz.func313 a313_ok rfl (by simp [a313]) ?_
  simp [a313,rATerm]
  by_cases h0:x.Coeff=y.Coeff
  case neg=>simp [h0]; try exact fun e=>h0 (by rw [e])
  simp [h0]
  by_cases h1:x.Name=y.Name
  case neg=>simp [h1]; try exact fun e=>h1 (by rw [e])
  simp [h1]
  cases x; cases y; simp_all
theorem a291_ok:compFn Tryz.prog Tryz.f291=some (tSz true 2 309):=by kernel_rfl
theorem k_szTermS (l:List DTerm) (left:Int) (h0:0≤left∧left≤4611686018427387904):Holds Tryz.prog 291 [.sl 2 (l.map rATerm),i64 left] (fun r=>r=i64 (sub1 left (wTermS l))):=by
  rw [show wTermS l=wL wTerm l from rfl,←szL_sub1 (w:=wTerm) (g:=fun x lf=>sub1 lf (wTerm x)) (fun _ _ _=>rfl) l left h0.1]
  exact holds_tSz Tryz.func291 a291_ok rfl (rowOf:=rATerm) (eltOf:=(fun x => .agg (rATerm x))) (fun x=>by simp [rATerm]) (fun x h=>by simp [rATerm]) (fun x lf h=>sub1_le h) l left h0 (fun x lf _ hl=>k_szTerm x lf hl)
theorem a296_ok:compFn Tryz.prog Tryz.f296=some (tTo true 2 24 310 [.int .i64 0,.str []]):=by kernel_rfl
theorem k_toTermS (l:List DTerm) (hw:wTermS l≤1048576):Holds Tryz.prog 296 [.sl 2 (l.map rATerm)] (fun r=>r = .us 2 (l.map rUTerm)):=
  holds_tTo Tryz.func296 a296_ok rfl (rowOf:=rATerm) (eltOf:=(fun x => .agg (rATerm x))) (eltU:=(fun x => .agg (rUTerm x))) (fun x=>by simp [rATerm]) (fun x h=>by simp [rATerm]) (fun x=>by simp) (fun x=>by simp [rUTerm]) (fun x=>by simp [rUTerm]) rfl l (by have:=wL_len wTerm l; unfold wTermS at hw; unfold LIM; omega) (fun x h=>k_toTerm x (by have:=wL_mem (w:=wTerm) h; unfold wTermS at hw; omega))
theorem a302_ok:compFn Tryz.prog Tryz.f302=some (tEq true 2 313):=by kernel_rfl
theorem k_eqTermS (l m:List DTerm):Holds Tryz.prog 302 [.sl 2 (l.map rATerm),.sl 2 (m.map rATerm)] (fun r=>r = .bool (decide (l=m))):=by
  rw [←eqL_dec]
  exact holds_tEq Tryz.func302 a302_ok rfl (rowOf:=rATerm) (eltOf:=(fun x => .agg (rATerm x))) (fun x=>by simp [rATerm]) (fun x h=>by simp [rATerm]) l m (fun x y _ _=>k_eqTerm x y)
theorem k_szSum (x:DSum) (left:Int) (h0:0≤left∧left≤4611686018427387904):Holds Tryz.prog 265 [.agg (rASum x),i64 left] (fun r=>r=i64 (sub1 left (wSum x))):=by
  refine holds_of_run Tryz.func265 a265_ok rfl (by simp [a265]) ?_
  simp [a265,rASum]
  have e0:wSum x=wSum x:=rfl
  conv at e0=>rhs; unfold wSum
  refine call_of (k_szTermS x.Terms left (by omega)) (by simp) ?_
  rintro r rfl
  by_cases h1:left - (wTermS x.Terms:Nat)<0
  case pos=>
    have q:left - (wSum x:Int)<0:=by omega
    simp [sub1,h1,q]
    try first | omega | (constructor <;> intros <;> omega)
  simp [sub1,h1]
  try (rw [if_neg (by omega)]; omega)
theorem k_toSum (x:DSum) (_hw:wSum x≤1048576):Holds Tryz.prog 273 [.agg (rASum x)] (fun r=>r = .agg (rUSum x)):=by
  have hw:=_hw; unfold wSum at hw
  refine holds_of_run Tryz.func273 a273_ok rfl (by simp [a273]) ?_
  simp [a273,rASum]
  refine call_of (k_toTermS x.Terms (by omega)) (by simp []) ?_
  rintro r rfl
  simp []
  try simp [rUSum]
theorem k_eqSum (x y:DSum):Holds Tryz.prog 284 [.agg (rASum x),.agg (rASum y)] (fun r=>r = .bool (decide (x=y))):=by
  refine holds_of_run Tryz.func284 a284_ok rfl (by simp [a284]) ?_
  simp [a284,rASum]
  by_cases h0:x.Const=y.Const
  case neg=>simp [h0]; try exact fun e=>h0 (by rw [e])
  simp [h0]
  refine call_of (k_eqTermS x.Terms y.Terms) (by simp []) ?_
  rintro r rfl
  by_cases h1:x.Terms=y.Terms
  case neg=>simp [h1]; try exact fun e=>h1 (by rw [e])
  simp [h1]
  cases x; cases y; simp_all
theorem a201_ok:compFn Tryz.prog Tryz.f201=some (tSz true 2 265):=by kernel_rfl
theorem k_szSumS (l:List DSum) (left:Int) (h0:0≤left∧left≤4611686018427387904):Holds Tryz.prog 201 [.sl 2 (l.map rASum),i64 left] (fun r=>r=i64 (sub1 left (wSumS l))):=by
  rw [show wSumS l=wL wSum l from rfl,←szL_sub1 (w:=wSum) (g:=fun x lf=>sub1 lf (wSum x)) (fun _ _ _=>rfl) l left h0.1]
  exact holds_tSz Tryz.func201 a201_ok rfl (rowOf:=rASum) (eltOf:=(fun x => .agg (rASum x))) (fun x=>by simp [rASum]) (fun x h=>by simp [rASum]) (fun x lf h=>sub1_le h) l left h0 (fun x lf _ hl=>k_szSum x lf hl)
theorem a215_ok:compFn Tryz.prog Tryz.f215=some (tTo true 2 32 273 [.int .i64 0,.nil 2]):=by kernel_rfl
theorem k_toSumS (l:List DSum) (hw:wSumS l≤1048576):Holds Tryz.prog 215 [.sl 2 (l.map rASum)] (fun r=>r = .us 2 (l.map rUSum)):=
  holds_tTo Tryz.func215 a215_ok rfl (rowOf:=rASum) (eltOf:=(fun x => .agg (rASum x))) (eltU:=(fun x => .agg (rUSum x))) (fun x=>by simp [rASum]) (fun x h=>by simp [rASum]) (fun x=>by simp) (fun x=>by simp [rUSum]) (fun x=>by simp [rUSum]) rfl l (by have:=wL_len wSum l; unfold wSumS at hw; unfold LIM; omega) (fun x h=>k_toSum x (by have:=wL_mem (w:=wSum) h; unfold wSumS at hw; omega))
theorem a233_ok:compFn Tryz.prog Tryz.f233=some (tEq true 2 284):=by kernel_rfl
theorem k_eqSumS (l m:List DSum):Holds Tryz.prog 233 [.sl 2 (l.map rASum),.sl 2 (m.map rASum)] (fun r=>r = .bool (decide (l=m))):=by
  rw [←eqL_dec]
  exact holds_tEq Tryz.func233 a233_ok rfl (rowOf:=rASum) (eltOf:=(fun x => .agg (rASum x))) (fun x=>by simp [rASum]) (fun x h=>by simp [rASum]) l m (fun x y _ _=>k_eqSum x y)
theorem k_szArg (x:DArg) (left:Int) (h0:0≤left∧left≤4611686018427387904):Holds Tryz.prog 203 [.agg (rAArg x),i64 left] (fun r=>r=i64 (sub1 left (wArg x))):=by
  refine holds_of_run Tryz.func203 a203_ok rfl (by simp [a203]) ?_
  simp [a203,rAArg]
  have e0:wArg x=wArg x:=rfl
  conv at e0=>rhs; unfold wArg
  refine call_of (k_szSumS x.Heads left (by omega)) (by simp) ?_
  rintro r rfl
  by_cases h1:left - (wSumS x.Heads:Nat)<0
  case pos=>
    have q:left - (wArg x:Int)<0:=by omega
    simp [sub1,h1,q]
    try first | omega | (constructor <;> intros <;> omega)
  simp [sub1,h1]
  intro hl1
  rw [wrap64 (by unfold LIM at hl1; omega)]
  by_cases h2:(left - (wSumS x.Heads:Nat)) - (x.Base.length:Nat)<0
  case pos=>
    have q:left - (wArg x:Int)<0:=by omega
    simp [sub1,h2,q]
    try first | omega | (constructor <;> intros <;> omega)
  have g2:(x.Base.length:Nat)≤(left - (wSumS x.Heads:Nat)):=by omega
  simp [sub1,h2,g2]
  try (rw [if_neg (by omega)]; omega)
theorem k_toArg (x:DArg) (_hw:wArg x≤1048576):Holds Tryz.prog 217 [.agg (rAArg x)] (fun r=>r = .agg (rUArg x)):=by
  have hw:=_hw; unfold wArg at hw
  refine holds_of_run Tryz.func217 a217_ok rfl (by simp [a217]) ?_
  simp [a217,rAArg]
  refine call_of (k_toSumS x.Heads (by omega)) (by simp []) ?_
  rintro r rfl
  simp []
  try simp [rUArg]
theorem k_eqArg (x y:DArg):Holds Tryz.prog 235 [.agg (rAArg x),.agg (rAArg y)] (fun r=>r = .bool (decide (x=y))):=by
  refine holds_of_run Tryz.func235 a235_ok rfl (by simp [a235]) ?_
  simp [a235,rAArg]
  by_cases h0:x.Lst=y.Lst
  case neg=>simp [h0]; try exact fun e=>h0 (by rw [e])
  simp [h0]
  refine call_of (k_eqSumS x.Heads y.Heads) (by simp []) ?_
  rintro r rfl
  by_cases h1:x.Heads=y.Heads
  case neg=>simp [h1]; try exact fun e=>h1 (by rw [e])
  simp [h1]
  by_cases h2:x.Base=y.Base
  case neg=>simp [h2]; try exact fun e=>h2 (by rw [e])
  simp [h2]
  cases x; cases y; simp_all
theorem a292_ok:compFn Tryz.prog Tryz.f292=some (tSz true 3 203):=by kernel_rfl
theorem k_szArgS (l:List DArg) (left:Int) (h0:0≤left∧left≤4611686018427387904):Holds Tryz.prog 292 [.sl 3 (l.map rAArg),i64 left] (fun r=>r=i64 (sub1 left (wArgS l))):=by
  rw [show wArgS l=wL wArg l from rfl,←szL_sub1 (w:=wArg) (g:=fun x lf=>sub1 lf (wArg x)) (fun _ _ _=>rfl) l left h0.1]
  exact holds_tSz Tryz.func292 a292_ok rfl (rowOf:=rAArg) (eltOf:=(fun x => .agg (rAArg x))) (fun x=>by simp [rAArg]) (fun x h=>by simp [rAArg]) (fun x lf h=>sub1_le h) l left h0 (fun x lf _ hl=>k_szArg x lf hl)
theorem a297_ok:compFn Tryz.prog Tryz.f297=some (tTo true 3 48 217 [.bool false,.nil 2,.str []]):=by kernel_rfl
theorem k_toArgS (l:List DArg) (hw:wArgS l≤1048576):Holds Tryz.prog 297 [.sl 3 (l.map rAArg)] (fun r=>r = .us 3 (l.map rUArg)):=
  holds_tTo Tryz.func297 a297_ok rfl (rowOf:=rAArg) (eltOf:=(fun x => .agg (rAArg x))) (eltU:=(fun x => .agg (rUArg x))) (fun x=>by simp [rAArg]) (fun x h=>by simp [rAArg]) (fun x=>by simp) (fun x=>by simp [rUArg]) (fun x=>by simp [rUArg]) rfl l (by have:=wL_len wArg l; unfold wArgS at hw; unfold LIM; omega) (fun x h=>k_toArg x (by have:=wL_mem (w:=wArg) h; unfold wArgS at hw; omega))
theorem a303_ok:compFn Tryz.prog Tryz.f303=some (tEq true 3 235):=by kernel_rfl
theorem k_eqArgS (l m:List DArg):Holds Tryz.prog 303 [.sl 3 (l.map rAArg),.sl 3 (m.map rAArg)] (fun r=>r = .bool (decide (l=m))):=by
  rw [←eqL_dec]
  exact holds_tEq Tryz.func303 a303_ok rfl (rowOf:=rAArg) (eltOf:=(fun x => .agg (rAArg x))) (fun x=>by simp [rAArg]) (fun x h=>by simp [rAArg]) l m (fun x y _ _=>k_eqArg x y)
theorem k_szPattern (x:DPattern) (left:Int) (h0:0≤left∧left≤4611686018427387904):Holds Tryz.prog 264 [.agg (rAPattern x),i64 left] (fun r=>r=i64 (sub1 left (wPattern x))):=by
  refine holds_of_run Tryz.func264 a264_ok rfl (by simp [a264]) ?_
  simp [a264,rAPattern]
  have e0:wPattern x=wPattern x:=rfl
  conv at e0=>rhs; unfold wPattern
  intro hl0
  rw [wrap64 (by unfold LIM at hl0; omega)]
  by_cases h1:left - (x.Lst.length:Nat)<0
  case pos=>
    have q:left - (wPattern x:Int)<0:=by omega
    simp [sub1,h1,q]
    try first | omega | (constructor <;> intros <;> omega)
  have g1:(x.Lst.length:Nat)≤left:=by omega
  simp [sub1,h1,g1]
  intro hl1
  rw [wrap64 (by unfold LIM at hl1; omega)]
  by_cases h2:(left - (x.Lst.length:Nat)) - (x.Head.length:Nat)<0
  case pos=>
    have q:left - (wPattern x:Int)<0:=by omega
    simp [sub1,h2,q]
    try first | omega | (constructor <;> intros <;> omega)
  have g2:(x.Head.length:Nat)≤(left - (x.Lst.length:Nat)):=by omega
  simp [sub1,h2,g2]
  intro hl2
  rw [wrap64 (by unfold LIM at hl2; omega)]
  by_cases h3:(left - (x.Lst.length:Nat) - (x.Head.length:Nat)) - (x.Tail.length:Nat)<0
  case pos=>
    have q:left - (wPattern x:Int)<0:=by omega
    simp [sub1,h3,q]
    try first | omega | (constructor <;> intros <;> omega)
  have g3:(x.Tail.length:Nat)≤(left - (x.Lst.length:Nat) - (x.Head.length:Nat)):=by omega
  simp [sub1,h3,g3]
  try (rw [if_neg (by omega)]; omega)
theorem k_toPattern (x:DPattern) (_hw:wPattern x≤1048576):Holds Tryz.prog 272 [.agg (rAPattern x)] (fun r=>r = .agg (rUPattern x)):=by
  have hw:=_hw; unfold wPattern at hw
  refine holds_of_run Tryz.func272 a272_ok rfl (by simp [a272]) ?_
  simp [a272,rAPattern]
  try simp [rUPattern]
theorem k_eqPattern (x y:DPattern):Holds Tryz.prog 283 [.agg (rAPattern x),.agg (rAPattern y)] (fun r=>r = .bool (decide (x=y))):=by
  refine holds_of_run Tryz.func283 a283_ok rfl (by simp [a283]) ?_
  simp [a283,rAPattern]
  by_cases h0:x.Lst=y.Lst
  case neg=>simp [h0]; try exact fun e=>h0 (by rw [e])
  simp [h0]
  by_cases h1:x.Cons=y.Cons
  case neg=>simp [h1]; try exact fun e=>h1 (by rw [e])
  simp [h1]
  by_cases h2:x.Head=y.Head
  case neg=>simp [h2]; try exact fun e=>h2 (by rw [e])
  simp [h2]
  by_cases h3:x.Tail=y.Tail
  case neg=>simp [h3]; try exact fun e=>h3 (by rw [e])
  simp [h3]
  cases x; cases y; simp_all
theorem a200_ok:compFn Tryz.prog Tryz.f200=some (tSz true 4 264):=by kernel_rfl
theorem k_szPatternS (l:List DPattern) (left:Int) (h0:0≤left∧left≤4611686018427387904):Holds Tryz.prog 200 [.sl 4 (l.map rAPattern),i64 left] (fun r=>r=i64 (sub1 left (wPatternS l))):=by
  rw [show wPatternS l=wL wPattern l from rfl,←szL_sub1 (w:=wPattern) (g:=fun x lf=>sub1 lf (wPattern x)) (fun _ _ _=>rfl) l left h0.1]
  exact holds_tSz Tryz.func200 a200_ok rfl (rowOf:=rAPattern) (eltOf:=(fun x => .agg (rAPattern x))) (fun x=>by simp [rAPattern]) (fun x h=>by simp [rAPattern]) (fun x lf h=>sub1_le h) l left h0 (fun x lf _ hl=>k_szPattern x lf hl)
theorem a214_ok:compFn Tryz.prog Tryz.f214=some (tTo true 4 56 272 [.str [],.bool false,.str [],.str []]):=by kernel_rfl
theorem k_toPatternS (l:List DPattern) (hw:wPatternS l≤1048576):Holds Tryz.prog 214 [.sl 4 (l.map rAPattern)] (fun r=>r = .us 4 (l.map rUPattern)):=
  holds_tTo Tryz.func214 a214_ok rfl (rowOf:=rAPattern) (eltOf:=(fun x => .agg (rAPattern x))) (eltU:=(fun x => .agg (rUPattern x))) (fun x=>by simp [rAPattern]) (fun x h=>by simp [rAPattern]) (fun x=>by simp) (fun x=>by simp [rUPattern]) (fun x=>by simp [rUPattern]) rfl l (by have:=wL_len wPattern l; unfold wPatternS at hw; unfold LIM; omega) (fun x h=>k_toPattern x (by have:=wL_mem (w:=wPattern) h; unfold wPatternS at hw; omega))
theorem a232_ok:compFn Tryz.prog Tryz.f232=some (tEq true 4 283):=by kernel_rfl
theorem k_eqPatternS (l m:List DPattern):Holds Tryz.prog 232 [.sl 4 (l.map rAPattern),.sl 4 (m.map rAPattern)] (fun r=>r = .bool (decide (l=m))):=by
  rw [←eqL_dec]
  exact holds_tEq Tryz.func232 a232_ok rfl (rowOf:=rAPattern) (eltOf:=(fun x => .agg (rAPattern x))) (fun x=>by simp [rAPattern]) (fun x h=>by simp [rAPattern]) l m (fun x y _ _=>k_eqPattern x y)
theorem k_szCall (x:DCall) (left:Int) (h0:0≤left∧left≤4611686018427387904):Holds Tryz.prog 266 [.agg (rACall x),i64 left] (fun r=>r=i64 (sub1 left (wCall x))):=by
  refine holds_of_run Tryz.func266 a266_ok rfl (by simp [a266]) ?_
  simp [a266,rACall]
  have e0:wCall x=wCall x:=rfl
  conv at e0=>rhs; unfold wCall
  intro hl0
  rw [wrap64 (by unfold LIM at hl0; omega)]
  by_cases h1:left - (x.Bind.length:Nat)<0
  case pos=>
    have q:left - (wCall x:Int)<0:=by omega
    simp [sub1,h1,q]
    try first | omega | (constructor <;> intros <;> omega)
  have g1:(x.Bind.length:Nat)≤left:=by omega
  simp [sub1,h1,g1]
  intro hl1
  rw [wrap64 (by unfold LIM at hl1; omega)]
  by_cases h2:(left - (x.Bind.length:Nat)) - (x.Func.length:Nat)<0
  case pos=>
    have q:left - (wCall x:Int)<0:=by omega
    simp [sub1,h2,q]
    try first | omega | (constructor <;> intros <;> omega)
  have g2:(x.Func.length:Nat)≤(left - (x.Bind.length:Nat)):=by omega
  simp [sub1,h2,g2]
  refine call_of (k_szArgS x.Args (left - (x.Bind.length:Nat) - (x.Func.length:Nat)) (by omega)) (by simp) ?_
  rintro r rfl
  by_cases h3:(left - (x.Bind.length:Nat) - (x.Func.length:Nat)) - (wArgS x.Args:Nat)<0
  case pos=>
    have q:left - (wCall x:Int)<0:=by omega
    simp [sub1,h3,q]
    try first | omega | (constructor <;> intros <;> omega)
  simp [sub1,h3]
  try (rw [if_neg (by omega)]; omega)
theorem k_toCall (x:DCall) (_hw:wCall x≤1048576):Holds Tryz.prog 274 [.agg (rACall x)] (fun r=>r = .agg (rUCall x)):=by
  have hw:=_hw; unfold wCall at hw
  refine holds_of_run Tryz.func274 a274_ok rfl (by simp [a274]) ?_
  simp [a274,rACall]
  refine call_of (k_toArgS x.Args (by omega)) (by simp []) ?_
  rintro r rfl
  simp []
  try simp [rUCall]
theorem k_eqCall (x y:DCall):Holds Tryz.prog 285 [.agg (rACall x),.agg (rACall y)] (fun r=>r = .bool (decide (x=y))):=by
  refine holds_of_run Tryz.func285 a285_ok rfl (by simp [a285]) ?_
  simp [a285,rACall]
  by_cases h0:x.Bind=y.Bind
  case neg=>simp [h0]; try exact fun e=>h0 (by rw [e])
  simp [h0]
  by_cases h1:x.Func=y.Func
  case neg=>simp [h1]; try exact fun e=>h1 (by rw [e])
  simp [h1]
  refine call_of (k_eqArgS x.Args y.Args) (by simp []) ?_
  rintro r rfl
  by_cases h2:x.Args=y.Args
  case neg=>simp [h2]; try exact fun e=>h2 (by rw [e])
  simp [h2]
  cases x; cases y; simp_all
theorem a202_ok:compFn Tryz.prog Tryz.f202=some (tSz true 3 266):=by kernel_rfl
theorem k_szCallS (l:List DCall) (left:Int) (h0:0≤left∧left≤4611686018427387904):Holds Tryz.prog 202 [.sl 3 (l.map rACall),i64 left] (fun r=>r=i64 (sub1 left (wCallS l))):=by
  rw [show wCallS l=wL wCall l from rfl,←szL_sub1 (w:=wCall) (g:=fun x lf=>sub1 lf (wCall x)) (fun _ _ _=>rfl) l left h0.1]
  exact holds_tSz Tryz.func202 a202_ok rfl (rowOf:=rACall) (eltOf:=(fun x => .agg (rACall x))) (fun x=>by simp [rACall]) (fun x h=>by simp [rACall]) (fun x lf h=>sub1_le h) l left h0 (fun x lf _ hl=>k_szCall x lf hl)
theorem a216_ok:compFn Tryz.prog Tryz.f216=some (tTo true 3 56 274 [.str [],.str [],.nil 3]):=by kernel_rfl
theorem k_toCallS (l:List DCall) (hw:wCallS l≤1048576):Holds Tryz.prog 216 [.sl 3 (l.map rACall)] (fun r=>r = .us 3 (l.map rUCall)):=
  holds_tTo Tryz.func216 a216_ok rfl (rowOf:=rACall) (eltOf:=(fun x => .agg (rACall x))) (eltU:=(fun x => .agg (rUCall x))) (fun x=>by simp [rACall]) (fun x h=>by simp [rACall]) (fun x=>by simp) (fun x=>by simp [rUCall]) (fun x=>by simp [rUCall]) rfl l (by have:=wL_len wCall l; unfold wCallS at hw; unfold LIM; omega) (fun x h=>k_toCall x (by have:=wL_mem (w:=wCall) h; unfold wCallS at hw; omega))
theorem a234_ok:compFn Tryz.prog Tryz.f234=some (tEq true 3 285):=by kernel_rfl
theorem k_eqCallS (l m:List DCall):Holds Tryz.prog 234 [.sl 3 (l.map rACall),.sl 3 (m.map rACall)] (fun r=>r = .bool (decide (l=m))):=by
  rw [←eqL_dec]
  exact holds_tEq Tryz.func234 a234_ok rfl (rowOf:=rACall) (eltOf:=(fun x => .agg (rACall x))) (fun x=>by simp [rACall]) (fun x h=>by simp [rACall]) l m (fun x y _ _=>k_eqCall x y)
theorem k_szRule (x:DRule) (left:Int) (h0:0≤left∧left≤4611686018427387904):Holds Tryz.prog 139 [.agg (rARule x),i64 left] (fun r=>r=i64 (sub1 left (wRule x))):=by
  refine holds_of_run Tryz.func139 a139_ok rfl (by simp [a139]) ?_
  simp [a139,rARule]
  have e0:wRule x=wRule x:=rfl
  conv at e0=>rhs; unfold wRule
  intro hl0
  rw [wrap64 (by unfold LIM at hl0; omega)]
  by_cases h1:left - (x.Func.length:Nat)<0
  case pos=>
    have q:left - (wRule x:Int)<0:=by omega
    simp [sub1,h1,q]
    try first | omega | (constructor <;> intros <;> omega)
  have g1:(x.Func.length:Nat)≤left:=by omega
  simp [sub1,h1,g1]
  refine call_of (k_szPatternS x.Patterns (left - (x.Func.length:Nat)) (by omega)) (by simp) ?_
  rintro r rfl
  by_cases h2:(left - (x.Func.length:Nat)) - (wPatternS x.Patterns:Nat)<0
  case pos=>
    have q:left - (wRule x:Int)<0:=by omega
    simp [sub1,h2,q]
    try first | omega | (constructor <;> intros <;> omega)
  simp [sub1,h2]
  refine call_of (k_szSumS x.Guards (left - (x.Func.length:Nat) - (wPatternS x.Patterns:Nat)) (by omega)) (by simp) ?_
  rintro r rfl
  by_cases h3:(left - (x.Func.length:Nat) - (wPatternS x.Patterns:Nat)) - (wSumS x.Guards:Nat)<0
  case pos=>
    have q:left - (wRule x:Int)<0:=by omega
    simp [sub1,h3,q]
    try first | omega | (constructor <;> intros <;> omega)
  simp [sub1,h3]
  refine call_of (k_szCallS x.Calls (left - (x.Func.length:Nat) - (wPatternS x.Patterns:Nat) - (wSumS x.Guards:Nat)) (by omega)) (by simp) ?_
  rintro r rfl
  by_cases h4:(left - (x.Func.length:Nat) - (wPatternS x.Patterns:Nat) - (wSumS x.Guards:Nat)) - (wCallS x.Calls:Nat)<0
  case pos=>
    have q:left - (wRule x:Int)<0:=by omega
    simp [sub1,h4,q]
    try first | omega | (constructor <;> intros <;> omega)
  simp [sub1,h4]
  refine call_of (k_szArg x.Result (left - (x.Func.length:Nat) - (wPatternS x.Patterns:Nat) - (wSumS x.Guards:Nat) - (wCallS x.Calls:Nat)) (by omega)) (by simp [rAArg]) ?_
  rintro r rfl
  by_cases h5:(left - (x.Func.length:Nat) - (wPatternS x.Patterns:Nat) - (wSumS x.Guards:Nat) - (wCallS x.Calls:Nat)) - (wArg x.Result:Nat)<0
  case pos=>
    have q:left - (wRule x:Int)<0:=by omega
    simp [sub1,h5,q]
    try first | omega | (constructor <;> intros <;> omega)
  simp [sub1,h5]
  try (rw [if_neg (by omega)]; omega)
theorem k_toRule (x:DRule) (_hw:wRule x≤1048576):Holds Tryz.prog 147 [.agg (rARule x)] (fun r=>r = .agg (rURule x)):=by
  have hw:=_hw; unfold wRule at hw
  refine holds_of_run Tryz.func147 a147_ok rfl (by simp [a147]) ?_
  simp [a147,rARule]
  refine call_of (k_toPatternS x.Patterns (by omega)) (by simp []) ?_
  rintro r rfl
  simp []
  refine call_of (k_toSumS x.Guards (by omega)) (by simp []) ?_
  rintro r rfl
  simp []
  refine call_of (k_toCallS x.Calls (by omega)) (by simp []) ?_
  rintro r rfl
  simp []
  refine call_of (k_toArg x.Result (by omega)) (by simp [rAArg]) ?_
  rintro r rfl
  simp [rUArg]
  try simp [rURule]
theorem k_eqRule (x y:DRule):Holds Tryz.prog 160 [.agg (rARule x),.agg (rARule y)] (fun r=>r = .bool (decide (x=y))):=by
  refine holds_of_run Tryz.func160 a160_ok rfl (by simp [a160]) ?_
  simp [a160,rARule]
  by_cases h0:x.Func=y.Func
  case neg=>simp [h0]; try exact fun e=>h0 (by rw [e])
  simp [h0]
  refine call_of (k_eqPatternS x.Patterns y.Patterns) (by simp []) ?_
  rintro r rfl
  by_cases h1:x.Patterns=y.Patterns
  case neg=>simp [h1]; try exact fun e=>h1 (by rw [e])
  simp [h1]
  refine call_of (k_eqSumS x.Guards y.Guards) (by simp []) ?_
  rintro r rfl
  by_cases h2:x.Guards=y.Guards
  case neg=>simp [h2]; try exact fun e=>h2 (by rw [e])
  simp [h2]
  refine call_of (k_eqCallS x.Calls y.Calls) (by simp []) ?_
  rintro r rfl
  by_cases h3:x.Calls=y.Calls
  case neg=>simp [h3]; try exact fun e=>h3 (by rw [e])
  simp [h3]
  refine call_of (k_eqArg x.Result y.Result) (by simp [rAArg]) ?_
  rintro r rfl
  by_cases h4:x.Result=y.Result
  case neg=>simp [h4]; try exact fun e=>h4 (by rw [e])
  simp [h4]
  cases x; cases y; simp_all
theorem a56_ok:compFn Tryz.prog Tryz.f56=some (tSz true 7 139):=by kernel_rfl
theorem k_szRuleS (l:List DRule) (left:Int) (h0:0≤left∧left≤4611686018427387904):Holds Tryz.prog 56 [.sl 7 (l.map rARule),i64 left] (fun r=>r=i64 (sub1 left (wRuleS l))):=by
  rw [show wRuleS l=wL wRule l from rfl,←szL_sub1 (w:=wRule) (g:=fun x lf=>sub1 lf (wRule x)) (fun _ _ _=>rfl) l left h0.1]
  exact holds_tSz Tryz.func56 a56_ok rfl (rowOf:=rARule) (eltOf:=(fun x => .agg (rARule x))) (fun x=>by simp [rARule]) (fun x h=>by simp [rARule]) (fun x lf h=>sub1_le h) l left h0 (fun x lf _ hl=>k_szRule x lf hl)
theorem a61_ok:compFn Tryz.prog Tryz.f61=some (tTo true 7 136 147 [.str [],.nil 4,.nil 2,.nil 3,.bool false,.nil 2,.str []]):=by kernel_rfl
theorem k_toRuleS (l:List DRule) (hw:wRuleS l≤1048576):Holds Tryz.prog 61 [.sl 7 (l.map rARule)] (fun r=>r = .us 7 (l.map rURule)):=
  holds_tTo Tryz.func61 a61_ok rfl (rowOf:=rARule) (eltOf:=(fun x => .agg (rARule x))) (eltU:=(fun x => .agg (rURule x))) (fun x=>by simp [rARule]) (fun x h=>by simp [rARule]) (fun x=>by simp) (fun x=>by simp [rURule]) (fun x=>by simp [rURule]) rfl l (by have:=wL_len wRule l; unfold wRuleS at hw; unfold LIM; omega) (fun x h=>k_toRule x (by have:=wL_mem (w:=wRule) h; unfold wRuleS at hw; omega))
theorem a68_ok:compFn Tryz.prog Tryz.f68=some (tEq true 7 160):=by kernel_rfl
theorem k_eqRuleS (l m:List DRule):Holds Tryz.prog 68 [.sl 7 (l.map rARule),.sl 7 (m.map rARule)] (fun r=>r = .bool (decide (l=m))):=by
  rw [←eqL_dec]
  exact holds_tEq Tryz.func68 a68_ok rfl (rowOf:=rARule) (eltOf:=(fun x => .agg (rARule x))) (fun x=>by simp [rARule]) (fun x h=>by simp [rARule]) l m (fun x y _ _=>k_eqRule x y)
theorem k_szFunction (x:DFunction) (left:Int) (h0:0≤left∧left≤4611686018427387904):Holds Tryz.prog 138 [.agg (rAFunction x),i64 left] (fun r=>r=i64 (sub1 left (wFunction x))):=by
  refine holds_of_run Tryz.func138 a138_ok rfl (by simp [a138]) ?_
  simp [a138,rAFunction]
  have e0:wFunction x=wFunction x:=rfl
  conv at e0=>rhs; unfold wFunction
  intro hl0
  rw [wrap64 (by unfold LIM at hl0; omega)]
  by_cases h1:left - (x.Name.length:Nat)<0
  case pos=>
    have q:left - (wFunction x:Int)<0:=by omega
    simp [sub1,h1,q]
    try first | omega | (constructor <;> intros <;> omega)
  have g1:(x.Name.length:Nat)≤left:=by omega
  simp [sub1,h1,g1]
  refine call_of (k_szStringS x.Params (left - (x.Name.length:Nat)) (by omega)) (by simp) ?_
  rintro r rfl
  by_cases h2:(left - (x.Name.length:Nat)) - (wStringS x.Params:Nat)<0
  case pos=>
    have q:left - (wFunction x:Int)<0:=by omega
    simp [sub1,h2,q]
    try first | omega | (constructor <;> intros <;> omega)
  simp [sub1,h2]
  refine call_of (k_szLinS x.Pre (left - (x.Name.length:Nat) - (wStringS x.Params:Nat)) (by omega)) (by simp) ?_
  rintro r rfl
  by_cases h3:(left - (x.Name.length:Nat) - (wStringS x.Params:Nat)) - (wLinS x.Pre:Nat)<0
  case pos=>
    have q:left - (wFunction x:Int)<0:=by omega
    simp [sub1,h3,q]
    try first | omega | (constructor <;> intros <;> omega)
  simp [sub1,h3]
  try (rw [if_neg (by omega)]; omega)
theorem k_toFunction (x:DFunction) (_hw:wFunction x≤1048576):Holds Tryz.prog 146 [.agg (rAFunction x)] (fun r=>r = .agg (rUFunction x)):=by
  have hw:=_hw; unfold wFunction at hw
  refine holds_of_run Tryz.func146 a146_ok rfl (by simp [a146]) ?_
  simp [a146,rAFunction]
  refine call_of (k_toStringS x.Params (by omega)) (by simp []) ?_
  rintro r rfl
  simp []
  refine call_of (k_toLinS x.Pre (by omega)) (by simp []) ?_
  rintro r rfl
  simp []
  try simp [rUFunction]
theorem k_eqFunction (x y:DFunction):Holds Tryz.prog 159 [.agg (rAFunction x),.agg (rAFunction y)] (fun r=>r = .bool (decide (x=y))):=by
  refine holds_of_run Tryz.func159 a159_ok rfl (by simp [a159]) ?_
  simp [a159,rAFunction]
  by_cases h0:x.Name=y.Name
  case neg=>simp [h0]; try exact fun e=>h0 (by rw [e])
  simp [h0]
  refine call_of (k_eqStringS x.Params y.Params) (by simp []) ?_
  rintro r rfl
  by_cases h1:x.Params=y.Params
  case neg=>simp [h1]; try exact fun e=>h1 (by rw [e])
  simp [h1]
  by_cases h2:x.ListResult=y.ListResult
  case neg=>simp [h2]; try exact fun e=>h2 (by rw [e])
  simp [h2]
  refine call_of (k_eqLinS x.Pre y.Pre) (by simp []) ?_
  rintro r rfl
  by_cases h3:x.Pre=y.Pre
  case neg=>simp [h3]; try exact fun e=>h3 (by rw [e])
  simp [h3]
  cases x; cases y; simp_all
theorem a55_ok:compFn Tryz.prog Tryz.f55=some (tSz true 4 138):=by kernel_rfl
theorem k_szFunctionS (l:List DFunction) (left:Int) (h0:0≤left∧left≤4611686018427387904):Holds Tryz.prog 55 [.sl 4 (l.map rAFunction),i64 left] (fun r=>r=i64 (sub1 left (wFunctionS l))):=by
  rw [show wFunctionS l=wL wFunction l from rfl,←szL_sub1 (w:=wFunction) (g:=fun x lf=>sub1 lf (wFunction x)) (fun _ _ _=>rfl) l left h0.1]
  exact holds_tSz Tryz.func55 a55_ok rfl (rowOf:=rAFunction) (eltOf:=(fun x => .agg (rAFunction x))) (fun x=>by simp [rAFunction]) (fun x h=>by simp [rAFunction]) (fun x lf h=>sub1_le h) l left h0 (fun x lf _ hl=>k_szFunction x lf hl)
theorem a60_ok:compFn Tryz.prog Tryz.f60=some (tTo true 4 72 146 [.str [],.nil 1,.bool false,.nil 2]):=by kernel_rfl
theorem k_toFunctionS (l:List DFunction) (hw:wFunctionS l≤1048576):Holds Tryz.prog 60 [.sl 4 (l.map rAFunction)] (fun r=>r = .us 4 (l.map rUFunction)):=
  holds_tTo Tryz.func60 a60_ok rfl (rowOf:=rAFunction) (eltOf:=(fun x => .agg (rAFunction x))) (eltU:=(fun x => .agg (rUFunction x))) (fun x=>by simp [rAFunction]) (fun x h=>by simp [rAFunction]) (fun x=>by simp) (fun x=>by simp [rUFunction]) (fun x=>by simp [rUFunction]) rfl l (by have:=wL_len wFunction l; unfold wFunctionS at hw; unfold LIM; omega) (fun x h=>k_toFunction x (by have:=wL_mem (w:=wFunction) h; unfold wFunctionS at hw; omega))
theorem a67_ok:compFn Tryz.prog Tryz.f67=some (tEq true 4 159):=by kernel_rfl
theorem k_eqFunctionS (l m:List DFunction):Holds Tryz.prog 67 [.sl 4 (l.map rAFunction),.sl 4 (m.map rAFunction)] (fun r=>r = .bool (decide (l=m))):=by
  rw [←eqL_dec]
  exact holds_tEq Tryz.func67 a67_ok rfl (rowOf:=rAFunction) (eltOf:=(fun x => .agg (rAFunction x))) (fun x=>by simp [rAFunction]) (fun x h=>by simp [rAFunction]) l m (fun x y _ _=>k_eqFunction x y)
theorem k_szProgram (x:DProgram) (left:Int) (h0:0≤left∧left≤4611686018427387904):Holds Tryz.prog 11 [.agg (rAProgram x),i64 left] (fun r=>r=i64 (sub1 left (wProgram x))):=by
  refine holds_of_run Tryz.func11 a11_ok rfl (by simp [a11]) ?_
  simp [a11,rAProgram]
  have e0:wProgram x=wProgram x:=rfl
  conv at e0=>rhs; unfold wProgram
  refine call_of (k_szFunctionS x.Functions left (by omega)) (by simp) ?_
  rintro r rfl
  by_cases h1:left - (wFunctionS x.Functions:Nat)<0
  case pos=>
    have q:left - (wProgram x:Int)<0:=by omega
    simp [sub1,h1,q]
    try first | omega | (constructor <;> intros <;> omega)
  simp [sub1,h1]
  refine call_of (k_szRuleS x.Rules (left - (wFunctionS x.Functions:Nat)) (by omega)) (by simp) ?_
  rintro r rfl
  by_cases h2:(left - (wFunctionS x.Functions:Nat)) - (wRuleS x.Rules:Nat)<0
  case pos=>
    have q:left - (wProgram x:Int)<0:=by omega
    simp [sub1,h2,q]
    try first | omega | (constructor <;> intros <;> omega)
  simp [sub1,h2]
  try (rw [if_neg (by omega)]; omega)
theorem k_toProgram (x:DProgram) (_hw:wProgram x≤1048576):Holds Tryz.prog 13 [.agg (rAProgram x)] (fun r=>r = .agg (rUProgram x)):=by
  have hw:=_hw; unfold wProgram at hw
  refine holds_of_run Tryz.func13 a13_ok rfl (by simp [a13]) ?_
  simp [a13,rAProgram]
  refine call_of (k_toFunctionS x.Functions (by omega)) (by simp []) ?_
  rintro r rfl
  simp []
  refine call_of (k_toRuleS x.Rules (by omega)) (by simp []) ?_
  rintro r rfl
  simp []
  try simp [rUProgram]
theorem k_eqProgram (x y:DProgram):Holds Tryz.prog 16 [.agg (rAProgram x),.agg (rAProgram y)] (fun r=>r = .bool (decide (x=y))):=by
  refine holds_of_run Tryz.func16 a16_ok rfl (by simp [a16]) ?_
  simp [a16,rAProgram]
  refine call_of (k_eqFunctionS x.Functions y.Functions) (by simp []) ?_
  rintro r rfl
  by_cases h0:x.Functions=y.Functions
  case neg=>simp [h0]; try exact fun e=>h0 (by rw [e])
  simp [h0]
  refine call_of (k_eqRuleS x.Rules y.Rules) (by simp []) ?_
  rintro r rfl
  by_cases h1:x.Rules=y.Rules
  case neg=>simp [h1]; try exact fun e=>h1 (by rw [e])
  simp [h1]
  cases x; cases y; simp_all
end Go.Proofs.YtilcageplifbgaaGreat
