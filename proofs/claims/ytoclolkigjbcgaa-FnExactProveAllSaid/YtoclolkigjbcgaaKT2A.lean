/- Contracts of the laws' functions over the types. -/
import Derived.Test.YtoclolkigjbcgaaKT1
import Derived.Test.YtoclolkigjbcgaaProg
import Derived.Test.YtoclolkigjbcgaaKFFB
import Derived.Test.YtoclolkigjbcgaaRows
namespace Go.Proofs.Ytoclolkigjbcgaa
set_option linter.all false
open Go Go.RowKit Go.Proofs
def a42:AFn:=
⟨12,[.t 4],(.seq
 (.reg [⟨some 4,.mv (.k (.int .i64 0)),no⟩]) (.seq
 (.reg [⟨some 5,.mv (.t 1),no⟩,⟨some 6,.mv (.t 0),no⟩,⟨some 7,.len false (.t 6),no⟩,⟨some 8,.bin .sub (.t 5) (.t 7),no⟩,⟨some 1,.mv (.t 8),no⟩]) (.seq (.seq
 (.reg [⟨some 9,.mv (.t 1),no⟩,⟨some 10,.bin .lss (.t 9) (.k (.int .i64 0)),no⟩]) (.cond (.t 10) (.seq
 (.reg [⟨some 4,.mv (.k (.int .i64 (-1))),no⟩]) .ret) .skip)) (.seq
 (.reg [⟨some 11,.mv (.t 1),no⟩,⟨some 4,.mv (.t 11),no⟩]) .ret))))⟩
theorem a42_ok:compFn Try.prog Try.f42=some a42:=by kernel_rfl
def a50:AFn:=
⟨22,[.t 2],(.seq
 (.reg [⟨some 2,.mv (.k (.nil 1)),no⟩]) (.seq
 (.reg [⟨some 5,.mv (.t 0),no⟩,⟨some 6,.len false (.t 5),no⟩,⟨some 7,.mks 8 [(.int .i64 0)] (.t 6) (.t 6),no⟩,⟨some 3,.mv (.t 7),no⟩]) (.seq (.seq
 (.reg [⟨some 4,.mv (.k (.int .i64 0)),no⟩]) (.blk 0 (.loop (.seq (.seq
 (.reg [⟨some 8,.mv (.t 4),no⟩,⟨some 9,.mv (.t 0),no⟩,⟨some 10,.len false (.t 9),no⟩,⟨some 11,.bin .lss (.t 8) (.t 10),no⟩]) (.cond (.t 11) .skip (.exit 0))) (.seq (.blk 1
 (.reg [⟨some 14,.mv (.t 3),no⟩,⟨some 15,.mv (.t 4),no⟩,⟨some 16,.mv (.t 0),no⟩,⟨some 17,.mv (.t 4),no⟩,⟨some 18,.ixa 1 (.t 16) (.t 17),no⟩,⟨some 19,.ld false 1 (.t 18),no⟩,⟨some 20,.ixa 1 (.t 14) (.t 15),no⟩,⟨no,.st 1 (.t 20) (.t 19),no⟩]))
 (.reg [⟨some 12,.mv (.t 4),no⟩,⟨some 13,.bin .add (.t 12) (.k (.int .i64 1)),no⟩,⟨some 4,.mv (.t 13),no⟩])))))) (.seq
 (.reg [⟨some 21,.mv (.t 3),no⟩,⟨some 2,.mv (.t 21),no⟩]) .ret))))⟩
theorem a50_ok:compFn Try.prog Try.f50=some a50:=by kernel_rfl
def a38:AFn:=
⟨26,[.t 4],(.seq
 (.reg [⟨some 4,.mv (.k (.bool false)),no⟩]) (.seq (.seq
 (.reg [⟨some 6,.mv (.t 0),no⟩,⟨some 7,.len false (.t 6),no⟩,⟨some 8,.mv (.t 1),no⟩,⟨some 9,.len false (.t 8),no⟩,⟨some 10,.bin .neq (.t 7) (.t 9),no⟩]) (.cond (.t 10) (.seq
 (.reg [⟨some 4,.mv (.k (.bool false)),no⟩]) .ret) .skip)) (.seq (.seq
 (.reg [⟨some 5,.mv (.k (.int .i64 0)),no⟩]) (.blk 0 (.loop (.seq (.seq
 (.reg [⟨some 11,.mv (.t 5),no⟩,⟨some 12,.mv (.t 0),no⟩,⟨some 13,.len false (.t 12),no⟩,⟨some 14,.bin .lss (.t 11) (.t 13),no⟩]) (.cond (.t 14) .skip (.exit 0))) (.seq (.blk 1 (.seq (.draw (.op ⟨some 17,.mv (.t 0),no⟩ (.op ⟨some 18,.mv (.t 5),no⟩ (.op ⟨some 19,.ixa 1 (.t 17) (.t 18),no⟩ (.op ⟨some 20,.ld false 1 (.t 19),no⟩ (.op ⟨some 21,.mv (.t 1),no⟩ (.op ⟨some 22,.mv (.t 5),no⟩ (.op ⟨some 23,.ixa 1 (.t 21) (.t 22),no⟩ (.op ⟨some 24,.ld false 1 (.t 23),no⟩ (.op ⟨some 25,.bin .neq (.t 20) (.t 24),no⟩ .fin)))))))))) (.cond (.t 25) (.seq
 (.reg [⟨some 4,.mv (.k (.bool false)),no⟩]) .ret) .skip)))
 (.reg [⟨some 15,.mv (.t 5),no⟩,⟨some 16,.bin .add (.t 15) (.k (.int .i64 1)),no⟩,⟨some 5,.mv (.t 16),no⟩])))))) (.seq
 (.reg [⟨some 4,.mv (.k (.bool true)),no⟩]) .ret))))⟩
theorem a38_ok:compFn Try.prog Try.f38=some a38:=by kernel_rfl
def a23:AFn:=
⟨12,[.t 4],(.seq
 (.reg [⟨some 2,.boxv (.t 0),no⟩,⟨some 4,.mv (.k (.int .i64 0)),no⟩]) (.seq
 (.reg [⟨some 5,.fld 1 (.t 2),no⟩,⟨some 6,.ld false 1 (.t 5),no⟩,⟨some 7,.mv (.t 1),no⟩,⟨some 8,.call (.k (.fn (.func 42) [] [])) [.t 6,.t 7],no⟩,⟨some 1,.mv (.t 8),no⟩]) (.seq (.seq
 (.reg [⟨some 9,.mv (.t 1),no⟩,⟨some 10,.bin .lss (.t 9) (.k (.int .i64 0)),no⟩]) (.cond (.t 10) (.seq
 (.reg [⟨some 4,.mv (.k (.int .i64 (-1))),no⟩]) .ret) .skip)) (.seq
 (.reg [⟨some 11,.mv (.t 1),no⟩,⟨some 4,.mv (.t 11),no⟩]) .ret))))⟩
theorem a23_ok:compFn Try.prog Try.f23=some a23:=by kernel_rfl
def a31:AFn:=
⟨12,[(.c 2 true 2)],(.seq
 (.reg [⟨some 1,.boxv (.t 0),no⟩,⟨some 2,.box [(.int .i64 0),(.nil 1)],no⟩]) (.seq
 (.reg [⟨some 3,.box [(.int .i64 0),(.nil 1)],no⟩]) (.seq
 (.reg [⟨some 4,.fld 0 (.t 1),no⟩,⟨some 5,.ld false 1 (.t 4),no⟩,⟨some 6,.fld 0 (.t 3),no⟩,⟨no,.st 1 (.t 6) (.t 5),no⟩]) (.seq
 (.reg [⟨some 7,.fld 1 (.t 1),no⟩,⟨some 8,.ld false 1 (.t 7),no⟩,⟨some 9,.call (.k (.fn (.func 50) [] [])) [.t 8],no⟩,⟨some 10,.fld 1 (.t 3),no⟩,⟨no,.st 1 (.t 10) (.t 9),no⟩]) (.seq
 (.reg [⟨some 11,.ld true 2 (.t 3),no⟩,⟨no,.st 2 (.t 2) (.t 11),no⟩]) .ret)))))⟩
theorem a31_ok:compFn Try.prog Try.f31=some a31:=by kernel_rfl
def a40:AFn:=
⟨16,[.t 4],(.seq
 (.reg [⟨some 2,.boxv (.t 0),no⟩,⟨some 3,.boxv (.t 1),no⟩,⟨some 4,.mv (.k (.bool false)),no⟩]) (.seq (.seq
 (.reg [⟨some 5,.fld 0 (.t 2),no⟩,⟨some 6,.ld false 1 (.t 5),no⟩,⟨some 7,.fld 0 (.t 3),no⟩,⟨some 8,.ld false 1 (.t 7),no⟩,⟨some 9,.bin .neq (.t 6) (.t 8),no⟩]) (.cond (.t 9) (.seq
 (.reg [⟨some 4,.mv (.k (.bool false)),no⟩]) .ret) .skip)) (.seq (.seq
 (.reg [⟨some 10,.fld 1 (.t 2),no⟩,⟨some 11,.ld false 1 (.t 10),no⟩,⟨some 12,.fld 1 (.t 3),no⟩,⟨some 13,.ld false 1 (.t 12),no⟩,⟨some 14,.call (.k (.fn (.func 38) [] [])) [.t 11,.t 13],no⟩,⟨some 15,.un .not (.t 14),no⟩]) (.cond (.t 15) (.seq
 (.reg [⟨some 4,.mv (.k (.bool false)),no⟩]) .ret) .skip)) (.seq
 (.reg [⟨some 4,.mv (.k (.bool true)),no⟩]) .ret))))⟩
theorem a40_ok:compFn Try.prog Try.f40=some a40:=by kernel_rfl
def a22:AFn:=
⟨12,[.t 4],(.seq
 (.reg [⟨some 2,.boxv (.t 0),no⟩,⟨some 4,.mv (.k (.int .i64 0)),no⟩]) (.seq
 (.reg [⟨some 5,.fld 1 (.t 2),no⟩,⟨some 6,.ld false 1 (.t 5),no⟩,⟨some 7,.mv (.t 1),no⟩,⟨some 8,.call (.k (.fn (.func 41) [] [])) [.t 6,.t 7],no⟩,⟨some 1,.mv (.t 8),no⟩]) (.seq (.seq
 (.reg [⟨some 9,.mv (.t 1),no⟩,⟨some 10,.bin .lss (.t 9) (.k (.int .i64 0)),no⟩]) (.cond (.t 10) (.seq
 (.reg [⟨some 4,.mv (.k (.int .i64 (-1))),no⟩]) .ret) .skip)) (.seq
 (.reg [⟨some 11,.mv (.t 1),no⟩,⟨some 4,.mv (.t 11),no⟩]) .ret))))⟩
theorem a22_ok:compFn Try.prog Try.f22=some a22:=by kernel_rfl
def a30:AFn:=
⟨12,[(.c 2 true 2)],(.seq
 (.reg [⟨some 1,.boxv (.t 0),no⟩,⟨some 2,.box [(.int .i64 0),(.nil 2)],no⟩]) (.seq
 (.reg [⟨some 3,.box [(.int .i64 0),(.nil 2)],no⟩]) (.seq
 (.reg [⟨some 4,.fld 0 (.t 1),no⟩,⟨some 5,.ld false 1 (.t 4),no⟩,⟨some 6,.fld 0 (.t 3),no⟩,⟨no,.st 1 (.t 6) (.t 5),no⟩]) (.seq
 (.reg [⟨some 7,.fld 1 (.t 1),no⟩,⟨some 8,.ld false 1 (.t 7),no⟩,⟨some 9,.call (.k (.fn (.func 49) [] [])) [.t 8],no⟩,⟨some 10,.fld 1 (.t 3),no⟩,⟨no,.st 1 (.t 10) (.t 9),no⟩]) (.seq
 (.reg [⟨some 11,.ld true 2 (.t 3),no⟩,⟨no,.st 2 (.t 2) (.t 11),no⟩]) .ret)))))⟩
theorem a30_ok:compFn Try.prog Try.f30=some a30:=by kernel_rfl
def a39:AFn:=
⟨16,[.t 4],(.seq
 (.reg [⟨some 2,.boxv (.t 0),no⟩,⟨some 3,.boxv (.t 1),no⟩,⟨some 4,.mv (.k (.bool false)),no⟩]) (.seq (.seq
 (.reg [⟨some 5,.fld 0 (.t 2),no⟩,⟨some 6,.ld false 1 (.t 5),no⟩,⟨some 7,.fld 0 (.t 3),no⟩,⟨some 8,.ld false 1 (.t 7),no⟩,⟨some 9,.bin .neq (.t 6) (.t 8),no⟩]) (.cond (.t 9) (.seq
 (.reg [⟨some 4,.mv (.k (.bool false)),no⟩]) .ret) .skip)) (.seq (.seq
 (.reg [⟨some 10,.fld 1 (.t 2),no⟩,⟨some 11,.ld false 1 (.t 10),no⟩,⟨some 12,.fld 1 (.t 3),no⟩,⟨some 13,.ld false 1 (.t 12),no⟩,⟨some 14,.call (.k (.fn (.func 61) [] [])) [.t 11,.t 13],no⟩,⟨some 15,.un .not (.t 14),no⟩]) (.cond (.t 15) (.seq
 (.reg [⟨some 4,.mv (.k (.bool false)),no⟩]) .ret) .skip)) (.seq
 (.reg [⟨some 4,.mv (.k (.bool true)),no⟩]) .ret))))⟩
theorem a39_ok:compFn Try.prog Try.f39=some a39:=by kernel_rfl
def a17:AFn:=
⟨16,[.t 4],(.seq
 (.reg [⟨some 2,.boxv (.t 0),no⟩,⟨some 3,.boxv (.t 1),no⟩,⟨some 4,.mv (.k (.bool false)),no⟩]) (.seq (.seq
 (.reg [⟨some 5,.fld 0 (.t 2),no⟩,⟨some 6,.ld false 1 (.t 5),no⟩,⟨some 7,.fld 0 (.t 3),no⟩,⟨some 8,.ld false 1 (.t 7),no⟩,⟨some 9,.bin .neq (.t 6) (.t 8),no⟩]) (.cond (.t 9) (.seq
 (.reg [⟨some 4,.mv (.k (.bool false)),no⟩]) .ret) .skip)) (.seq (.seq
 (.reg [⟨some 10,.fld 1 (.t 2),no⟩,⟨some 11,.ld false 1 (.t 10),no⟩,⟨some 12,.fld 1 (.t 3),no⟩,⟨some 13,.ld false 1 (.t 12),no⟩,⟨some 14,.call (.k (.fn (.func 38) [] [])) [.t 11,.t 13],no⟩,⟨some 15,.un .not (.t 14),no⟩]) (.cond (.t 15) (.seq
 (.reg [⟨some 4,.mv (.k (.bool false)),no⟩]) .ret) .skip)) (.seq
 (.reg [⟨some 4,.mv (.k (.bool true)),no⟩]) .ret))))⟩
theorem a17_ok:compFn Try.prog Try.f17=some a17:=by kernel_rfl
def a13:AFn:=
⟨18,[.t 4],(.seq
 (.reg [⟨some 2,.boxv (.t 0),no⟩,⟨some 4,.mv (.k (.int .i64 0)),no⟩]) (.seq
 (.reg [⟨some 5,.fld 0 (.t 2),no⟩,⟨some 6,.ld true 2 (.t 5),no⟩,⟨some 7,.mv (.t 1),no⟩,⟨some 8,.call (.k (.fn (.func 22) [] [])) [.t 6,.t 7],no⟩,⟨some 1,.mv (.t 8),no⟩]) (.seq (.seq
 (.reg [⟨some 9,.mv (.t 1),no⟩,⟨some 10,.bin .lss (.t 9) (.k (.int .i64 0)),no⟩]) (.cond (.t 10) (.seq
 (.reg [⟨some 4,.mv (.k (.int .i64 (-1))),no⟩]) .ret) .skip)) (.seq
 (.reg [⟨some 11,.fld 2 (.t 2),no⟩,⟨some 12,.ld true 2 (.t 11),no⟩,⟨some 13,.mv (.t 1),no⟩,⟨some 14,.call (.k (.fn (.func 23) [] [])) [.t 12,.t 13],no⟩,⟨some 1,.mv (.t 14),no⟩]) (.seq (.seq
 (.reg [⟨some 15,.mv (.t 1),no⟩,⟨some 16,.bin .lss (.t 15) (.k (.int .i64 0)),no⟩]) (.cond (.t 16) (.seq
 (.reg [⟨some 4,.mv (.k (.int .i64 (-1))),no⟩]) .ret) .skip)) (.seq
 (.reg [⟨some 17,.mv (.t 1),no⟩,⟨some 4,.mv (.t 17),no⟩]) .ret))))))⟩
theorem a13_ok:compFn Try.prog Try.f13=some a13:=by kernel_rfl
def a15:AFn:=
⟨13,[(.c 2 true 4)],(.seq
 (.reg [⟨some 1,.boxv (.t 0),no⟩,⟨some 2,.box [(.int .i64 0),(.nil 2),(.int .i64 0),(.nil 1)],no⟩]) (.seq
 (.reg [⟨some 3,.box [(.int .i64 0),(.nil 2),(.int .i64 0),(.nil 1)],no⟩]) (.seq
 (.reg [⟨some 4,.fld 0 (.t 1),no⟩,⟨some 5,.ld true 2 (.t 4),no⟩,⟨some 6,.call (.k (.fn (.func 30) [] [])) [.t 5],no⟩,⟨some 7,.fld 0 (.t 3),no⟩,⟨no,.st 2 (.t 7) (.t 6),no⟩]) (.seq
 (.reg [⟨some 8,.fld 2 (.t 1),no⟩,⟨some 9,.ld true 2 (.t 8),no⟩,⟨some 10,.call (.k (.fn (.func 31) [] [])) [.t 9],no⟩,⟨some 11,.fld 2 (.t 3),no⟩,⟨no,.st 2 (.t 11) (.t 10),no⟩]) (.seq
 (.reg [⟨some 12,.ld true 4 (.t 3),no⟩,⟨no,.st 4 (.t 2) (.t 12),no⟩]) .ret)))))⟩
theorem a15_ok:compFn Try.prog Try.f15=some a15:=by kernel_rfl
def a18:AFn:=
⟨17,[.t 4],(.seq
 (.reg [⟨some 2,.boxv (.t 0),no⟩,⟨some 3,.boxv (.t 1),no⟩,⟨some 4,.mv (.k (.bool false)),no⟩]) (.seq (.seq
 (.reg [⟨some 5,.fld 0 (.t 2),no⟩,⟨some 6,.ld true 2 (.t 5),no⟩,⟨some 7,.fld 0 (.t 3),no⟩,⟨some 8,.ld true 2 (.t 7),no⟩,⟨some 9,.call (.k (.fn (.func 39) [] [])) [.t 6,.t 8],no⟩,⟨some 10,.un .not (.t 9),no⟩]) (.cond (.t 10) (.seq
 (.reg [⟨some 4,.mv (.k (.bool false)),no⟩]) .ret) .skip)) (.seq (.seq
 (.reg [⟨some 11,.fld 2 (.t 2),no⟩,⟨some 12,.ld true 2 (.t 11),no⟩,⟨some 13,.fld 2 (.t 3),no⟩,⟨some 14,.ld true 2 (.t 13),no⟩,⟨some 15,.call (.k (.fn (.func 40) [] [])) [.t 12,.t 14],no⟩,⟨some 16,.un .not (.t 15),no⟩]) (.cond (.t 16) (.seq
 (.reg [⟨some 4,.mv (.k (.bool false)),no⟩]) .ret) .skip)) (.seq
 (.reg [⟨some 4,.mv (.k (.bool true)),no⟩]) .ret))))⟩
theorem a18_ok:compFn Try.prog Try.f18=some a18:=by kernel_rfl
theorem k_szIntS (l:List Int) (left:Int) (h0:0≤left∧left≤4611686018427387904):Holds Try.prog 42 [.sl 1 (intsR l),i64 left] (fun r=>r=i64 (sub1 left (wIntS l))):=by
 refine holds_of_run Try.func42 a42_ok rfl (by simp [a42]) ?_
 simp [a42]
 unfold LIM
 intro h1
 rw [wrap64 (by omega)]
 unfold sub1 wIntS
 exact ⟨fun h=>by rw [if_pos h],fun h=>by rw [if_neg (by omega)]⟩
theorem k_toIntS (a:List Int) (hw:wIntS a≤1048576):Holds Try.prog 50 [.sl 1 (intsR a)] (fun r=>r = .us 1 (intsR a)):=by
 unfold wIntS at hw
 refine holds_of_run Try.func50 a50_ok rfl (by simp [a50]) ?_
 simp [a50]
 intro h1
 refine ⟨by unfold LIM; omega,rL_of (fun k s h n=>∃ (i:Nat) (rows:List (List AV)),k=a.length - i∧i≤a.length∧s 0=ints a∧s 3 = .ref 0 0 a.length∧s 4=i64 i∧h=upd noHeap 0 (some ⟨false,1,rows⟩)∧n=1 ∧
   rows.length=a.length∧(∀ j,j<i→rows[j]? = (intsR a)[j]?)∧(∀ j (hj:j<rows.length),rows[j].length=1)) a.length ⟨0,List.replicate a.length [i64 0],by simp⟩ ?_⟩
 rintro k s h n ⟨i,rows,rfl,hi,s0,s3,s4,rfl,rfl,hr,hj,hc⟩
 by_cases hlt:i<a.length
 · have hm:=hc i (by omega)
   have htl:rows[i].tail=[]:=List.eq_nil_of_length_eq_zero (by simp [hm])
   simp [s0,s3,s4,hlt,hr,hm]
   intro _
   refine ⟨a.length - (i+1),by omega,i+1,rfl,by omega,by rw [wrap64 (by omega)]; rfl,rows.set i [i64 a[i]],by simp [htl],by simp [hr],fun j hj' => ?_,fun j hj' => ?_⟩
   · rw [List.getElem?_set]
     by_cases hji:i=j
     · subst hji; simp [hr,hlt]
     · rw [if_neg hji]; simpa using hj j (by omega)
   · rw [List.getElem_set]
     split
     · rfl
     · exact hc j (by simpa using hj')
 · simp [s0,s3,s4,hlt,hr]
   intro _
   have:rows=intsR a:=List.ext_getElem? fun j=>by
     by_cases hji:j<i
     · exact hj j hji
     · rw [List.getElem?_eq_none (by omega),List.getElem?_eq_none (by simp; omega)]
   subst this
   simp [List.take_of_length_le]
theorem k_eqIntS (a b:List Int):Holds Try.prog 38 [.sl 1 (intsR a),.sl 1 (intsR b)] (fun r=>r = .bool (decide (a=b))):=by
 refine holds_of_run Try.func38 a38_ok rfl (by simp [a38]) ?_
 simp [a38]
 intro h1 h2
 refine ⟨fun h e=>h (by rw [e]),fun hl=>rL_of (fun k s h n=>∃ i:Nat,k=a.length - i∧i≤a.length∧s 0=ints a∧s 1=ints b∧s 5=i64 i∧(∀ j,j<i→a[j]? = b[j]?)∧h=noHeap∧n=0) a.length ⟨0,by simp⟩ ?_⟩
 rintro k s h n ⟨i,rfl,hi,s0,s1,s5,hj,rfl,rfl⟩
 have hl:a.length=b.length:=by omega
 by_cases hlt:i<a.length
 · have hlt':i<b.length:=by omega
   unfold LIM at h1
   simp [s0,s1,s5,hlt,hlt']
   intro _
   refine ⟨fun h e=>h (by subst e; rfl),fun e=>⟨a.length - (i+1),by omega,i+1,rfl,by omega,by rw [wrap64 (by omega)]; rfl,fun j hj' => ?_⟩⟩
   by_cases hji:j=i
   · subst hji; simp [hlt,hlt',e]
   · exact hj j (by omega)
 · simp [s0,s1,s5,hlt]
   intro _
   refine List.ext_getElem? fun j => ?_
   by_cases hji:j<i
   · exact hj j hji
   · rw [List.getElem?_eq_none (by omega),List.getElem?_eq_none (by omega)]
theorem k_szLin (x:DLin) (left:Int) (h0:0≤left∧left≤4611686018427387904):Holds Try.prog 23 [.agg (rALin x),i64 left] (fun r=>r=i64 (sub1 left (wLin x))):=by
 refine holds_of_run Try.func23 a23_ok rfl (by simp [a23]) ?_
 simp [a23,rALin]
 have e0:wLin x=wLin x:=rfl
 conv at e0=>rhs; unfold wLin
 refine call_of (k_szIntS x.Coeffs left (by omega)) (by simp) ?_
 rintro r rfl
 by_cases h1:left - (wIntS x.Coeffs:Nat)<0
 case pos=>
   have q:left - (wLin x:Int)<0:=by omega
   simp [sub1,h1,q]
   try first | omega | (constructor <;> intros <;> omega)
 simp [sub1,h1]
 try (rw [if_neg (by omega)]; omega)
theorem k_toLin (x:DLin) (_hw:wLin x≤1048576):Holds Try.prog 31 [.agg (rALin x)] (fun r=>r = .agg (rULin x)):=by
 have hw:=_hw; unfold wLin at hw
 refine holds_of_run Try.func31 a31_ok rfl (by simp [a31]) ?_
 simp [a31,rALin]
 refine call_of (k_toIntS x.Coeffs (by omega)) (by simp []) ?_
 rintro r rfl
 simp []
 try simp [rULin]
theorem k_eqLin (x y:DLin):Holds Try.prog 40 [.agg (rALin x),.agg (rALin y)] (fun r=>r = .bool (decide (x=y))):=by
 refine holds_of_run Try.func40 a40_ok rfl (by simp [a40]) ?_
 simp [a40,rALin]
 by_cases h0:x.Const=y.Const
 case neg=>simp [h0]; try exact fun e=>h0 (by rw [e])
 simp [h0]
 refine call_of (k_eqIntS x.Coeffs y.Coeffs) (by simp []) ?_
 rintro r rfl
 by_cases h1:x.Coeffs=y.Coeffs
 case neg=>simp [h1]; try exact fun e=>h1 (by rw [e])
 simp [h1]
 cases x; cases y; simp_all
theorem a41_ok:compFn Try.prog Try.f41=some (tSz true 2 23):=by kernel_rfl
theorem k_szLinS (l:List DLin) (left:Int) (h0:0≤left∧left≤4611686018427387904):Holds Try.prog 41 [.sl 2 (l.map rALin),i64 left] (fun r=>r=i64 (sub1 left (wLinS l))):=by
 rw [show wLinS l=wL wLin l from rfl,←szL_sub1 (w:=wLin) (g:=fun x lf=>sub1 lf (wLin x)) (fun _ _ _=>rfl) l left h0.1]
 exact holds_tSz Try.func41 a41_ok rfl (rowOf:=rALin) (eltOf:=(fun x => .agg (rALin x))) (fun x=>by simp [rALin]) (fun x h=>by simp [rALin]) (fun x lf h=>sub1_le h) l left h0 (fun x lf _ hl=>k_szLin x lf hl)
theorem a49_ok:compFn Try.prog Try.f49=some (tTo true 2 32 31 [.int .i64 0,.nil 1]):=by kernel_rfl
theorem k_toLinS (l:List DLin) (hw:wLinS l≤1048576):Holds Try.prog 49 [.sl 2 (l.map rALin)] (fun r=>r = .us 2 (l.map rULin)):=
 holds_tTo Try.func49 a49_ok rfl (rowOf:=rALin) (eltOf:=(fun x => .agg (rALin x))) (eltU:=(fun x => .agg (rULin x))) (fun x=>by simp [rALin]) (fun x h=>by simp [rALin]) (fun x=>by simp) (fun x=>by simp [rULin]) (fun x=>by simp [rULin]) rfl l (by have:=wL_len wLin l; unfold wLinS at hw; unfold LIM; omega) (fun x h=>k_toLin x (by have:=wL_mem (w:=wLin) h; unfold wLinS at hw; omega))
theorem a61_ok:compFn Try.prog Try.f61=some (tEq true 2 40):=by kernel_rfl
theorem k_eqLinS (l m:List DLin):Holds Try.prog 61 [.sl 2 (l.map rALin),.sl 2 (m.map rALin)] (fun r=>r = .bool (decide (l=m))):=by
 rw [←eqL_dec]
 exact holds_tEq Try.func61 a61_ok rfl (rowOf:=rALin) (eltOf:=(fun x => .agg (rALin x))) (fun x=>by simp [rALin]) (fun x h=>by simp [rALin]) l m (fun x y _ _=>k_eqLin x y)
theorem k_szSystem (x:DSystem) (left:Int) (h0:0≤left∧left≤4611686018427387904):Holds Try.prog 22 [.agg (rASystem x),i64 left] (fun r=>r=i64 (sub1 left (wSystem x))):=by
 refine holds_of_run Try.func22 a22_ok rfl (by simp [a22]) ?_
 simp [a22,rASystem]
 have e0:wSystem x=wSystem x:=rfl
 conv at e0=>rhs; unfold wSystem
 refine call_of (k_szLinS x.Rows left (by omega)) (by simp) ?_
 rintro r rfl
 by_cases h1:left - (wLinS x.Rows:Nat)<0
 case pos=>
   have q:left - (wSystem x:Int)<0:=by omega
   simp [sub1,h1,q]
   try first | omega | (constructor <;> intros <;> omega)
 simp [sub1,h1]
 try (rw [if_neg (by omega)]; omega)
theorem k_toSystem (x:DSystem) (_hw:wSystem x≤1048576):Holds Try.prog 30 [.agg (rASystem x)] (fun r=>r = .agg (rUSystem x)):=by
 have hw:=_hw; unfold wSystem at hw
 refine holds_of_run Try.func30 a30_ok rfl (by simp [a30]) ?_
 simp [a30,rASystem]
 refine call_of (k_toLinS x.Rows (by omega)) (by simp []) ?_
 rintro r rfl
 simp []
 try simp [rUSystem]
theorem k_eqSystem (x y:DSystem):Holds Try.prog 39 [.agg (rASystem x),.agg (rASystem y)] (fun r=>r = .bool (decide (x=y))):=by
 refine holds_of_run Try.func39 a39_ok rfl (by simp [a39]) ?_
 simp [a39,rASystem]
 by_cases h0:x.N=y.N
 case neg=>simp [h0]; try exact fun e=>h0 (by rw [e])
 simp [h0]
 refine call_of (k_eqLinS x.Rows y.Rows) (by simp []) ?_
 rintro r rfl
 by_cases h1:x.Rows=y.Rows
 case neg=>simp [h1]; try exact fun e=>h1 (by rw [e])
 simp [h1]
 cases x; cases y; simp_all
theorem k_eqFarkas (x y:DFarkas):Holds Try.prog 17 [.agg (rAFarkas x),.agg (rAFarkas y)] (fun r=>r = .bool (decide (x=y))):=by
 refine holds_of_run Try.func17 a17_ok rfl (by simp [a17]) ?_
 simp [a17,rAFarkas]
 by_cases h0:x.Scale=y.Scale
 case neg=>simp [h0]; try exact fun e=>h0 (by rw [e])
 simp [h0]
 refine call_of (k_eqIntS x.Mult y.Mult) (by simp []) ?_
 rintro r rfl
 by_cases h1:x.Mult=y.Mult
 case neg=>simp [h1]; try exact fun e=>h1 (by rw [e])
 simp [h1]
 cases x; cases y; simp_all
theorem a8_ok:compFn Try.prog Try.f8=some (tEq true 2 17):=by kernel_rfl
theorem k_eqFarkasS (l m:List DFarkas):Holds Try.prog 8 [.sl 2 (l.map rAFarkas),.sl 2 (m.map rAFarkas)] (fun r=>r = .bool (decide (l=m))):=by
 rw [←eqL_dec]
 exact holds_tEq Try.func8 a8_ok rfl (rowOf:=rAFarkas) (eltOf:=(fun x => .agg (rAFarkas x))) (fun x=>by simp [rAFarkas]) (fun x h=>by simp [rAFarkas]) l m (fun x y _ _=>k_eqFarkas x y)
theorem k_szObligation (x:DObligation) (left:Int) (h0:0≤left∧left≤4611686018427387904):Holds Try.prog 13 [.agg (rAObligation x),i64 left] (fun r=>r=i64 (sub1 left (wObligation x))):=by
 refine holds_of_run Try.func13 a13_ok rfl (by simp [a13]) ?_
 simp [a13,rAObligation]
 have e0:wObligation x=wObligation x:=rfl
 conv at e0=>rhs; unfold wObligation
 refine call_of (k_szSystem x.System left (by omega)) (by simp [rASystem]) ?_
 rintro r rfl
 by_cases h1:left - (wSystem x.System:Nat)<0
 case pos=>
   have q:left - (wObligation x:Int)<0:=by omega
   simp [sub1,h1,q]
   try first | omega | (constructor <;> intros <;> omega)
 simp [sub1,h1]
 refine call_of (k_szLin x.Target (left - (wSystem x.System:Nat)) (by omega)) (by simp [rALin]) ?_
 rintro r rfl
 by_cases h2:(left - (wSystem x.System:Nat)) - (wLin x.Target:Nat)<0
 case pos=>
   have q:left - (wObligation x:Int)<0:=by omega
   simp [sub1,h2,q]
   try first | omega | (constructor <;> intros <;> omega)
 simp [sub1,h2]
 try (rw [if_neg (by omega)]; omega)
theorem k_toObligation (x:DObligation) (_hw:wObligation x≤1048576):Holds Try.prog 15 [.agg (rAObligation x)] (fun r=>r = .agg (rUObligation x)):=by
 have hw:=_hw; unfold wObligation at hw
 refine holds_of_run Try.func15 a15_ok rfl (by simp [a15]) ?_
 simp [a15,rAObligation]
 refine call_of (k_toSystem x.System (by omega)) (by simp [rASystem]) ?_
 rintro r rfl
 simp [rUSystem]
 refine call_of (k_toLin x.Target (by omega)) (by simp [rALin]) ?_
 rintro r rfl
 simp [rULin]
 try simp [rUObligation]
theorem k_eqObligation (x y:DObligation):Holds Try.prog 18 [.agg (rAObligation x),.agg (rAObligation y)] (fun r=>r = .bool (decide (x=y))):=by
 refine holds_of_run Try.func18 a18_ok rfl (by simp [a18]) ?_
 simp [a18,rAObligation]
 refine call_of (k_eqSystem x.System y.System) (by simp [rASystem]) ?_
 rintro r rfl
 by_cases h0:x.System=y.System
 case neg=>simp [h0]; try exact fun e=>h0 (by rw [e])
 simp [h0]
 refine call_of (k_eqLin x.Target y.Target) (by simp [rALin]) ?_
 rintro r rfl
 by_cases h1:x.Target=y.Target
 case neg=>simp [h1]; try exact fun e=>h1 (by rw [e])
 simp [h1]
 cases x; cases y; simp_all
theorem a4_ok:compFn Try.prog Try.f4=some (tSz true 4 13):=by kernel_rfl
theorem k_szObligationS (l:List DObligation) (left:Int) (h0:0≤left∧left≤4611686018427387904):Holds Try.prog 4 [.sl 4 (l.map rAObligation),i64 left] (fun r=>r=i64 (sub1 left (wObligationS l))):=by
 rw [show wObligationS l=wL wObligation l from rfl,←szL_sub1 (w:=wObligation) (g:=fun x lf=>sub1 lf (wObligation x)) (fun _ _ _=>rfl) l left h0.1]
 exact holds_tSz Try.func4 a4_ok rfl (rowOf:=rAObligation) (eltOf:=(fun x => .agg (rAObligation x))) (fun x=>by simp [rAObligation]) (fun x h=>by simp [rAObligation]) (fun x lf h=>sub1_le h) l left h0 (fun x lf _ hl=>k_szObligation x lf hl)
theorem a6_ok:compFn Try.prog Try.f6=some (tTo true 4 64 15 [.int .i64 0,.nil 2,.int .i64 0,.nil 1]):=by kernel_rfl
theorem k_toObligationS (l:List DObligation) (hw:wObligationS l≤1048576):Holds Try.prog 6 [.sl 4 (l.map rAObligation)] (fun r=>r = .us 4 (l.map rUObligation)):=
 holds_tTo Try.func6 a6_ok rfl (rowOf:=rAObligation) (eltOf:=(fun x => .agg (rAObligation x))) (eltU:=(fun x => .agg (rUObligation x))) (fun x=>by simp [rAObligation]) (fun x h=>by simp [rAObligation]) (fun x=>by simp) (fun x=>by simp [rUObligation]) (fun x=>by simp [rUObligation]) rfl l (by have:=wL_len wObligation l; unfold wObligationS at hw; unfold LIM; omega) (fun x h=>k_toObligation x (by have:=wL_mem (w:=wObligation) h; unfold wObligationS at hw; omega))
theorem a9_ok:compFn Try.prog Try.f9=some (tEq true 4 18):=by kernel_rfl
theorem k_eqObligationS (l m:List DObligation):Holds Try.prog 9 [.sl 4 (l.map rAObligation),.sl 4 (m.map rAObligation)] (fun r=>r = .bool (decide (l=m))):=by
 rw [←eqL_dec]
 exact holds_tEq Try.func9 a9_ok rfl (rowOf:=rAObligation) (eltOf:=(fun x => .agg (rAObligation x))) (fun x=>by simp [rAObligation]) (fun x h=>by simp [rAObligation]) l m (fun x y _ _=>k_eqObligation x y)
end Go.Proofs.Ytoclolkigjbcgaa

namespace Go.Proofs.Ytoclolkigjbcgaa
set_option linter.all false
open Go Go.RowKit Go.Proofs
def a3:AFn:=
⟨96,[.t 2],(.seq
 (.reg [⟨some 2,.mv (.k (.bool false)),no⟩]) (.seq
 (.reg [⟨some 3,.mv (.k (.int .i64 1048576)),no⟩]) (.seq
 (.reg [⟨some 14,.mv (.t 0),no⟩,⟨some 15,.mv (.t 3),no⟩,⟨some 16,.call (.k (.fn (.func 4) [] [])) [.t 14,.t 15],no⟩,⟨some 3,.mv (.t 16),no⟩]) (.seq (.seq
 (.reg [⟨some 17,.mv (.t 3),no⟩,⟨some 18,.bin .lss (.t 17) (.k (.int .i64 0)),no⟩]) (.cond (.t 18) (.seq
 (.reg [⟨some 2,.mv (.k (.bool true)),no⟩]) .ret) .skip)) (.seq
 (.reg [⟨some 20,.mv (.t 0),no⟩,⟨some 21,.call (.k (.fn (.func 6) [] [])) [.t 20],no⟩,⟨some 22,.call (.k (.fn (.func 5) [] [])) [.t 21],no⟩,⟨some 19,.mv (.t 22),no⟩,⟨some 23,.ext (.t 19) 0,no⟩,⟨some 24,.ext (.t 19) 1,no⟩,⟨some 4,.mv (.t 23),no⟩,⟨some 5,.mv (.t 24),no⟩]) (.seq
 (.reg [⟨some 25,.mv (.t 0),no⟩,⟨some 26,.call (.k (.fn (.func 6) [] [])) [.t 25],no⟩,⟨some 6,.mv (.t 26),no⟩]) (.seq
 (.reg [⟨some 28,.mv (.t 6),no⟩,⟨some 29,.call (.k (.fn (.func 7) [] [])) [.t 28],no⟩,⟨some 27,.mv (.t 29),no⟩,⟨some 30,.ext (.t 27) 0,no⟩,⟨some 31,.ext (.t 27) 1,no⟩,⟨some 7,.mv (.t 30),no⟩,⟨some 8,.mv (.t 31),no⟩]) (.seq (.seq
 (.reg [⟨some 32,.mv (.t 7),no⟩,⟨some 33,.mv (.t 4),no⟩,⟨some 34,.call (.k (.fn (.func 8) [] [])) [.t 32,.t 33],no⟩,⟨some 35,.un .not (.t 34),no⟩,⟨some 36,.mv (.t 35),no⟩,⟨some 37,.mv (.t 8),(some (36,false))⟩,⟨some 38,.mv (.t 5),(some (36,false))⟩,⟨some 39,.beq true (.t 37) (.t 38),(some (36,false))⟩,⟨some 40,.pick (.t 36) (.k (.bool true)) (.t 39),no⟩]) (.cond (.t 40) (.seq
 (.reg [⟨some 2,.mv (.k (.bool false)),no⟩]) .ret) .skip)) (.seq (.seq
 (.reg [⟨some 41,.mv (.t 6),no⟩,⟨some 42,.mv (.t 0),no⟩,⟨some 43,.call (.k (.fn (.func 6) [] [])) [.t 42],no⟩,⟨some 44,.call (.k (.fn (.func 9) [] [])) [.t 41,.t 43],no⟩,⟨some 45,.un .not (.t 44),no⟩]) (.cond (.t 45) (.seq
 (.reg [⟨some 2,.mv (.k (.bool false)),no⟩]) .ret) .skip)) (.seq
 (.reg [⟨some 9,.mv (.k (.int .i64 1)),no⟩]) (.seq
 (.reg [⟨some 46,.mv (.t 6),no⟩,⟨some 47,.mv (.t 9),no⟩,⟨some 48,.call (.k (.fn (.func 10) [] [])) [.t 46,.t 47],no⟩,⟨some 9,.mv (.t 48),no⟩]) (.seq (.seq
 (.reg [⟨some 49,.mv (.t 9),no⟩,⟨some 50,.bin .lss (.t 49) (.k (.int .i64 0)),no⟩,⟨some 51,.mv (.t 50),no⟩,⟨some 52,.mv (.t 7),(some (51,false))⟩,⟨some 53,.mv (.t 4),(some (51,false))⟩,⟨some 54,.call (.k (.fn (.func 8) [] [])) [.t 52,.t 53],(some (51,false))⟩,⟨some 55,.un .not (.t 54),(some (51,false))⟩,⟨some 56,.pick (.t 51) (.k (.bool true)) (.t 55),no⟩,⟨some 57,.mv (.t 56),no⟩,⟨some 58,.mv (.t 8),(some (57,false))⟩,⟨some 59,.mv (.t 5),(some (57,false))⟩,⟨some 60,.beq true (.t 58) (.t 59),(some (57,false))⟩,⟨some 61,.pick (.t 57) (.k (.bool true)) (.t 60),no⟩]) (.cond (.t 61) (.seq
 (.reg [⟨some 2,.mv (.k (.bool false)),no⟩]) .ret) .skip)) (.seq
 (.reg [⟨some 10,.mv (.k (.int .i64 1)),no⟩]) (.seq
 (.reg [⟨some 62,.mv (.t 7),no⟩,⟨some 63,.mv (.t 10),no⟩,⟨some 64,.call (.k (.fn (.func 11) [] [])) [.t 62,.t 63],no⟩,⟨some 10,.mv (.t 64),no⟩]) (.seq
 (.reg [⟨some 11,.mv (.k (.int .i64 1)),no⟩]) (.seq
 (.reg [⟨some 65,.mv (.t 7),no⟩,⟨some 66,.mv (.t 11),no⟩,⟨some 67,.call (.k (.fn (.func 12) [] [])) [.t 65,.t 66],no⟩,⟨some 11,.mv (.t 67),no⟩]) (.seq (.seq
 (.reg [⟨some 68,.mv (.t 11),no⟩,⟨some 69,.bin .lss (.t 68) (.k (.int .i64 0)),no⟩]) (.cond (.t 69) (.seq
 (.reg [⟨some 2,.mv (.k (.bool false)),no⟩]) .ret) .skip)) (.seq (.seq
 (.reg [⟨some 70,.mv (.t 11),no⟩,⟨some 71,.mv (.t 10),no⟩,⟨some 72,.bin .neq (.t 70) (.t 71),no⟩]) (.cond (.t 72) (.seq
 (.reg [⟨some 2,.mv (.k (.bool false)),no⟩]) .ret) .skip)) (.seq
 (.reg [⟨some 74,.mv (.t 0),no⟩,⟨some 75,.call (.k (.fn (.func 6) [] [])) [.t 74],no⟩,⟨some 76,.call (.k (.fn (.func 7) [] [])) [.t 75],no⟩,⟨some 73,.mv (.t 76),no⟩,⟨some 77,.ext (.t 73) 0,no⟩,⟨some 78,.ext (.t 73) 1,no⟩,⟨some 12,.mv (.t 77),no⟩,⟨some 13,.mv (.t 78),no⟩]) (.seq (.seq
 (.reg [⟨some 79,.mv (.t 12),no⟩,⟨some 80,.mv (.t 4),no⟩,⟨some 81,.call (.k (.fn (.func 8) [] [])) [.t 79,.t 80],no⟩,⟨some 82,.un .not (.t 81),no⟩,⟨some 83,.mv (.t 82),no⟩,⟨some 84,.mv (.t 13),(some (83,false))⟩,⟨some 85,.mv (.t 5),(some (83,false))⟩,⟨some 86,.beq true (.t 84) (.t 85),(some (83,false))⟩,⟨some 87,.pick (.t 83) (.k (.bool true)) (.t 86),no⟩]) (.cond (.t 87) (.seq
 (.reg [⟨some 2,.mv (.k (.bool false)),no⟩]) .ret) .skip)) (.seq
 (.reg [⟨some 11,.mv (.k (.int .i64 1)),no⟩]) (.seq
 (.reg [⟨some 88,.mv (.t 7),no⟩,⟨some 89,.mv (.t 11),no⟩,⟨some 90,.call (.k (.fn (.func 12) [] [])) [.t 88,.t 89],no⟩,⟨some 11,.mv (.t 90),no⟩]) (.seq (.seq
 (.reg [⟨some 91,.mv (.t 11),no⟩,⟨some 92,.bin .lss (.t 91) (.k (.int .i64 0)),no⟩]) (.cond (.t 92) (.seq
 (.reg [⟨some 2,.mv (.k (.bool false)),no⟩]) .ret) .skip)) (.seq (.seq
 (.reg [⟨some 93,.mv (.t 11),no⟩,⟨some 94,.mv (.t 10),no⟩,⟨some 95,.bin .neq (.t 93) (.t 94),no⟩]) (.cond (.t 95) (.seq
 (.reg [⟨some 2,.mv (.k (.bool false)),no⟩]) .ret) .skip)) (.seq
 (.reg [⟨some 2,.mv (.k (.bool true)),no⟩]) .ret)))))))))))))))))))))))))⟩
theorem a3_ok:compFn Try.prog Try.f3=some a3:=by kernel_rfl
set_option maxRecDepth 40000 in
set_option maxHeartbeats 4000000 in
theorem law_ProveAll (aO:List DObligation):Holds Try.prog 3 [.sl 4 (aO.map rAObligation)] (fun x=>x = .bool true):=by
 refine holds_of_run Try.func3 a3_ok rfl (by simp [a3]) ?_
 simp [a3]
 first|refine callD_of (k_szObligationS aO 1048576 (by omega)) (by first|simp;done|rfl) ?_|refine call_of (k_szObligationS aO 1048576 (by omega)) (by first|simp;done|rfl) ?_
 rintro r rfl
 by_cases h1:1048576 - (wObligationS aO:Int)<0
 · simp [sub1,h1]
 simp [sub1,h1]
 have hw_aO:wObligationS aO≤1048576:=by omega
 have hb_aO:=cw_ObligationS aO
 first | refine lsD_us (len:=(aO).length) (k_toObligationS aO hw_aO) (LS.start) (by simp) ⟨.inl (fun h=>by first | rfl | simp),trivial⟩ ?_ | refine ls_us (len:=(aO).length) (k_toObligationS aO hw_aO) (LS.start) (by simp) ⟨.inl (fun h=>by first | rfl | simp),trivial⟩ ?_
 intro d0 h0x n0 J0 S0
 have e:=S0.eqs; have ne:=S0.nes; simp only [bxE,bxN,Nat.zero_add,Nat.reduceAdd] at e ne
 simp [e,ne]
 first | refine lsD_us2 (len:=(((proveAll aO).getD [])).length) (ks_ProveAllW aO hw_aO) (S0) rfl (by simp) ⟨.inr ⟨_,.head _,rfl,by simp [dr]⟩,trivial⟩ ?_ | refine ls_us2 (len:=(((proveAll aO).getD [])).length) (ks_ProveAllW aO hw_aO) (S0) rfl (by simp) ⟨.inr ⟨_,.head _,rfl,by simp [dr]⟩,trivial⟩ ?_
 intro d1 h1x n1 J1 S1
 have e:=S1.eqs; have ne:=S1.nes; simp only [bxE,bxN,Nat.zero_add,Nat.reduceAdd] at e ne
 simp [e,ne]
 first | refine lsD_us (len:=(aO).length) (k_toObligationS aO hw_aO) (S1) (by simp) ⟨.inl (fun h=>by first | rfl | simp),trivial⟩ ?_ | refine ls_us (len:=(aO).length) (k_toObligationS aO hw_aO) (S1) (by simp) ⟨.inl (fun h=>by first | rfl | simp),trivial⟩ ?_
 intro d2 h2x n2 J2 S2
 have e:=S2.eqs; have ne:=S2.nes; simp only [bxE,bxN,Nat.zero_add,Nat.reduceAdd] at e ne
 simp [e,ne]
 first | refine lsD_us2 (len:=(((proveAll aO).getD [])).length) (k_ProveAllW aO hw_aO) (S2) rfl (by simp) ⟨.inr ⟨_,.head _,rfl,by simp [dr]⟩,trivial⟩ ?_ | refine ls_us2 (len:=(((proveAll aO).getD [])).length) (k_ProveAllW aO hw_aO) (S2) rfl (by simp) ⟨.inr ⟨_,.head _,rfl,by simp [dr]⟩,trivial⟩ ?_
 intro d3 h3x n3 J3 S3
 have e:=S3.eqs; have ne:=S3.nes; simp only [bxE,bxN,Nat.zero_add,Nat.reduceAdd] at e ne
 simp [e,ne]
 first | refine lsD_scal (k_eqFarkasS (((proveAll aO).getD [])) (((proveAll aO).getD []))) (S3) rfl ⟨.inr ⟨_,.head _,rfl,by simp [dr]⟩,.inr ⟨_,.tail _ (.tail _ (.head _)),rfl,by simp [dr]⟩,trivial⟩ ?_ | refine ls_scal (k_eqFarkasS (((proveAll aO).getD [])) (((proveAll aO).getD []))) (S3) rfl ⟨.inr ⟨_,.head _,rfl,by simp [dr]⟩,.inr ⟨_,.tail _ (.tail _ (.head _)),rfl,by simp [dr]⟩,trivial⟩ ?_
 simp [e,ne]
 first | refine lsD_us (len:=(aO).length) (k_toObligationS aO hw_aO) (S3) (by simp) ⟨.inl (fun h=>by first | rfl | simp),trivial⟩ ?_ | refine ls_us (len:=(aO).length) (k_toObligationS aO hw_aO) (S3) (by simp) ⟨.inl (fun h=>by first | rfl | simp),trivial⟩ ?_
 intro d4 h4x n4 J4 S4
 have e:=S4.eqs; have ne:=S4.nes; simp only [bxE,bxN,Nat.zero_add,Nat.reduceAdd] at e ne
 simp [e,ne]
 first | refine lsD_scal (k_eqObligationS (aO) (aO)) (S4) rfl ⟨.inr ⟨_,.tail _ (.tail _ (.head _)),rfl,by simp [dr]⟩,.inr ⟨_,.head _,rfl,by simp [dr]⟩,trivial⟩ ?_ | refine ls_scal (k_eqObligationS (aO) (aO)) (S4) rfl ⟨.inr ⟨_,.tail _ (.tail _ (.head _)),rfl,by simp [dr]⟩,.inr ⟨_,.head _,rfl,by simp [dr]⟩,trivial⟩ ?_
 simp [e,ne]
 refine ls_mark (T1:=[_,_]) (m_markObligationS (aO) (1) (by omega)) (S4) ?_
 intro h5x n5 S5
 have e:=S5.eqs; have ne:=S5.nes; simp only [bxE,bxN,Nat.zero_add,Nat.reduceAdd] at e ne
 have hq1:¬1+cObligationS aO<(0:Int):=by omega
 simp [e,ne,hq1]
 first | refine lsD_scal (k_eqFarkasS (((proveAll aO).getD [])) (((proveAll aO).getD []))) (S5) rfl ⟨.inr ⟨_,.tail _ (.head _),rfl,by simp [dr]⟩,.inr ⟨_,.tail _ (.tail _ (.tail _ (.head _))),rfl,by simp [dr]⟩,trivial⟩ ?_ | refine ls_scal (k_eqFarkasS (((proveAll aO).getD [])) (((proveAll aO).getD []))) (S5) rfl ⟨.inr ⟨_,.tail _ (.head _),rfl,by simp [dr]⟩,.inr ⟨_,.tail _ (.tail _ (.tail _ (.head _))),rfl,by simp [dr]⟩,trivial⟩ ?_
 simp [e,ne]
 have hg:=proveAll_c aO hw_aO
 have hm:¬1+(cFarkasS (((proveAll aO).getD [])):Int)<0:=by omega
 refine ls_mark (T1:=[_]) (m_markFarkasS (((proveAll aO).getD [])) (1) (by omega)) (S5) ?_
 intro h6x n6 S6
 have e:=S6.eqs; have ne:=S6.nes; simp only [bxE,bxN,Nat.zero_add,Nat.reduceAdd] at e ne
 have hq2:¬1+cFarkasS (((proveAll aO).getD []))<(0:Int):=by omega
 simp [e,ne,hq2]
 first | refine lsD_scal (k_heldFarkasS (((proveAll aO).getD [])) (1) (by omega)) (S6) rfl ⟨.inr ⟨_,.tail _ (.head _),rfl,by simp [dr]⟩,.inl (fun h=>by first | rfl | simp),trivial⟩ ?_ | refine ls_scal (k_heldFarkasS (((proveAll aO).getD [])) (1) (by omega)) (S6) rfl ⟨.inr ⟨_,.tail _ (.head _),rfl,by simp [dr]⟩,.inl (fun h=>by first | rfl | simp),trivial⟩ ?_
 simp [e,ne,hm]
 first | refine lsD_us (len:=(aO).length) (k_toObligationS aO hw_aO) (S6) (by simp) ⟨.inl (fun h=>by first | rfl | simp),trivial⟩ ?_ | refine ls_us (len:=(aO).length) (k_toObligationS aO hw_aO) (S6) (by simp) ⟨.inl (fun h=>by first | rfl | simp),trivial⟩ ?_
 intro d7 h7x n7 J7 S7
 have e:=S7.eqs; have ne:=S7.nes; simp only [bxE,bxN,Nat.zero_add,Nat.reduceAdd] at e ne
 simp [e,ne]
 first | refine lsD_us2 (len:=(((proveAll aO).getD [])).length) (k_ProveAllW aO hw_aO) (S7) rfl (by simp) ⟨.inr ⟨_,.head _,rfl,by simp [dr]⟩,trivial⟩ ?_ | refine ls_us2 (len:=(((proveAll aO).getD [])).length) (k_ProveAllW aO hw_aO) (S7) rfl (by simp) ⟨.inr ⟨_,.head _,rfl,by simp [dr]⟩,trivial⟩ ?_
 intro d8 h8x n8 J8 S8
 have e:=S8.eqs; have ne:=S8.nes; simp only [bxE,bxN,Nat.zero_add,Nat.reduceAdd] at e ne
 simp [e,ne]
 first | refine lsD_scal (k_eqFarkasS (((proveAll aO).getD [])) (((proveAll aO).getD []))) (S8) rfl ⟨.inr ⟨_,.head _,rfl,by simp [dr]⟩,.inr ⟨_,.tail _ (.tail _ (.tail _ (.tail _ (.tail _ (.head _))))),rfl,by simp [dr]⟩,trivial⟩ ?_ | refine ls_scal (k_eqFarkasS (((proveAll aO).getD [])) (((proveAll aO).getD []))) (S8) rfl ⟨.inr ⟨_,.head _,rfl,by simp [dr]⟩,.inr ⟨_,.tail _ (.tail _ (.tail _ (.tail _ (.tail _ (.head _))))),rfl,by simp [dr]⟩,trivial⟩ ?_
 simp [e,ne]
 first | refine lsD_scal (k_heldFarkasS (((proveAll aO).getD [])) (1) (by omega)) (S8) rfl ⟨.inr ⟨_,.tail _ (.tail _ (.tail _ (.head _))),rfl,by simp [dr]⟩,.inl (fun h=>by first | rfl | simp),trivial⟩ ?_ | refine ls_scal (k_heldFarkasS (((proveAll aO).getD [])) (1) (by omega)) (S8) rfl ⟨.inr ⟨_,.tail _ (.tail _ (.tail _ (.head _))),rfl,by simp [dr]⟩,.inl (fun h=>by first | rfl | simp),trivial⟩ ?_
 simp [e,ne,hm]
end Go.Proofs.Ytoclolkigjbcgaa

namespace Go.Proofs.Ytoclolkigjbcgaa
set_option linter.all false
open Go Go.RowKit Go.Proofs Go.ChangeShapes Go.WideShapes
theorem Try.own:ownKnob Try.prog.godebug=none:=by kernel_rfl
theorem Try.laidOut:laidOutB Try.prog=true:=by kernel_rfl
theorem list_of_rows {α:Type} {P:List AV→Prop} {f:α→List AV} (hP:∀ r,P r→∃ x,r=f x):∀ {rows:List (List AV)},(∀ r∈rows,P r)→∃ l:List α,rows=l.map f
 | [],_=>⟨[],rfl⟩
 | r::rows,h=>by
   obtain ⟨x,rfl⟩:=hP r (h _ List.mem_cons_self)
   obtain ⟨l,rfl⟩:=list_of_rows hP fun r hr=>h r (List.mem_cons_of_mem _ hr)
   exact ⟨x::l,rfl⟩
theorem ArgOf_slice {P:Program} {f:Nat} {t e:TypeId} {a:AV} (hu:P.underlying t=some (.slice e)) (h:ArgOf P f t a):Row P f t [a]:=by simpa only [ArgOf,hu] using h
set_option maxRecDepth 100000
theorem of_IntS {f:Nat} {r:List AV} (h:Row Try.prog (f+2) 38 r):∃ x:List Int,r=[.sl 1 (intsR x)]:=by
 obtain ⟨l,rfl⟩:=ints_of Try.underlying38 Try.underlying3 (by kernel_rfl) h
 exact ⟨l,rfl⟩
theorem of_Lin {f:Nat} {r:List AV} (h:Row Try.prog (f+3) 40 r):∃ x:DLin,r=rALin x:=by
 obtain ⟨parts,rfl,g0⟩:=Row_struct Try.underlying40 h
 obtain ⟨x0,m1,rfl,h0,g1⟩:=All2_cons g0
 obtain ⟨x1,m2,rfl,h1,g2⟩:=All2_cons g1
 cases All2_nil g2
 obtain ⟨v0,rfl,_⟩:=Row_int Try.underlying3 h0
 obtain ⟨v1,rfl⟩:=of_IntS h1
 exact ⟨⟨v0,v1⟩,rfl⟩
theorem of_LinS {f:Nat} {r:List AV} (h:Row Try.prog (f+4) 35 r):∃ x:List DLin,r=[.sl 2 (x.map rALin)]:=by
 obtain ⟨rows,rfl,_,hr⟩:=Row_slice Try.underlying35 h
 obtain ⟨l,rfl⟩:=list_of_rows (f:=rALin) (fun r h=>of_Lin h) hr
 exact ⟨l,by rw [show Try.prog.cellsOf 40=2 by kernel_rfl]⟩
theorem of_System {f:Nat} {r:List AV} (h:Row Try.prog (f+5) 37 r):∃ x:DSystem,r=rASystem x:=by
 obtain ⟨parts,rfl,g0⟩:=Row_struct Try.underlying37 h
 obtain ⟨x0,m1,rfl,h0,g1⟩:=All2_cons g0
 obtain ⟨x1,m2,rfl,h1,g2⟩:=All2_cons g1
 cases All2_nil g2
 obtain ⟨v0,rfl,_⟩:=Row_int Try.underlying3 h0
 obtain ⟨v1,rfl⟩:=of_LinS h1
 exact ⟨⟨v0,v1⟩,rfl⟩
theorem of_Obligation {f:Nat} {r:List AV} (h:Row Try.prog (f+6) 42 r):∃ x:DObligation,r=rAObligation x:=by
 obtain ⟨parts,rfl,g0⟩:=Row_struct Try.underlying42 h
 obtain ⟨x0,m1,rfl,h0,g1⟩:=All2_cons g0
 obtain ⟨x1,m2,rfl,h1,g2⟩:=All2_cons g1
 cases All2_nil g2
 obtain ⟨v0,rfl⟩:=of_System h0
 obtain ⟨v1,rfl⟩:=of_Lin h1
 exact ⟨⟨v0,v1⟩,rfl⟩
theorem of_ObligationS {f:Nat} {r:List AV} (h:Row Try.prog (f+7) 22 r):∃ x:List DObligation,r=[.sl 4 (x.map rAObligation)]:=by
 obtain ⟨rows,rfl,_,hr⟩:=Row_slice Try.underlying22 h
 obtain ⟨l,rfl⟩:=list_of_rows (f:=rAObligation) (fun r h=>of_Obligation h) hr
 exact ⟨l,by rw [show Try.prog.cellsOf 42=4 by kernel_rfl]⟩
theorem arg_ObligationS {f:Nat} {a:AV} (h:ArgOf Try.prog (f+7) 22 a):∃ x:List DObligation,a = .sl 4 (x.map rAObligation):=by
 obtain ⟨x,hx⟩:=of_ObligationS (ArgOf_slice Try.underlying22 h)
 exact ⟨x,by simpa using hx⟩
end Go.Proofs.Ytoclolkigjbcgaa

namespace Go.Proofs.Ytoclolkigjbcgaa
set_option linter.all false
open Go Go.RowKit Go.Proofs Go.ChangeShapes Go.WideShapes
theorem joinedFacts_of {P:Program} {f:FuncId} {fn:Func} {s:ChangeSpec} {c:OpenClaim} (k0:c.wf (OpenSpec.ofChange s)=true) (k1:laidOutB P=true) (k2:mapsRowed P=true) (k3:fn.params.all (P.readableRec ·)=true) (k4:namedTie P c.named s.vars=true) (k5:(c.stops==[])=true) (k6:(P.stops==[])=true) (k7:(c.knobs==[])=true) (k8:(P.stopKnobs==[])=true) (k9:(c.inPlace==P.inPlace f)=true) (k10:(c.unfollowed==P.unfollowed f)=true) (k11:(c.recurses==P.recurses f)=true) (k12:(c.named==P.varsNamed f)=true) (k13:(c.maps==(fn.params.toList++s.plain.varTypes P).any (P.mapsRec ·))=true) (k14:(c.ifaces==(fn.params.toList++s.plain.varTypes P).any (P.ifacesRec ·))=true) (k15:(c.mapsOut==P.mapsAmong fn.resultTypes.toList)=true) (k16:(c.loops==(fn.params.toList++s.plain.varTypes P).any (P.loopsFrom ·))=true) (k17:(c.wideKeys==(fn.params.toList++s.plain.varTypes P++fn.resultTypes.toList).any (P.wideKeysFrom ·))=true) (k18:s.vars.all (P.varReadable ·)=true) (k19:fn.resultTypes.all (fun t=>P.readableRec t&&decide (t<P.types.size))=true) (k20:(c.ifacesOut==fn.resultTypes.toList.any (P.ifacesRec ·))=true) (k21:(c.loopsOut==fn.resultTypes.toList.any (P.loopsFrom ·))=true) (k22:(c.plainKeys==P.plainKeys)=true) (k23:c.shortTexts.isNone=true) (k24:P.stopsHeard=true) (k25:P.mayEnter=true) (k26:(c.lifted==P.liftsFinal)=true) (k27:(P.make==some c.make)=true) (k28:(c.kinds==(if c.domain.isEmpty then [] else fn.params.toList.map fun t=>match P.underlying t with | some (.int k)=>some k | _=>none))=true) (k29:(c.pinned==c.pinnedBy)=true) (k30:(c.veiled==(fn.params.toList++s.plain.varTypes P++fn.resultTypes.toList).any (P.veiledRec ·))=true) (k31:c.veiledFits P fn.params.toList (fn.params.toList++s.plain.varTypes P++fn.resultTypes.toList)=true):joinedFacts P f fn s c=true:=by
 simp only [joinedFacts,Bool.and_eq_true]
 and_intros <;> assumption
set_option maxRecDepth 100000
theorem F_laid:laidOutB Try.pinned.checked.prog=true:=Try.laidOut
theorem F_maps:mapsRowed Try.pinned.checked.prog=true:=by kernel_rfl
theorem F_heard:Try.pinned.checked.prog.stopsHeard=true:=by kernel_rfl
theorem F_enter:Try.pinned.checked.prog.mayEnter=true:=by kernel_rfl
end Go.Proofs.Ytoclolkigjbcgaa
