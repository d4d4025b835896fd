/- Contracts of the marks of rankings. -/
import Derived.Test.YtoclolkigjbcgaaGreatXN5
import Derived.Test.YtoclolkigjbcgaaGreatXT1
import Derived.Test.YtoclolkigjbcgaaGreatProg
namespace Go.Proofs.YtoclolkigjbcgaaGreat
open Go Go.RowKit Go.Proofs
set_option linter.all false
def a51:AFn:= ⟨14,[.t 4],(.seq (.reg [Zo 2 (.boxv (.t 0)),Zo 4 (.mv (.k (.int .i64 0)))]) (.seq (.reg [Zf 5 0 2,Zl 6 false 1 5,Zv 7 1,Zc 8 130 [.t 6,.t 7],Zv 1 8]) (.seq (.reg [Zf 9 1 2,Zl 10 false 1 9,Zv 11 1,Zc 12 88 [.t 10,.t 11],Zv 1 12]) (.seq (.reg [Zv 13 1,Zv 4 13]) .ret))))⟩
theorem a51_ok:J06 Tryz.prog Tryz.f51=some a51:=by kernel_rfl
set_option maxHeartbeats 1000000 in
theorem Jj8 (x:DRanking) (k:Int) (h0:0≤k∧k+J8v x≤4611686018427387904):J9d Tryz.prog 51 (.agg (J2n x)) k (.agg (J2n (Jki x k))) (k+J8v x):=by
 intro h n a I K hT hI hn hK
 obtain ⟨cs,rfl,hc0⟩:=Jxi.1 hT
 simp only [J8v] at h0
 obtain ⟨d0,len0,_,J0,_,rfl,rfl,hl0,ht0,hc1⟩:=J6p hc0
 have hq0:len0=(x.Levels).length:=by simpa using hl0
 subst hq0
 obtain ⟨d1,len1,_,J1,_,rfl,rfl,hl1,ht1,hc2⟩:=J6p hc1
 have hq1:len1=(x.Edges).length:=by simpa using hl1
 subst hq1
 obtain ⟨rfl,rfl⟩:=J2t.1 hc2
 refine J17 Tryz.func51 a51_ok rfl (by simp [a51]) ?_
 simp [a51]
 have S:=RS.box (sz:=2) (cells:=[.ref d0 0 (x.Levels).length,.ref d1 0 (x.Edges).length]) (Kids.cons (ht0) hI hn fun hI hn=>(Kids.cons (ht1) hI hn fun hI hn=>Kids.nil)) hn
 refine RS.mark (T1:=[]) (Jma x.Levels (k) (by omega)) S ?_
 clear S
 intro h2 n2 S
 have e:=S.e
 simp [e]
 refine RS.mark (T1:=[_]) (Jcw x.Edges (k+Jdn x.Levels) (by omega)) S ?_
 clear S
 intro h2 n2 S
 have e:=S.e
 simp [e]
 have hb:=S.unbox
 have ht:TR h2 (.agg (J2n (Jki x k))) _ _:=Js4.2 (J3t (S.live.ids (.us 1 ((Jmf x.Levels (k)).map J1u),.ref d0 0 (x.Levels).length,J0) (by simp)).1 (J3t (S.live.ids (.us 1 (J0m (Jew x.Edges (k+Jdn x.Levels))),.ref d1 0 (x.Edges).length,J1) (by simp)).1 (J2t.2 ⟨rfl,rfl⟩)))
 have hk:=hK _ _ hb.1 hb.2 ht
 simp only [J8v] at hk
 refine cast ?_ hk
 congr 2
 first|done|(simp;try omega)
def a80:AFn:= ⟨12,[.t 4],(.seq (.reg [Zo 4 (.mv (.k (.int .i64 0)))]) (.seq (.reg [Zv 5 1,Zv 6 0,Zo 7 (.len false (.t 6)),Zo 8 (.bin .sub (.t 5) (.t 7)),Zv 1 8]) (.seq (.seq (.reg [Zv 9 1,Zo 10 (.bin .lss (.t 9) (.k (.int .i64 0)))]) (.cond (.t 10) (.seq (.reg [Zo 4 (.mv (.k (.int .i64 (-1))))]) .ret) .skip)) (.seq (.reg [Zv 11 1,Zv 4 11]) .ret))))⟩
theorem a80_ok:J06 Tryz.prog Tryz.f80=some a80:=by kernel_rfl
def a83:AFn:= ⟨22,[.t 2],(.seq (.reg [Zo 2 (.mv (.k (.nil 1)))]) (.seq (.reg [Zv 5 0,Zo 6 (.len false (.t 5)),Zo 7 (.mks 8 [(.int .i64 0)] (.t 6) (.t 6)),Zv 3 7]) (.seq (.seq (.reg [Zo 4 (.mv (.k (.int .i64 0)))]) (.blk 0 (.loop (.seq (.seq (.reg [Zv 8 4,Zv 9 0,Zo 10 (.len false (.t 9)),Zo 11 (.bin .lss (.t 8) (.t 10))]) (.cond (.t 11) .skip (.exit 0))) (.seq (.blk 1 (.reg [Zv 14 3,Zv 15 4,Zv 16 0,Zv 17 4,Zo 18 (.ixa 1 (.t 16) (.t 17)),Zl 19 false 1 18,Zo 20 (.ixa 1 (.t 14) (.t 15)),⟨no,.st 1 (.t 20) (.t 19),no⟩])) (.reg [Zv 12 4,Zo 13 (.bin .add (.t 12) (.k (.int .i64 1))),Zv 4 13])))))) (.seq (.reg [Zv 21 3,Zv 2 21]) .ret))))⟩
theorem a83_ok:J06 Tryz.prog Tryz.f83=some a83:=by kernel_rfl
def a87:AFn:= ⟨26,[.t 4],(.seq (.reg [Zo 4 (.mv (.k (.bool false)))]) (.seq (.seq (.reg [Zv 6 0,Zo 7 (.len false (.t 6)),Zv 8 1,Zo 9 (.len false (.t 8)),Zo 10 (.bin .neq (.t 7) (.t 9))]) (.cond (.t 10) (.seq (.reg [Zo 4 (.mv (.k (.bool false)))]) .ret) .skip)) (.seq (.seq (.reg [Zo 5 (.mv (.k (.int .i64 0)))]) (.blk 0 (.loop (.seq (.seq (.reg [Zv 11 5,Zv 12 0,Zo 13 (.len false (.t 12)),Zo 14 (.bin .lss (.t 11) (.t 13))]) (.cond (.t 14) .skip (.exit 0))) (.seq (.blk 1 (.seq (.draw (.op (Zv 17 0) (.op (Zv 18 5) (.op (Zo 19 (.ixa 1 (.t 17) (.t 18))) (.op (Zl 20 false 1 19) (.op (Zv 21 1) (.op (Zv 22 5) (.op (Zo 23 (.ixa 1 (.t 21) (.t 22))) (.op (Zl 24 false 1 23) (.op (Zo 25 (.bin .neq (.t 20) (.t 24))) .fin)))))))))) (.cond (.t 25) (.seq (.reg [Zo 4 (.mv (.k (.bool false)))]) .ret) .skip))) (.reg [Zv 15 5,Zo 16 (.bin .add (.t 15) (.k (.int .i64 1))),Zv 5 16])))))) (.seq (.reg [Zo 4 (.mv (.k (.bool true)))]) .ret))))⟩
theorem a87_ok:J06 Tryz.prog Tryz.f87=some a87:=by kernel_rfl
def a211:AFn:= ⟨28,[.t 4],(.seq (.reg [Zo 4 (.mv (.k (.int .i64 0)))]) (.seq (.reg [Zv 6 1,Zv 7 0,Zo 8 (.len false (.t 7)),Zo 9 (.bin .sub (.t 6) (.t 8)),Zv 1 9]) (.seq (.seq (.reg [Zv 10 1,Zo 11 (.bin .lss (.t 10) (.k (.int .i64 0)))]) (.cond (.t 11) (.seq (.reg [Zo 4 (.mv (.k (.int .i64 (-1))))]) .ret) .skip)) (.seq (.seq (.reg [Zo 5 (.mv (.k (.int .i64 0)))]) (.blk 0 (.loop (.seq (.seq (.reg [Zv 12 5,Zv 13 0,Zo 14 (.len false (.t 13)),Zo 15 (.bin .lss (.t 12) (.t 14))]) (.cond (.t 15) .skip (.exit 0))) (.seq (.blk 1 (.seq (.reg [Zv 18 1,Zv 19 0,Zv 20 5,Zo 21 (.ixa 1 (.t 19) (.t 20)),Zl 22 false 1 21,Zo 23 (.len true (.t 22)),Zo 24 (.bin .sub (.t 18) (.t 23)),Zv 1 24]) (.seq (.reg [Zv 25 1,Zo 26 (.bin .lss (.t 25) (.k (.int .i64 0)))]) (.cond (.t 26) (.seq (.reg [Zo 4 (.mv (.k (.int .i64 (-1))))]) .ret) .skip)))) (.reg [Zv 16 5,Zo 17 (.bin .add (.t 16) (.k (.int .i64 1))),Zv 5 17])))))) (.seq (.reg [Zv 27 1,Zv 4 27]) .ret)))))⟩
theorem a211_ok:J06 Tryz.prog Tryz.f211=some a211:=by kernel_rfl
def a225:AFn:= ⟨22,[.t 2],(.seq (.reg [Zo 2 (.mv (.k (.nil 1)))]) (.seq (.reg [Zv 5 0,Zo 6 (.len false (.t 5)),Zo 7 (.mks 16 [(.str [])] (.t 6) (.t 6)),Zv 3 7]) (.seq (.seq (.reg [Zo 4 (.mv (.k (.int .i64 0)))]) (.blk 0 (.loop (.seq (.seq (.reg [Zv 8 4,Zv 9 0,Zo 10 (.len false (.t 9)),Zo 11 (.bin .lss (.t 8) (.t 10))]) (.cond (.t 11) .skip (.exit 0))) (.seq (.blk 1 (.reg [Zv 14 3,Zv 15 4,Zv 16 0,Zv 17 4,Zo 18 (.ixa 1 (.t 16) (.t 17)),Zl 19 false 1 18,Zo 20 (.ixa 1 (.t 14) (.t 15)),⟨no,.st 1 (.t 20) (.t 19),no⟩])) (.reg [Zv 12 4,Zo 13 (.bin .add (.t 12) (.k (.int .i64 1))),Zv 4 13])))))) (.seq (.reg [Zv 21 3,Zv 2 21]) .ret))))⟩
theorem a225_ok:J06 Tryz.prog Tryz.f225=some a225:=by kernel_rfl
def a73:AFn:= ⟨26,[.t 4],(.seq (.reg [Zo 4 (.mv (.k (.bool false)))]) (.seq (.seq (.reg [Zv 6 0,Zo 7 (.len false (.t 6)),Zv 8 1,Zo 9 (.len false (.t 8)),Zo 10 (.bin .neq (.t 7) (.t 9))]) (.cond (.t 10) (.seq (.reg [Zo 4 (.mv (.k (.bool false)))]) .ret) .skip)) (.seq (.seq (.reg [Zo 5 (.mv (.k (.int .i64 0)))]) (.blk 0 (.loop (.seq (.seq (.reg [Zv 11 5,Zv 12 0,Zo 13 (.len false (.t 12)),Zo 14 (.bin .lss (.t 11) (.t 13))]) (.cond (.t 14) .skip (.exit 0))) (.seq (.blk 1 (.seq (.draw (.op (Zv 17 0) (.op (Zv 18 5) (.op (Zo 19 (.ixa 1 (.t 17) (.t 18))) (.op (Zl 20 false 1 19) (.op (Zv 21 1) (.op (Zv 22 5) (.op (Zo 23 (.ixa 1 (.t 21) (.t 22))) (.op (Zl 24 false 1 23) (.op (Zo 25 (.bin .neq (.t 20) (.t 24))) .fin)))))))))) (.cond (.t 25) (.seq (.reg [Zo 4 (.mv (.k (.bool false)))]) .ret) .skip))) (.reg [Zv 15 5,Zo 16 (.bin .add (.t 15) (.k (.int .i64 1))),Zv 5 16])))))) (.seq (.reg [Zo 4 (.mv (.k (.bool true)))]) .ret))))⟩
theorem a73_ok:J06 Tryz.prog Tryz.f73=some a73:=by kernel_rfl
def a21:AFn:= ⟨12,[.t 4],(.seq (.reg [Zo 2 (.boxv (.t 0)),Zo 4 (.mv (.k (.int .i64 0)))]) (.seq (.reg [Zf 5 1 2,Zl 6 false 1 5,Zv 7 1,Zc 8 80 [.t 6,.t 7],Zv 1 8]) (.seq (.seq (.reg [Zv 9 1,Zo 10 (.bin .lss (.t 9) (.k (.int .i64 0)))]) (.cond (.t 10) (.seq (.reg [Zo 4 (.mv (.k (.int .i64 (-1))))]) .ret) .skip)) (.seq (.reg [Zv 11 1,Zv 4 11]) .ret))))⟩
theorem a21_ok:J06 Tryz.prog Tryz.f21=some a21:=by kernel_rfl
def a23:AFn:= ⟨12,[(.c 2 true 2)],(.seq (.reg [Zo 1 (.boxv (.t 0)),Zo 2 (.box [(.int .i64 0),(.nil 1)])]) (.seq (.reg [Zo 3 (.box [(.int .i64 0),(.nil 1)])]) (.seq (.reg [Zf 4 0 1,Zl 5 false 1 4,Zf 6 0 3,⟨no,.st 1 (.t 6) (.t 5),no⟩]) (.seq (.reg [Zf 7 1 1,Zl 8 false 1 7,Zc 9 83 [.t 8],Zf 10 1 3,⟨no,.st 1 (.t 10) (.t 9),no⟩]) (.seq (.reg [Zl 11 true 2 3,⟨no,.st 2 (.t 2) (.t 11),no⟩]) .ret)))))⟩
theorem a23_ok:J06 Tryz.prog Tryz.f23=some a23:=by kernel_rfl
def a25:AFn:= ⟨16,[.t 4],(.seq (.reg [Zo 2 (.boxv (.t 0)),Zo 3 (.boxv (.t 1)),Zo 4 (.mv (.k (.bool false)))]) (.seq (.seq (.reg [Zf 5 0 2,Zl 6 false 1 5,Zf 7 0 3,Zl 8 false 1 7,Zo 9 (.bin .neq (.t 6) (.t 8))]) (.cond (.t 9) (.seq (.reg [Zo 4 (.mv (.k (.bool false)))]) .ret) .skip)) (.seq (.seq (.reg [Zf 10 1 2,Zl 11 false 1 10,Zf 12 1 3,Zl 13 false 1 12,Zc 14 87 [.t 11,.t 13],Zo 15 (.un .not (.t 14))]) (.cond (.t 15) (.seq (.reg [Zo 4 (.mv (.k (.bool false)))]) .ret) .skip)) (.seq (.reg [Zo 4 (.mv (.k (.bool true)))]) .ret))))⟩
theorem a25_ok:J06 Tryz.prog Tryz.f25=some a25:=by kernel_rfl
def a194:AFn:= ⟨16,[.t 4],(.seq (.reg [Zo 2 (.boxv (.t 0)),Zo 3 (.boxv (.t 1)),Zo 4 (.mv (.k (.bool false)))]) (.seq (.seq (.reg [Zf 5 0 2,Zl 6 false 1 5,Zf 7 0 3,Zl 8 false 1 7,Zo 9 (.bin .neq (.t 6) (.t 8))]) (.cond (.t 9) (.seq (.reg [Zo 4 (.mv (.k (.bool false)))]) .ret) .skip)) (.seq (.seq (.reg [Zf 10 1 2,Zl 11 false 1 10,Zf 12 1 3,Zl 13 false 1 12,Zc 14 107 [.t 11,.t 13],Zo 15 (.un .not (.t 14))]) (.cond (.t 15) (.seq (.reg [Zo 4 (.mv (.k (.bool false)))]) .ret) .skip)) (.seq (.reg [Zo 4 (.mv (.k (.bool true)))]) .ret))))⟩
theorem a194_ok:J06 Tryz.prog Tryz.f194=some a194:=by kernel_rfl
def a106:AFn:= ⟨17,[.t 4],(.seq (.reg [Zo 2 (.boxv (.t 0)),Zo 3 (.boxv (.t 1)),Zo 4 (.mv (.k (.bool false)))]) (.seq (.seq (.reg [Zf 5 0 2,Zl 6 true 2 5,Zf 7 0 3,Zl 8 true 2 7,Zc 9 194 [.t 6,.t 8],Zo 10 (.un .not (.t 9))]) (.cond (.t 10) (.seq (.reg [Zo 4 (.mv (.k (.bool false)))]) .ret) .skip)) (.seq (.seq (.reg [Zf 11 2 2,Zl 12 true 2 11,Zf 13 2 3,Zl 14 true 2 13,Zc 15 25 [.t 12,.t 14],Zo 16 (.un .not (.t 15))]) (.cond (.t 16) (.seq (.reg [Zo 4 (.mv (.k (.bool false)))]) .ret) .skip)) (.seq (.reg [Zo 4 (.mv (.k (.bool true)))]) .ret))))⟩
theorem a106_ok:J06 Tryz.prog Tryz.f106=some a106:=by kernel_rfl
theorem Jn7 (l:List Int) (left:Int) (h0:0≤left∧left≤4611686018427387904):Holds Tryz.prog 80 [.sl 1 (J0m l),i64 left] (fun r=>r=i64 (J3i left (Jgq l))):=by
 refine J03 Tryz.func80 a80_ok rfl (by simp [a80]) ?_
 simp [a80]
 unfold LIM
 intro h1
 rw [J0r (by omega)]
 unfold J3i Jgq
 exact ⟨fun h=>by rw [if_pos h],fun h=>by rw [if_neg (by omega)]⟩
theorem Jnb (a:List Int) (hw:Jgq a≤1048576):Holds Tryz.prog 83 [.sl 1 (J0m a)] (fun r=>r = .us 1 (J0m a)):=by
 unfold Jgq at hw
 refine J03 Tryz.func83 a83_ok rfl (by simp [a83]) ?_
 simp [a83]
 intro h1
 refine ⟨by unfold LIM;omega,Jd6 (fun k s h n=>∃ (i:Nat) (rows:List (List AV)),k=a.length - i∧i≤a.length∧s 0=K5k a∧s 3 = .ref 0 0 a.length∧s 4=i64 i∧h=upd J8b 0 (some ⟨false,1,rows⟩)∧n=1 ∧
  rows.length=a.length∧(∀ j,j<i→rows[j]? = (J0m a)[j]?)∧(∀ j (hj:j<rows.length),rows[j].length=1)) a.length ⟨0,List.replicate a.length [i64 0],by simp⟩ ?_⟩
 rintro k s h n ⟨i,rows,rfl,hi,s0,s3,s4,rfl,rfl,hr,hj,hc⟩
 by_cases hlt:i<a.length
 ·have hm:=hc i (by omega)
  have htl:rows[i].tail=[]:=List.eq_nil_of_length_eq_zero (by simp [hm])
  simp [s0,s3,s4,hlt,hr,hm]
  intro _
  refine ⟨a.length - (i+1),by omega,i+1,rfl,by omega,by rw [J0r (by omega)];rfl,rows.set i [i64 a[i]],by simp [htl],by simp [hr],fun j hj' => ?_,fun j hj' => ?_⟩
  ·rw [List.getElem?_set]
   by_cases hji:i=j
   ·subst hji;simp [hr,hlt]
   ·rw [if_neg hji];simpa using hj j (by omega)
  ·rw [List.getElem_set]
   split
   ·rfl
   ·exact hc j (by simpa using hj')
 ·simp [s0,s3,s4,hlt,hr]
  intro _
  have:rows=J0m a:=List.ext_getElem? fun j=>by
   by_cases hji:j<i
   ·exact hj j hji
   ·rw [List.getElem?_eq_none (by omega),List.getElem?_eq_none (by simp;omega)]
  subst this
  simp [List.take_of_length_le]
theorem Jo6 (a b:List Int):Holds Tryz.prog 87 [.sl 1 (J0m a),.sl 1 (J0m b)] (fun r=>r = .bool (decide (a=b))):=by
 refine J03 Tryz.func87 a87_ok rfl (by simp [a87]) ?_
 simp [a87]
 intro h1 h2
 refine ⟨fun h e=>h (by rw [e]),fun hl=>Jd6 (fun k s h n=>∃ i:Nat,k=a.length - i∧i≤a.length∧s 0=K5k a∧s 1=K5k b∧s 5=i64 i∧(∀ j,j<i→a[j]? = b[j]?)∧h=J8b∧n=0) a.length ⟨0,by simp⟩ ?_⟩
 rintro k s h n ⟨i,rfl,hi,s0,s1,s5,hj,rfl,rfl⟩
 have hl:a.length=b.length:=by omega
 by_cases hlt:i<a.length
 ·have hlt':i<b.length:=by omega
  unfold LIM at h1
  simp [s0,s1,s5,hlt,hlt']
  intro _
  refine ⟨fun h e=>h (by subst e;rfl),fun e=>⟨a.length - (i+1),by omega,i+1,rfl,by omega,by rw [J0r (by omega)];rfl,fun j hj' => ?_⟩⟩
  by_cases hji:j=i
  ·subst hji;simp [hlt,hlt',e]
  ·exact hj j (by omega)
 ·simp [s0,s1,s5,hlt]
  intro _
  refine List.ext_getElem? fun j => ?_
  by_cases hji:j<i
  ·exact hj j hji
  ·rw [List.getElem?_eq_none (by omega),List.getElem?_eq_none (by omega)]
theorem Jlj (l:List Str) (left:Int) (h0:0≤left∧left≤4611686018427387904):Holds Tryz.prog 211 [.sl 1 (J0a l),i64 left] (fun r=>r=i64 (J3i left (J44 l))):=by
 rw [show J44 l=wL List.length l from rfl,←J6f (w:=List.length) (g:=fun x lf=>J3i lf x.length) (fun _ _ _=>rfl) l left h0.1]
 refine J03 Tryz.func211 a211_ok rfl (by simp [a211]) ?_
 simp [a211]
 intro h1
 unfold LIM at h1
 unfold szL
 rw [J0r (by omega)]
 refine ⟨fun h=>by rw [if_pos (by omega)],fun h=>Jd6 (fun k s h n=>∃ (i:Nat) (lf:Int),k=l.length - i∧i≤l.length∧s 0=strs l∧s 1=i64 lf∧s 5=i64 i∧0≤lf∧lf≤left∧J8a (fun (x:Str) lf=>J3i lf x.length) (l.drop i) lf=J8a (fun (x:Str) lf=>J3i lf x.length) l (left - l.length)∧h=J8b∧n=0) l.length ⟨0,left - l.length,by simp;omega⟩ ?_⟩
 rintro k s h n ⟨i,lf,rfl,hi,s0,s1,s5,hf,hlf,hj,rfl,rfl⟩
 rw [if_neg (by omega),←hj]
 by_cases hlt:i<l.length
 ·rw [List.drop_eq_getElem_cons hlt] at hj ⊢
  simp only [J8a] at hj ⊢
  simp [s0,s1,s5,hlt]
  intro _ h2
  unfold LIM at h2
  rw [J0r (by omega)]
  by_cases hx:lf - (l[i].length:Int)<0
  ·rw [Jed hx]
   simp;exact fun h=>by omega
  ·rw [Joq hx] at hj ⊢
   rw [if_neg hx] at hj ⊢
   refine ⟨fun h=>by omega,fun _=>⟨l.length - (i+1),by omega,i+1,rfl,by omega,by rw [J0r (by omega)];rfl,by omega,by omega,rfl⟩⟩
 ·rw [List.drop_eq_nil_of_le (by omega)] at hj ⊢
  simp [s0,s1,s5,hlt,J8a]
theorem Jmx (a:List Str) (hw:J44 a≤1048576):Holds Tryz.prog 225 [.sl 1 (J0a a)] (fun r=>r = .us 1 (J0a a)):=by
 have hw:=Nat.le_trans (J2b _ _) hw
 refine J03 Tryz.func225 a225_ok rfl (by simp [a225]) ?_
 simp [a225]
 intro h1
 refine ⟨by unfold LIM;omega,Jd6 (fun k s h n=>∃ (i:Nat) (rows:List (List AV)),k=a.length - i∧i≤a.length∧s 0=strs a∧s 3 = .ref 0 0 a.length∧s 4=i64 i∧h=upd J8b 0 (some ⟨false,1,rows⟩)∧n=1 ∧
  rows.length=a.length∧(∀ j,j<i→rows[j]? = (J0a a)[j]?)∧(∀ j (hj:j<rows.length),rows[j].length=1)) a.length ⟨0,List.replicate a.length [.str []],by simp⟩ ?_⟩
 rintro k s h n ⟨i,rows,rfl,hi,s0,s3,s4,rfl,rfl,hr,hj,hc⟩
 by_cases hlt:i<a.length
 ·have hm:=hc i (by omega)
  have htl:rows[i].tail=[]:=List.eq_nil_of_length_eq_zero (by simp [hm])
  simp [s0,s3,s4,hlt,hr,hm]
  intro _
  refine ⟨a.length - (i+1),by omega,i+1,rfl,by omega,by rw [J0r (by omega)];rfl,rows.set i [.str a[i]],by simp [htl],by simp [hr],fun j hj' => ?_,fun j hj' => ?_⟩
  ·rw [List.getElem?_set]
   by_cases hji:i=j
   ·subst hji;simp [hr,hlt]
   ·rw [if_neg hji];simpa using hj j (by omega)
  ·rw [List.getElem_set]
   split
   ·rfl
   ·exact hc j (by simpa using hj')
 ·simp [s0,s3,s4,hlt,hr]
  intro _
  have:rows=J0a a:=List.ext_getElem? fun j=>by
   by_cases hji:j<i
   ·exact hj j hji
   ·rw [List.getElem?_eq_none (by omega),List.getElem?_eq_none (by simp;omega)]
  subst this
  simp [List.take_of_length_le]
theorem Jlk (a b:List Str):Holds Tryz.prog 73 [.sl 1 (J0a a),.sl 1 (J0a b)] (fun r=>r = .bool (decide (a=b))):=by
 refine J03 Tryz.func73 a73_ok rfl (by simp [a73]) ?_
 simp [a73]
 intro h1 h2
 refine ⟨fun h e=>h (by rw [e]),fun hl=>Jd6 (fun k s h n=>∃ i:Nat,k=a.length - i∧i≤a.length∧s 0=strs a∧s 1=strs b∧s 5=i64 i∧(∀ j,j<i→a[j]? = b[j]?)∧h=J8b∧n=0) a.length ⟨0,by simp⟩ ?_⟩
 rintro k s h n ⟨i,rfl,hi,s0,s1,s5,hj,rfl,rfl⟩
 have hl:a.length=b.length:=by omega
 by_cases hlt:i<a.length
 ·have hlt':i<b.length:=by omega
  unfold LIM at h1
  simp [s0,s1,s5,hlt,hlt']
  intro _
  refine ⟨fun h e=>h (by subst e;rfl),fun e=>⟨a.length - (i+1),by omega,i+1,rfl,by omega,by rw [J0r (by omega)];rfl,fun j hj' => ?_⟩⟩
  by_cases hji:j=i
  ·subst hji;simp [hlt,hlt',e]
  ·exact hj j (by omega)
 ·simp [s0,s1,s5,hlt]
  intro _
  refine List.ext_getElem? fun j => ?_
  by_cases hji:j<i
  ·exact hj j hji
  ·rw [List.getElem?_eq_none (by omega),List.getElem?_eq_none (by omega)]
theorem K0h (x:DLin) (left:Int) (h0:0≤left∧left≤4611686018427387904):Holds Tryz.prog 21 [.agg (J05 x),i64 left] (fun r=>r=i64 (J3i left (Jab x))):=by
 refine J03 Tryz.func21 a21_ok rfl (by simp [a21]) ?_
 simp [a21,J05]
 have e0:Jab x=Jab x:=rfl
 conv at e0=>rhs;unfold Jab
 refine J02 (Jn7 x.Coeffs left (by omega)) (by simp) ?_
 rintro r rfl
 by_cases h1:left - (Jgq x.Coeffs:Nat)<0
 case pos=>
  have q:left - (Jab x:Int)<0:=by omega
  simp [J3i,h1,q]
  try first|omega|(constructor <;> intros <;> omega)
 simp [J3i,h1]
 try (rw [if_neg (by omega)];omega)
theorem Jy2 (x:DLin) (_hw:Jab x≤1048576):Holds Tryz.prog 23 [.agg (J05 x)] (fun r=>r = .agg (J08 x)):=by
 have hw:=_hw;unfold Jab at hw
 refine J03 Tryz.func23 a23_ok rfl (by simp [a23]) ?_
 simp [a23,J05]
 refine J02 (Jnb x.Coeffs (by omega)) (by simp []) ?_
 rintro r rfl
 simp []
 try simp [J08]
theorem Jst (x y:DLin):Holds Tryz.prog 25 [.agg (J05 x),.agg (J05 y)] (fun r=>r = .bool (decide (x=y))):=by
 refine J03 Tryz.func25 a25_ok rfl (by simp [a25]) ?_
 simp [a25,J05]
 by_cases h0:x.Const=y.Const
 case neg=>simp [h0];try exact fun e=>h0 (by rw [e])
 simp [h0]
 refine J02 (Jo6 x.Coeffs y.Coeffs) (by simp []) ?_
 rintro r rfl
 by_cases h1:x.Coeffs=y.Coeffs
 case neg=>simp [h1];try exact fun e=>h1 (by rw [e])
 simp [h1]
 cases x;cases y;simp_all
theorem a95_ok:J06 Tryz.prog Tryz.f95=some (tSz true 2 21):=by kernel_rfl
theorem Jn5 (l:List DLin) (left:Int) (h0:0≤left∧left≤4611686018427387904):Holds Tryz.prog 95 [.sl 2 (l.map J05),i64 left] (fun r=>r=i64 (J3i left (J5h l))):=by
 rw [show J5h l=wL Jab l from rfl,←J6f (w:=Jab) (g:=fun x lf=>J3i lf (Jab x)) (fun _ _ _=>rfl) l left h0.1]
 exact J5z Tryz.func95 a95_ok rfl (rowOf:=J05) (eltOf:=(fun x => .agg (J05 x))) (fun x=>by simp [J05]) (fun x h=>by simp [J05]) (fun x lf h=>J8x h) l left h0 (fun x lf _ hl=>K0h x lf hl)
theorem a101_ok:J06 Tryz.prog Tryz.f101=some (tTo true 2 32 23 [.int .i64 0,.nil 1]):=by kernel_rfl
theorem Jnt (l:List DLin) (hw:J5h l≤1048576):Holds Tryz.prog 101 [.sl 2 (l.map J05)] (fun r=>r = .us 2 (l.map J08)):=
 J5w Tryz.func101 a101_ok rfl (rowOf:=J05) (eltOf:=(fun x => .agg (J05 x))) (eltU:=(fun x => .agg (J08 x))) (fun x=>by simp [J05]) (fun x h=>by simp [J05]) (fun x=>by simp) (fun x=>by simp [J08]) (fun x=>by simp [J08]) rfl l (by have:=J2b Jab l;unfold J5h at hw;unfold LIM;omega) (fun x h=>Jy2 x (by have:=J4b (w:=Jab) h;unfold J5h at hw;omega))
theorem a107_ok:J06 Tryz.prog Tryz.f107=some (tEq true 2 25):=by kernel_rfl
theorem Jj6 (l m:List DLin):Holds Tryz.prog 107 [.sl 2 (l.map J05),.sl 2 (m.map J05)] (fun r=>r = .bool (decide (l=m))):=by
 rw [←J7d]
 exact J5a Tryz.func107 a107_ok rfl (rowOf:=J05) (eltOf:=(fun x => .agg (J05 x))) (fun x=>by simp [J05]) (fun x h=>by simp [J05]) l m (fun x y _ _=>Jst x y)
theorem a117_ok:J06 Tryz.prog Tryz.f117=some (tSz false 1 95):=by kernel_rfl
theorem Jq0 (l:List (List DLin)) (left:Int) (h0:0≤left∧left≤4611686018427387904):Holds Tryz.prog 117 [.sl 1 (l.map J2x),i64 left] (fun r=>r=i64 (J3i left (Jas l))):=by
 rw [show Jas l=wL J5h l from rfl,←J6f (w:=J5h) (g:=fun x lf=>J3i lf (J5h x)) (fun _ _ _=>rfl) l left h0.1]
 exact J5z Tryz.func117 a117_ok rfl (rowOf:=J2x) (eltOf:=(fun x => .sl 2 (x.map J05))) (fun x=>by simp [J2x]) (fun x h=>by simp [J2x]) (fun x lf h=>J8x h) l left h0 (fun x lf _ hl=>Jn5 x lf hl)
theorem a119_ok:J06 Tryz.prog Tryz.f119=some (tTo false 1 24 101 [.nil 2]):=by kernel_rfl
theorem Jpx (l:List (List DLin)) (hw:Jas l≤1048576):Holds Tryz.prog 119 [.sl 1 (l.map J2x)] (fun r=>r = .us 1 (l.map J1u)):=
 J5w Tryz.func119 a119_ok rfl (rowOf:=J2x) (eltOf:=(fun x => .sl 2 (x.map J05))) (eltU:=(fun x => .us 2 (x.map J08))) (fun x=>by simp [J2x]) (fun x h=>by simp [J2x]) (fun x=>by simp) (fun x=>by simp [J1u]) (fun x=>by simp [J1u]) rfl l (by have:=J2b J5h l;unfold Jas at hw;unfold LIM;omega) (fun x h=>Jnt x (by have:=J4b (w:=J5h) h;unfold Jas at hw;omega))
theorem a120_ok:J06 Tryz.prog Tryz.f120=some (tEq false 1 107):=by kernel_rfl
theorem Jq5 (l m:List (List DLin)):Holds Tryz.prog 120 [.sl 1 (l.map J2x),.sl 1 (m.map J2x)] (fun r=>r = .bool (decide (l=m))):=by
 rw [←J7d]
 exact J5a Tryz.func120 a120_ok rfl (rowOf:=J2x) (eltOf:=(fun x => .sl 2 (x.map J05))) (fun x=>by simp [J2x]) (fun x h=>by simp [J2x]) l m (fun x y _ _=>Jj6 x y)
theorem Jpb (x y:DSystem):Holds Tryz.prog 194 [.agg (J26 x),.agg (J26 y)] (fun r=>r = .bool (decide (x=y))):=by
 refine J03 Tryz.func194 a194_ok rfl (by simp [a194]) ?_
 simp [a194,J26]
 by_cases h0:x.N=y.N
 case neg=>simp [h0];try exact fun e=>h0 (by rw [e])
 simp [h0]
 refine J02 (Jj6 x.Rows y.Rows) (by simp []) ?_
 rintro r rfl
 by_cases h1:x.Rows=y.Rows
 case neg=>simp [h1];try exact fun e=>h1 (by rw [e])
 simp [h1]
 cases x;cases y;simp_all
theorem Jgu (x y:DObligation):Holds Tryz.prog 106 [.agg (J0p x),.agg (J0p y)] (fun r=>r = .bool (decide (x=y))):=by
 refine J03 Tryz.func106 a106_ok rfl (by simp [a106]) ?_
 simp [a106,J0p]
 refine J02 (Jpb x.System y.System) (by simp [J26]) ?_
 rintro r rfl
 by_cases h0:x.System=y.System
 case neg=>simp [h0];try exact fun e=>h0 (by rw [e])
 simp [h0]
 refine J02 (Jst x.Target y.Target) (by simp [J05]) ?_
 rintro r rfl
 by_cases h1:x.Target=y.Target
 case neg=>simp [h1];try exact fun e=>h1 (by rw [e])
 simp [h1]
 cases x;cases y;simp_all
theorem a34_ok:J06 Tryz.prog Tryz.f34=some (tEq true 4 106):=by kernel_rfl
theorem J47 (l m:List DObligation):Holds Tryz.prog 34 [.sl 4 (l.map J0p),.sl 4 (m.map J0p)] (fun r=>r = .bool (decide (l=m))):=by
 rw [←J7d]
 exact J5a Tryz.func34 a34_ok rfl (rowOf:=J0p) (eltOf:=(fun x => .agg (J0p x))) (fun x=>by simp [J0p]) (fun x h=>by simp [J0p]) l m (fun x y _ _=>Jgu x y)
def a332:AFn:= ⟨13,[.t 4],(.seq (.reg [Zo 2 (.boxv (.t 0)),Zo 4 (.mv (.k (.int .i64 0)))]) (.seq (.reg [Zv 5 1,Zf 6 1 2,Zl 7 false 1 6,Zo 8 (.len true (.t 7)),Zo 9 (.bin .sub (.t 5) (.t 8)),Zv 1 9]) (.seq (.seq (.reg [Zv 10 1,Zo 11 (.bin .lss (.t 10) (.k (.int .i64 0)))]) (.cond (.t 11) (.seq (.reg [Zo 4 (.mv (.k (.int .i64 (-1))))]) .ret) .skip)) (.seq (.reg [Zv 12 1,Zv 4 12]) .ret))))⟩
theorem a332_ok:J06 Tryz.prog Tryz.f332=some a332:=by kernel_rfl
def a334:AFn:= ⟨11,[(.c 2 true 2)],(.seq (.reg [Zo 1 (.boxv (.t 0)),Zo 2 (.box [(.int .i64 0),(.str [])])]) (.seq (.reg [Zo 3 (.box [(.int .i64 0),(.str [])])]) (.seq (.reg [Zf 4 0 1,Zl 5 false 1 4,Zf 6 0 3,⟨no,.st 1 (.t 6) (.t 5),no⟩]) (.seq (.reg [Zf 7 1 1,Zl 8 false 1 7,Zf 9 1 3,⟨no,.st 1 (.t 9) (.t 8),no⟩]) (.seq (.reg [Zl 10 true 2 3,⟨no,.st 2 (.t 2) (.t 10),no⟩]) .ret)))))⟩
theorem a334_ok:J06 Tryz.prog Tryz.f334=some a334:=by kernel_rfl
def a337:AFn:= ⟨15,[.t 4],(.seq (.reg [Zo 2 (.boxv (.t 0)),Zo 3 (.boxv (.t 1)),Zo 4 (.mv (.k (.bool false)))]) (.seq (.seq (.reg [Zf 5 0 2,Zl 6 false 1 5,Zf 7 0 3,Zl 8 false 1 7,Zo 9 (.bin .neq (.t 6) (.t 8))]) (.cond (.t 9) (.seq (.reg [Zo 4 (.mv (.k (.bool false)))]) .ret) .skip)) (.seq (.seq (.reg [Zf 10 1 2,Zl 11 false 1 10,Zf 12 1 3,Zl 13 false 1 12,Zo 14 (.bin .neq (.t 11) (.t 13))]) (.cond (.t 14) (.seq (.reg [Zo 4 (.mv (.k (.bool false)))]) .ret) .skip)) (.seq (.reg [Zo 4 (.mv (.k (.bool true)))]) .ret))))⟩
theorem a337_ok:J06 Tryz.prog Tryz.f337=some a337:=by kernel_rfl
def a283:AFn:= ⟨12,[.t 4],(.seq (.reg [Zo 2 (.boxv (.t 0)),Zo 4 (.mv (.k (.int .i64 0)))]) (.seq (.reg [Zf 5 1 2,Zl 6 false 1 5,Zv 7 1,Zc 8 314 [.t 6,.t 7],Zv 1 8]) (.seq (.seq (.reg [Zv 9 1,Zo 10 (.bin .lss (.t 9) (.k (.int .i64 0)))]) (.cond (.t 10) (.seq (.reg [Zo 4 (.mv (.k (.int .i64 (-1))))]) .ret) .skip)) (.seq (.reg [Zv 11 1,Zv 4 11]) .ret))))⟩
theorem a283_ok:J06 Tryz.prog Tryz.f283=some a283:=by kernel_rfl
def a290:AFn:= ⟨12,[(.c 2 true 2)],(.seq (.reg [Zo 1 (.boxv (.t 0)),Zo 2 (.box [(.int .i64 0),(.nil 2)])]) (.seq (.reg [Zo 3 (.box [(.int .i64 0),(.nil 2)])]) (.seq (.reg [Zf 4 0 1,Zl 5 false 1 4,Zf 6 0 3,⟨no,.st 1 (.t 6) (.t 5),no⟩]) (.seq (.reg [Zf 7 1 1,Zl 8 false 1 7,Zc 9 320 [.t 8],Zf 10 1 3,⟨no,.st 1 (.t 10) (.t 9),no⟩]) (.seq (.reg [Zl 11 true 2 3,⟨no,.st 2 (.t 2) (.t 11),no⟩]) .ret)))))⟩
theorem a290_ok:J06 Tryz.prog Tryz.f290=some a290:=by kernel_rfl
def a301:AFn:= ⟨16,[.t 4],(.seq (.reg [Zo 2 (.boxv (.t 0)),Zo 3 (.boxv (.t 1)),Zo 4 (.mv (.k (.bool false)))]) (.seq (.seq (.reg [Zf 5 0 2,Zl 6 false 1 5,Zf 7 0 3,Zl 8 false 1 7,Zo 9 (.bin .neq (.t 6) (.t 8))]) (.cond (.t 9) (.seq (.reg [Zo 4 (.mv (.k (.bool false)))]) .ret) .skip)) (.seq (.seq (.reg [Zf 10 1 2,Zl 11 false 1 10,Zf 12 1 3,Zl 13 false 1 12,Zc 14 326 [.t 11,.t 13],Zo 15 (.un .not (.t 14))]) (.cond (.t 15) (.seq (.reg [Zo 4 (.mv (.k (.bool false)))]) .ret) .skip)) (.seq (.reg [Zo 4 (.mv (.k (.bool true)))]) .ret))))⟩
theorem a301_ok:J06 Tryz.prog Tryz.f301=some a301:=by kernel_rfl
def a215:AFn:= ⟨19,[.t 4],(.seq (.reg [Zo 2 (.boxv (.t 0)),Zo 4 (.mv (.k (.int .i64 0)))]) (.seq (.reg [Zf 5 1 2,Zl 6 false 1 5,Zv 7 1,Zc 8 213 [.t 6,.t 7],Zv 1 8]) (.seq (.seq (.reg [Zv 9 1,Zo 10 (.bin .lss (.t 9) (.k (.int .i64 0)))]) (.cond (.t 10) (.seq (.reg [Zo 4 (.mv (.k (.int .i64 (-1))))]) .ret) .skip)) (.seq (.reg [Zv 11 1,Zf 12 2 2,Zl 13 false 1 12,Zo 14 (.len true (.t 13)),Zo 15 (.bin .sub (.t 11) (.t 14)),Zv 1 15]) (.seq (.seq (.reg [Zv 16 1,Zo 17 (.bin .lss (.t 16) (.k (.int .i64 0)))]) (.cond (.t 17) (.seq (.reg [Zo 4 (.mv (.k (.int .i64 (-1))))]) .ret) .skip)) (.seq (.reg [Zv 18 1,Zv 4 18]) .ret))))))⟩
theorem a215_ok:J06 Tryz.prog Tryz.f215=some a215:=by kernel_rfl
def a229:AFn:= ⟨15,[(.c 2 true 3)],(.seq (.reg [Zo 1 (.boxv (.t 0)),Zo 2 (.box [(.bool false),(.nil 2),(.str [])])]) (.seq (.reg [Zo 3 (.box [(.bool false),(.nil 2),(.str [])])]) (.seq (.reg [Zf 4 0 1,Zl 5 false 1 4,Zf 6 0 3,⟨no,.st 1 (.t 6) (.t 5),no⟩]) (.seq (.reg [Zf 7 1 1,Zl 8 false 1 7,Zc 9 227 [.t 8],Zf 10 1 3,⟨no,.st 1 (.t 10) (.t 9),no⟩]) (.seq (.reg [Zf 11 2 1,Zl 12 false 1 11,Zf 13 2 3,⟨no,.st 1 (.t 13) (.t 12),no⟩]) (.seq (.reg [Zl 14 true 3 3,⟨no,.st 3 (.t 2) (.t 14),no⟩]) .ret))))))⟩
theorem a229_ok:J06 Tryz.prog Tryz.f229=some a229:=by kernel_rfl
def a247:AFn:= ⟨21,[.t 4],(.seq (.reg [Zo 2 (.boxv (.t 0)),Zo 3 (.boxv (.t 1)),Zo 4 (.mv (.k (.bool false)))]) (.seq (.seq (.reg [Zf 5 0 2,Zl 6 false 1 5,Zf 7 0 3,Zl 8 false 1 7,Zo 9 (.beq true (.t 6) (.t 8))]) (.cond (.t 9) (.seq (.reg [Zo 4 (.mv (.k (.bool false)))]) .ret) .skip)) (.seq (.seq (.reg [Zf 10 1 2,Zl 11 false 1 10,Zf 12 1 3,Zl 13 false 1 12,Zc 14 245 [.t 11,.t 13],Zo 15 (.un .not (.t 14))]) (.cond (.t 15) (.seq (.reg [Zo 4 (.mv (.k (.bool false)))]) .ret) .skip)) (.seq (.seq (.reg [Zf 16 2 2,Zl 17 false 1 16,Zf 18 2 3,Zl 19 false 1 18,Zo 20 (.bin .neq (.t 17) (.t 19))]) (.cond (.t 20) (.seq (.reg [Zo 4 (.mv (.k (.bool false)))]) .ret) .skip)) (.seq (.reg [Zo 4 (.mv (.k (.bool true)))]) .ret)))))⟩
theorem a247_ok:J06 Tryz.prog Tryz.f247=some a247:=by kernel_rfl
def a282:AFn:= ⟨27,[.t 4],(.seq (.reg [Zo 2 (.boxv (.t 0)),Zo 4 (.mv (.k (.int .i64 0)))]) (.seq (.reg [Zv 5 1,Zf 6 0 2,Zl 7 false 1 6,Zo 8 (.len true (.t 7)),Zo 9 (.bin .sub (.t 5) (.t 8)),Zv 1 9]) (.seq (.seq (.reg [Zv 10 1,Zo 11 (.bin .lss (.t 10) (.k (.int .i64 0)))]) (.cond (.t 11) (.seq (.reg [Zo 4 (.mv (.k (.int .i64 (-1))))]) .ret) .skip)) (.seq (.reg [Zv 12 1,Zf 13 2 2,Zl 14 false 1 13,Zo 15 (.len true (.t 14)),Zo 16 (.bin .sub (.t 12) (.t 15)),Zv 1 16]) (.seq (.seq (.reg [Zv 17 1,Zo 18 (.bin .lss (.t 17) (.k (.int .i64 0)))]) (.cond (.t 18) (.seq (.reg [Zo 4 (.mv (.k (.int .i64 (-1))))]) .ret) .skip)) (.seq (.reg [Zv 19 1,Zf 20 3 2,Zl 21 false 1 20,Zo 22 (.len true (.t 21)),Zo 23 (.bin .sub (.t 19) (.t 22)),Zv 1 23]) (.seq (.seq (.reg [Zv 24 1,Zo 25 (.bin .lss (.t 24) (.k (.int .i64 0)))]) (.cond (.t 25) (.seq (.reg [Zo 4 (.mv (.k (.int .i64 (-1))))]) .ret) .skip)) (.seq (.reg [Zv 26 1,Zv 4 26]) .ret))))))))⟩
theorem a282_ok:J06 Tryz.prog Tryz.f282=some a282:=by kernel_rfl
def a289:AFn:= ⟨17,[(.c 2 true 4)],(.seq (.reg [Zo 1 (.boxv (.t 0)),Zo 2 (.box [(.str []),(.bool false),(.str []),(.str [])])]) (.seq (.reg [Zo 3 (.box [(.str []),(.bool false),(.str []),(.str [])])]) (.seq (.reg [Zf 4 0 1,Zl 5 false 1 4,Zf 6 0 3,⟨no,.st 1 (.t 6) (.t 5),no⟩]) (.seq (.reg [Zf 7 1 1,Zl 8 false 1 7,Zf 9 1 3,⟨no,.st 1 (.t 9) (.t 8),no⟩]) (.seq (.reg [Zf 10 2 1,Zl 11 false 1 10,Zf 12 2 3,⟨no,.st 1 (.t 12) (.t 11),no⟩]) (.seq (.reg [Zf 13 3 1,Zl 14 false 1 13,Zf 15 3 3,⟨no,.st 1 (.t 15) (.t 14),no⟩]) (.seq (.reg [Zl 16 true 4 3,⟨no,.st 4 (.t 2) (.t 16),no⟩]) .ret)))))))⟩
theorem a289_ok:J06 Tryz.prog Tryz.f289=some a289:=by kernel_rfl
def a300:AFn:= ⟨25,[.t 4],(.seq (.reg [Zo 2 (.boxv (.t 0)),Zo 3 (.boxv (.t 1)),Zo 4 (.mv (.k (.bool false)))]) (.seq (.seq (.reg [Zf 5 0 2,Zl 6 false 1 5,Zf 7 0 3,Zl 8 false 1 7,Zo 9 (.bin .neq (.t 6) (.t 8))]) (.cond (.t 9) (.seq (.reg [Zo 4 (.mv (.k (.bool false)))]) .ret) .skip)) (.seq (.seq (.reg [Zf 10 1 2,Zl 11 false 1 10,Zf 12 1 3,Zl 13 false 1 12,Zo 14 (.beq true (.t 11) (.t 13))]) (.cond (.t 14) (.seq (.reg [Zo 4 (.mv (.k (.bool false)))]) .ret) .skip)) (.seq (.seq (.reg [Zf 15 2 2,Zl 16 false 1 15,Zf 17 2 3,Zl 18 false 1 17,Zo 19 (.bin .neq (.t 16) (.t 18))]) (.cond (.t 19) (.seq (.reg [Zo 4 (.mv (.k (.bool false)))]) .ret) .skip)) (.seq (.seq (.reg [Zf 20 3 2,Zl 21 false 1 20,Zf 22 3 3,Zl 23 false 1 22,Zo 24 (.bin .neq (.t 21) (.t 23))]) (.cond (.t 24) (.seq (.reg [Zo 4 (.mv (.k (.bool false)))]) .ret) .skip)) (.seq (.reg [Zo 4 (.mv (.k (.bool true)))]) .ret))))))⟩
theorem a300_ok:J06 Tryz.prog Tryz.f300=some a300:=by kernel_rfl
def a284:AFn:= ⟨26,[.t 4],(.seq (.reg [Zo 2 (.boxv (.t 0)),Zo 4 (.mv (.k (.int .i64 0)))]) (.seq (.reg [Zv 5 1,Zf 6 0 2,Zl 7 false 1 6,Zo 8 (.len true (.t 7)),Zo 9 (.bin .sub (.t 5) (.t 8)),Zv 1 9]) (.seq (.seq (.reg [Zv 10 1,Zo 11 (.bin .lss (.t 10) (.k (.int .i64 0)))]) (.cond (.t 11) (.seq (.reg [Zo 4 (.mv (.k (.int .i64 (-1))))]) .ret) .skip)) (.seq (.reg [Zv 12 1,Zf 13 1 2,Zl 14 false 1 13,Zo 15 (.len true (.t 14)),Zo 16 (.bin .sub (.t 12) (.t 15)),Zv 1 16]) (.seq (.seq (.reg [Zv 17 1,Zo 18 (.bin .lss (.t 17) (.k (.int .i64 0)))]) (.cond (.t 18) (.seq (.reg [Zo 4 (.mv (.k (.int .i64 (-1))))]) .ret) .skip)) (.seq (.reg [Zf 19 2 2,Zl 20 false 1 19,Zv 21 1,Zc 22 315 [.t 20,.t 21],Zv 1 22]) (.seq (.seq (.reg [Zv 23 1,Zo 24 (.bin .lss (.t 23) (.k (.int .i64 0)))]) (.cond (.t 24) (.seq (.reg [Zo 4 (.mv (.k (.int .i64 (-1))))]) .ret) .skip)) (.seq (.reg [Zv 25 1,Zv 4 25]) .ret))))))))⟩
theorem a284_ok:J06 Tryz.prog Tryz.f284=some a284:=by kernel_rfl
def a291:AFn:= ⟨15,[(.c 2 true 3)],(.seq (.reg [Zo 1 (.boxv (.t 0)),Zo 2 (.box [(.str []),(.str []),(.nil 3)])]) (.seq (.reg [Zo 3 (.box [(.str []),(.str []),(.nil 3)])]) (.seq (.reg [Zf 4 0 1,Zl 5 false 1 4,Zf 6 0 3,⟨no,.st 1 (.t 6) (.t 5),no⟩]) (.seq (.reg [Zf 7 1 1,Zl 8 false 1 7,Zf 9 1 3,⟨no,.st 1 (.t 9) (.t 8),no⟩]) (.seq (.reg [Zf 10 2 1,Zl 11 false 1 10,Zc 12 321 [.t 11],Zf 13 2 3,⟨no,.st 1 (.t 13) (.t 12),no⟩]) (.seq (.reg [Zl 14 true 3 3,⟨no,.st 3 (.t 2) (.t 14),no⟩]) .ret))))))⟩
theorem a291_ok:J06 Tryz.prog Tryz.f291=some a291:=by kernel_rfl
def a302:AFn:= ⟨21,[.t 4],(.seq (.reg [Zo 2 (.boxv (.t 0)),Zo 3 (.boxv (.t 1)),Zo 4 (.mv (.k (.bool false)))]) (.seq (.seq (.reg [Zf 5 0 2,Zl 6 false 1 5,Zf 7 0 3,Zl 8 false 1 7,Zo 9 (.bin .neq (.t 6) (.t 8))]) (.cond (.t 9) (.seq (.reg [Zo 4 (.mv (.k (.bool false)))]) .ret) .skip)) (.seq (.seq (.reg [Zf 10 1 2,Zl 11 false 1 10,Zf 12 1 3,Zl 13 false 1 12,Zo 14 (.bin .neq (.t 11) (.t 13))]) (.cond (.t 14) (.seq (.reg [Zo 4 (.mv (.k (.bool false)))]) .ret) .skip)) (.seq (.seq (.reg [Zf 15 2 2,Zl 16 false 1 15,Zf 17 2 3,Zl 18 false 1 17,Zc 19 327 [.t 16,.t 18],Zo 20 (.un .not (.t 19))]) (.cond (.t 20) (.seq (.reg [Zo 4 (.mv (.k (.bool false)))]) .ret) .skip)) (.seq (.reg [Zo 4 (.mv (.k (.bool true)))]) .ret)))))⟩
theorem a302_ok:J06 Tryz.prog Tryz.f302=some a302:=by kernel_rfl
def a133:AFn:= ⟨37,[.t 4],(.seq (.reg [Zo 2 (.boxv (.t 0)),Zo 4 (.mv (.k (.int .i64 0)))]) (.seq (.reg [Zv 5 1,Zf 6 0 2,Zl 7 false 1 6,Zo 8 (.len true (.t 7)),Zo 9 (.bin .sub (.t 5) (.t 8)),Zv 1 9]) (.seq (.seq (.reg [Zv 10 1,Zo 11 (.bin .lss (.t 10) (.k (.int .i64 0)))]) (.cond (.t 11) (.seq (.reg [Zo 4 (.mv (.k (.int .i64 (-1))))]) .ret) .skip)) (.seq (.reg [Zf 12 1 2,Zl 13 false 1 12,Zv 14 1,Zc 15 212 [.t 13,.t 14],Zv 1 15]) (.seq (.seq (.reg [Zv 16 1,Zo 17 (.bin .lss (.t 16) (.k (.int .i64 0)))]) (.cond (.t 17) (.seq (.reg [Zo 4 (.mv (.k (.int .i64 (-1))))]) .ret) .skip)) (.seq (.reg [Zf 18 2 2,Zl 19 false 1 18,Zv 20 1,Zc 21 213 [.t 19,.t 20],Zv 1 21]) (.seq (.seq (.reg [Zv 22 1,Zo 23 (.bin .lss (.t 22) (.k (.int .i64 0)))]) (.cond (.t 23) (.seq (.reg [Zo 4 (.mv (.k (.int .i64 (-1))))]) .ret) .skip)) (.seq (.reg [Zf 24 3 2,Zl 25 false 1 24,Zv 26 1,Zc 27 214 [.t 25,.t 26],Zv 1 27]) (.seq (.seq (.reg [Zv 28 1,Zo 29 (.bin .lss (.t 28) (.k (.int .i64 0)))]) (.cond (.t 29) (.seq (.reg [Zo 4 (.mv (.k (.int .i64 (-1))))]) .ret) .skip)) (.seq (.reg [Zf 30 4 2,Zl 31 true 3 30,Zv 32 1,Zc 33 215 [.t 31,.t 32],Zv 1 33]) (.seq (.seq (.reg [Zv 34 1,Zo 35 (.bin .lss (.t 34) (.k (.int .i64 0)))]) (.cond (.t 35) (.seq (.reg [Zo 4 (.mv (.k (.int .i64 (-1))))]) .ret) .skip)) (.seq (.reg [Zv 36 1,Zv 4 36]) .ret))))))))))))⟩
theorem a133_ok:J06 Tryz.prog Tryz.f133=some a133:=by kernel_rfl
def a139:AFn:= ⟨24,[(.c 2 true 7)],(.seq (.reg [Zo 1 (.boxv (.t 0)),Zo 2 (.box [(.str []),(.nil 4),(.nil 2),(.nil 3),(.bool false),(.nil 2),(.str [])])]) (.seq (.reg [Zo 3 (.box [(.str []),(.nil 4),(.nil 2),(.nil 3),(.bool false),(.nil 2),(.str [])])]) (.seq (.reg [Zf 4 0 1,Zl 5 false 1 4,Zf 6 0 3,⟨no,.st 1 (.t 6) (.t 5),no⟩]) (.seq (.reg [Zf 7 1 1,Zl 8 false 1 7,Zc 9 226 [.t 8],Zf 10 1 3,⟨no,.st 1 (.t 10) (.t 9),no⟩]) (.seq (.reg [Zf 11 2 1,Zl 12 false 1 11,Zc 13 227 [.t 12],Zf 14 2 3,⟨no,.st 1 (.t 14) (.t 13),no⟩]) (.seq (.reg [Zf 15 3 1,Zl 16 false 1 15,Zc 17 228 [.t 16],Zf 18 3 3,⟨no,.st 1 (.t 18) (.t 17),no⟩]) (.seq (.reg [Zf 19 4 1,Zl 20 true 3 19,Zc 21 229 [.t 20],Zf 22 4 3,⟨no,.st 3 (.t 22) (.t 21),no⟩]) (.seq (.reg [Zl 23 true 7 3,⟨no,.st 7 (.t 2) (.t 23),no⟩]) .ret))))))))⟩
theorem a139_ok:J06 Tryz.prog Tryz.f139=some a139:=by kernel_rfl
def a155:AFn:= ⟨34,[.t 4],(.seq (.reg [Zo 2 (.boxv (.t 0)),Zo 3 (.boxv (.t 1)),Zo 4 (.mv (.k (.bool false)))]) (.seq (.seq (.reg [Zf 5 0 2,Zl 6 false 1 5,Zf 7 0 3,Zl 8 false 1 7,Zo 9 (.bin .neq (.t 6) (.t 8))]) (.cond (.t 9) (.seq (.reg [Zo 4 (.mv (.k (.bool false)))]) .ret) .skip)) (.seq (.seq (.reg [Zf 10 1 2,Zl 11 false 1 10,Zf 12 1 3,Zl 13 false 1 12,Zc 14 244 [.t 11,.t 13],Zo 15 (.un .not (.t 14))]) (.cond (.t 15) (.seq (.reg [Zo 4 (.mv (.k (.bool false)))]) .ret) .skip)) (.seq (.seq (.reg [Zf 16 2 2,Zl 17 false 1 16,Zf 18 2 3,Zl 19 false 1 18,Zc 20 245 [.t 17,.t 19],Zo 21 (.un .not (.t 20))]) (.cond (.t 21) (.seq (.reg [Zo 4 (.mv (.k (.bool false)))]) .ret) .skip)) (.seq (.seq (.reg [Zf 22 3 2,Zl 23 false 1 22,Zf 24 3 3,Zl 25 false 1 24,Zc 26 246 [.t 23,.t 25],Zo 27 (.un .not (.t 26))]) (.cond (.t 27) (.seq (.reg [Zo 4 (.mv (.k (.bool false)))]) .ret) .skip)) (.seq (.seq (.reg [Zf 28 4 2,Zl 29 true 3 28,Zf 30 4 3,Zl 31 true 3 30,Zc 32 247 [.t 29,.t 31],Zo 33 (.un .not (.t 32))]) (.cond (.t 33) (.seq (.reg [Zo 4 (.mv (.k (.bool false)))]) .ret) .skip)) (.seq (.reg [Zo 4 (.mv (.k (.bool true)))]) .ret)))))))⟩
theorem a155_ok:J06 Tryz.prog Tryz.f155=some a155:=by kernel_rfl
def a132:AFn:= ⟨25,[.t 4],(.seq (.reg [Zo 2 (.boxv (.t 0)),Zo 4 (.mv (.k (.int .i64 0)))]) (.seq (.reg [Zv 5 1,Zf 6 0 2,Zl 7 false 1 6,Zo 8 (.len true (.t 7)),Zo 9 (.bin .sub (.t 5) (.t 8)),Zv 1 9]) (.seq (.seq (.reg [Zv 10 1,Zo 11 (.bin .lss (.t 10) (.k (.int .i64 0)))]) (.cond (.t 11) (.seq (.reg [Zo 4 (.mv (.k (.int .i64 (-1))))]) .ret) .skip)) (.seq (.reg [Zf 12 1 2,Zl 13 false 1 12,Zv 14 1,Zc 15 211 [.t 13,.t 14],Zv 1 15]) (.seq (.seq (.reg [Zv 16 1,Zo 17 (.bin .lss (.t 16) (.k (.int .i64 0)))]) (.cond (.t 17) (.seq (.reg [Zo 4 (.mv (.k (.int .i64 (-1))))]) .ret) .skip)) (.seq (.reg [Zf 18 3 2,Zl 19 false 1 18,Zv 20 1,Zc 21 95 [.t 19,.t 20],Zv 1 21]) (.seq (.seq (.reg [Zv 22 1,Zo 23 (.bin .lss (.t 22) (.k (.int .i64 0)))]) (.cond (.t 23) (.seq (.reg [Zo 4 (.mv (.k (.int .i64 (-1))))]) .ret) .skip)) (.seq (.reg [Zv 24 1,Zv 4 24]) .ret))))))))⟩
theorem a132_ok:J06 Tryz.prog Tryz.f132=some a132:=by kernel_rfl
def a138:AFn:= ⟨19,[(.c 2 true 4)],(.seq (.reg [Zo 1 (.boxv (.t 0)),Zo 2 (.box [(.str []),(.nil 1),(.bool false),(.nil 2)])]) (.seq (.reg [Zo 3 (.box [(.str []),(.nil 1),(.bool false),(.nil 2)])]) (.seq (.reg [Zf 4 0 1,Zl 5 false 1 4,Zf 6 0 3,⟨no,.st 1 (.t 6) (.t 5),no⟩]) (.seq (.reg [Zf 7 1 1,Zl 8 false 1 7,Zc 9 225 [.t 8],Zf 10 1 3,⟨no,.st 1 (.t 10) (.t 9),no⟩]) (.seq (.reg [Zf 11 2 1,Zl 12 false 1 11,Zf 13 2 3,⟨no,.st 1 (.t 13) (.t 12),no⟩]) (.seq (.reg [Zf 14 3 1,Zl 15 false 1 14,Zc 16 101 [.t 15],Zf 17 3 3,⟨no,.st 1 (.t 17) (.t 16),no⟩]) (.seq (.reg [Zl 18 true 4 3,⟨no,.st 4 (.t 2) (.t 18),no⟩]) .ret)))))))⟩
theorem a138_ok:J06 Tryz.prog Tryz.f138=some a138:=by kernel_rfl
def a154:AFn:= ⟨27,[.t 4],(.seq (.reg [Zo 2 (.boxv (.t 0)),Zo 3 (.boxv (.t 1)),Zo 4 (.mv (.k (.bool false)))]) (.seq (.seq (.reg [Zf 5 0 2,Zl 6 false 1 5,Zf 7 0 3,Zl 8 false 1 7,Zo 9 (.bin .neq (.t 6) (.t 8))]) (.cond (.t 9) (.seq (.reg [Zo 4 (.mv (.k (.bool false)))]) .ret) .skip)) (.seq (.seq (.reg [Zf 10 1 2,Zl 11 false 1 10,Zf 12 1 3,Zl 13 false 1 12,Zc 14 73 [.t 11,.t 13],Zo 15 (.un .not (.t 14))]) (.cond (.t 15) (.seq (.reg [Zo 4 (.mv (.k (.bool false)))]) .ret) .skip)) (.seq (.seq (.reg [Zf 16 2 2,Zl 17 false 1 16,Zf 18 2 3,Zl 19 false 1 18,Zo 20 (.beq true (.t 17) (.t 19))]) (.cond (.t 20) (.seq (.reg [Zo 4 (.mv (.k (.bool false)))]) .ret) .skip)) (.seq (.seq (.reg [Zf 21 3 2,Zl 22 false 1 21,Zf 23 3 3,Zl 24 false 1 23,Zc 25 107 [.t 22,.t 24],Zo 26 (.un .not (.t 25))]) (.cond (.t 26) (.seq (.reg [Zo 4 (.mv (.k (.bool false)))]) .ret) .skip)) (.seq (.reg [Zo 4 (.mv (.k (.bool true)))]) .ret))))))⟩
theorem a154_ok:J06 Tryz.prog Tryz.f154=some a154:=by kernel_rfl
def a12:AFn:= ⟨18,[.t 4],(.seq (.reg [Zo 2 (.boxv (.t 0)),Zo 4 (.mv (.k (.int .i64 0)))]) (.seq (.reg [Zf 5 0 2,Zl 6 false 1 5,Zv 7 1,Zc 8 58 [.t 6,.t 7],Zv 1 8]) (.seq (.seq (.reg [Zv 9 1,Zo 10 (.bin .lss (.t 9) (.k (.int .i64 0)))]) (.cond (.t 10) (.seq (.reg [Zo 4 (.mv (.k (.int .i64 (-1))))]) .ret) .skip)) (.seq (.reg [Zf 11 1 2,Zl 12 false 1 11,Zv 13 1,Zc 14 59 [.t 12,.t 13],Zv 1 14]) (.seq (.seq (.reg [Zv 15 1,Zo 16 (.bin .lss (.t 15) (.k (.int .i64 0)))]) (.cond (.t 16) (.seq (.reg [Zo 4 (.mv (.k (.int .i64 (-1))))]) .ret) .skip)) (.seq (.reg [Zv 17 1,Zv 4 17]) .ret))))))⟩
theorem a12_ok:J06 Tryz.prog Tryz.f12=some a12:=by kernel_rfl
def a14:AFn:= ⟨13,[(.c 2 true 2)],(.seq (.reg [Zo 1 (.boxv (.t 0)),Zo 2 (.box [(.nil 4),(.nil 7)])]) (.seq (.reg [Zo 3 (.box [(.nil 4),(.nil 7)])]) (.seq (.reg [Zf 4 0 1,Zl 5 false 1 4,Zc 6 65 [.t 5],Zf 7 0 3,⟨no,.st 1 (.t 7) (.t 6),no⟩]) (.seq (.reg [Zf 8 1 1,Zl 9 false 1 8,Zc 10 66 [.t 9],Zf 11 1 3,⟨no,.st 1 (.t 11) (.t 10),no⟩]) (.seq (.reg [Zl 12 true 2 3,⟨no,.st 2 (.t 2) (.t 12),no⟩]) .ret)))))⟩
theorem a14_ok:J06 Tryz.prog Tryz.f14=some a14:=by kernel_rfl
def a17:AFn:= ⟨17,[.t 4],(.seq (.reg [Zo 2 (.boxv (.t 0)),Zo 3 (.boxv (.t 1)),Zo 4 (.mv (.k (.bool false)))]) (.seq (.seq (.reg [Zf 5 0 2,Zl 6 false 1 5,Zf 7 0 3,Zl 8 false 1 7,Zc 9 74 [.t 6,.t 8],Zo 10 (.un .not (.t 9))]) (.cond (.t 10) (.seq (.reg [Zo 4 (.mv (.k (.bool false)))]) .ret) .skip)) (.seq (.seq (.reg [Zf 11 1 2,Zl 12 false 1 11,Zf 13 1 3,Zl 14 false 1 13,Zc 15 75 [.t 12,.t 14],Zo 16 (.un .not (.t 15))]) (.cond (.t 16) (.seq (.reg [Zo 4 (.mv (.k (.bool false)))]) .ret) .skip)) (.seq (.reg [Zo 4 (.mv (.k (.bool true)))]) .ret))))⟩
theorem a17_ok:J06 Tryz.prog Tryz.f17=some a17:=by kernel_rfl
theorem Jur (x:DTerm) (left:Int) (h0:0≤left∧left≤4611686018427387904):Holds Tryz.prog 332 [.agg (J16 x),i64 left] (fun r=>r=i64 (J3i left (J7j x))):=by
 refine J03 Tryz.func332 a332_ok rfl (by simp [a332]) ?_
 simp [a332,J16]
 have e0:J7j x=J7j x:=rfl
 conv at e0=>rhs;unfold J7j
 intro hl0
 rw [J0r (by unfold LIM at hl0;omega)]
 by_cases h1:left - (x.Name.length:Nat)<0
 case pos=>
  have q:left - (J7j x:Int)<0:=by omega
  simp [J3i,h1,q]
  try first|omega|(constructor <;> intros <;> omega)
 have g1:(x.Name.length:Nat)≤left:=by omega
 simp [J3i,h1,g1]
 try (rw [if_neg (by omega)];omega)
theorem Jvw (x:DTerm) (_hw:J7j x≤1048576):Holds Tryz.prog 334 [.agg (J16 x)] (fun r=>r = .agg (J4c x)):=by
 have hw:=_hw;unfold J7j at hw
 refine J03 Tryz.func334 a334_ok rfl (by simp [a334]) ?_
 simp [a334,J16]
 try simp [J4c]
theorem Jwj (x y:DTerm):Holds Tryz.prog 337 [.agg (J16 x),.agg (J16 y)] (fun r=>r = .bool (decide (x=y))):=by
 refine J03 Tryz.func337 a337_ok rfl (by simp [a337]) ?_
 simp [a337,J16]
 by_cases h0:x.Coeff=y.Coeff
 case neg=>simp [h0];try exact fun e=>h0 (by rw [e])
 simp [h0]
 by_cases h1:x.Name=y.Name
 case neg=>simp [h1];try exact fun e=>h1 (by rw [e])
 simp [h1]
 cases x;cases y;simp_all
theorem a314_ok:J06 Tryz.prog Tryz.f314=some (tSz true 2 332):=by kernel_rfl
theorem Jt0 (l:List DTerm) (left:Int) (h0:0≤left∧left≤4611686018427387904):Holds Tryz.prog 314 [.sl 2 (l.map J16),i64 left] (fun r=>r=i64 (J3i left (Jdl l))):=by
 rw [show Jdl l=wL J7j l from rfl,←J6f (w:=J7j) (g:=fun x lf=>J3i lf (J7j x)) (fun _ _ _=>rfl) l left h0.1]
 exact J5z Tryz.func314 a314_ok rfl (rowOf:=J16) (eltOf:=(fun x => .agg (J16 x))) (fun x=>by simp [J16]) (fun x h=>by simp [J16]) (fun x lf h=>J8x h) l left h0 (fun x lf _ hl=>Jur x lf hl)
theorem a320_ok:J06 Tryz.prog Tryz.f320=some (tTo true 2 24 334 [.int .i64 0,.str []]):=by kernel_rfl
theorem Jqj (l:List DTerm) (hw:Jdl l≤1048576):Holds Tryz.prog 320 [.sl 2 (l.map J16)] (fun r=>r = .us 2 (l.map J4c)):=
 J5w Tryz.func320 a320_ok rfl (rowOf:=J16) (eltOf:=(fun x => .agg (J16 x))) (eltU:=(fun x => .agg (J4c x))) (fun x=>by simp [J16]) (fun x h=>by simp [J16]) (fun x=>by simp) (fun x=>by simp [J4c]) (fun x=>by simp [J4c]) rfl l (by have:=J2b J7j l;unfold Jdl at hw;unfold LIM;omega) (fun x h=>Jvw x (by have:=J4b (w:=J7j) h;unfold Jdl at hw;omega))
theorem a326_ok:J06 Tryz.prog Tryz.f326=some (tEq true 2 337):=by kernel_rfl
theorem Jsp (l m:List DTerm):Holds Tryz.prog 326 [.sl 2 (l.map J16),.sl 2 (m.map J16)] (fun r=>r = .bool (decide (l=m))):=by
 rw [←J7d]
 exact J5a Tryz.func326 a326_ok rfl (rowOf:=J16) (eltOf:=(fun x => .agg (J16 x))) (fun x=>by simp [J16]) (fun x h=>by simp [J16]) l m (fun x y _ _=>Jwj x y)
theorem Jxs (x:DSum) (left:Int) (h0:0≤left∧left≤4611686018427387904):Holds Tryz.prog 283 [.agg (J1j x),i64 left] (fun r=>r=i64 (J3i left (Jbe x))):=by
 refine J03 Tryz.func283 a283_ok rfl (by simp [a283]) ?_
 simp [a283,J1j]
 have e0:Jbe x=Jbe x:=rfl
 conv at e0=>rhs;unfold Jbe
 refine J02 (Jt0 x.Terms left (by omega)) (by simp) ?_
 rintro r rfl
 by_cases h1:left - (Jdl x.Terms:Nat)<0
 case pos=>
  have q:left - (Jbe x:Int)<0:=by omega
  simp [J3i,h1,q]
  try first|omega|(constructor <;> intros <;> omega)
 simp [J3i,h1]
 try (rw [if_neg (by omega)];omega)
theorem Jy4 (x:DSum) (_hw:Jbe x≤1048576):Holds Tryz.prog 290 [.agg (J1j x)] (fun r=>r = .agg (J58 x)):=by
 have hw:=_hw;unfold Jbe at hw
 refine J03 Tryz.func290 a290_ok rfl (by simp [a290]) ?_
 simp [a290,J1j]
 refine J02 (Jqj x.Terms (by omega)) (by simp []) ?_
 rintro r rfl
 simp []
 try simp [J58]
theorem Jyk (x y:DSum):Holds Tryz.prog 301 [.agg (J1j x),.agg (J1j y)] (fun r=>r = .bool (decide (x=y))):=by
 refine J03 Tryz.func301 a301_ok rfl (by simp [a301]) ?_
 simp [a301,J1j]
 by_cases h0:x.Const=y.Const
 case neg=>simp [h0];try exact fun e=>h0 (by rw [e])
 simp [h0]
 refine J02 (Jsp x.Terms y.Terms) (by simp []) ?_
 rintro r rfl
 by_cases h1:x.Terms=y.Terms
 case neg=>simp [h1];try exact fun e=>h1 (by rw [e])
 simp [h1]
 cases x;cases y;simp_all
theorem a213_ok:J06 Tryz.prog Tryz.f213=some (tSz true 2 283):=by kernel_rfl
theorem Jnj (l:List DSum) (left:Int) (h0:0≤left∧left≤4611686018427387904):Holds Tryz.prog 213 [.sl 2 (l.map J1j),i64 left] (fun r=>r=i64 (J3i left (J6q l))):=by
 rw [show J6q l=wL Jbe l from rfl,←J6f (w:=Jbe) (g:=fun x lf=>J3i lf (Jbe x)) (fun _ _ _=>rfl) l left h0.1]
 exact J5z Tryz.func213 a213_ok rfl (rowOf:=J1j) (eltOf:=(fun x => .agg (J1j x))) (fun x=>by simp [J1j]) (fun x h=>by simp [J1j]) (fun x lf h=>J8x h) l left h0 (fun x lf _ hl=>Jxs x lf hl)
theorem a227_ok:J06 Tryz.prog Tryz.f227=some (tTo true 2 32 290 [.int .i64 0,.nil 2]):=by kernel_rfl
theorem Jns (l:List DSum) (hw:J6q l≤1048576):Holds Tryz.prog 227 [.sl 2 (l.map J1j)] (fun r=>r = .us 2 (l.map J58)):=
 J5w Tryz.func227 a227_ok rfl (rowOf:=J1j) (eltOf:=(fun x => .agg (J1j x))) (eltU:=(fun x => .agg (J58 x))) (fun x=>by simp [J1j]) (fun x h=>by simp [J1j]) (fun x=>by simp) (fun x=>by simp [J58]) (fun x=>by simp [J58]) rfl l (by have:=J2b Jbe l;unfold J6q at hw;unfold LIM;omega) (fun x h=>Jy4 x (by have:=J4b (w:=Jbe) h;unfold J6q at hw;omega))
theorem a245_ok:J06 Tryz.prog Tryz.f245=some (tEq true 2 301):=by kernel_rfl
theorem Jo5 (l m:List DSum):Holds Tryz.prog 245 [.sl 2 (l.map J1j),.sl 2 (m.map J1j)] (fun r=>r = .bool (decide (l=m))):=by
 rw [←J7d]
 exact J5a Tryz.func245 a245_ok rfl (rowOf:=J1j) (eltOf:=(fun x => .agg (J1j x))) (fun x=>by simp [J1j]) (fun x h=>by simp [J1j]) l m (fun x y _ _=>Jyk x y)
theorem Jro (x:DArg) (left:Int) (h0:0≤left∧left≤4611686018427387904):Holds Tryz.prog 215 [.agg (J15 x),i64 left] (fun r=>r=i64 (J3i left (Jah x))):=by
 refine J03 Tryz.func215 a215_ok rfl (by simp [a215]) ?_
 simp [a215,J15]
 have e0:Jah x=Jah x:=rfl
 conv at e0=>rhs;unfold Jah
 refine J02 (Jnj x.Heads left (by omega)) (by simp) ?_
 rintro r rfl
 by_cases h1:left - (J6q x.Heads:Nat)<0
 case pos=>
  have q:left - (Jah x:Int)<0:=by omega
  simp [J3i,h1,q]
  try first|omega|(constructor <;> intros <;> omega)
 simp [J3i,h1]
 intro hl1
 rw [J0r (by unfold LIM at hl1;omega)]
 by_cases h2:(left - (J6q x.Heads:Nat)) - (x.Base.length:Nat)<0
 case pos=>
  have q:left - (Jah x:Int)<0:=by omega
  simp [J3i,h2,q]
  try first|omega|(constructor <;> intros <;> omega)
 have g2:(x.Base.length:Nat)≤(left - (J6q x.Heads:Nat)):=by omega
 simp [J3i,h2,g2]
 try (rw [if_neg (by omega)];omega)
theorem Jri (x:DArg) (_hw:Jah x≤1048576):Holds Tryz.prog 229 [.agg (J15 x)] (fun r=>r = .agg (J5e x)):=by
 have hw:=_hw;unfold Jah at hw
 refine J03 Tryz.func229 a229_ok rfl (by simp [a229]) ?_
 simp [a229,J15]
 refine J02 (Jns x.Heads (by omega)) (by simp []) ?_
 rintro r rfl
 simp []
 try simp [J5e]
theorem Jrz (x y:DArg):Holds Tryz.prog 247 [.agg (J15 x),.agg (J15 y)] (fun r=>r = .bool (decide (x=y))):=by
 refine J03 Tryz.func247 a247_ok rfl (by simp [a247]) ?_
 simp [a247,J15]
 by_cases h0:x.Lst=y.Lst
 case neg=>simp [h0];try exact fun e=>h0 (by rw [e])
 simp [h0]
 refine J02 (Jo5 x.Heads y.Heads) (by simp []) ?_
 rintro r rfl
 by_cases h1:x.Heads=y.Heads
 case neg=>simp [h1];try exact fun e=>h1 (by rw [e])
 simp [h1]
 by_cases h2:x.Base=y.Base
 case neg=>simp [h2];try exact fun e=>h2 (by rw [e])
 simp [h2]
 cases x;cases y;simp_all
theorem a315_ok:J06 Tryz.prog Tryz.f315=some (tSz true 3 215):=by kernel_rfl
theorem Jvb (l:List DArg) (left:Int) (h0:0≤left∧left≤4611686018427387904):Holds Tryz.prog 315 [.sl 3 (l.map J15),i64 left] (fun r=>r=i64 (J3i left (Jfu l))):=by
 rw [show Jfu l=wL Jah l from rfl,←J6f (w:=Jah) (g:=fun x lf=>J3i lf (Jah x)) (fun _ _ _=>rfl) l left h0.1]
 exact J5z Tryz.func315 a315_ok rfl (rowOf:=J15) (eltOf:=(fun x => .agg (J15 x))) (fun x=>by simp [J15]) (fun x h=>by simp [J15]) (fun x lf h=>J8x h) l left h0 (fun x lf _ hl=>Jro x lf hl)
theorem a321_ok:J06 Tryz.prog Tryz.f321=some (tTo true 3 48 229 [.bool false,.nil 2,.str []]):=by kernel_rfl
theorem Jvj (l:List DArg) (hw:Jfu l≤1048576):Holds Tryz.prog 321 [.sl 3 (l.map J15)] (fun r=>r = .us 3 (l.map J5e)):=
 J5w Tryz.func321 a321_ok rfl (rowOf:=J15) (eltOf:=(fun x => .agg (J15 x))) (eltU:=(fun x => .agg (J5e x))) (fun x=>by simp [J15]) (fun x h=>by simp [J15]) (fun x=>by simp) (fun x=>by simp [J5e]) (fun x=>by simp [J5e]) rfl l (by have:=J2b Jah l;unfold Jfu at hw;unfold LIM;omega) (fun x h=>Jri x (by have:=J4b (w:=Jah) h;unfold Jfu at hw;omega))
theorem a327_ok:J06 Tryz.prog Tryz.f327=some (tEq true 3 247):=by kernel_rfl
theorem Jut (l m:List DArg):Holds Tryz.prog 327 [.sl 3 (l.map J15),.sl 3 (m.map J15)] (fun r=>r = .bool (decide (l=m))):=by
 rw [←J7d]
 exact J5a Tryz.func327 a327_ok rfl (rowOf:=J15) (eltOf:=(fun x => .agg (J15 x))) (fun x=>by simp [J15]) (fun x h=>by simp [J15]) l m (fun x y _ _=>Jrz x y)
theorem Jml (x:DPattern) (left:Int) (h0:0≤left∧left≤4611686018427387904):Holds Tryz.prog 282 [.agg (J07 x),i64 left] (fun r=>r=i64 (J3i left (J3a x))):=by
 refine J03 Tryz.func282 a282_ok rfl (by simp [a282]) ?_
 simp [a282,J07]
 have e0:J3a x=J3a x:=rfl
 conv at e0=>rhs;unfold J3a
 intro hl0
 rw [J0r (by unfold LIM at hl0;omega)]
 by_cases h1:left - (x.Lst.length:Nat)<0
 case pos=>
  have q:left - (J3a x:Int)<0:=by omega
  simp [J3i,h1,q]
  try first|omega|(constructor <;> intros <;> omega)
 have g1:(x.Lst.length:Nat)≤left:=by omega
 simp [J3i,h1,g1]
 intro hl1
 rw [J0r (by unfold LIM at hl1;omega)]
 by_cases h2:(left - (x.Lst.length:Nat)) - (x.Head.length:Nat)<0
 case pos=>
  have q:left - (J3a x:Int)<0:=by omega
  simp [J3i,h2,q]
  try first|omega|(constructor <;> intros <;> omega)
 have g2:(x.Head.length:Nat)≤(left - (x.Lst.length:Nat)):=by omega
 simp [J3i,h2,g2]
 intro hl2
 rw [J0r (by unfold LIM at hl2;omega)]
 by_cases h3:(left - (x.Lst.length:Nat) - (x.Head.length:Nat)) - (x.Tail.length:Nat)<0
 case pos=>
  have q:left - (J3a x:Int)<0:=by omega
  simp [J3i,h3,q]
  try first|omega|(constructor <;> intros <;> omega)
 have g3:(x.Tail.length:Nat)≤(left - (x.Lst.length:Nat) - (x.Head.length:Nat)):=by omega
 simp [J3i,h3,g3]
 try (rw [if_neg (by omega)];omega)
theorem Jlz (x:DPattern) (_hw:J3a x≤1048576):Holds Tryz.prog 289 [.agg (J07 x)] (fun r=>r = .agg (J1e x)):=by
 have hw:=_hw;unfold J3a at hw
 refine J03 Tryz.func289 a289_ok rfl (by simp [a289]) ?_
 simp [a289,J07]
 try simp [J1e]
theorem Jmy (x y:DPattern):Holds Tryz.prog 300 [.agg (J07 x),.agg (J07 y)] (fun r=>r = .bool (decide (x=y))):=by
 refine J03 Tryz.func300 a300_ok rfl (by simp [a300]) ?_
 simp [a300,J07]
 by_cases h0:x.Lst=y.Lst
 case neg=>simp [h0];try exact fun e=>h0 (by rw [e])
 simp [h0]
 by_cases h1:x.Cons=y.Cons
 case neg=>simp [h1];try exact fun e=>h1 (by rw [e])
 simp [h1]
 by_cases h2:x.Head=y.Head
 case neg=>simp [h2];try exact fun e=>h2 (by rw [e])
 simp [h2]
 by_cases h3:x.Tail=y.Tail
 case neg=>simp [h3];try exact fun e=>h3 (by rw [e])
 simp [h3]
 cases x;cases y;simp_all
theorem a212_ok:J06 Tryz.prog Tryz.f212=some (tSz true 4 282):=by kernel_rfl
theorem Jk2 (l:List DPattern) (left:Int) (h0:0≤left∧left≤4611686018427387904):Holds Tryz.prog 212 [.sl 4 (l.map J07),i64 left] (fun r=>r=i64 (J3i left (J39 l))):=by
 rw [show J39 l=wL J3a l from rfl,←J6f (w:=J3a) (g:=fun x lf=>J3i lf (J3a x)) (fun _ _ _=>rfl) l left h0.1]
 exact J5z Tryz.func212 a212_ok rfl (rowOf:=J07) (eltOf:=(fun x => .agg (J07 x))) (fun x=>by simp [J07]) (fun x h=>by simp [J07]) (fun x lf h=>J8x h) l left h0 (fun x lf _ hl=>Jml x lf hl)
theorem a226_ok:J06 Tryz.prog Tryz.f226=some (tTo true 4 56 289 [.str [],.bool false,.str [],.str []]):=by kernel_rfl
theorem Jjs (l:List DPattern) (hw:J39 l≤1048576):Holds Tryz.prog 226 [.sl 4 (l.map J07)] (fun r=>r = .us 4 (l.map J1e)):=
 J5w Tryz.func226 a226_ok rfl (rowOf:=J07) (eltOf:=(fun x => .agg (J07 x))) (eltU:=(fun x => .agg (J1e x))) (fun x=>by simp [J07]) (fun x h=>by simp [J07]) (fun x=>by simp) (fun x=>by simp [J1e]) (fun x=>by simp [J1e]) rfl l (by have:=J2b J3a l;unfold J39 at hw;unfold LIM;omega) (fun x h=>Jlz x (by have:=J4b (w:=J3a) h;unfold J39 at hw;omega))
theorem a244_ok:J06 Tryz.prog Tryz.f244=some (tEq true 4 300):=by kernel_rfl
theorem Jk3 (l m:List DPattern):Holds Tryz.prog 244 [.sl 4 (l.map J07),.sl 4 (m.map J07)] (fun r=>r = .bool (decide (l=m))):=by
 rw [←J7d]
 exact J5a Tryz.func244 a244_ok rfl (rowOf:=J07) (eltOf:=(fun x => .agg (J07 x))) (fun x=>by simp [J07]) (fun x h=>by simp [J07]) l m (fun x y _ _=>Jmy x y)
theorem Jug (x:DCall) (left:Int) (h0:0≤left∧left≤4611686018427387904):Holds Tryz.prog 284 [.agg (J14 x),i64 left] (fun r=>r=i64 (J3i left (J64 x))):=by
 refine J03 Tryz.func284 a284_ok rfl (by simp [a284]) ?_
 simp [a284,J14]
 have e0:J64 x=J64 x:=rfl
 conv at e0=>rhs;unfold J64
 intro hl0
 rw [J0r (by unfold LIM at hl0;omega)]
 by_cases h1:left - (x.Bind.length:Nat)<0
 case pos=>
  have q:left - (J64 x:Int)<0:=by omega
  simp [J3i,h1,q]
  try first|omega|(constructor <;> intros <;> omega)
 have g1:(x.Bind.length:Nat)≤left:=by omega
 simp [J3i,h1,g1]
 intro hl1
 rw [J0r (by unfold LIM at hl1;omega)]
 by_cases h2:(left - (x.Bind.length:Nat)) - (x.Func.length:Nat)<0
 case pos=>
  have q:left - (J64 x:Int)<0:=by omega
  simp [J3i,h2,q]
  try first|omega|(constructor <;> intros <;> omega)
 have g2:(x.Func.length:Nat)≤(left - (x.Bind.length:Nat)):=by omega
 simp [J3i,h2,g2]
 refine J02 (Jvb x.Args (left - (x.Bind.length:Nat) - (x.Func.length:Nat)) (by omega)) (by simp) ?_
 rintro r rfl
 by_cases h3:(left - (x.Bind.length:Nat) - (x.Func.length:Nat)) - (Jfu x.Args:Nat)<0
 case pos=>
  have q:left - (J64 x:Int)<0:=by omega
  simp [J3i,h3,q]
  try first|omega|(constructor <;> intros <;> omega)
 simp [J3i,h3]
 try (rw [if_neg (by omega)];omega)
theorem Jwd (x:DCall) (_hw:J64 x≤1048576):Holds Tryz.prog 291 [.agg (J14 x)] (fun r=>r = .agg (J3m x)):=by
 have hw:=_hw;unfold J64 at hw
 refine J03 Tryz.func291 a291_ok rfl (by simp [a291]) ?_
 simp [a291,J14]
 refine J02 (Jvj x.Args (by omega)) (by simp []) ?_
 rintro r rfl
 simp []
 try simp [J3m]
theorem Jv7 (x y:DCall):Holds Tryz.prog 302 [.agg (J14 x),.agg (J14 y)] (fun r=>r = .bool (decide (x=y))):=by
 refine J03 Tryz.func302 a302_ok rfl (by simp [a302]) ?_
 simp [a302,J14]
 by_cases h0:x.Bind=y.Bind
 case neg=>simp [h0];try exact fun e=>h0 (by rw [e])
 simp [h0]
 by_cases h1:x.Func=y.Func
 case neg=>simp [h1];try exact fun e=>h1 (by rw [e])
 simp [h1]
 refine J02 (Jut x.Args y.Args) (by simp []) ?_
 rintro r rfl
 by_cases h2:x.Args=y.Args
 case neg=>simp [h2];try exact fun e=>h2 (by rw [e])
 simp [h2]
 cases x;cases y;simp_all
theorem a214_ok:J06 Tryz.prog Tryz.f214=some (tSz true 3 284):=by kernel_rfl
theorem Jpz (l:List DCall) (left:Int) (h0:0≤left∧left≤4611686018427387904):Holds Tryz.prog 214 [.sl 3 (l.map J14),i64 left] (fun r=>r=i64 (J3i left (J8d l))):=by
 rw [show J8d l=wL J64 l from rfl,←J6f (w:=J64) (g:=fun x lf=>J3i lf (J64 x)) (fun _ _ _=>rfl) l left h0.1]
 exact J5z Tryz.func214 a214_ok rfl (rowOf:=J14) (eltOf:=(fun x => .agg (J14 x))) (fun x=>by simp [J14]) (fun x h=>by simp [J14]) (fun x lf h=>J8x h) l left h0 (fun x lf _ hl=>Jug x lf hl)
theorem a228_ok:J06 Tryz.prog Tryz.f228=some (tTo true 3 56 291 [.str [],.str [],.nil 3]):=by kernel_rfl
theorem Jrl (l:List DCall) (hw:J8d l≤1048576):Holds Tryz.prog 228 [.sl 3 (l.map J14)] (fun r=>r = .us 3 (l.map J3m)):=
 J5w Tryz.func228 a228_ok rfl (rowOf:=J14) (eltOf:=(fun x => .agg (J14 x))) (eltU:=(fun x => .agg (J3m x))) (fun x=>by simp [J14]) (fun x h=>by simp [J14]) (fun x=>by simp) (fun x=>by simp [J3m]) (fun x=>by simp [J3m]) rfl l (by have:=J2b J64 l;unfold J8d at hw;unfold LIM;omega) (fun x h=>Jwd x (by have:=J4b (w:=J64) h;unfold J8d at hw;omega))
theorem a246_ok:J06 Tryz.prog Tryz.f246=some (tEq true 3 302):=by kernel_rfl
theorem Jrj (l m:List DCall):Holds Tryz.prog 246 [.sl 3 (l.map J14),.sl 3 (m.map J14)] (fun r=>r = .bool (decide (l=m))):=by
 rw [←J7d]
 exact J5a Tryz.func246 a246_ok rfl (rowOf:=J14) (eltOf:=(fun x => .agg (J14 x))) (fun x=>by simp [J14]) (fun x h=>by simp [J14]) l m (fun x y _ _=>Jv7 x y)
theorem Jus (x:DRule) (left:Int) (h0:0≤left∧left≤4611686018427387904):Holds Tryz.prog 133 [.agg (J0c x),i64 left] (fun r=>r=i64 (J3i left (J4v x))):=by
 refine J03 Tryz.func133 a133_ok rfl (by simp [a133]) ?_
 simp [a133,J0c]
 have e0:J4v x=J4v x:=rfl
 conv at e0=>rhs;unfold J4v
 intro hl0
 rw [J0r (by unfold LIM at hl0;omega)]
 by_cases h1:left - (x.Func.length:Nat)<0
 case pos=>
  have q:left - (J4v x:Int)<0:=by omega
  simp [J3i,h1,q]
  try first|omega|(constructor <;> intros <;> omega)
 have g1:(x.Func.length:Nat)≤left:=by omega
 simp [J3i,h1,g1]
 refine J02 (Jk2 x.Patterns (left - (x.Func.length:Nat)) (by omega)) (by simp) ?_
 rintro r rfl
 by_cases h2:(left - (x.Func.length:Nat)) - (J39 x.Patterns:Nat)<0
 case pos=>
  have q:left - (J4v x:Int)<0:=by omega
  simp [J3i,h2,q]
  try first|omega|(constructor <;> intros <;> omega)
 simp [J3i,h2]
 refine J02 (Jnj x.Guards (left - (x.Func.length:Nat) - (J39 x.Patterns:Nat)) (by omega)) (by simp) ?_
 rintro r rfl
 by_cases h3:(left - (x.Func.length:Nat) - (J39 x.Patterns:Nat)) - (J6q x.Guards:Nat)<0
 case pos=>
  have q:left - (J4v x:Int)<0:=by omega
  simp [J3i,h3,q]
  try first|omega|(constructor <;> intros <;> omega)
 simp [J3i,h3]
 refine J02 (Jpz x.Calls (left - (x.Func.length:Nat) - (J39 x.Patterns:Nat) - (J6q x.Guards:Nat)) (by omega)) (by simp) ?_
 rintro r rfl
 by_cases h4:(left - (x.Func.length:Nat) - (J39 x.Patterns:Nat) - (J6q x.Guards:Nat)) - (J8d x.Calls:Nat)<0
 case pos=>
  have q:left - (J4v x:Int)<0:=by omega
  simp [J3i,h4,q]
  try first|omega|(constructor <;> intros <;> omega)
 simp [J3i,h4]
 refine J02 (Jro x.Result (left - (x.Func.length:Nat) - (J39 x.Patterns:Nat) - (J6q x.Guards:Nat) - (J8d x.Calls:Nat)) (by omega)) (by simp [J15]) ?_
 rintro r rfl
 by_cases h5:(left - (x.Func.length:Nat) - (J39 x.Patterns:Nat) - (J6q x.Guards:Nat) - (J8d x.Calls:Nat)) - (Jah x.Result:Nat)<0
 case pos=>
  have q:left - (J4v x:Int)<0:=by omega
  simp [J3i,h5,q]
  try first|omega|(constructor <;> intros <;> omega)
 simp [J3i,h5]
 try (rw [if_neg (by omega)];omega)
theorem Jts (x:DRule) (_hw:J4v x≤1048576):Holds Tryz.prog 139 [.agg (J0c x)] (fun r=>r = .agg (J23 x)):=by
 have hw:=_hw;unfold J4v at hw
 refine J03 Tryz.func139 a139_ok rfl (by simp [a139]) ?_
 simp [a139,J0c]
 refine J02 (Jjs x.Patterns (by omega)) (by simp []) ?_
 rintro r rfl
 simp []
 refine J02 (Jns x.Guards (by omega)) (by simp []) ?_
 rintro r rfl
 simp []
 refine J02 (Jrl x.Calls (by omega)) (by simp []) ?_
 rintro r rfl
 simp []
 refine J02 (Jri x.Result (by omega)) (by simp [J15]) ?_
 rintro r rfl
 simp [J5e]
 try simp [J23]
theorem Juj (x y:DRule):Holds Tryz.prog 155 [.agg (J0c x),.agg (J0c y)] (fun r=>r = .bool (decide (x=y))):=by
 refine J03 Tryz.func155 a155_ok rfl (by simp [a155]) ?_
 simp [a155,J0c]
 by_cases h0:x.Func=y.Func
 case neg=>simp [h0];try exact fun e=>h0 (by rw [e])
 simp [h0]
 refine J02 (Jk3 x.Patterns y.Patterns) (by simp []) ?_
 rintro r rfl
 by_cases h1:x.Patterns=y.Patterns
 case neg=>simp [h1];try exact fun e=>h1 (by rw [e])
 simp [h1]
 refine J02 (Jo5 x.Guards y.Guards) (by simp []) ?_
 rintro r rfl
 by_cases h2:x.Guards=y.Guards
 case neg=>simp [h2];try exact fun e=>h2 (by rw [e])
 simp [h2]
 refine J02 (Jrj x.Calls y.Calls) (by simp []) ?_
 rintro r rfl
 by_cases h3:x.Calls=y.Calls
 case neg=>simp [h3];try exact fun e=>h3 (by rw [e])
 simp [h3]
 refine J02 (Jrz x.Result y.Result) (by simp [J15]) ?_
 rintro r rfl
 by_cases h4:x.Result=y.Result
 case neg=>simp [h4];try exact fun e=>h4 (by rw [e])
 simp [h4]
 cases x;cases y;simp_all
theorem a59_ok:J06 Tryz.prog Tryz.f59=some (tSz true 7 133):=by kernel_rfl
theorem Js2 (l:List DRule) (left:Int) (h0:0≤left∧left≤4611686018427387904):Holds Tryz.prog 59 [.sl 7 (l.map J0c),i64 left] (fun r=>r=i64 (J3i left (J94 l))):=by
 rw [show J94 l=wL J4v l from rfl,←J6f (w:=J4v) (g:=fun x lf=>J3i lf (J4v x)) (fun _ _ _=>rfl) l left h0.1]
 exact J5z Tryz.func59 a59_ok rfl (rowOf:=J0c) (eltOf:=(fun x => .agg (J0c x))) (fun x=>by simp [J0c]) (fun x h=>by simp [J0c]) (fun x lf h=>J8x h) l left h0 (fun x lf _ hl=>Jus x lf hl)
theorem a66_ok:J06 Tryz.prog Tryz.f66=some (tTo true 7 136 139 [.str [],.nil 4,.nil 2,.nil 3,.bool false,.nil 2,.str []]):=by kernel_rfl
theorem Jsd (l:List DRule) (hw:J94 l≤1048576):Holds Tryz.prog 66 [.sl 7 (l.map J0c)] (fun r=>r = .us 7 (l.map J23)):=
 J5w Tryz.func66 a66_ok rfl (rowOf:=J0c) (eltOf:=(fun x => .agg (J0c x))) (eltU:=(fun x => .agg (J23 x))) (fun x=>by simp [J0c]) (fun x h=>by simp [J0c]) (fun x=>by simp) (fun x=>by simp [J23]) (fun x=>by simp [J23]) rfl l (by have:=J2b J4v l;unfold J94 at hw;unfold LIM;omega) (fun x h=>Jts x (by have:=J4b (w:=J4v) h;unfold J94 at hw;omega))
theorem a75_ok:J06 Tryz.prog Tryz.f75=some (tEq true 7 155):=by kernel_rfl
theorem Jqe (l m:List DRule):Holds Tryz.prog 75 [.sl 7 (l.map J0c),.sl 7 (m.map J0c)] (fun r=>r = .bool (decide (l=m))):=by
 rw [←J7d]
 exact J5a Tryz.func75 a75_ok rfl (rowOf:=J0c) (eltOf:=(fun x => .agg (J0c x))) (fun x=>by simp [J0c]) (fun x h=>by simp [J0c]) l m (fun x y _ _=>Juj x y)
theorem Jjq (x:DFunction) (left:Int) (h0:0≤left∧left≤4611686018427387904):Holds Tryz.prog 132 [.agg (J04 x),i64 left] (fun r=>r=i64 (J3i left (J0v x))):=by
 refine J03 Tryz.func132 a132_ok rfl (by simp [a132]) ?_
 simp [a132,J04]
 have e0:J0v x=J0v x:=rfl
 conv at e0=>rhs;unfold J0v
 intro hl0
 rw [J0r (by unfold LIM at hl0;omega)]
 by_cases h1:left - (x.Name.length:Nat)<0
 case pos=>
  have q:left - (J0v x:Int)<0:=by omega
  simp [J3i,h1,q]
  try first|omega|(constructor <;> intros <;> omega)
 have g1:(x.Name.length:Nat)≤left:=by omega
 simp [J3i,h1,g1]
 refine J02 (Jlj x.Params (left - (x.Name.length:Nat)) (by omega)) (by simp) ?_
 rintro r rfl
 by_cases h2:(left - (x.Name.length:Nat)) - (J44 x.Params:Nat)<0
 case pos=>
  have q:left - (J0v x:Int)<0:=by omega
  simp [J3i,h2,q]
  try first|omega|(constructor <;> intros <;> omega)
 simp [J3i,h2]
 refine J02 (Jn5 x.Pre (left - (x.Name.length:Nat) - (J44 x.Params:Nat)) (by omega)) (by simp) ?_
 rintro r rfl
 by_cases h3:(left - (x.Name.length:Nat) - (J44 x.Params:Nat)) - (J5h x.Pre:Nat)<0
 case pos=>
  have q:left - (J0v x:Int)<0:=by omega
  simp [J3i,h3,q]
  try first|omega|(constructor <;> intros <;> omega)
 simp [J3i,h3]
 try (rw [if_neg (by omega)];omega)
theorem Jk5 (x:DFunction) (_hw:J0v x≤1048576):Holds Tryz.prog 138 [.agg (J04 x)] (fun r=>r = .agg (J0g x)):=by
 have hw:=_hw;unfold J0v at hw
 refine J03 Tryz.func138 a138_ok rfl (by simp [a138]) ?_
 simp [a138,J04]
 refine J02 (Jmx x.Params (by omega)) (by simp []) ?_
 rintro r rfl
 simp []
 refine J02 (Jnt x.Pre (by omega)) (by simp []) ?_
 rintro r rfl
 simp []
 try simp [J0g]
theorem Jkj (x y:DFunction):Holds Tryz.prog 154 [.agg (J04 x),.agg (J04 y)] (fun r=>r = .bool (decide (x=y))):=by
 refine J03 Tryz.func154 a154_ok rfl (by simp [a154]) ?_
 simp [a154,J04]
 by_cases h0:x.Name=y.Name
 case neg=>simp [h0];try exact fun e=>h0 (by rw [e])
 simp [h0]
 refine J02 (Jlk x.Params y.Params) (by simp []) ?_
 rintro r rfl
 by_cases h1:x.Params=y.Params
 case neg=>simp [h1];try exact fun e=>h1 (by rw [e])
 simp [h1]
 by_cases h2:x.ListResult=y.ListResult
 case neg=>simp [h2];try exact fun e=>h2 (by rw [e])
 simp [h2]
 refine J02 (Jj6 x.Pre y.Pre) (by simp []) ?_
 rintro r rfl
 by_cases h3:x.Pre=y.Pre
 case neg=>simp [h3];try exact fun e=>h3 (by rw [e])
 simp [h3]
 cases x;cases y;simp_all
theorem a58_ok:J06 Tryz.prog Tryz.f58=some (tSz true 4 132):=by kernel_rfl
theorem Jj5 (l:List DFunction) (left:Int) (h0:0≤left∧left≤4611686018427387904):Holds Tryz.prog 58 [.sl 4 (l.map J04),i64 left] (fun r=>r=i64 (J3i left (J1x l))):=by
 rw [show J1x l=wL J0v l from rfl,←J6f (w:=J0v) (g:=fun x lf=>J3i lf (J0v x)) (fun _ _ _=>rfl) l left h0.1]
 exact J5z Tryz.func58 a58_ok rfl (rowOf:=J04) (eltOf:=(fun x => .agg (J04 x))) (fun x=>by simp [J04]) (fun x h=>by simp [J04]) (fun x lf h=>J8x h) l left h0 (fun x lf _ hl=>Jjq x lf hl)
theorem a65_ok:J06 Tryz.prog Tryz.f65=some (tTo true 4 72 138 [.str [],.nil 1,.bool false,.nil 2]):=by kernel_rfl
theorem Jj7 (l:List DFunction) (hw:J1x l≤1048576):Holds Tryz.prog 65 [.sl 4 (l.map J04)] (fun r=>r = .us 4 (l.map J0g)):=
 J5w Tryz.func65 a65_ok rfl (rowOf:=J04) (eltOf:=(fun x => .agg (J04 x))) (eltU:=(fun x => .agg (J0g x))) (fun x=>by simp [J04]) (fun x h=>by simp [J04]) (fun x=>by simp) (fun x=>by simp [J0g]) (fun x=>by simp [J0g]) rfl l (by have:=J2b J0v l;unfold J1x at hw;unfold LIM;omega) (fun x h=>Jk5 x (by have:=J4b (w:=J0v) h;unfold J1x at hw;omega))
theorem a74_ok:J06 Tryz.prog Tryz.f74=some (tEq true 4 154):=by kernel_rfl
theorem Jiw (l m:List DFunction):Holds Tryz.prog 74 [.sl 4 (l.map J04),.sl 4 (m.map J04)] (fun r=>r = .bool (decide (l=m))):=by
 rw [←J7d]
 exact J5a Tryz.func74 a74_ok rfl (rowOf:=J04) (eltOf:=(fun x => .agg (J04 x))) (fun x=>by simp [J04]) (fun x h=>by simp [J04]) l m (fun x y _ _=>Jkj x y)
theorem Jfx (x:DProgram) (left:Int) (h0:0≤left∧left≤4611686018427387904):Holds Tryz.prog 12 [.agg (J00 x),i64 left] (fun r=>r=i64 (J3i left (J0k x))):=by
 refine J03 Tryz.func12 a12_ok rfl (by simp [a12]) ?_
 simp [a12,J00]
 have e0:J0k x=J0k x:=rfl
 conv at e0=>rhs;unfold J0k
 refine J02 (Jj5 x.Functions left (by omega)) (by simp) ?_
 rintro r rfl
 by_cases h1:left - (J1x x.Functions:Nat)<0
 case pos=>
  have q:left - (J0k x:Int)<0:=by omega
  simp [J3i,h1,q]
  try first|omega|(constructor <;> intros <;> omega)
 simp [J3i,h1]
 refine J02 (Js2 x.Rules (left - (J1x x.Functions:Nat)) (by omega)) (by simp) ?_
 rintro r rfl
 by_cases h2:(left - (J1x x.Functions:Nat)) - (J94 x.Rules:Nat)<0
 case pos=>
  have q:left - (J0k x:Int)<0:=by omega
  simp [J3i,h2,q]
  try first|omega|(constructor <;> intros <;> omega)
 simp [J3i,h2]
 try (rw [if_neg (by omega)];omega)
theorem J4u (x:DProgram) (_hw:J0k x≤1048576):Holds Tryz.prog 14 [.agg (J00 x)] (fun r=>r = .agg (J2k x)):=by
 have hw:=_hw;unfold J0k at hw
 refine J03 Tryz.func14 a14_ok rfl (by simp [a14]) ?_
 simp [a14,J00]
 refine J02 (Jj7 x.Functions (by omega)) (by simp []) ?_
 rintro r rfl
 simp []
 refine J02 (Jsd x.Rules (by omega)) (by simp []) ?_
 rintro r rfl
 simp []
 try simp [J2k]
theorem Jes (x y:DProgram):Holds Tryz.prog 17 [.agg (J00 x),.agg (J00 y)] (fun r=>r = .bool (decide (x=y))):=by
 refine J03 Tryz.func17 a17_ok rfl (by simp [a17]) ?_
 simp [a17,J00]
 refine J02 (Jiw x.Functions y.Functions) (by simp []) ?_
 rintro r rfl
 by_cases h0:x.Functions=y.Functions
 case neg=>simp [h0];try exact fun e=>h0 (by rw [e])
 simp [h0]
 refine J02 (Jqe x.Rules y.Rules) (by simp []) ?_
 rintro r rfl
 by_cases h1:x.Rules=y.Rules
 case neg=>simp [h1];try exact fun e=>h1 (by rw [e])
 simp [h1]
 cases x;cases y;simp_all
def a44:AFn:= ⟨18,[.t 4],(.seq (.reg [Zo 2 (.boxv (.t 0)),Zo 4 (.mv (.k (.int .i64 0)))]) (.seq (.reg [Zf 5 0 2,Zl 6 false 1 5,Zv 7 1,Zc 8 117 [.t 6,.t 7],Zv 1 8]) (.seq (.seq (.reg [Zv 9 1,Zo 10 (.bin .lss (.t 9) (.k (.int .i64 0)))]) (.cond (.t 10) (.seq (.reg [Zo 4 (.mv (.k (.int .i64 (-1))))]) .ret) .skip)) (.seq (.reg [Zf 11 1 2,Zl 12 false 1 11,Zv 13 1,Zc 14 80 [.t 12,.t 13],Zv 1 14]) (.seq (.seq (.reg [Zv 15 1,Zo 16 (.bin .lss (.t 15) (.k (.int .i64 0)))]) (.cond (.t 16) (.seq (.reg [Zo 4 (.mv (.k (.int .i64 (-1))))]) .ret) .skip)) (.seq (.reg [Zv 17 1,Zv 4 17]) .ret))))))⟩
theorem a44_ok:J06 Tryz.prog Tryz.f44=some a44:=by kernel_rfl
def a46:AFn:= ⟨13,[(.c 2 true 2)],(.seq (.reg [Zo 1 (.boxv (.t 0)),Zo 2 (.box [(.nil 1),(.nil 1)])]) (.seq (.reg [Zo 3 (.box [(.nil 1),(.nil 1)])]) (.seq (.reg [Zf 4 0 1,Zl 5 false 1 4,Zc 6 119 [.t 5],Zf 7 0 3,⟨no,.st 1 (.t 7) (.t 6),no⟩]) (.seq (.reg [Zf 8 1 1,Zl 9 false 1 8,Zc 10 83 [.t 9],Zf 11 1 3,⟨no,.st 1 (.t 11) (.t 10),no⟩]) (.seq (.reg [Zl 12 true 2 3,⟨no,.st 2 (.t 2) (.t 12),no⟩]) .ret)))))⟩
theorem a46_ok:J06 Tryz.prog Tryz.f46=some a46:=by kernel_rfl
def a48:AFn:= ⟨17,[.t 4],(.seq (.reg [Zo 2 (.boxv (.t 0)),Zo 3 (.boxv (.t 1)),Zo 4 (.mv (.k (.bool false)))]) (.seq (.seq (.reg [Zf 5 0 2,Zl 6 false 1 5,Zf 7 0 3,Zl 8 false 1 7,Zc 9 120 [.t 6,.t 8],Zo 10 (.un .not (.t 9))]) (.cond (.t 10) (.seq (.reg [Zo 4 (.mv (.k (.bool false)))]) .ret) .skip)) (.seq (.seq (.reg [Zf 11 1 2,Zl 12 false 1 11,Zf 13 1 3,Zl 14 false 1 13,Zc 15 87 [.t 12,.t 14],Zo 16 (.un .not (.t 15))]) (.cond (.t 16) (.seq (.reg [Zo 4 (.mv (.k (.bool false)))]) .ret) .skip)) (.seq (.reg [Zo 4 (.mv (.k (.bool true)))]) .ret))))⟩
theorem a48_ok:J06 Tryz.prog Tryz.f48=some a48:=by kernel_rfl
theorem Jgg (x:DRanking) (left:Int) (h0:0≤left∧left≤4611686018427387904):Holds Tryz.prog 44 [.agg (J0e x),i64 left] (fun r=>r=i64 (J3i left (J5g x))):=by
 refine J03 Tryz.func44 a44_ok rfl (by simp [a44]) ?_
 simp [a44,J0e]
 have e0:J5g x=J5g x:=rfl
 conv at e0=>rhs;unfold J5g
 refine J02 (Jq0 x.Levels left (by omega)) (by simp) ?_
 rintro r rfl
 by_cases h1:left - (Jas x.Levels:Nat)<0
 case pos=>
  have q:left - (J5g x:Int)<0:=by omega
  simp [J3i,h1,q]
  try first|omega|(constructor <;> intros <;> omega)
 simp [J3i,h1]
 refine J02 (Jn7 x.Edges (left - (Jas x.Levels:Nat)) (by omega)) (by simp) ?_
 rintro r rfl
 by_cases h2:(left - (Jas x.Levels:Nat)) - (Jgq x.Edges:Nat)<0
 case pos=>
  have q:left - (J5g x:Int)<0:=by omega
  simp [J3i,h2,q]
  try first|omega|(constructor <;> intros <;> omega)
 simp [J3i,h2]
 try (rw [if_neg (by omega)];omega)
theorem J4x (x:DRanking) (_hw:J5g x≤1048576):Holds Tryz.prog 46 [.agg (J0e x)] (fun r=>r = .agg (J2n x)):=by
 have hw:=_hw;unfold J5g at hw
 refine J03 Tryz.func46 a46_ok rfl (by simp [a46]) ?_
 simp [a46,J0e]
 refine J02 (Jpx x.Levels (by omega)) (by simp []) ?_
 rintro r rfl
 simp []
 refine J02 (Jnb x.Edges (by omega)) (by simp []) ?_
 rintro r rfl
 simp []
 try simp [J2n]
theorem Jgj (x y:DRanking):Holds Tryz.prog 48 [.agg (J0e x),.agg (J0e y)] (fun r=>r = .bool (decide (x=y))):=by
 refine J03 Tryz.func48 a48_ok rfl (by simp [a48]) ?_
 simp [a48,J0e]
 refine J02 (Jq5 x.Levels y.Levels) (by simp []) ?_
 rintro r rfl
 by_cases h0:x.Levels=y.Levels
 case neg=>simp [h0];try exact fun e=>h0 (by rw [e])
 simp [h0]
 refine J02 (Jo6 x.Edges y.Edges) (by simp []) ?_
 rintro r rfl
 by_cases h1:x.Edges=y.Edges
 case neg=>simp [h1];try exact fun e=>h1 (by rw [e])
 simp [h1]
 cases x;cases y;simp_all
end Go.Proofs.YtoclolkigjbcgaaGreat
