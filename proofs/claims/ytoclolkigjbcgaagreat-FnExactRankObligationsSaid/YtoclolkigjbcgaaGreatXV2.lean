/- Contracts: sums, arguments, lists of names. -/
import Derived.Test.YtoclolkigjbcgaaGreatXQ1
namespace Go.Proofs.YtoclolkigjbcgaaGreat
set_option maxRecDepth 40000
set_option maxHeartbeats 4000000
open Go Go.RowKit Go.Proofs
set_option linter.all false
def a295:AFn:= ⟨5,[.t 2],(.seq (.reg [Zo 2 (.mv (.k (.bool false)))]) (.seq (.reg [Zv 3 0,Zc 4 102 [.t 3,(.k (.int .i64 (-1000000))),(.k (.int .i64 1000000))],Zv 2 4]) .ret))⟩
theorem a295_ok:J06 Tryz.prog Tryz.f295=some a295:=by kernel_rfl
def a318:AFn:= ⟨5,[.t 2],(.seq (.reg [Zo 2 (.mv (.k (.bool false)))]) (.seq (.reg [Zv 3 0,Zc 4 183 [.t 3,(.k (.int .i64 (-1000000))),(.k (.int .i64 1000000))],Zv 2 4]) .ret))⟩
theorem a318_ok:J06 Tryz.prog Tryz.f318=some a318:=by kernel_rfl
def a141:AFn:= ⟨18,[.t 2],(.seq (.reg [Zo 2 (.mv (.k (.bool false)))]) (.seq (.seq (.reg [Zv 5 0,Zo 6 (.len false (.t 5)),Zo 7 (.mv (.k (.int .i64 0)))]) (.blk 0 (.loop (.seq (.reg [Zo 8 (.bin .lss (.t 7) (.t 6))]) (.seq (.cond (.t 8) .skip (.exit 0)) (.seq (.blk 1 (.seq (.reg [Zv 9 7,Zo 10 (.ixa 1 (.t 5) (.t 7)),Zl 11 false 1 10,Zv 3 9,Zv 4 11]) (.seq (.reg [Zv 12 0,Zv 13 3,Zo 14 (.slc false 1 (.t 12) Option.none (some (.t 13))),Zv 15 4,Zc 16 72 [.t 14,.t 15]]) (.cond (.t 16) (.seq (.reg [Zo 2 (.mv (.k (.bool false)))]) .ret) .skip)))) (.reg [Zo 17 (.bin .add (.t 7) (.k (.int .i64 1))),Zv 7 17]))))))) (.seq (.reg [Zo 2 (.mv (.k (.bool true)))]) .ret)))⟩
theorem a141_ok:J06 Tryz.prog Tryz.f141=some a141:=by kernel_rfl
def a218:AFn:= ⟨18,[.t 2],(.seq (.reg [Zo 2 (.mv (.k (.bool false)))]) (.seq (.seq (.reg [Zo 3 (.mv (.k (.int .i64 0)))]) (.blk 0 (.loop (.seq (.seq (.reg [Zv 4 3,Zv 5 0,Zo 6 (.len false (.t 5)),Zo 7 (.bin .lss (.t 4) (.t 6))]) (.cond (.t 7) .skip (.exit 0))) (.seq (.blk 1 (.seq (.draw (.op (Zv 10 0) (.op (Zv 11 3) (.op (Zo 12 (.slc false 1 (.t 10) Option.none (some (.t 11)))) (.op (Zv 13 0) (.op (Zv 14 3) (.op (Zo 15 (.ixa 1 (.t 13) (.t 14))) (.op (Zl 16 false 1 15) (.op (Zc 17 224 [.t 12,.t 16]) .fin))))))))) (.cond (.t 17) (.seq (.reg [Zo 2 (.mv (.k (.bool false)))]) .ret) .skip))) (.reg [Zv 8 3,Zo 9 (.bin .add (.t 8) (.k (.int .i64 1))),Zv 3 9])))))) (.seq (.reg [Zo 2 (.mv (.k (.bool true)))]) .ret)))⟩
theorem a218_ok:J06 Tryz.prog Tryz.f218=some a218:=by kernel_rfl
def a296:AFn:= ⟨8,[.t 3],(.seq (.reg [Zo 3 (.mv (.k (.bool false)))]) (.seq (.reg [Zl 4 false 1 1,Zv 5 0,Zc 6 72 [.t 4,.t 5],Zo 7 (.un .not (.t 6)),Zv 3 7]) .ret))⟩
theorem a296_ok:J06 Tryz.prog Tryz.f296=some a296:=by kernel_rfl
def a238:AFn:= ⟨9,[.t 4],(.seq (.reg [Zo 3 (.boxv (.t 1)),Zo 4 (.mv (.k (.bool false)))]) (.seq (.reg [Zv 5 0,Zo 6 (.mkf (.func 296) [] [.t 3]),Zc 7 69 [.t 5,.t 6],Zo 8 (.un .not (.t 7)),Zv 4 8]) .ret))⟩
theorem a238_ok:J06 Tryz.prog Tryz.f238=some a238:=by kernel_rfl
def a137:AFn:= ⟨29,[.t 4],(.seq (.reg [Zo 4 (.mv (.k (.nil 1)))]) (.seq (.reg [Zo 7 (.bsl 1 []),Zv 5 7]) (.seq (.seq (.reg [Zo 6 (.mv (.k (.int .i64 0)))]) (.blk 0 (.loop (.seq (.seq (.reg [Zv 8 6,Zv 9 0,Zo 10 (.len false (.t 9)),Zo 11 (.bin .lss (.t 8) (.t 10))]) (.cond (.t 11) .skip (.exit 0))) (.seq (.blk 1 (.seq (.reg [Zv 14 1,Zv 15 0,Zv 16 6,Zo 17 (.ixa 1 (.t 15) (.t 16)),Zl 18 false 1 17,Zc 19 224 [.t 14,.t 18],Zo 20 (.un .not (.t 19))]) (.cond (.t 20) (.reg [Zv 21 5,Zv 22 0,Zv 23 6,Zo 24 (.ixa 1 (.t 22) (.t 23)),Zl 25 false 1 24,Zo 26 (.bsl 1 [.t 25]),Zo 27 (.app 16 1 (.t 21) (.t 26)),Zv 5 27]) .skip))) (.reg [Zv 12 6,Zo 13 (.bin .add (.t 12) (.k (.int .i64 1))),Zv 6 13])))))) (.seq (.reg [Zv 28 5,Zv 4 28]) .ret))))⟩
theorem a137_ok:J06 Tryz.prog Tryz.f137=some a137:=by kernel_rfl
theorem a69_ok:J06 Tryz.prog Tryz.f69=some (J3c 150):=by kernel_rfl
theorem a150_ok:J06 Tryz.prog Tryz.f150=some (J4a false 1):=by kernel_rfl
theorem a297_ok:J06 Tryz.prog Tryz.f297=some (J3c 323):=by kernel_rfl
theorem a323_ok:J06 Tryz.prog Tryz.f323=some (J4a true 2):=by kernel_rfl
theorem Jj2 {P:Program}{s:Env}{h:Heap}{n:Nat}{Q:Fin}{ks:List Kt}{c:Nat}{e:AC}(hc:s c = .bool false) (h1:J2u P ks .normal s h n Q):rC P (.cond (.t c) e .skip) ks s h n Q:=by
 rw [Jb9]
 have:ev s (.t c) = .bool false:=hc
 rw [this]
 simpa using h1
theorem Jo3 (n:Int):Holds Tryz.prog 295 [i64 n] (fun r=>r = .bool (Jpp n)):=by
 refine J03 Tryz.func295 a295_ok rfl (by simp [a295]) ?_
 simp [a295]
 first|refine J01 (J24 n (-1000000) 1000000) (by first|simp;done|rfl) ?_|refine J02 (J24 n (-1000000) 1000000) (by first|simp;done|rfl) ?_
 rintro r rfl
 simp
 rfl
theorem Jje (n:Int):Holds Tryz.prog 318 [i64 n] (fun r=>r = .bool (Jpp n)):=by
 refine J03 Tryz.func318 a318_ok rfl (by simp [a318]) ?_
 simp [a318]
 first|refine J01 (J5m n (-1000000) 1000000) (by first|simp;done|rfl) ?_|refine J02 (J5m n (-1000000) 1000000) (by first|simp;done|rfl) ?_
 rintro r rfl
 simp
 rfl
theorem J73 (l:List Str):Holds Tryz.prog 141 [.sl 1 (J0a l)] (fun r=>r = .bool (J8k l)):=by
 refine J1l Tryz.func141 rfl rfl fun hl => ?_
 simp at hl
 refine J03 Tryz.func141 a141_ok rfl (by simp [a141]) ?_
 simp [a141]
 intro _
 unfold J8k
 generalize hB:J43 [] l=B
 refine J60 [0,5,6] 7 l.length (fun i _=>J43 (l.take i) (l.drop i)=B) hl (by simp) (by simpa using hB) ?_ ?_
 ·rintro i st h R hi hg hk s7 hw hJ hh hR hret _
  simp at hk
  rw [List.drop_eq_getElem_cons hi] at hJ
  simp only [J43] at hJ
  rw [List.take_append_getElem hi] at hJ
  simp [hk,s7,hi,hg,J4p,asI]
  refine ⟨by omega,?_⟩
  have ht:List.take i (J0a l)=J0a (l.take i):=by simp [J0a]
  first|refine J01 (J4k (l.take i) (l[i]'hi)) (by first|simp [ht];done|rfl) ?_|refine J02 (J4k (l.take i) (l[i]'hi)) (by first|simp [ht];done|rfl) ?_
  rintro r rfl
  cases hc:J2p (l.take i) l[i]
  ·rw [hc] at hJ
   simp at hJ
   simp [hk,s7,hw]
   exact hR _ (by simp [hk]) (by simp) hJ
  ·rw [hc] at hJ
   simp at hJ
   simp
   refine hret _ _ _ ?_
   simp [hJ]
 ·rintro st h R hk s7 hJ hh _ hX
  simp at hk
  rw [List.drop_eq_nil_of_le (by omega)] at hJ
  simp [hk,s7]
  refine hX _ _ ?_
  simp [←hJ,J43]
theorem J4m (l:List Str):Holds Tryz.prog 218 [.sl 1 (J0a l)] (fun r=>r = .bool (J8k l)):=by
 refine J1l Tryz.func218 rfl rfl fun hl => ?_
 simp at hl
 refine J03 Tryz.func218 a218_ok rfl (by simp [a218]) ?_
 simp [a218]
 unfold J8k
 generalize hB:J43 [] l=B
 refine J60 [0] 3 l.length (fun i _=>J43 (l.take i) (l.drop i)=B) hl (by simp) (by simpa using hB) ?_ ?_
 ·rintro i st h R hi hg hk s3 hw hJ hh hR hret _
  simp at hk
  rw [List.drop_eq_getElem_cons hi] at hJ
  simp only [J43] at hJ
  rw [List.take_append_getElem hi] at hJ
  simp [hk,s3,hi,hg,J4p,asI]
  intro _
  refine ⟨by omega,?_⟩
  have ht:List.take i (J0a l)=J0a (l.take i):=by simp [J0a]
  first|refine J01 (J9z (l.take i) (l[i]'hi)) (by first|simp [ht];done|rfl) ?_|refine J02 (J9z (l.take i) (l[i]'hi)) (by first|simp [ht];done|rfl) ?_
  rintro r rfl
  cases hc:J2p (l.take i) l[i]
  ·rw [hc] at hJ
   simp at hJ
   simp [hk,s3,hw]
   exact hR _ (by simp [hk]) (by simp) hJ
  ·rw [hc] at hJ
   simp at hJ
   simp
   refine hret _ _ _ ?_
   simp [hJ]
 ·rintro st h R hk s3 hJ hh _ hX
  simp at hk
  rw [List.drop_eq_nil_of_le (by omega)] at hJ
  simp [hk,s3]
  intro _
  refine hX _ _ ?_
  simp [←hJ,J43]
theorem Jty (l scope:List Str):(l.any fun s => !J2p scope s) = !Jpq l scope:=by unfold Jpq;rw [Jaz]
theorem Jp4 {h:Heap}{n id:Nat}{scope:List Str}(x:Str) (hv:h id=some ⟨true,1,[[.sl 1 (J0a scope)]]⟩) (hid:id<n):Jgt Tryz.prog 296 [] [.ptr id 0 0] h n (.str x) (.bool (!J2p scope x)):=by
 intro K hK
 refine J9x ?_
 refine J17 Tryz.func296 a296_ok rfl (by simp [a296]) ?_
 have n1:¬id=n:=by omega
 simp [a296,hv,n1]
 first|refine J01 (J4k scope x) (by first|simp;done|rfl) ?_|refine J02 (J4k scope x) (by first|simp;done|rfl) ?_
 rintro r rfl
 simp [Jeq,hK]
theorem J9g (l scope:List Str):Holds Tryz.prog 238 [.sl 1 (J0a l),.sl 1 (J0a scope)] (fun r=>r = .bool (Jpq l scope)):=by
 refine J03 Tryz.func238 a238_ok rfl (by simp [a238]) ?_
 simp [a238]
 refine J1t (p:=fun s => !J2p scope s) (rowOf:=fun s=>[.str s]) (eltOf:=fun s => .str s) Tryz.func69 a69_ok rfl Tryz.func150 a150_ok rfl (fun x=>by simp) l
  (fun x _=>Jp4 (scope:=scope) x (by simp) (by omega)) ?_
 rw [Jty]
 simp
theorem Jkq {l scope:List Str}{i:Nat}(hi:i<l.length):J76 (l.drop i) scope=(if J2p scope l[i] then [] else [l[i]])++J76 (l.drop (i+1)) scope:=by
 rw [List.drop_eq_getElem_cons hi]
 unfold J76
 rw [List.filter_cons]
 cases J2p scope l[i] <;> simp
theorem Jh7 (l scope:List Str) (hl:l.length≤1048576):Holds Tryz.prog 137 [.sl 1 (J0a l),.sl 1 (J0a scope)] (fun r=>r = .us 1 (J0a (J76 l scope))):=by
 refine J03 Tryz.func137 a137_ok rfl (by simp [a137]) ?_
 simp [a137]
 generalize hB:J76 l scope=B
 have hBl:B.length≤l.length:=by rw [←hB];exact List.length_filter_le _ _
 refine J0l [0,1] 6 l.length (fun i s h n=>∃ (acc:List Str) (id:Nat),s 5 = .ref id 0 acc.length∧h id=some ⟨false,1,J0a acc⟩∧id<n∧acc++J76 (l.drop i) scope=B)
  (by unfold LIM;omega) (by simp) ⟨[],0,by simp,by simp [J0a],by simp,by simpa using hB⟩ ?_ ?_
 ·rintro i st h n R hi hg hk s6 hw ⟨acc,id,s5,eid,hidn,hJ⟩ hR _ _
  simp at hk
  rw [Jkq hi] at hJ
  have hal:=congrArg List.length hJ
  simp only [List.length_append] at hal
  simp [hk,s6,hi,hg]
  intro _
  first|refine J01 (J9z scope (l[i]'hi)) (by first|simp;done|rfl) ?_|refine J02 (J9z scope (l[i]'hi)) (by first|simp;done|rfl) ?_
  rintro r rfl
  have n0:¬id=n:=by omega
  have n1:¬id=n+1:=by omega
  have n2:¬n+1=id:=by omega
  have n3:¬n=id:=by omega
  cases hc:J2p scope l[i]
  ·rw [hc] at hJ hal
   simp at hJ hal
   simp [hk,s6,hi,hg,s5,eid,n0,n1,n2,n3,hw]
   refine ⟨by unfold LIM;omega,?_⟩
   exact hR _ _ _ (by simp [hk]) (by simp) ⟨acc++[l[i]],n+1,by simp,by simp [J0a],by omega,by simpa using hJ⟩
  ·rw [hc] at hJ
   simp at hJ
   simp [hk,s6,hi,hg,hw]
   exact hR _ _ _ (by simp [hk]) (by simp) ⟨acc,id,by simp [s5],by simp [eid],by omega,hJ⟩
 ·rintro st h n R hk s6 ⟨acc,id,s5,eid,hidn,hJ⟩ hret hX
  simp at hk
  rw [List.drop_eq_nil_of_le (by omega)] at hJ
  simp [J76] at hJ
  subst hJ
  simp [hk,s6]
  intro _
  refine hX _ _ _ _ ?_
  simp [s5,eid]
def a237:AFn:= ⟨55,[.t 2],(.seq (.reg [Zo 1 (.boxv (.t 0)),Zo 2 (.mv (.k (.bool false)))]) (.seq (.seq (.reg [Zf 5 0 1,Zl 6 false 1 5,Zc 7 295 [.t 6],Zo 8 (.un .not (.t 7)),Zv 9 8,⟨some 10,.fld 1 (.t 1),(some (9,false))⟩,⟨some 11,.ld false 1 (.t 10),(some (9,false))⟩,⟨some 12,.len false (.t 11),(some (9,false))⟩,⟨some 13,.bin .gtr (.t 12) (.k (.int .i64 4)),(some (9,false))⟩,Zo 14 (.pick (.t 9) (.k (.bool true)) (.t 13))]) (.cond (.t 14) (.seq (.reg [Zo 2 (.mv (.k (.bool false)))]) .ret) .skip)) (.seq (.seq (.reg [Zf 15 1 1,Zl 16 false 1 15,Zo 17 (.len false (.t 16)),Zo 18 (.mv (.k (.int .i64 0)))]) (.blk 0 (.loop (.seq (.reg [Zo 19 (.bin .lss (.t 18) (.t 17))]) (.seq (.cond (.t 19) .skip (.exit 0)) (.seq (.blk 1 (.seq (.reg [Zv 20 18,Zo 21 (.ixa 2 (.t 16) (.t 18)),Zl 22 true 2 21,Zo 4 (.box [(.int .i64 0),(.str [])]),Zv 3 20,⟨no,.st 2 (.t 4) (.t 22),no⟩]) (.seq (.draw (.op (Zf 23 0 4) (.op (Zl 24 false 1 23) (.op (Zo 25 (.bin .eql (.t 24) (.k (.int .i64 0)))) (.op (Zv 26 25) (.op ⟨some 27,.fld 0 (.t 4),(some (26,false))⟩ (.op ⟨some 28,.ld false 1 (.t 27),(some (26,false))⟩ (.op ⟨some 29,.call (.k (.fn (.func 295) [] [])) [.t 28],(some (26,false))⟩ (.op ⟨some 30,.un .not (.t 29),(some (26,false))⟩ (.op (Zo 31 (.pick (.t 26) (.k (.bool true)) (.t 30))) (.op (Zv 32 31) (.op ⟨some 33,.fld 1 (.t 4),(some (32,false))⟩ (.op ⟨some 34,.ld false 1 (.t 33),(some (32,false))⟩ (.op ⟨some 35,.call (.k (.fn (.func 140) [] [])) [.t 34],(some (32,false))⟩ (.op ⟨some 36,.un .not (.t 35),(some (32,false))⟩ (.op (Zo 37 (.pick (.t 32) (.k (.bool true)) (.t 36))) (.op (Zv 38 37) (.op ⟨some 39,.mv (.t 3),(some (38,false))⟩ (.op ⟨some 40,.bin .gtr (.t 39) (.k (.int .i64 0)),(some (38,false))⟩ (.op ⟨some 41,.mv (.t 40),(some (38,false))⟩ (.op ⟨some 42,.fld 1 (.t 1),(some (41,true))⟩ (.op ⟨some 43,.ld false 1 (.t 42),(some (41,true))⟩ (.op ⟨some 44,.mv (.t 3),(some (41,true))⟩ (.op ⟨some 45,.bin .sub (.t 44) (.k (.int .i64 1)),(some (41,true))⟩ (.op ⟨some 46,.ixa 2 (.t 43) (.t 45),(some (41,true))⟩ (.op ⟨some 47,.fld 1 (.t 46),(some (41,true))⟩ (.op ⟨some 48,.ld false 1 (.t 47),(some (41,true))⟩ (.op ⟨some 49,.fld 1 (.t 4),(some (41,true))⟩ (.op ⟨some 50,.ld false 1 (.t 49),(some (41,true))⟩ (.op ⟨some 51,.bin .geq (.t 48) (.t 50),(some (41,true))⟩ (.op ⟨some 52,.pick (.t 41) (.t 51) (.k (.bool false)),(some (38,false))⟩ (.op (Zo 53 (.pick (.t 38) (.k (.bool true)) (.t 52))) .fin)))))))))))))))))))))))))))))))) (.cond (.t 53) (.seq (.reg [Zo 2 (.mv (.k (.bool false)))]) .ret) .skip)))) (.reg [Zo 54 (.bin .add (.t 18) (.k (.int .i64 1))),Zv 18 54]))))))) (.seq (.reg [Zo 2 (.mv (.k (.bool true)))]) .ret))))⟩
theorem a237_ok:J06 Tryz.prog Tryz.f237=some a237:=by kernel_rfl
def Je6 (l:List DTerm) (i:Nat):Option Str:=if i=0 then Option.none else (l[i - 1]?).map (·.Name)
theorem Jad {l:List DTerm}{i:Nat}(hi:i<l.length):Je6 l (i+1)=some (l[i]).Name:=by simp [Je6,hi]
set_option maxHeartbeats 1000000 in
theorem J7r (x:DSum):Holds Tryz.prog 237 [.agg (J1j x)] (fun r=>r = .bool (J98 x)):=by
 refine J03 Tryz.func237 a237_ok rfl (by simp [a237]) ?_
 simp [a237,J1j]
 first|refine J01 (Jo3 x.Const) (by first|simp;done|rfl) ?_|refine J02 (Jo3 x.Const) (by first|simp;done|rfl) ?_
 rintro r rfl
 unfold J98
 cases h1:Jpp x.Const
 ·simp
 simp
 intro hl
 have hd:decide (x.Terms.length≤4)=decide ((x.Terms.length:Int)≤4):=by rw [decide_eq_decide];omega
 rw [hd]
 by_cases h2:(x.Terms.length:Int)≤4
 case neg=>
  have h2n:¬x.Terms.length≤4:=by omega
  simp [h2,h2n,Int.not_le.1 h2]
 simp [h2,Int.not_lt.2 h2]
 intro _
 generalize hB:J6w Option.none x.Terms=B
 refine J0l [1,16,17] 18 x.Terms.length (fun i s h n=>0<n∧h 0=some ⟨true,2,[[i64 x.Const,.sl 2 (x.Terms.map J16)]]⟩∧J6w (Je6 x.Terms i) (x.Terms.drop i)=B) hl (by simp) ⟨by simp,by simp,by simpa [Je6] using hB⟩ ?_ ?_
 ·rintro i st h n R hi hg hk s18 hw ⟨hn,e0,hJ⟩ hR hret _
  simp at hk
  rw [List.drop_eq_getElem_cons hi] at hJ
  simp only [J6w] at hJ
  have z0:¬0=n:=by omega
  refine J0i [1,16,17,18] (fun s=>s 19 = .bool true) (by simp [hk,s18,hi]) ?_
  intro st1 hk1 s19
  simp at hk1
  refine J3x s19 (J0b (J1h ?_))
  refine J1n [1,16,17,18] (fun s h' n'=>s 3 = .int .i64 i∧s 4 = .ptr n 0 0∧n'=n+1∧h' n=some ⟨true,2,[J16 x.Terms[i]]⟩∧h' 0=some ⟨true,2,[[i64 x.Const,.sl 2 (x.Terms.map J16)]]⟩) (by simp [hk,hk1,s18,hi,J16,e0,z0]) ?_
  rintro st2 h2 n2 hk2 ⟨s3,s4,rfl,en,e0'⟩
  simp at hk2
  obtain ⟨bad,hbad⟩:∃ bad,bad=(((x.Terms[i]).Coeff==0 || !Jpp (x.Terms[i]).Coeff || !J2o (x.Terms[i]).Name)||(match Je6 x.Terms i with|Option.none=>false|some q => !(Op.bytesLess q (x.Terms[i]).Name))):=⟨_,rfl⟩
  refine J0i [1,16,17,18] (fun s=>s 53 = .bool bad) ?_ ?_
  ·subst hbad
   by_cases c0:(x.Terms[i]).Coeff=0
   ·simp [hk,hk1,hk2,s18,hi,J16,e0',en,z0,s3,s4,c0]
   simp [hk,hk1,hk2,s18,hi,J16,e0',en,z0,s3,s4,c0]
   first|refine J01 (Jo3 (x.Terms[i]'hi).Coeff) (by first|simp;done|rfl) ?_|refine J02 (Jo3 (x.Terms[i]'hi).Coeff) (by first|simp;done|rfl) ?_
   rintro r rfl
   cases c1:Jpp (x.Terms[i]).Coeff
   ·simp [hk,hk1,hk2,s18,hi,J16,e0',en,z0,s3,s4]
   simp [hk,hk1,hk2,s18,hi,J16,e0',en,z0,s3,s4]
   first|refine J01 (J4y (x.Terms[i]'hi).Name) (by first|simp;done|rfl) ?_|refine J02 (J4y (x.Terms[i]'hi).Name) (by first|simp;done|rfl) ?_
   rintro r rfl
   cases c2:J2o (x.Terms[i]).Name
   ·simp [hk,hk1,hk2,s18,hi,J16,e0',en,z0,s3,s4]
   cases i with
   | zero=>simp [hk,hk1,hk2,s18,hi,J16,e0',en,z0,s3,s4,Je6,c0,c1,c2]
   | succ i=>
    have hi':i<x.Terms.length:=by omega
    have hwr:IntKind.i64.wrap (i:Int)=i:=J0r (by unfold LIM at hl;omega)
    simp [hk,hk1,hk2,s18,hi,hi',J16,e0',en,z0,s3,s4,Jad hi',hwr,c0,c1,c2]
  intro st3 hk3 s53
  simp at hk3
  have hJ':(!bad&&J6w (some (x.Terms[i]).Name) (x.Terms.drop (i+1)))=B:=by
   rw [←hJ,hbad]
   cases ((x.Terms[i]).Coeff==0) <;> cases (Jpp (x.Terms[i]).Coeff) <;> cases (J2o (x.Terms[i]).Name) <;> cases (Je6 x.Terms i) <;> simp
  rw [←Jad hi] at hJ'
  clear hJ hbad
  cases bad
  ·simp [hk,hk1,hk2,hk3,s18,s53,hw]
   exact hR _ _ _ (by simp [hk,hk1,hk2,hk3]) (by simp) ⟨by omega,by simp [e0'],by simpa using hJ'⟩
  ·simp [hk,hk1,hk2,hk3,s18,s53,hw]
   simp at hJ'
   refine hret _ _ _ ?_
   simp [hJ']
 ·rintro st h n R hk s18 ⟨hn,e0,hJ⟩ hret hX
  simp at hk
  rw [List.drop_eq_nil_of_le (by omega)] at hJ
  refine J0i [1,16,17,18] (fun s=>s 19 = .bool false) (by simp [hk,s18]) ?_
  intro st1 hk1 s19
  simp at hk1
  refine J3s s19 ?_
  simp
  refine hX _ _ _ _ ?_
  simp [←hJ,J6w]
def a286:AFn:= ⟨62,[.t 2],(.seq (.reg [Zo 1 (.boxv (.t 0)),Zo 2 (.mv (.k (.bool false)))]) (.seq (.seq (.reg [Zo 3 (.mv (.k (.int .i64 0)))]) (.blk 0 (.loop (.seq (.seq (.reg [Zv 5 3,Zf 6 1 1,Zl 7 false 1 6,Zo 8 (.len false (.t 7)),Zo 9 (.bin .lss (.t 5) (.t 8))]) (.cond (.t 9) .skip (.exit 0))) (.seq (.blk 1 (.seq (.reg [Zf 12 1 1,Zl 13 false 1 12,Zv 14 3,Zo 15 (.ixa 2 (.t 13) (.t 14)),Zl 16 true 2 15,Zo 4 (.box [(.int .i64 0),(.str [])]),⟨no,.st 2 (.t 4) (.t 16),no⟩]) (.seq (.draw (.op (Zf 17 0 4) (.op (Zl 18 false 1 17) (.op (Zo 19 (.bin .eql (.t 18) (.k (.int .i64 0)))) (.op (Zv 20 19) (.op ⟨some 21,.fld 0 (.t 4),(some (20,false))⟩ (.op ⟨some 22,.ld false 1 (.t 21),(some (20,false))⟩ (.op ⟨some 23,.call (.k (.fn (.func 318) [] [])) [.t 22],(some (20,false))⟩ (.op ⟨some 24,.un .not (.t 23),(some (20,false))⟩ (.op (Zo 25 (.pick (.t 20) (.k (.bool true)) (.t 24))) (.op (Zv 26 25) (.op ⟨some 27,.fld 1 (.t 4),(some (26,false))⟩ (.op ⟨some 28,.ld false 1 (.t 27),(some (26,false))⟩ (.op ⟨some 29,.call (.k (.fn (.func 285) [] [])) [.t 28],(some (26,false))⟩ (.op ⟨some 30,.un .not (.t 29),(some (26,false))⟩ (.op (Zo 31 (.pick (.t 26) (.k (.bool true)) (.t 30))) (.op (Zv 32 31) (.op ⟨some 33,.fld 1 (.t 4),(some (32,false))⟩ (.op ⟨some 34,.ld false 1 (.t 33),(some (32,false))⟩ (.op ⟨some 35,.call (.k (.fn (.func 260) [] [])) [.t 34],(some (32,false))⟩ (.op (Zo 36 (.pick (.t 32) (.k (.bool true)) (.t 35))) (.op (Zv 37 36) (.op ⟨some 38,.mv (.t 3),(some (37,false))⟩ (.op ⟨some 39,.bin .gtr (.t 38) (.k (.int .i64 0)),(some (37,false))⟩ (.op ⟨some 40,.mv (.t 39),(some (37,false))⟩ (.op ⟨some 41,.fld 1 (.t 1),(some (40,true))⟩ (.op ⟨some 42,.ld false 1 (.t 41),(some (40,true))⟩ (.op ⟨some 43,.mv (.t 3),(some (40,true))⟩ (.op ⟨some 44,.bin .sub (.t 43) (.k (.int .i64 1)),(some (40,true))⟩ (.op ⟨some 45,.ixa 2 (.t 42) (.t 44),(some (40,true))⟩ (.op ⟨some 46,.fld 1 (.t 45),(some (40,true))⟩ (.op ⟨some 47,.ld false 1 (.t 46),(some (40,true))⟩ (.op ⟨some 48,.fld 1 (.t 4),(some (40,true))⟩ (.op ⟨some 49,.ld false 1 (.t 48),(some (40,true))⟩ (.op ⟨some 50,.bin .geq (.t 47) (.t 49),(some (40,true))⟩ (.op ⟨some 51,.pick (.t 40) (.t 50) (.k (.bool false)),(some (37,false))⟩ (.op (Zo 52 (.pick (.t 37) (.k (.bool true)) (.t 51))) .fin))))))))))))))))))))))))))))))))))))) (.cond (.t 52) (.seq (.reg [Zo 2 (.mv (.k (.bool false)))]) .ret) .skip)))) (.reg [Zv 10 3,Zo 11 (.bin .add (.t 10) (.k (.int .i64 1))),Zv 3 11])))))) (.seq (.reg [Zf 53 0 1,Zl 54 false 1 53,Zc 55 318 [.t 54],Zv 56 55,⟨some 57,.fld 1 (.t 1),(some (56,true))⟩,⟨some 58,.ld false 1 (.t 57),(some (56,true))⟩,⟨some 59,.len false (.t 58),(some (56,true))⟩,⟨some 60,.bin .leq (.t 59) (.k (.int .i64 4)),(some (56,true))⟩,Zo 61 (.pick (.t 56) (.t 60) (.k (.bool false))),Zv 2 61]) .ret)))⟩
theorem a286_ok:J06 Tryz.prog Tryz.f286=some a286:=by kernel_rfl
set_option maxHeartbeats 1000000 in
theorem J71 (x:DSum):Holds Tryz.prog 286 [.agg (J1j x)] (fun r=>r = .bool (J98 x)):=by
 refine J1l Tryz.func286 rfl rfl fun hl => ?_
 simp [J1j] at hl
 refine J03 Tryz.func286 a286_ok rfl (by simp [a286]) ?_
 simp [a286,J1j]
 unfold J98
 generalize hB:J6w Option.none x.Terms=B
 refine J0l [1] 3 x.Terms.length (fun i s h n=>0<n∧h 0=some ⟨true,2,[[i64 x.Const,.sl 2 (x.Terms.map J16)]]⟩∧J6w (Je6 x.Terms i) (x.Terms.drop i)=B) hl (by simp) ⟨by simp,by simp,by simpa [Je6] using hB⟩ ?_ ?_
 ·rintro i st h n R hi hg hk s3x hw ⟨hn,e0,hJ⟩ hR hret _
  simp at hk
  rw [List.drop_eq_getElem_cons hi] at hJ
  simp only [J6w] at hJ
  have z0:¬0=n:=by omega
  refine J0b ?_
  refine J0i [1,3] (fun s=>s 9 = .bool true) (by simp [hk,s3x,hi,e0]) ?_
  intro st1 hk1 s9
  simp at hk1
  refine J25 s9 (J0b (J1h ?_))
  refine J1n [1,3] (fun s h' n'=>s 4 = .ptr n 0 0∧n'=n+1∧h' n=some ⟨true,2,[J16 x.Terms[i]]⟩∧h' 0=some ⟨true,2,[[i64 x.Const,.sl 2 (x.Terms.map J16)]]⟩) (by simp [hk,hk1,s3x,hi,J16,e0,z0]) ?_
  rintro st2 h2 n2 hk2 ⟨s4,rfl,en,e0'⟩
  simp at hk2
  obtain ⟨bad,hbad⟩:∃ bad,bad=(((x.Terms[i]).Coeff==0 || !Jpp (x.Terms[i]).Coeff || !J2o (x.Terms[i]).Name)||(match Je6 x.Terms i with|Option.none=>false|some q => !(Op.bytesLess q (x.Terms[i]).Name))):=⟨_,rfl⟩
  refine J0i [1,3] (fun s=>s 52 = .bool bad) ?_ ?_
  ·subst hbad
   by_cases c0:(x.Terms[i]).Coeff=0
   ·simp (maxSteps:=1000000) [hk,hk1,hk2,s3x,hi,J16,e0',en,z0,s4,c0]
   simp (maxSteps:=1000000) [hk,hk1,hk2,s3x,hi,J16,e0',en,z0,s4,c0]
   first|refine J01 (Jje (x.Terms[i]'hi).Coeff) (by first|simp;done|rfl) ?_|refine J02 (Jje (x.Terms[i]'hi).Coeff) (by first|simp;done|rfl) ?_
   rintro r rfl
   cases c1:Jpp (x.Terms[i]).Coeff
   ·simp (maxSteps:=1000000) [hk,hk1,hk2,s3x,hi,J16,e0',en,z0,s4]
   simp (maxSteps:=1000000) [hk,hk1,hk2,s3x,hi,J16,e0',en,z0,s4]
   first|refine J01 (J3e (x.Terms[i]'hi).Name) (by first|simp;done|rfl) ?_|refine J02 (J3e (x.Terms[i]'hi).Name) (by first|simp;done|rfl) ?_
   rintro r rfl
   unfold J2o
   cases c2:J3v (x.Terms[i]).Name
   ·simp (maxSteps:=1000000) [hk,hk1,hk2,s3x,hi,J16,e0',en,z0,s4]
   simp (maxSteps:=1000000) [hk,hk1,hk2,s3x,hi,J16,e0',en,z0,s4]
   first|refine J01 (J1c (x.Terms[i]'hi).Name) (by first|simp;done|rfl) ?_|refine J02 (J1c (x.Terms[i]'hi).Name) (by first|simp;done|rfl) ?_
   rintro r rfl
   cases c3:J0n (x.Terms[i]).Name
   case true=>simp (maxSteps:=1000000) [hk,hk1,hk2,s3x,hi,J16,e0',en,z0,s4]
   cases i with
   | zero=>simp (maxSteps:=1000000) [hk,hk1,hk2,s3x,hi,J16,e0',en,z0,s4,Je6,c0,c1,c2]
   | succ i=>
    have hi':i<x.Terms.length:=by omega
    have hwr:IntKind.i64.wrap (i:Int)=i:=J0r (by unfold LIM at hl;omega)
    simp (maxSteps:=1000000) [hk,hk1,hk2,s3x,hi,hi',J16,e0',en,z0,s4,Jad hi',hwr,c0,c1,c2]
  intro st3 hk3 s52
  simp at hk3
  have hJ':(!bad&&J6w (some (x.Terms[i]).Name) (x.Terms.drop (i+1)))=B:=by
   rw [←hJ,hbad]
   cases ((x.Terms[i]).Coeff==0) <;> cases (Jpp (x.Terms[i]).Coeff) <;> cases (J2o (x.Terms[i]).Name) <;> cases (Je6 x.Terms i) <;> simp
  rw [←Jad hi] at hJ'
  clear hJ hbad
  cases bad
  ·simp (maxSteps:=1000000) [hk,hk1,hk2,hk3,s3x,s52,hw]
   exact hR _ _ _ (by simp [hk,hk1,hk2,hk3]) (by simp) ⟨by omega,by simp [e0'],by simpa using hJ'⟩
  ·simp (maxSteps:=1000000) [hk,hk1,hk2,hk3,s3x,s52,hw]
   simp at hJ'
   refine hret _ _ _ ?_
   simp [hJ']
 ·rintro st h n R hk s3 ⟨hn,e0,hJ⟩ hret hX
  simp at hk
  rw [List.drop_eq_nil_of_le (by omega)] at hJ
  refine J0b ?_
  refine J0i [1,3] (fun s=>s 9 = .bool false) (by simp [hk,s3,e0]) ?_
  intro st1 hk1 s9
  simp at hk1
  refine J29 s9 ?_
  simp
  refine hX _ _ _ _ ?_
  simp [J6w] at hJ
  subst hJ
  simp [hk,hk1,e0]
  first|refine J01 (Jje x.Const) (by first|simp;done|rfl) ?_|refine J02 (Jje x.Const) (by first|simp;done|rfl) ?_
  rintro r rfl
  cases h1:Jpp x.Const
  ·simp
  have hd:decide (x.Terms.length≤4)=decide ((x.Terms.length:Int)≤4):=by rw [decide_eq_decide];omega
  simp [hk,hk1,e0,hd]
def a298:AFn:= ⟨6,[.t 2],(.seq (.reg [Zo 1 (.boxv (.t 0)),Zo 2 (.mv (.k (.bool false)))]) (.seq (.reg [Zl 3 true 2 1,Zc 4 237 [.t 3],Zo 5 (.un .not (.t 4)),Zv 2 5]) .ret))⟩
theorem a298_ok:J06 Tryz.prog Tryz.f298=some a298:=by kernel_rfl
def a242:AFn:= ⟨32,[.t 2],(.seq (.reg [Zo 1 (.boxv (.t 0)),Zo 2 (.mv (.k (.bool false)))]) (.seq (.seq (.reg [Zf 3 1 1,Zl 4 false 1 3,Zc 5 297 [.t 4,(.k (.fn (.func 298) [] []))]]) (.cond (.t 5) (.seq (.reg [Zo 2 (.mv (.k (.bool false)))]) .ret) .skip)) (.seq (.seq (.reg [Zf 6 0 1,Zl 7 false 1 6,Zo 8 (.un .not (.t 7))]) (.cond (.t 8) (.seq (.reg [Zf 9 1 1,Zl 10 false 1 9,Zo 11 (.len false (.t 10)),Zo 12 (.bin .eql (.t 11) (.k (.int .i64 1))),Zv 13 12,⟨some 14,.fld 2 (.t 1),(some (13,true))⟩,⟨some 15,.ld false 1 (.t 14),(some (13,true))⟩,⟨some 16,.bin .eql (.t 15) (.k (.str [])),(some (13,true))⟩,Zo 17 (.pick (.t 13) (.t 16) (.k (.bool false))),Zv 2 17]) .ret) .skip)) (.seq (.reg [Zf 18 1 1,Zl 19 false 1 18,Zo 20 (.len false (.t 19)),Zo 21 (.bin .leq (.t 20) (.k (.int .i64 3))),Zv 22 21,⟨some 23,.fld 2 (.t 1),(some (22,true))⟩,⟨some 24,.ld false 1 (.t 23),(some (22,true))⟩,⟨some 25,.bin .eql (.t 24) (.k (.str [])),(some (22,true))⟩,⟨some 26,.mv (.t 25),(some (22,true))⟩,⟨some 27,.fld 2 (.t 1),(some (26,false))⟩,⟨some 28,.ld false 1 (.t 27),(some (26,false))⟩,⟨some 29,.call (.k (.fn (.func 205) [] [])) [.t 28],(some (26,false))⟩,⟨some 30,.pick (.t 26) (.k (.bool true)) (.t 29),(some (22,true))⟩,Zo 31 (.pick (.t 22) (.t 30) (.k (.bool false))),Zv 2 31]) .ret))))⟩
theorem a242_ok:J06 Tryz.prog Tryz.f242=some a242:=by kernel_rfl
def a287:AFn:= ⟨44,[.t 2],(.seq (.reg [Zo 1 (.boxv (.t 0)),Zo 2 (.mv (.k (.bool false)))]) (.seq (.seq (.reg [Zo 3 (.mv (.k (.int .i64 0)))]) (.blk 0 (.loop (.seq (.seq (.reg [Zv 4 3,Zf 5 1 1,Zl 6 false 1 5,Zo 7 (.len false (.t 6)),Zo 8 (.bin .lss (.t 4) (.t 7))]) (.cond (.t 8) .skip (.exit 0))) (.seq (.blk 1 (.seq (.reg [Zf 11 1 1,Zl 12 false 1 11,Zv 13 3,Zo 14 (.ixa 2 (.t 12) (.t 13)),Zl 15 true 2 14,Zc 16 286 [.t 15],Zo 17 (.un .not (.t 16))]) (.cond (.t 17) (.seq (.reg [Zo 2 (.mv (.k (.bool false)))]) .ret) .skip))) (.reg [Zv 9 3,Zo 10 (.bin .add (.t 9) (.k (.int .i64 1))),Zv 3 10])))))) (.seq (.seq (.reg [Zf 18 0 1,Zl 19 false 1 18,Zo 20 (.un .not (.t 19))]) (.cond (.t 20) (.seq (.reg [Zf 21 1 1,Zl 22 false 1 21,Zo 23 (.len false (.t 22)),Zo 24 (.bin .eql (.t 23) (.k (.int .i64 1))),Zv 25 24,⟨some 26,.fld 2 (.t 1),(some (25,true))⟩,⟨some 27,.ld false 1 (.t 26),(some (25,true))⟩,⟨some 28,.bin .eql (.t 27) (.k (.str [])),(some (25,true))⟩,Zo 29 (.pick (.t 25) (.t 28) (.k (.bool false))),Zv 2 29]) .ret) .skip)) (.seq (.reg [Zf 30 1 1,Zl 31 false 1 30,Zo 32 (.len false (.t 31)),Zo 33 (.bin .leq (.t 32) (.k (.int .i64 3))),Zv 34 33,⟨some 35,.fld 2 (.t 1),(some (34,true))⟩,⟨some 36,.ld false 1 (.t 35),(some (34,true))⟩,⟨some 37,.bin .eql (.t 36) (.k (.str [])),(some (34,true))⟩,⟨some 38,.mv (.t 37),(some (34,true))⟩,⟨some 39,.fld 2 (.t 1),(some (38,false))⟩,⟨some 40,.ld false 1 (.t 39),(some (38,false))⟩,⟨some 41,.call (.k (.fn (.func 260) [] [])) [.t 40],(some (38,false))⟩,⟨some 42,.pick (.t 38) (.k (.bool true)) (.t 41),(some (34,true))⟩,Zo 43 (.pick (.t 34) (.t 42) (.k (.bool false))),Zv 2 43]) .ret))))⟩
theorem a287_ok:J06 Tryz.prog Tryz.f287=some a287:=by kernel_rfl
def a223:AFn:= ⟨23,[.t 6],(.seq (.reg [Zo 3 (.boxv (.t 0)),Zo 6 (.mv (.k (.bool false)))]) (.seq (.reg [Zl 7 true 3 3,Zc 8 287 [.t 7],Zv 9 8,⟨some 10,.fld 0 (.t 3),(some (9,true))⟩,⟨some 11,.ld false 1 (.t 10),(some (9,true))⟩,⟨some 12,.mv (.t 1),(some (9,true))⟩,⟨some 13,.beq false (.t 11) (.t 12),(some (9,true))⟩,Zo 14 (.pick (.t 9) (.t 13) (.k (.bool false))),Zv 15 14,⟨some 16,.ld true 3 (.t 3),(some (15,true))⟩,⟨some 17,.call (.k (.fn (.func 288) [] [])) [.t 16],(some (15,true))⟩,⟨some 18,.mv (.t 2),(some (15,true))⟩,⟨some 19,.call (.k (.fn (.func 137) [] [])) [.t 17,.t 18],(some (15,true))⟩,⟨some 20,.len false (.t 19),(some (15,true))⟩,⟨some 21,.bin .eql (.t 20) (.k (.int .i64 0)),(some (15,true))⟩,Zo 22 (.pick (.t 15) (.t 21) (.k (.bool false))),Zv 6 22]) .ret))⟩
theorem a223_ok:J06 Tryz.prog Tryz.f223=some a223:=by kernel_rfl
theorem K39 (s:DSum):Holds Tryz.prog 298 [.agg (J1j s)] (fun r=>r = .bool (!J98 s)):=by
 refine J03 Tryz.func298 a298_ok rfl (by simp [a298]) ?_
 simp [a298,J1j]
 first|refine J01 (J7r s) (by first|simp [J1j];done|rfl) ?_|refine J02 (J7r s) (by first|simp [J1j];done|rfl) ?_
 rintro r rfl
 simp
theorem J5p (x:DArg):Holds Tryz.prog 242 [.agg (J15 x)] (fun r=>r = .bool (Jb0 x)):=by
 refine J03 Tryz.func242 a242_ok rfl (by simp [a242]) ?_
 simp [a242,J15]
 refine J1t (p:=fun s => !J98 s) (rowOf:=J1j) (eltOf:=fun s => .agg (J1j s)) Tryz.func297 a297_ok rfl Tryz.func323 a323_ok rfl (fun x=>by simp) x.Heads
  (fun s _=>J83 (K39 s) (by simp) rfl) ?_
 rw [Jaz]
 unfold Jb0
 cases h1:x.Heads.all J98
 ·simp
 simp
 cases h2:x.Lst
 ·simp
  intro _
  by_cases h3:(x.Heads.length:Int)=1
  ·have h3n:x.Heads.length=1:=by omega
   simp [h3,h3n]
  ·have h3n:¬x.Heads.length=1:=by omega
   simp [h3,h3n]
 ·simp
  intro _
  by_cases h3:(x.Heads.length:Int)≤3
  ·have h3n:x.Heads.length≤3:=by omega
   simp [h3,h3n,Int.not_lt.2 h3]
   by_cases h4:x.Base=[]
   ·simp [h4]
   simp [h4]
   first|refine J01 (J1v x.Base) (by first|simp;done|rfl) ?_|refine J02 (J1v x.Base) (by first|simp;done|rfl) ?_
   rintro r rfl
   simp [h4]
  ·have h3n:¬x.Heads.length≤3:=by omega
   simp [h3,h3n]
theorem Jc0 (x:DArg):Holds Tryz.prog 287 [.agg (J15 x)] (fun r=>r = .bool (Jb0 x)):=by
 refine J1l Tryz.func287 rfl rfl fun hl => ?_
 simp [J15] at hl
 refine J03 Tryz.func287 a287_ok rfl (by simp [a287]) ?_
 simp [a287,J15]
 unfold Jb0
 generalize hB:x.Heads.all J98=B
 refine J60 [1] 3 x.Heads.length (fun i _=>(x.Heads.drop i).all J98=B) hl.1 (by simp) (by simpa using hB) ?_ ?_
 ·rintro i st h R hi hg hk s3 hw hJ hh hR hret _
  simp at hk
  rw [List.drop_eq_getElem_cons hi,List.all_cons] at hJ
  have e0:=hh 0
  simp at e0
  simp [hk,s3,hi,hg,e0]
  intro _
  first|refine J01 (J71 (x.Heads[i]'hi)) (by first|simp;done|rfl) ?_|refine J02 (J71 (x.Heads[i]'hi)) (by first|simp;done|rfl) ?_
  rintro r rfl
  cases hc:J98 x.Heads[i]
  ·rw [hc,Bool.false_and] at hJ
   subst hJ
   simp
   refine hret _ _ _ ?_
   simp
  ·rw [hc,Bool.true_and] at hJ
   simp [hk,s3,hw]
   exact hR _ (by simp [hk]) (by simp) hJ
 ·rintro st h R hk s3 hJ hh _ hX
  simp at hk
  rw [List.drop_eq_nil_of_le (by omega)] at hJ
  have e0:=hh 0
  simp at e0
  simp [hk,s3,e0]
  intro _
  refine hX _ _ ?_
  simp at hJ
  subst hJ
  simp [hk]
  cases h2:x.Lst
  ·simp [hk]
   intro _
   by_cases h3:(x.Heads.length:Int)=1
   ·have h3n:x.Heads.length=1:=by omega
    simp [h3,h3n,hk]
   ·have h3n:¬x.Heads.length=1:=by omega
    simp [h3,h3n]
  ·simp [hk]
   intro _
   by_cases h3:(x.Heads.length:Int)≤3
   ·have h3n:x.Heads.length≤3:=by omega
    simp [h3,h3n,Int.not_lt.2 h3,hk]
    by_cases h4:x.Base=[]
    ·simp [h4]
    simp [h4,hk]
    first|refine J01 (J1c x.Base) (by first|simp;done|rfl) ?_|refine J02 (J1c x.Base) (by first|simp;done|rfl) ?_
    rintro r rfl
    simp [h4]
   ·have h3n:¬x.Heads.length≤3:=by omega
    simp [h3,h3n]
theorem J6s (x:DArg) (b:Bool) (scope:List Str) (hw:Jah x≤1048576):Holds Tryz.prog 223 [.agg (J15 x),.bool b,.sl 1 (J0a scope)] (fun r=>r = .bool (J6n x b scope)):=by
 refine J03 Tryz.func223 a223_ok rfl (by simp [a223]) ?_
 simp [a223,J15]
 first|refine J01 (Jc0 x) (by first|simp [J15];done|rfl) ?_|refine J02 (Jc0 x) (by first|simp [J15];done|rfl) ?_
 rintro r rfl
 unfold J6n
 cases h1:Jb0 x
 ·simp
 simp
 by_cases hb:x.Lst=b
 case neg=>simp [hb]
 simp [hb]
 subst hb
 first|refine J01 (Ji4 x hw) (by first|simp [J15];done|rfl) ?_|refine J02 (Ji4 x hw) (by first|simp [J15];done|rfl) ?_
 rintro r rfl
 simp
 have hl:(J5d (J7c x)).length≤1048576:=Nat.le_trans (Jp5 _) (Jfe x hw)
 first|refine J01 (Jh7 (J5d (J7c x)) scope hl) (by first|simp;done|rfl) ?_|refine J02 (Jh7 (J5d (J7c x)) scope hl) (by first|simp;done|rfl) ?_
 rintro r rfl
 simp
 intro _
 rw [←Jk6]
 rw [Bool.eq_iff_iff]
 simp
theorem a293_ok:J06 Tryz.prog Tryz.f293=some (J3c 322):=by kernel_rfl
theorem a322_ok:J06 Tryz.prog Tryz.f322=some (J4a true 4):=by kernel_rfl
def a294:AFn:= ⟨9,[.t 3],(.seq (.reg [Zo 2 (.boxv (.t 0)),Zo 3 (.mv (.k (.bool false)))]) (.seq (.reg [Zf 4 0 2,Zl 5 false 1 4,Zf 6 0 1,Zl 7 false 1 6,Zo 8 (.bin .eql (.t 5) (.t 7)),Zv 3 8]) .ret))⟩
theorem a294_ok:J06 Tryz.prog Tryz.f294=some a294:=by kernel_rfl
def a236:AFn:= ⟨54,[.t 4],(.seq (.reg [Zo 2 (.boxv (.t 0)),Zo 4 (.mv (.k (.bool false)))]) (.seq (.seq (.reg [Zv 7 1,Zo 8 (.len false (.t 7)),Zo 9 (.mv (.k (.int .i64 0)))]) (.blk 0 (.loop (.seq (.reg [Zo 10 (.bin .lss (.t 9) (.t 8))]) (.seq (.cond (.t 10) .skip (.exit 0)) (.seq (.blk 1 (.seq (.reg [Zv 11 9,Zo 12 (.ixa 4 (.t 7) (.t 9)),Zl 13 true 4 12,Zo 6 (.box [(.str []),(.bool false),(.str []),(.str [])]),Zv 5 11,⟨no,.st 4 (.t 6) (.t 13),no⟩]) (.seq (.seq (.reg [Zf 14 0 6,Zl 15 false 1 14,Zc 16 205 [.t 15],Zo 17 (.un .not (.t 16)),Zv 18 17,⟨some 19,.fld 1 (.t 2),(some (18,false))⟩,⟨some 20,.ld false 1 (.t 19),(some (18,false))⟩,⟨some 21,.fld 0 (.t 6),(some (18,false))⟩,⟨some 22,.ld false 1 (.t 21),(some (18,false))⟩,⟨some 23,.call (.k (.fn (.func 72) [] [])) [.t 20,.t 22],(some (18,false))⟩,⟨some 24,.un .not (.t 23),(some (18,false))⟩,Zo 25 (.pick (.t 18) (.k (.bool true)) (.t 24)),Zv 26 25,⟨some 27,.mv (.t 1),(some (26,false))⟩,⟨some 28,.mv (.t 5),(some (26,false))⟩,⟨some 29,.slc false 4 (.t 27) Option.none (some (.t 28)),(some (26,false))⟩,⟨some 30,.mkf (.func 294) [] [.t 6],(some (26,false))⟩,⟨some 31,.call (.k (.fn (.func 293) [] [])) [.t 29,.t 30],(some (26,false))⟩,Zo 32 (.pick (.t 26) (.k (.bool true)) (.t 31))]) (.cond (.t 32) (.seq (.reg [Zo 4 (.mv (.k (.bool false)))]) .ret) .skip)) (.seq (.reg [Zf 33 1 6,Zl 34 false 1 33]) (.cond (.t 34) (.seq (.reg [Zf 35 2 6,Zl 36 false 1 35,Zc 37 140 [.t 36],Zo 38 (.un .not (.t 37)),Zv 39 38,⟨some 40,.fld 3 (.t 6),(some (39,false))⟩,⟨some 41,.ld false 1 (.t 40),(some (39,false))⟩,⟨some 42,.call (.k (.fn (.func 205) [] [])) [.t 41],(some (39,false))⟩,⟨some 43,.un .not (.t 42),(some (39,false))⟩,Zo 44 (.pick (.t 39) (.k (.bool true)) (.t 43))]) (.cond (.t 44) (.seq (.reg [Zo 4 (.mv (.k (.bool false)))]) .ret) .skip)) (.seq (.reg [Zf 45 2 6,Zl 46 false 1 45,Zo 47 (.bin .neq (.t 46) (.k (.str []))),Zv 48 47,⟨some 49,.fld 3 (.t 6),(some (48,false))⟩,⟨some 50,.ld false 1 (.t 49),(some (48,false))⟩,⟨some 51,.bin .neq (.t 50) (.k (.str [])),(some (48,false))⟩,Zo 52 (.pick (.t 48) (.k (.bool true)) (.t 51))]) (.cond (.t 52) (.seq (.reg [Zo 4 (.mv (.k (.bool false)))]) .ret) .skip))))))) (.reg [Zo 53 (.bin .add (.t 9) (.k (.int .i64 1))),Zv 9 53]))))))) (.seq (.reg [Zo 4 (.mv (.k (.bool true)))]) .ret)))⟩
theorem a236_ok:J06 Tryz.prog Tryz.f236=some a236:=by kernel_rfl
def a219:AFn:= ⟨72,[.t 4],(.seq (.reg [Zo 2 (.boxv (.t 0)),Zo 4 (.mv (.k (.bool false)))]) (.seq (.reg [Zo 8 (.bsl 1 []),Zv 5 8]) (.seq (.seq (.reg [Zo 6 (.mv (.k (.int .i64 0)))]) (.blk 0 (.loop (.seq (.seq (.reg [Zv 9 6,Zv 10 1,Zo 11 (.len false (.t 10)),Zo 12 (.bin .lss (.t 9) (.t 11))]) (.cond (.t 12) .skip (.exit 0))) (.seq (.blk 1 (.seq (.reg [Zv 15 1,Zv 16 6,Zo 17 (.ixa 4 (.t 15) (.t 16)),Zl 18 true 4 17,Zo 7 (.box [(.str []),(.bool false),(.str []),(.str [])]),⟨no,.st 4 (.t 7) (.t 18),no⟩]) (.seq (.seq (.reg [Zf 19 1 2,Zl 20 false 1 19,Zf 21 0 7,Zl 22 false 1 21,Zc 23 63 [.t 20,.t 22],Zo 24 (.bin .lss (.t 23) (.k (.int .i64 0))),Zv 25 24,⟨some 26,.fld 0 (.t 7),(some (25,false))⟩,⟨some 27,.ld false 1 (.t 26),(some (25,false))⟩,⟨some 28,.call (.k (.fn (.func 260) [] [])) [.t 27],(some (25,false))⟩,⟨some 29,.un .not (.t 28),(some (25,false))⟩,Zo 30 (.pick (.t 25) (.k (.bool true)) (.t 29)),Zv 31 30,⟨some 32,.mv (.t 5),(some (31,false))⟩,⟨some 33,.fld 0 (.t 7),(some (31,false))⟩,⟨some 34,.ld false 1 (.t 33),(some (31,false))⟩,⟨some 35,.call (.k (.fn (.func 63) [] [])) [.t 32,.t 34],(some (31,false))⟩,⟨some 36,.bin .geq (.t 35) (.k (.int .i64 0)),(some (31,false))⟩,Zo 37 (.pick (.t 31) (.k (.bool true)) (.t 36))]) (.cond (.t 37) (.seq (.reg [Zo 4 (.mv (.k (.bool false)))]) .ret) .skip)) (.seq (.reg [Zv 38 5,Zf 39 0 7,Zl 40 false 1 39,Zo 41 (.bsl 1 [.t 40]),Zo 42 (.app 16 1 (.t 38) (.t 41)),Zv 5 42]) (.seq (.reg [Zf 43 1 7,Zl 44 false 1 43,Zv 45 44,⟨some 46,.fld 2 (.t 7),(some (45,true))⟩,⟨some 47,.ld false 1 (.t 46),(some (45,true))⟩,⟨some 48,.call (.k (.fn (.func 216) [] [])) [.t 47],(some (45,true))⟩,⟨some 49,.un .not (.t 48),(some (45,true))⟩,⟨some 50,.mv (.t 49),(some (45,true))⟩,⟨some 51,.fld 3 (.t 7),(some (50,false))⟩,⟨some 52,.ld false 1 (.t 51),(some (50,false))⟩,⟨some 53,.call (.k (.fn (.func 260) [] [])) [.t 52],(some (50,false))⟩,⟨some 54,.un .not (.t 53),(some (50,false))⟩,⟨some 55,.pick (.t 50) (.k (.bool true)) (.t 54),(some (45,true))⟩,Zo 56 (.pick (.t 45) (.t 55) (.k (.bool false))),Zv 57 56,⟨some 58,.fld 1 (.t 7),(some (57,false))⟩,⟨some 59,.ld false 1 (.t 58),(some (57,false))⟩,⟨some 60,.un .not (.t 59),(some (57,false))⟩,⟨some 61,.mv (.t 60),(some (57,false))⟩,⟨some 62,.fld 2 (.t 7),(some (61,true))⟩,⟨some 63,.ld false 1 (.t 62),(some (61,true))⟩,⟨some 64,.bin .neq (.t 63) (.k (.str [])),(some (61,true))⟩,⟨some 65,.mv (.t 64),(some (61,true))⟩,⟨some 66,.fld 3 (.t 7),(some (65,false))⟩,⟨some 67,.ld false 1 (.t 66),(some (65,false))⟩,⟨some 68,.bin .neq (.t 67) (.k (.str [])),(some (65,false))⟩,⟨some 69,.pick (.t 65) (.k (.bool true)) (.t 68),(some (61,true))⟩,⟨some 70,.pick (.t 61) (.t 69) (.k (.bool false)),(some (57,false))⟩,Zo 71 (.pick (.t 57) (.k (.bool true)) (.t 70))]) (.cond (.t 71) (.seq (.reg [Zo 4 (.mv (.k (.bool false)))]) .ret) .skip)))))) (.reg [Zv 13 6,Zo 14 (.bin .add (.t 13) (.k (.int .i64 1))),Zv 6 14])))))) (.seq (.reg [Zo 4 (.mv (.k (.bool true)))]) .ret))))⟩
theorem a219_ok:J06 Tryz.prog Tryz.f219=some a219:=by kernel_rfl
def a220:AFn:= ⟨32,[.t 4],(.seq (.reg [Zo 4 (.mv (.k (.bool false)))]) (.seq (.seq (.reg [Zo 5 (.mv (.k (.int .i64 0)))]) (.blk 0 (.loop (.seq (.seq (.reg [Zv 6 5,Zv 7 0,Zo 8 (.len false (.t 7)),Zo 9 (.bin .lss (.t 6) (.t 8))]) (.cond (.t 9) .skip (.exit 0))) (.seq (.blk 1 (.seq (.reg [Zv 12 0,Zv 13 5,Zo 14 (.ixa 2 (.t 12) (.t 13)),Zl 15 true 2 14,Zc 16 286 [.t 15],Zo 17 (.un .not (.t 16)),Zv 18 17,⟨some 19,.mv (.t 0),(some (18,false))⟩,⟨some 20,.mv (.t 5),(some (18,false))⟩,⟨some 21,.mv (.t 5),(some (18,false))⟩,⟨some 22,.bin .add (.t 21) (.k (.int .i64 1)),(some (18,false))⟩,⟨some 23,.slc false 2 (.t 19) (some (.t 20)) (some (.t 22)),(some (18,false))⟩,⟨some 24,.build [(.bool false),(.nil 2),(.str [])] [(1,(1,(.t 23)))],(some (18,false))⟩,⟨some 25,.mv (.t 1),(some (18,false))⟩,⟨some 26,.call (.k (.fn (.func 223) [] [])) [.t 24,(.k (.bool false)),.t 25],(some (18,false))⟩,⟨some 27,.un .not (.t 26),(some (18,false))⟩,Zo 28 (.pick (.t 18) (.k (.bool true)) (.t 27))]) (.cond (.t 28) (.seq (.reg [Zo 4 (.mv (.k (.bool false)))]) .ret) .skip))) (.reg [Zv 10 5,Zo 11 (.bin .add (.t 10) (.k (.int .i64 1))),Zv 5 11])))))) (.seq (.reg [Zv 29 0,Zo 30 (.len false (.t 29)),Zo 31 (.bin .leq (.t 30) (.k (.int .i64 2))),Zv 4 31]) .ret)))⟩
theorem a220_ok:J06 Tryz.prog Tryz.f220=some a220:=by kernel_rfl
theorem Jw9 {h:Heap}{n id:Nat}{q:DPattern}(x:DPattern) (hv:h id=some ⟨true,4,[J07 q]⟩) (hid:id<n):Jgt Tryz.prog 294 [] [.ptr id 0 0] h n (.agg (J07 x)) (.bool (x.Lst==q.Lst)):=by
 intro K hK
 refine J9x ?_
 refine J17 Tryz.func294 a294_ok rfl (by simp [a294]) ?_
 have n1:¬id=n:=by omega
 simp [a294,hv,n1,J07,Jeq,hK]
 intro j hj hj'
 omega
def J9m (qs:List DPattern) (i:Nat):List Str:=(qs.take i).map (·.Lst)
theorem Jfy {qs:List DPattern}{i:Nat}(hi:i<qs.length):J9m qs (i+1)=J9m qs i++[(qs[i]).Lst]:=by unfold J9m;rw [List.take_succ_eq_append_getElem hi,List.map_append];rfl
theorem Jua {qs:List DPattern}{i:Nat}(hi:i≤qs.length):(J9m qs i).length=i:=by simp [J9m];omega
theorem Jyg (l:List DPattern) (s:Str):(l.any fun x=>x.Lst==s)=J2p (l.map (·.Lst)) s:=by simp [J2p,List.any_map,Function.comp_def]
set_option maxHeartbeats 1000000 in
theorem Jdz (f:DFunction) (qs:List DPattern):Holds Tryz.prog 236 [.agg (J04 f),.sl 4 (qs.map J07)] (fun r=>r = .bool (J45 f.Params [] qs)):=by
 refine J03 Tryz.func236 a236_ok rfl (by simp [a236]) ?_
 simp [a236,J04]
 intro hl
 generalize hB:J45 f.Params [] qs=B
 refine J0l [1,2,7,8] 9 qs.length (fun i s h n=>0<n∧h 0=some ⟨true,4,[[.str f.Name,.sl 1 (J0a f.Params),.bool f.ListResult,.sl 2 (f.Pre.map J05)]]⟩∧J45 f.Params (J9m qs i) (qs.drop i)=B) hl (by simp) ⟨by simp,by simp,hB⟩ ?_ ?_
 ·rintro i st h n R hi hg hk s9 hw ⟨hn,e0,hJ⟩ hR hret _
  simp at hk
  rw [List.drop_eq_getElem_cons hi] at hJ
  simp only [J45] at hJ
  have z0:¬0=n:=by omega
  have z1:¬n=0:=by omega
  refine J0i [1,2,7,8,9] (fun s=>s 10 = .bool true) (by simp [hk,s9,hi]) ?_
  intro st1 hk1 s10
  simp at hk1
  refine J3x s10 (J0b (J1h ?_))
  refine J1n [1,2,7,8,9] (fun s h' n'=>s 5 = .int .i64 i∧s 6 = .ptr n 0 0∧n'=n+1∧h' n=some ⟨true,4,[J07 qs[i]]⟩∧h' 0=some ⟨true,4,[[.str f.Name,.sl 1 (J0a f.Params),.bool f.ListResult,.sl 2 (f.Pre.map J05)]]⟩) (by simp [hk,hk1,s9,hi,J07,e0,z0]) ?_
  rintro st2 h2 n2 hk2 ⟨s5,s6,rfl,en,e0'⟩
  simp at hk2
  have ht:∀ l:List DPattern,List.take i (l.map J07)=(l.take i).map J07:=fun l=>by simp
  refine J0b (J0i [1,2,6,7,8,9] (fun s=>s 32 = .bool (!J0n (qs[i]).Lst || !J2p f.Params (qs[i]).Lst||J2p (J9m qs i) (qs[i]).Lst)) ?_ ?_)
  ·simp [hk,hk1,hk2,s9,hi,J07,e0',en,z0,z1,s5,s6]
   first|refine J01 (J1v (qs[i]'hi).Lst) (by first|simp;done|rfl) ?_|refine J02 (J1v (qs[i]'hi).Lst) (by first|simp;done|rfl) ?_
   rintro r rfl
   cases c1:J0n (qs[i]).Lst
   ·simp [hk,hk1,hk2,s9,hi,J07,e0',en,z0,s5,s6]
   simp [hk,hk1,hk2,s9,hi,J07,e0',en,z0,z1,s5,s6]
   first|refine J01 (J4k f.Params (qs[i]'hi).Lst) (by first|simp;done|rfl) ?_|refine J02 (J4k f.Params (qs[i]'hi).Lst) (by first|simp;done|rfl) ?_
   rintro r rfl
   cases c2:J2p f.Params (qs[i]).Lst
   ·simp [hk,hk1,hk2,s9,hi,J07,e0',en,z0,s5,s6]
   simp [hk,hk1,hk2,s9,hi,e0',en,z0,z1,s5,s6,J4p,asI]
   refine ⟨by omega,?_⟩
   rw [ht]
   refine J1t (p:=fun x=>x.Lst==(qs[i]).Lst) (rowOf:=J07) (eltOf:=fun x => .agg (J07 x)) Tryz.func293 a293_ok rfl Tryz.func322 a322_ok rfl (fun x=>by simp) (qs.take i)
    (fun x _=>Jw9 (q:=qs[i]) x en (Nat.lt_succ_self n)) ?_
   rw [Jyg,show List.map (·.Lst) (qs.take i)=J9m qs i from rfl]
   simp [hk,hk1,hk2,e0',en]
  intro st3 hk3 s32
  simp at hk3
  generalize hcc:(!J0n (qs[i]).Lst || !J2p f.Params (qs[i]).Lst||J2p (J9m qs i) (qs[i]).Lst)=cc at *
  have hp:(J9m qs (i+1))=J9m qs i++[(qs[i]).Lst]:=Jfy hi
  rw [←hp] at hJ
  cases cc
  case true=>
   have:(Jxp f.Params qs[i] && !J2p (J9m qs i) (qs[i]).Lst)=false:=by
    unfold Jxp
    cases g1:J0n (qs[i]).Lst <;> cases g2:J2p f.Params (qs[i]).Lst <;> cases g3:J2p (J9m qs i) (qs[i]).Lst <;> rw [g1,g2,g3] at hcc <;> simp at hcc <;> simp
   rw [this,Bool.false_and] at hJ
   subst hJ
   simp [s32]
   refine hret _ _ _ ?_
   simp
  have hcc':J0n (qs[i]).Lst=true∧J2p f.Params (qs[i]).Lst=true∧J2p (J9m qs i) (qs[i]).Lst=false:=by
   cases g1:J0n (qs[i]).Lst <;> cases g2:J2p f.Params (qs[i]).Lst <;> cases g3:J2p (J9m qs i) (qs[i]).Lst <;> rw [g1,g2,g3] at hcc <;> simp at hcc <;> simp
  unfold Jxp at hJ
  rw [hcc'.1,hcc'.2.1,hcc'.2.2] at hJ
  simp only [Bool.true_and,Bool.not_false,Bool.and_true] at hJ
  simp [hk,hk1,hk2,hk3,s32,s6,en,J07]
  cases c3:(qs[i]).Cons
  ·rw [c3] at hJ
   simp only [Bool.false_eq_true,if_false] at hJ
   simp [hk,hk1,hk2,hk3,s6,en,J07,c3]
   cases c4:((qs[i]).Head==[])
   ·rw [c4,Bool.false_and,Bool.false_and] at hJ
    subst hJ
    have c4':¬(qs[i]).Head=[]:=by simpa using c4
    simp [hk,hk1,hk2,hk3,s6,en,J07,c3,c4']
    refine hret _ _ _ ?_
    simp
   have c4':(qs[i]).Head=[]:=by simpa using c4
   cases c5:((qs[i]).Tail==[])
   ·rw [c4,c5,Bool.and_false,Bool.false_and] at hJ
    subst hJ
    have c5':¬(qs[i]).Tail=[]:=by simpa using c5
    simp [hk,hk1,hk2,hk3,s6,en,J07,c3,c4',c5']
    refine hret _ _ _ ?_
    simp
   ·rw [c4,c5,Bool.true_and,Bool.true_and] at hJ
    have c5':(qs[i]).Tail=[]:=by simpa using c5
    simp [hk,hk1,hk2,hk3,s6,en,J07,c3,c4',c5',s9,hw]
    exact hR _ _ _ (by simp [hk,hk1,hk2,hk3]) (by simp) ⟨by omega,by simp [e0'],hJ⟩
  ·rw [c3] at hJ
   simp only [if_true] at hJ
   simp [hk,hk1,hk2,hk3,s6,en,J07,c3]
   first|refine J01 (J4y (qs[i]'hi).Head) (by first|simp;done|rfl) ?_|refine J02 (J4y (qs[i]'hi).Head) (by first|simp;done|rfl) ?_
   rintro r rfl
   cases c4:J2o (qs[i]).Head
   ·rw [c4,Bool.false_and,Bool.false_and] at hJ
    subst hJ
    simp
    refine hret _ _ _ ?_
    simp
   simp [hk,hk1,hk2,hk3,s6,en,J07,c3]
   first|refine J01 (J1v (qs[i]'hi).Tail) (by first|simp;done|rfl) ?_|refine J02 (J1v (qs[i]'hi).Tail) (by first|simp;done|rfl) ?_
   rintro r rfl
   cases c5:J0n (qs[i]).Tail
   ·rw [c4,c5,Bool.and_false,Bool.false_and] at hJ
    subst hJ
    simp
    refine hret _ _ _ ?_
    simp
   ·rw [c4,c5,Bool.true_and,Bool.true_and] at hJ
    simp [hk,hk1,hk2,hk3,s9,hw]
    exact hR _ _ _ (by simp [hk,hk1,hk2,hk3]) (by simp) ⟨by omega,by simp [e0'],hJ⟩
 ·rintro st h n R hk s9 ⟨hn,e0,hJ⟩ hret hX
  simp at hk
  rw [List.drop_eq_nil_of_le (by omega)] at hJ
  refine J0i [1,2,7,8,9] (fun s=>s 10 = .bool false) (by simp [hk,s9]) ?_
  intro st1 hk1 s10
  simp at hk1
  refine J3s s10 ?_
  simp
  refine hX _ _ _ _ ?_
  simp [←hJ,J45]
theorem K3g (l:List Str) (s:Str):decide (J0t (fun x=>x==s) l 0<0) = !J2p l s:=by
 cases h:J2p l s
 ·have:=J7q (p:=fun x=>x==s) (l:=l) (i:=0) |>.2 h
  simp [this]
 ·have:¬J0t (fun x=>x==s) l 0<0:=fun h'=>by have:=J7q.1 h';unfold J2p at h;rw [h] at this;cases this
  simp [this]
theorem K37 (l:List Str) (s:Str):decide (0≤J0t (fun x=>x==s) l 0)=J2p l s:=by
 have:=J6c (p:=fun x=>x==s) (l:=l) (i:=0)
 simp only [ge_iff_le] at this
 rw [this];rfl
set_option maxHeartbeats 1000000 in
theorem Jal (f:DFunction) (qs:List DPattern) (hq:qs.length≤1048576):Holds Tryz.prog 219 [.agg (J04 f),.sl 4 (qs.map J07)] (fun r=>r = .bool (J45 f.Params [] qs)):=by
 refine J03 Tryz.func219 a219_ok rfl (by simp [a219]) ?_
 simp [a219,J04]
 generalize hB:J45 f.Params [] qs=B
 refine J0l [1,2] 6 qs.length (fun i s h n=>0<n∧h 0=some ⟨true,4,[[.str f.Name,.sl 1 (J0a f.Params),.bool f.ListResult,.sl 2 (f.Pre.map J05)]]⟩∧J45 f.Params (J9m qs i) (qs.drop i)=B ∧
  ∃ id,0<id∧id<n∧s 5 = .ref id 0 i∧h id=some ⟨false,1,J0a (J9m qs i)⟩) (by unfold LIM;omega) (by simp) ⟨by simp,by simp,hB,1,by omega,by omega,by simp,by simp [J0a,J9m]⟩ ?_ ?_
 ·rintro i st h n R hi hg hk s6 hw ⟨hn,e0,hJ,id,hid0,hidn,s5,eid⟩ hR hret _
  simp at hk
  rw [List.drop_eq_getElem_cons hi] at hJ
  simp only [J45] at hJ
  have z0:¬0=n:=by omega
  have z1:¬n=0:=by omega
  have z2:¬id=n:=by omega
  have z3:¬n=id:=by omega
  have z4:¬id=0:=by omega
  have z5:¬0=id:=by omega
  have hlt:(J9m qs i).length=i:=Jua (by omega)
  refine J0b (J0i [1,2,5,6] (fun s=>s 12 = .bool true) (by simp [hk,s6,hi]) ?_)
  intro st1 hk1 s12
  simp at hk1
  refine J25 s12 (J0b (J1h ?_))
  refine J1n [1,2,5,6] (fun s h' n'=>s 7 = .ptr n 0 0∧n'=n+1∧h' n=some ⟨true,4,[J07 qs[i]]⟩∧h' 0=some ⟨true,4,[[.str f.Name,.sl 1 (J0a f.Params),.bool f.ListResult,.sl 2 (f.Pre.map J05)]]⟩∧h' id=some ⟨false,1,J0a (J9m qs i)⟩) (by simp [hk,hk1,s6,hi,J07,e0,z0,z2,z3,eid]) ?_
  rintro st2 h2 n2 hk2 ⟨s7,rfl,en,e0',eid'⟩
  simp at hk2
  have ht:List.take i (J0a (J9m qs i))=J0a (J9m qs i):=List.take_of_length_le (by simp [hlt])
  refine J0b (J0i [1,2,5,6,7] (fun s=>s 37 = .bool (!J2p f.Params (qs[i]).Lst || !J0n (qs[i]).Lst||J2p (J9m qs i) (qs[i]).Lst)) ?_ ?_)
  ·simp [hk,hk1,hk2,s6,hi,J07,e0',en,z0,z1,s7]
   first|refine J01 (J28 f.Params (qs[i]'hi).Lst) (by first|simp;done|rfl) ?_|refine J02 (J28 f.Params (qs[i]'hi).Lst) (by first|simp;done|rfl) ?_
   rintro r rfl
   have e1:=K3g f.Params (qs[i]).Lst
   generalize J0t (fun x=>x==(qs[i]).Lst) f.Params 0=k1 at e1
   cases c1:J2p f.Params (qs[i]).Lst
   ·rw [c1] at e1
    have:k1<0:=by simpa using e1
    simp [this]
   rw [c1] at e1
   have:¬k1<0:=by simpa using e1
   simp [hk,hk1,hk2,s6,hi,J07,e0',en,z0,z1,s7,this]
   first|refine J01 (J1c (qs[i]'hi).Lst) (by first|simp;done|rfl) ?_|refine J02 (J1c (qs[i]'hi).Lst) (by first|simp;done|rfl) ?_
   rintro r rfl
   cases c2:J0n (qs[i]).Lst
   ·simp
   simp [hk,hk1,hk2,s6,hi,J07,e0',en,z0,z1,s7,s5,eid']
   first|refine J01 (J28 (J9m qs i) (qs[i]'hi).Lst) (by first|simp [eid',ht,hlt];done|rfl) ?_|refine J02 (J28 (J9m qs i) (qs[i]'hi).Lst) (by first|simp [eid',ht,hlt];done|rfl) ?_
   rintro r rfl
   have e2:=K37 (J9m qs i) (qs[i]).Lst
   generalize J0t (fun x=>x==(qs[i]).Lst) (J9m qs i) 0=k2 at e2
   simp [hk,hk1,hk2,e0',en,e2]
  intro st3 hk3 s37
  simp at hk3
  generalize hcc:(!J2p f.Params (qs[i]).Lst || !J0n (qs[i]).Lst||J2p (J9m qs i) (qs[i]).Lst)=cc at *
  have hp:(J9m qs (i+1))=J9m qs i++[(qs[i]).Lst]:=Jfy hi
  rw [←hp] at hJ
  cases cc
  case true=>
   have:(Jxp f.Params qs[i] && !J2p (J9m qs i) (qs[i]).Lst)=false:=by
    unfold Jxp
    cases g1:J0n (qs[i]).Lst <;> cases g2:J2p f.Params (qs[i]).Lst <;> cases g3:J2p (J9m qs i) (qs[i]).Lst <;> rw [g1,g2,g3] at hcc <;> simp at hcc <;> simp
   rw [this,Bool.false_and] at hJ
   subst hJ
   simp [s37]
   refine hret _ _ _ ?_
   simp
  have hcc':J0n (qs[i]).Lst=true∧J2p f.Params (qs[i]).Lst=true∧J2p (J9m qs i) (qs[i]).Lst=false:=by
   cases g1:J0n (qs[i]).Lst <;> cases g2:J2p f.Params (qs[i]).Lst <;> cases g3:J2p (J9m qs i) (qs[i]).Lst <;> rw [g1,g2,g3] at hcc <;> simp at hcc <;> simp
  unfold Jxp at hJ
  rw [hcc'.1,hcc'.2.1,hcc'.2.2] at hJ
  simp only [Bool.true_and,Bool.not_false,Bool.and_true] at hJ
  refine Jj2 s37 ?_
  have y0:¬0=n+1:=by omega
  have y1:¬n=n+1:=by omega
  have y2:¬id=n+1:=by omega
  have y3:¬n+1=id:=by omega
  have y4:¬n+1=0:=by omega
  have y5:¬n+2=0:=by omega
  have y6:¬n=n+2:=by omega
  have y7:¬0=n+2:=by omega
  have y8:¬n+1=n:=by omega
  simp only [J5u]
  refine J1n [1,2,6,7] (fun s h' n'=>n'=n+3∧s 5 = .ref (n+2) 0 (i+1)∧h' n=some ⟨true,4,[J07 qs[i]]⟩∧h' 0=some ⟨true,4,[[.str f.Name,.sl 1 (J0a f.Params),.bool f.ListResult,.sl 2 (f.Pre.map J05)]]⟩∧h' (n+2)=some ⟨false,1,J0a (J9m qs (i+1))⟩) ?_ ?_
  ·simp [hk,hk1,hk2,hk3,s7,en,J07,e0',s5,eid',z0,z1,z2,z3,z4,z5,y0,y1,y2,y3,y4,y5,y6,y7,y8,ht,hlt,Jfy hi]
   refine ⟨by unfold LIM;omega,?_⟩
   simp [J0a]
  rintro st4 h4 n4 hk4 ⟨rfl,s5',en',e0'',eid''⟩
  simp at hk4
  refine J0i [1,2,5,6,7] (fun s=>s 71 = .bool (!(if (qs[i]).Cons then J2o (qs[i]).Head&&J0n (qs[i]).Tail else (qs[i]).Head==[]&&(qs[i]).Tail==[]))) ?_ ?_
  ·cases c3:(qs[i]).Cons
   ·cases c4:((qs[i]).Head==[])
    ·have c4':¬(qs[i]).Head=[]:=by simpa using c4
     have c4e:(qs[i]).Head.isEmpty=false:=by simpa using c4'
     simp [hk,hk1,hk2,hk3,hk4,s7,en',J07,c3,c4,c4',c4e]
    have c4':(qs[i]).Head=[]:=by simpa using c4
    cases c5:((qs[i]).Tail==[])
    ·have c5':¬(qs[i]).Tail=[]:=by simpa using c5
     have c5e:(qs[i]).Tail.isEmpty=false:=by simpa using c5'
     simp [hk,hk1,hk2,hk3,hk4,s7,en',J07,c3,c4',c5,c5',c5e]
    ·have c5':(qs[i]).Tail=[]:=by simpa using c5
     simp [hk,hk1,hk2,hk3,hk4,s7,en',J07,c3,c4',c5']
   ·simp [hk,hk1,hk2,hk3,hk4,s7,en',J07,c3]
    first|refine J01 (J54 (qs[i]'hi).Head) (by first|simp;done|rfl) ?_|refine J02 (J54 (qs[i]'hi).Head) (by first|simp;done|rfl) ?_
    rintro r rfl
    cases c4:J2o (qs[i]).Head
    ·simp [hk,hk1,hk2,hk3,hk4,s7,en',J07,c3]
    simp [hk,hk1,hk2,hk3,hk4,s7,en',J07,c3]
    first|refine J01 (J1c (qs[i]'hi).Tail) (by first|simp;done|rfl) ?_|refine J02 (J1c (qs[i]'hi).Tail) (by first|simp;done|rfl) ?_
    rintro r rfl
    cases c5:J0n (qs[i]).Tail
    ·simp [hk,hk1,hk2,hk3,hk4,s7,en',J07,c3]
    ·simp [hk,hk1,hk2,hk3,hk4,s7,en',J07,c3]
  intro st5 hk5 s71
  simp at hk5
  generalize (if (qs[i]).Cons then J2o (qs[i]).Head&&J0n (qs[i]).Tail else (qs[i]).Head==[]&&(qs[i]).Tail==[])=D at *
  cases D
  ·rw [Bool.false_and] at hJ
   subst hJ
   simp [s71]
   refine hret _ _ _ ?_
   simp
  ·rw [Bool.true_and] at hJ
   simp [hk,hk1,hk2,hk3,hk4,hk5,s71,s6,hw]
   exact hR _ _ _ (by simp [hk,hk1,hk2,hk3,hk4,hk5]) (by simp) ⟨by omega,by simp [e0''],hJ,n+2,by omega,by omega,by simp [hk5,s5'],by simp [eid'']⟩
 ·rintro st h n R hk s6 ⟨hn,e0,hJ,_⟩ hret hX
  simp at hk
  rw [List.drop_eq_nil_of_le (by omega)] at hJ
  refine J0b (J0i [1,2,6] (fun s=>s 12 = .bool false) (by simp [hk,s6]) ?_)
  intro st1 hk1 s12
  simp at hk1
  refine J29 s12 ?_
  simp
  refine hX _ _ _ _ ?_
  simp [←hJ,J45]
theorem K5h {list:List DSum}{i:Nat}(hi:i<list.length) (hw:J6q list≤1048576):Jah ⟨false,[list[i]],[]⟩≤1048576:=by
 have h1:=J4b (w:=Jbe) (List.getElem_mem hi)
 unfold J6q at hw
 have h2:1+Jbe list[i]≤wL Jbe list:=by
  have h3:=Jmc Jbe list (List.getElem_mem hi)
  unfold wL;omega
 unfold Jah J6q wL
 simp
 omega
theorem Js9 (s:DSum) (scope:List Str):J6n ⟨false,[s],[]⟩ false scope=J4e scope s:=by
 unfold J6n J4e
 rw [Jmo,Jf9,Jle]
 simp
theorem Jdj (list:List DSum) (scope:List Str) (hw:J6q list≤1048576):Holds Tryz.prog 220 [.sl 2 (list.map J1j),.sl 1 (J0a scope)] (fun r=>r = .bool (list.all (J4e scope)&&decide (list.length≤2))):=by
 refine J1l Tryz.func220 rfl rfl fun hl => ?_
 simp at hl
 refine J03 Tryz.func220 a220_ok rfl (by simp [a220]) ?_
 simp [a220]
 generalize hB:list.all (J4e scope)=B
 refine J60 [0,1] 5 list.length (fun i _=>(list.drop i).all (J4e scope)=B) hl.1 (by simp) (by simpa using hB) ?_ ?_
 ·rintro i st h R hi hg hk s5 hw5 hJ hh hR hret _
  simp at hk
  rw [List.drop_eq_getElem_cons hi,List.all_cons] at hJ
  simp [hk,s5,hi,hg]
  intro _
  first|refine J01 (J71 (list[i]'hi)) (by first|simp;done|rfl) ?_|refine J02 (J71 (list[i]'hi)) (by first|simp;done|rfl) ?_
  rintro r rfl
  cases hc:J98 list[i]
  ·have:J4e scope list[i]=false:=by unfold J4e;rw [hc];rfl
   rw [this,Bool.false_and] at hJ
   subst hJ
   simp
   refine hret _ _ _ ?_
   simp
  simp [hk,s5,hi,hg,hw5,J4p,asI]
  refine ⟨by omega,by omega,?_⟩
  have ht:(List.take (i+1) (list.map J1j)).drop i=[J1j list[i]]:=by
   rw [List.take_succ_eq_append_getElem (by simpa using hi)]
   rw [List.drop_left' (by simp;omega)]
   simp
  have he:((i:Int)+1).toNat=i+1:=by omega
  have hb:bwl [.agg [.bool false,.sl 2 [J1j list[i]],.str []],.bool false,.sl 1 (J0a scope)] h=some [.agg (J15 ⟨false,[list[i]],[]⟩),.bool false,.sl 1 (J0a scope)]:=by simp [J15]
  simp only [he,ht]
  first|refine J01 (J6s ⟨false,[list[i]'hi],[]⟩ false scope (K5h hi hw)) (by first|simp [J15,he,ht];done|rfl) ?_|refine J02 (J6s ⟨false,[list[i]'hi],[]⟩ false scope (K5h hi hw)) (by first|simp [J15,he,ht];done|rfl) ?_
  rintro r rfl
  rw [Js9]
  cases hc2:J4e scope list[i]
  ·rw [hc2,Bool.false_and] at hJ
   subst hJ
   simp
   refine hret _ _ _ ?_
   simp
  ·rw [hc2,Bool.true_and] at hJ
   simp [hk,s5,hw5]
   exact hR _ (by simp [hk]) (by simp) hJ
 ·rintro st h R hk s5 hJ hh _ hX
  simp at hk
  rw [List.drop_eq_nil_of_le (by omega)] at hJ
  simp [hk,s5]
  intro _
  refine hX _ _ ?_
  simp at hJ
  subst hJ
  simp [hk]
  omega
def a241:AFn:= ⟨78,[.t 6],(.seq (.reg [Zo 3 (.boxv (.t 0)),Zo 4 (.boxv (.t 1)),Zo 6 (.mv (.k (.bool false)))]) (.seq (.reg [Zl 12 true 2 3,Zf 13 1 4,Zl 14 false 1 13,Zc 15 176 [.t 12,.t 14],Zv 11 15,Zo 16 (.ext (.t 11) 0),Zo 17 (.ext (.t 11) 1),Zo 7 (.box [(.str []),(.nil 1),(.bool false),(.nil 2)]),⟨no,.st 4 (.t 7) (.t 16),no⟩,Zv 8 17]) (.seq (.seq (.reg [Zv 18 8,Zo 19 (.un .not (.t 18)),Zv 20 19,⟨some 21,.fld 2 (.t 4),(some (20,false))⟩,⟨some 22,.ld false 1 (.t 21),(some (20,false))⟩,⟨some 23,.len false (.t 22),(some (20,false))⟩,⟨some 24,.fld 1 (.t 7),(some (20,false))⟩,⟨some 25,.ld false 1 (.t 24),(some (20,false))⟩,⟨some 26,.len false (.t 25),(some (20,false))⟩,⟨some 27,.bin .neq (.t 23) (.t 26),(some (20,false))⟩,Zo 28 (.pick (.t 20) (.k (.bool true)) (.t 27))]) (.cond (.t 28) (.seq (.reg [Zo 6 (.mv (.k (.bool false)))]) .ret) .skip)) (.seq (.seq (.reg [Zf 29 2 7,Zl 30 false 1 29,Zv 31 30,⟨some 32,.fld 0 (.t 4),(some (31,true))⟩,⟨some 33,.ld false 1 (.t 32),(some (31,true))⟩,⟨some 34,.call (.k (.fn (.func 205) [] [])) [.t 33],(some (31,true))⟩,⟨some 35,.un .not (.t 34),(some (31,true))⟩,Zo 36 (.pick (.t 31) (.t 35) (.k (.bool false))),Zv 37 36,⟨some 38,.fld 2 (.t 7),(some (37,false))⟩,⟨some 39,.ld false 1 (.t 38),(some (37,false))⟩,⟨some 40,.un .not (.t 39),(some (37,false))⟩,⟨some 41,.mv (.t 40),(some (37,false))⟩,⟨some 42,.fld 0 (.t 4),(some (41,true))⟩,⟨some 43,.ld false 1 (.t 42),(some (41,true))⟩,⟨some 44,.call (.k (.fn (.func 140) [] [])) [.t 43],(some (41,true))⟩,⟨some 45,.un .not (.t 44),(some (41,true))⟩,⟨some 46,.pick (.t 41) (.t 45) (.k (.bool false)),(some (37,false))⟩,Zo 47 (.pick (.t 37) (.k (.bool true)) (.t 46))]) (.cond (.t 47) (.seq (.reg [Zo 6 (.mv (.k (.bool false)))]) .ret) .skip)) (.seq (.seq (.reg [Zf 48 2 4,Zl 49 false 1 48,Zo 50 (.len false (.t 49)),Zo 51 (.mv (.k (.int .i64 0)))]) (.blk 0 (.loop (.seq (.reg [Zo 52 (.bin .lss (.t 51) (.t 50))]) (.seq (.cond (.t 52) .skip (.exit 0)) (.seq (.blk 1 (.seq (.reg [Zv 53 51,Zo 54 (.ixa 3 (.t 49) (.t 51)),Zl 55 true 3 54,Zo 10 (.box [(.bool false),(.nil 2),(.str [])]),Zv 9 53,⟨no,.st 3 (.t 10) (.t 55),no⟩]) (.seq (.draw (.op (Zl 56 true 3 10) (.op (Zc 57 242 [.t 56]) (.op (Zo 58 (.un .not (.t 57))) (.op (Zv 59 58) (.op ⟨some 60,.fld 0 (.t 10),(some (59,false))⟩ (.op ⟨some 61,.ld false 1 (.t 60),(some (59,false))⟩ (.op ⟨some 62,.fld 1 (.t 7),(some (59,false))⟩ (.op ⟨some 63,.ld false 1 (.t 62),(some (59,false))⟩ (.op ⟨some 64,.mv (.t 9),(some (59,false))⟩ (.op ⟨some 65,.ixa 1 (.t 63) (.t 64),(some (59,false))⟩ (.op ⟨some 66,.ld false 1 (.t 65),(some (59,false))⟩ (.op ⟨some 67,.call (.k (.fn (.func 205) [] [])) [.t 66],(some (59,false))⟩ (.op ⟨some 68,.beq true (.t 61) (.t 67),(some (59,false))⟩ (.op (Zo 69 (.pick (.t 59) (.k (.bool true)) (.t 68))) (.op (Zv 70 69) (.op ⟨some 71,.ld true 3 (.t 10),(some (70,false))⟩ (.op ⟨some 73,.mv (.t 2),(some (70,false))⟩ (.op ⟨some 72,.call (.k (.fn (.func 243) [] [])) [.t 71],(some (70,false))⟩ (.op ⟨some 74,.call (.k (.fn (.func 238) [] [])) [.t 72,.t 73],(some (70,false))⟩ (.op ⟨some 75,.un .not (.t 74),(some (70,false))⟩ (.op (Zo 76 (.pick (.t 70) (.k (.bool true)) (.t 75))) .fin)))))))))))))))))))))) (.cond (.t 76) (.seq (.reg [Zo 6 (.mv (.k (.bool false)))]) .ret) .skip)))) (.reg [Zo 77 (.bin .add (.t 51) (.k (.int .i64 1))),Zv 51 77]))))))) (.seq (.reg [Zo 6 (.mv (.k (.bool true)))]) .ret))))))⟩
theorem a241_ok:J06 Tryz.prog Tryz.f241=some a241:=by kernel_rfl
theorem J91 {scope:List Str}{l:List DArg}{m:List Str}{i:Nat}(h1:i<l.length) (h2:i<m.length):J8c scope (l.drop i) (m.drop i)=(J6n l[i] (J0n m[i]) scope&&J8c scope (l.drop (i+1)) (m.drop (i+1))):=by
 rw [List.drop_eq_getElem_cons h1,List.drop_eq_getElem_cons h2];rfl
theorem Ja6 (scope:List Str) (m:List Str):J8c scope [] m=true:=by cases m <;> rfl
theorem J6l {c:DCall}{i:Nat}(hi:i<c.Args.length) (hw:J64 c≤1048576):Jah c.Args[i]≤1048576:=by
 have:=J4b (w:=Jah) (List.getElem_mem hi)
 unfold J64 Jfu at hw
 omega
set_option maxHeartbeats 1000000 in
theorem Jej (p:DProgram) (c:DCall) (scope:List Str) (hp:J0k p≤1048576) (hc:J64 c≤1048576):Holds Tryz.prog 241 [.agg (J00 p),.agg (J14 c),.sl 1 (J0a scope)] (fun r=>r = .bool (J9k p c scope)):=by
 have hal:c.Args.length≤1048576:=by have:=J2b Jah c.Args;unfold J64 Jfu at hc;omega
 refine J03 Tryz.func241 a241_ok rfl (by simp [a241]) ?_
 simp [a241,J00,J14]
 first|refine J01 (J2i p c.Func hp) (by first|simp [J00];done|rfl) ?_|refine J02 (J2i p c.Func hp) (by first|simp [J00];done|rfl) ?_
 rintro r rfl
 unfold J9k
 generalize hG:(J1o p.Functions c.Func).getD fn0=G
 simp only [Jcg,hG]
 generalize hb1:(J1o p.Functions c.Func).isSome=b1
 simp [J0g]
 cases b1
 ·simp
 simp
 intro _ _
 have hd:decide (c.Args.length=G.Params.length)=decide ((c.Args.length:Int)=G.Params.length):=by rw [decide_eq_decide];omega
 by_cases h1:(c.Args.length:Int)=G.Params.length
 case neg=>
  have h1n:¬c.Args.length=G.Params.length:=by omega
  simp [h1,h1n]
 have h1n:c.Args.length=G.Params.length:=by omega
 simp [h1,h1n]
 generalize hB:J8c scope c.Args G.Params=B
 cases hL:G.ListResult
 ·simp
  first|refine J01 (J4y c.Bind) (by first|simp;done|rfl) ?_|refine J02 (J4y c.Bind) (by first|simp;done|rfl) ?_
  rintro r rfl
  cases hn:J2o c.Bind
  ·simp
  simp [hL]
  intro _
  refine J0l [2,7,49,50] 51 c.Args.length (fun i s h n=>4<n∧h 4=some ⟨true,4,[[.str G.Name,.ref 2 0 G.Params.length,.bool false,.ref 3 0 G.Pre.length]]⟩∧h 2=some ⟨false,1,J0a G.Params⟩∧J8c scope (c.Args.drop i) (G.Params.drop i)=B) (by unfold LIM;omega) (by simp) ⟨by simp,by simp,by simp,by simpa using hB⟩ ?_ ?_
  ·rintro i st h n R hi hg hk s51 hw ⟨hn,e4,e2,hJ⟩ hR hret _
   simp at hk
   have hip:i<G.Params.length:=by omega
   rw [J91 hi hip] at hJ
   have z2:¬2=n:=by omega
   have z4:¬4=n:=by omega
   have y2:¬2=n+1:=by omega
   have y4:¬4=n+1:=by omega
   refine J0i [2,7,49,50,51] (fun s=>s 52 = .bool true) (by simp [hk,s51,hi,←h1n]) ?_
   intro st1 hk1 s52
   simp at hk1
   refine J3x s52 (J0b (J1h ?_))
   refine J1n [2,7,49,50,51] (fun s h' n'=>s 9 = .int .i64 i∧s 10 = .ptr n 0 0∧n'=n+1∧h' n=some ⟨true,3,[J15 c.Args[i]]⟩∧h' 4=some ⟨true,4,[[.str G.Name,.ref 2 0 G.Params.length,.bool false,.ref 3 0 G.Pre.length]]⟩∧h' 2=some ⟨false,1,J0a G.Params⟩) (by simp [hk,hk1,s51,hi,J15,e4,e2,z2,z4]) ?_
   rintro st2 h2 n2 hk2 ⟨s9,s10,rfl,en,e4',e2'⟩
   simp at hk2
   refine J1n [2,7,49,50,51] (fun s h' n'=>n<n'∧s 76 = .bool (!J6n c.Args[i] (J0n G.Params[i]) scope)∧h' 4=some ⟨true,4,[[.str G.Name,.ref 2 0 G.Params.length,.bool false,.ref 3 0 G.Pre.length]]⟩∧h' 2=some ⟨false,1,J0a G.Params⟩) ?_ ?_
   ·simp [hk,hk1,hk2,s10,en]
    first|refine J01 (J5p (c.Args[i]'hi)) (by first|simp;done|rfl) ?_|refine J02 (J5p (c.Args[i]'hi)) (by first|simp;done|rfl) ?_
    rintro r rfl
    unfold J6n
    cases g1:Jb0 c.Args[i]
    ·simp [e4',e2']
    simp [hk,hk1,hk2,s9,s10,en,e4',e2',hip,J15]
    first|refine J01 (J1v (G.Params[i]'hip)) (by first|simp;done|rfl) ?_|refine J02 (J1v (G.Params[i]'hip)) (by first|simp;done|rfl) ?_
    rintro r rfl
    cases g2:((c.Args[i]).Lst==J0n G.Params[i])
    ·have g2':¬(c.Args[i]).Lst=J0n G.Params[i]:=by simpa using g2
     simp [g2',e4',e2']
    have g2':(c.Args[i]).Lst=J0n G.Params[i]:=by simpa using g2
    simp [g2',hk,hk1,hk2,s9,s10,en,e4',e2',hip,J15]
    first|refine J01 (J8e (c.Args[i]'hi) (J6l hi hc)) (by first|simp [J15,g2'];done|rfl) ?_|refine J02 (J8e (c.Args[i]'hi) (J6l hi hc)) (by first|simp [J15,g2'];done|rfl) ?_
    rintro r rfl
    simp [g2',hk,hk1,hk2,s9,s10,en,e4',e2',hip,J15,y2,y4]
    first|refine J01 (J9g (J5d (J7c (c.Args[i]'hi))) scope) (by first|simp;done|rfl) ?_|refine J02 (J9g (J5d (J7c (c.Args[i]'hi))) scope) (by first|simp;done|rfl) ?_
    rintro r rfl
    simp [e4',e2',y2,y4]
   rintro st3 h3 n3 hk3 ⟨hn3,s76,e4'',e2''⟩
   simp at hk3
   generalize J6n c.Args[i] (J0n G.Params[i]) scope=D at *
   cases D
   ·rw [Bool.false_and] at hJ
    subst hJ
    simp [s76]
    refine hret _ _ _ ?_
    simp
   ·rw [Bool.true_and] at hJ
    simp [hk,hk1,hk2,hk3,s76,s51,hw]
    exact hR _ _ _ (by simp [hk,hk1,hk2,hk3]) (by simp) ⟨by omega,by simp [e4''],by simp [e2''],hJ⟩
  ·rintro st h n R hk s51 ⟨hn,e4,e2,hJ⟩ hret hX
   simp at hk
   rw [List.drop_eq_nil_of_le (by omega),Ja6] at hJ
   refine J0i [2] (fun s=>s 52 = .bool false) (by simp [hk,s51,←h1n]) ?_
   intro st1 hk1 s52
   refine J3s s52 ?_
   simp
   refine hX _ _ _ _ ?_
   simp [←hJ]
 ·simp
  first|refine J01 (J1v c.Bind) (by first|simp;done|rfl) ?_|refine J02 (J1v c.Bind) (by first|simp;done|rfl) ?_
  rintro r rfl
  cases hn:J0n c.Bind
  ·simp
  simp [hL]
  intro _
  refine J0l [2,7,49,50] 51 c.Args.length (fun i s h n=>4<n∧h 4=some ⟨true,4,[[.str G.Name,.ref 2 0 G.Params.length,.bool true,.ref 3 0 G.Pre.length]]⟩∧h 2=some ⟨false,1,J0a G.Params⟩∧J8c scope (c.Args.drop i) (G.Params.drop i)=B) (by unfold LIM;omega) (by simp) ⟨by simp,by simp,by simp,by simpa using hB⟩ ?_ ?_
  ·rintro i st h n R hi hg hk s51 hw ⟨hn,e4,e2,hJ⟩ hR hret _
   simp at hk
   have hip:i<G.Params.length:=by omega
   rw [J91 hi hip] at hJ
   have z2:¬2=n:=by omega
   have z4:¬4=n:=by omega
   have y2:¬2=n+1:=by omega
   have y4:¬4=n+1:=by omega
   refine J0i [2,7,49,50,51] (fun s=>s 52 = .bool true) (by simp [hk,s51,hi,←h1n]) ?_
   intro st1 hk1 s52
   simp at hk1
   refine J3x s52 (J0b (J1h ?_))
   refine J1n [2,7,49,50,51] (fun s h' n'=>s 9 = .int .i64 i∧s 10 = .ptr n 0 0∧n'=n+1∧h' n=some ⟨true,3,[J15 c.Args[i]]⟩∧h' 4=some ⟨true,4,[[.str G.Name,.ref 2 0 G.Params.length,.bool true,.ref 3 0 G.Pre.length]]⟩∧h' 2=some ⟨false,1,J0a G.Params⟩) (by simp [hk,hk1,s51,hi,J15,e4,e2,z2,z4]) ?_
   rintro st2 h2 n2 hk2 ⟨s9,s10,rfl,en,e4',e2'⟩
   simp at hk2
   refine J1n [2,7,49,50,51] (fun s h' n'=>n<n'∧s 76 = .bool (!J6n c.Args[i] (J0n G.Params[i]) scope)∧h' 4=some ⟨true,4,[[.str G.Name,.ref 2 0 G.Params.length,.bool true,.ref 3 0 G.Pre.length]]⟩∧h' 2=some ⟨false,1,J0a G.Params⟩) ?_ ?_
   ·simp [hk,hk1,hk2,s10,en]
    first|refine J01 (J5p (c.Args[i]'hi)) (by first|simp;done|rfl) ?_|refine J02 (J5p (c.Args[i]'hi)) (by first|simp;done|rfl) ?_
    rintro r rfl
    unfold J6n
    cases g1:Jb0 c.Args[i]
    ·simp [e4',e2']
    simp [hk,hk1,hk2,s9,s10,en,e4',e2',hip,J15]
    first|refine J01 (J1v (G.Params[i]'hip)) (by first|simp;done|rfl) ?_|refine J02 (J1v (G.Params[i]'hip)) (by first|simp;done|rfl) ?_
    rintro r rfl
    cases g2:((c.Args[i]).Lst==J0n G.Params[i])
    ·have g2':¬(c.Args[i]).Lst=J0n G.Params[i]:=by simpa using g2
     simp [g2',e4',e2']
    have g2':(c.Args[i]).Lst=J0n G.Params[i]:=by simpa using g2
    simp [g2',hk,hk1,hk2,s9,s10,en,e4',e2',hip,J15]
    first|refine J01 (J8e (c.Args[i]'hi) (J6l hi hc)) (by first|simp [J15,g2'];done|rfl) ?_|refine J02 (J8e (c.Args[i]'hi) (J6l hi hc)) (by first|simp [J15,g2'];done|rfl) ?_
    rintro r rfl
    simp [g2',hk,hk1,hk2,s9,s10,en,e4',e2',hip,J15,y2,y4]
    first|refine J01 (J9g (J5d (J7c (c.Args[i]'hi))) scope) (by first|simp;done|rfl) ?_|refine J02 (J9g (J5d (J7c (c.Args[i]'hi))) scope) (by first|simp;done|rfl) ?_
    rintro r rfl
    simp [e4',e2',y2,y4]
   rintro st3 h3 n3 hk3 ⟨hn3,s76,e4'',e2''⟩
   simp at hk3
   generalize J6n c.Args[i] (J0n G.Params[i]) scope=D at *
   cases D
   ·rw [Bool.false_and] at hJ
    subst hJ
    simp [s76]
    refine hret _ _ _ ?_
    simp
   ·rw [Bool.true_and] at hJ
    simp [hk,hk1,hk2,hk3,s76,s51,hw]
    exact hR _ _ _ (by simp [hk,hk1,hk2,hk3]) (by simp) ⟨by omega,by simp [e4''],by simp [e2''],hJ⟩
  ·rintro st h n R hk s51 ⟨hn,e4,e2,hJ⟩ hret hX
   simp at hk
   rw [List.drop_eq_nil_of_le (by omega),Ja6] at hJ
   refine J0i [2] (fun s=>s 52 = .bool false) (by simp [hk,s51,←h1n]) ?_
   intro st1 hk1 s52
   refine J3s s52 ?_
   simp
   refine hX _ _ _ _ ?_
   simp [←hJ]
def a222:AFn:= ⟨70,[.t 6],(.seq (.reg [Zo 3 (.boxv (.t 0)),Zo 4 (.boxv (.t 1)),Zo 6 (.mv (.k (.bool false)))]) (.seq (.reg [Zl 11 true 2 3,Zf 12 1 4,Zl 13 false 1 12,Zc 14 172 [.t 11,.t 13],Zv 10 14,Zo 15 (.ext (.t 10) 0),Zo 16 (.ext (.t 10) 1),Zo 7 (.box [(.str []),(.nil 1),(.bool false),(.nil 2)]),⟨no,.st 4 (.t 7) (.t 15),no⟩,Zv 8 16]) (.seq (.seq (.reg [Zv 17 8,Zo 18 (.un .not (.t 17)),Zv 19 18,⟨some 20,.fld 2 (.t 4),(some (19,false))⟩,⟨some 21,.ld false 1 (.t 20),(some (19,false))⟩,⟨some 22,.len false (.t 21),(some (19,false))⟩,⟨some 23,.fld 1 (.t 7),(some (19,false))⟩,⟨some 24,.ld false 1 (.t 23),(some (19,false))⟩,⟨some 25,.len false (.t 24),(some (19,false))⟩,⟨some 26,.bin .neq (.t 22) (.t 25),(some (19,false))⟩,Zo 27 (.pick (.t 19) (.k (.bool true)) (.t 26)),Zv 28 27,⟨some 29,.fld 2 (.t 7),(some (28,false))⟩,⟨some 30,.ld false 1 (.t 29),(some (28,false))⟩,⟨some 31,.mv (.t 30),(some (28,false))⟩,⟨some 32,.fld 0 (.t 4),(some (31,true))⟩,⟨some 33,.ld false 1 (.t 32),(some (31,true))⟩,⟨some 34,.call (.k (.fn (.func 260) [] [])) [.t 33],(some (31,true))⟩,⟨some 35,.un .not (.t 34),(some (31,true))⟩,⟨some 36,.pick (.t 31) (.t 35) (.k (.bool false)),(some (28,false))⟩,Zo 37 (.pick (.t 28) (.k (.bool true)) (.t 36)),Zv 38 37,⟨some 39,.fld 2 (.t 7),(some (38,false))⟩,⟨some 40,.ld false 1 (.t 39),(some (38,false))⟩,⟨some 41,.un .not (.t 40),(some (38,false))⟩,⟨some 42,.mv (.t 41),(some (38,false))⟩,⟨some 43,.fld 0 (.t 4),(some (42,true))⟩,⟨some 44,.ld false 1 (.t 43),(some (42,true))⟩,⟨some 45,.call (.k (.fn (.func 216) [] [])) [.t 44],(some (42,true))⟩,⟨some 46,.un .not (.t 45),(some (42,true))⟩,⟨some 47,.pick (.t 42) (.t 46) (.k (.bool false)),(some (38,false))⟩,Zo 48 (.pick (.t 38) (.k (.bool true)) (.t 47))]) (.cond (.t 48) (.seq (.reg [Zo 6 (.mv (.k (.bool false)))]) .ret) .skip)) (.seq (.seq (.reg [Zo 9 (.mv (.k (.int .i64 0)))]) (.blk 0 (.loop (.seq (.seq (.reg [Zv 49 9,Zf 50 2 4,Zl 51 false 1 50,Zo 52 (.len false (.t 51)),Zo 53 (.bin .lss (.t 49) (.t 52))]) (.cond (.t 53) .skip (.exit 0))) (.seq (.blk 1 (.seq (.draw (.op (Zf 56 2 4) (.op (Zl 57 false 1 56) (.op (Zv 58 9) (.op (Zo 59 (.ixa 3 (.t 57) (.t 58))) (.op (Zl 60 true 3 59) (.op (Zf 61 1 7) (.op (Zl 62 false 1 61) (.op (Zv 63 9) (.op (Zo 64 (.ixa 1 (.t 62) (.t 63))) (.op (Zl 65 false 1 64) (.op (Zv 67 2) (.op (Zc 66 260 [.t 65]) (.op (Zc 68 223 [.t 60,.t 66,.t 67]) (.op (Zo 69 (.un .not (.t 68))) .fin))))))))))))))) (.cond (.t 69) (.seq (.reg [Zo 6 (.mv (.k (.bool false)))]) .ret) .skip))) (.reg [Zv 54 9,Zo 55 (.bin .add (.t 54) (.k (.int .i64 1))),Zv 9 55])))))) (.seq (.reg [Zo 6 (.mv (.k (.bool true)))]) .ret)))))⟩
theorem a222_ok:J06 Tryz.prog Tryz.f222=some a222:=by kernel_rfl
set_option maxHeartbeats 1000000 in
theorem J9t (p:DProgram) (c:DCall) (scope:List Str) (hp:J0k p≤1048576) (hc:J64 c≤1048576):Holds Tryz.prog 222 [.agg (J00 p),.agg (J14 c),.sl 1 (J0a scope)] (fun r=>r = .bool (J9k p c scope)):=by
 have hal:c.Args.length≤1048576:=by have:=J2b Jah c.Args;unfold J64 Jfu at hc;omega
 refine J03 Tryz.func222 a222_ok rfl (by simp [a222]) ?_
 simp [a222,J00,J14]
 first|refine J01 (J30 p c.Func hp) (by first|simp [J00];done|rfl) ?_|refine J02 (J30 p c.Func hp) (by first|simp [J00];done|rfl) ?_
 rintro r rfl
 unfold J9k
 generalize hG:(J1o p.Functions c.Func).getD fn0=G
 simp only [Jcg,hG]
 generalize hb1:(J1o p.Functions c.Func).isSome=b1
 simp [J0g]
 cases b1
 ·simp
 simp
 intro _ _
 have hd:decide (c.Args.length=G.Params.length)=decide ((c.Args.length:Int)=G.Params.length):=by rw [decide_eq_decide];omega
 by_cases h1:(c.Args.length:Int)=G.Params.length
 case neg=>
  have h1n:¬c.Args.length=G.Params.length:=by omega
  simp [h1,h1n]
 have h1n:c.Args.length=G.Params.length:=by omega
 simp [h1,h1n]
 generalize hB:J8c scope c.Args G.Params=B
 cases hL:G.ListResult
 ·simp
  first|refine J01 (J54 c.Bind) (by first|simp;done|rfl) ?_|refine J02 (J54 c.Bind) (by first|simp;done|rfl) ?_
  rintro r rfl
  cases hn:J2o c.Bind
  ·simp
  simp [hL]
  refine J0l [2,4,7] 9 c.Args.length (fun i s h n=>4<n∧h 1=some ⟨true,3,[[.str c.Bind,.str c.Func,.sl 3 (c.Args.map J15)]]⟩∧h 4=some ⟨true,4,[[.str G.Name,.ref 2 0 G.Params.length,.bool false,.ref 3 0 G.Pre.length]]⟩∧h 2=some ⟨false,1,J0a G.Params⟩∧J8c scope (c.Args.drop i) (G.Params.drop i)=B) (by unfold LIM;omega) (by simp) ⟨by simp,by simp,by simp,by simp,by simpa using hB⟩ ?_ ?_
  ·rintro i st h n R hi hg hk s9 hw ⟨hn,e1,e4,e2,hJ⟩ hR hret _
   simp at hk
   have hip:i<G.Params.length:=by omega
   rw [J91 hi hip] at hJ
   refine J0b (J0i [2,4,7,9] (fun s=>s 53 = .bool true) (by simp [hk,s9,hi,hip,e1,h1n]) ?_)
   intro st1 hk1 s53
   simp at hk1
   refine J25 s53 (J0b (J1h ?_))
   refine J1n [2,4,7,9] (fun s h' n'=>4<n'∧s 69 = .bool (!J6n c.Args[i] (J0n G.Params[i]) scope)∧h' 1=some ⟨true,3,[[.str c.Bind,.str c.Func,.sl 3 (c.Args.map J15)]]⟩∧h' 4=some ⟨true,4,[[.str G.Name,.ref 2 0 G.Params.length,.bool false,.ref 3 0 G.Pre.length]]⟩∧h' 2=some ⟨false,1,J0a G.Params⟩) ?_ ?_
   ·simp [hk,hk1,s9,e1,e4,e2,hi,hip,hg]
    first|refine J01 (J1c (G.Params[i]'hip)) (by first|simp;done|rfl) ?_|refine J02 (J1c (G.Params[i]'hip)) (by first|simp;done|rfl) ?_
    rintro r rfl
    simp [hk,hk1,s9,e1,e4,e2,hi,hip,J15]
    first|refine J01 (J6s (c.Args[i]'hi) (J0n (G.Params[i]'hip)) scope (J6l hi hc)) (by first|simp [J15];done|rfl) ?_|refine J02 (J6s (c.Args[i]'hi) (J0n (G.Params[i]'hip)) scope (J6l hi hc)) (by first|simp [J15];done|rfl) ?_
    rintro r rfl
    simp [e1,e4,e2,hn]
   rintro st3 h3 n3 hk3 ⟨hn3,s69,e1'',e4'',e2''⟩
   simp at hk3
   generalize J6n c.Args[i] (J0n G.Params[i]) scope=D at *
   cases D
   ·rw [Bool.false_and] at hJ
    subst hJ
    simp [s69]
    refine hret _ _ _ ?_
    simp
   ·rw [Bool.true_and] at hJ
    simp [hk,hk1,hk3,s69,s9,hw]
    exact hR _ _ _ (by simp [hk,hk1,hk3]) (by simp) ⟨by omega,by simp [e1''],by simp [e4''],by simp [e2''],hJ⟩
  ·rintro st h n R hk s9 ⟨hn,e1,e4,e2,hJ⟩ hret hX
   simp at hk
   rw [List.drop_eq_nil_of_le (by omega),Ja6] at hJ
   refine J0b (J0i [2] (fun s=>s 53 = .bool false) (by simp [hk,s9,e1,h1n]) ?_)
   intro st1 hk1 s53
   refine J29 s53 ?_
   simp
   refine hX _ _ _ _ ?_
   simp [←hJ]
 ·simp
  first|refine J01 (J1c c.Bind) (by first|simp;done|rfl) ?_|refine J02 (J1c c.Bind) (by first|simp;done|rfl) ?_
  rintro r rfl
  cases hn:J0n c.Bind
  ·simp
  simp [hL]
  refine J0l [2,4,7] 9 c.Args.length (fun i s h n=>4<n∧h 1=some ⟨true,3,[[.str c.Bind,.str c.Func,.sl 3 (c.Args.map J15)]]⟩∧h 4=some ⟨true,4,[[.str G.Name,.ref 2 0 G.Params.length,.bool true,.ref 3 0 G.Pre.length]]⟩∧h 2=some ⟨false,1,J0a G.Params⟩∧J8c scope (c.Args.drop i) (G.Params.drop i)=B) (by unfold LIM;omega) (by simp) ⟨by simp,by simp,by simp,by simp,by simpa using hB⟩ ?_ ?_
  ·rintro i st h n R hi hg hk s9 hw ⟨hn,e1,e4,e2,hJ⟩ hR hret _
   simp at hk
   have hip:i<G.Params.length:=by omega
   rw [J91 hi hip] at hJ
   refine J0b (J0i [2,4,7,9] (fun s=>s 53 = .bool true) (by simp [hk,s9,hi,hip,e1,h1n]) ?_)
   intro st1 hk1 s53
   simp at hk1
   refine J25 s53 (J0b (J1h ?_))
   refine J1n [2,4,7,9] (fun s h' n'=>4<n'∧s 69 = .bool (!J6n c.Args[i] (J0n G.Params[i]) scope)∧h' 1=some ⟨true,3,[[.str c.Bind,.str c.Func,.sl 3 (c.Args.map J15)]]⟩∧h' 4=some ⟨true,4,[[.str G.Name,.ref 2 0 G.Params.length,.bool true,.ref 3 0 G.Pre.length]]⟩∧h' 2=some ⟨false,1,J0a G.Params⟩) ?_ ?_
   ·simp [hk,hk1,s9,e1,e4,e2,hi,hip,hg]
    first|refine J01 (J1c (G.Params[i]'hip)) (by first|simp;done|rfl) ?_|refine J02 (J1c (G.Params[i]'hip)) (by first|simp;done|rfl) ?_
    rintro r rfl
    simp [hk,hk1,s9,e1,e4,e2,hi,hip,J15]
    first|refine J01 (J6s (c.Args[i]'hi) (J0n (G.Params[i]'hip)) scope (J6l hi hc)) (by first|simp [J15];done|rfl) ?_|refine J02 (J6s (c.Args[i]'hi) (J0n (G.Params[i]'hip)) scope (J6l hi hc)) (by first|simp [J15];done|rfl) ?_
    rintro r rfl
    simp [e1,e4,e2,hn]
   rintro st3 h3 n3 hk3 ⟨hn3,s69,e1'',e4'',e2''⟩
   simp at hk3
   generalize J6n c.Args[i] (J0n G.Params[i]) scope=D at *
   cases D
   ·rw [Bool.false_and] at hJ
    subst hJ
    simp [s69]
    refine hret _ _ _ ?_
    simp
   ·rw [Bool.true_and] at hJ
    simp [hk,hk1,hk3,s69,s9,hw]
    exact hR _ _ _ (by simp [hk,hk1,hk3]) (by simp) ⟨by omega,by simp [e1''],by simp [e4''],by simp [e2''],hJ⟩
  ·rintro st h n R hk s9 ⟨hn,e1,e4,e2,hJ⟩ hret hX
   simp at hk
   rw [List.drop_eq_nil_of_le (by omega),Ja6] at hJ
   refine J0b (J0i [2] (fun s=>s 53 = .bool false) (by simp [hk,s9,e1,h1n]) ?_)
   intro st1 hk1 s53
   refine J29 s53 ?_
   simp
   refine hX _ _ _ _ ?_
   simp [←hJ]
end Go.Proofs.YtoclolkigjbcgaaGreat
