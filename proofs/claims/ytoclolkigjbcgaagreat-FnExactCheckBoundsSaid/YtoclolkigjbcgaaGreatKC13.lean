/- Contracts: names in order; the names of an argument. -/
import Derived.Test.YtoclolkigjbcgaaGreatKR44
import Derived.Test.YtoclolkigjbcgaaGreatKSh
import Derived.Test.YtoclolkigjbcgaaGreatKC9
namespace Go.Proofs.YtoclolkigjbcgaaGreat
set_option maxRecDepth 40000
set_option maxHeartbeats 4000000
open Go Go.RowKit Go.Proofs
set_option linter.all false
def a299:AFn:= ⟨10,[.t 2],(.seq (.reg [⟨some 2,.mv (.k (.nil 1)),no⟩]) (.seq (.reg [⟨some 4,.mv (.t 0),no⟩,⟨some 5,.call (.k (.fn (.func 252) [] [])) [.t 4],no⟩,⟨some 3,.mv (.t 5),no⟩]) (.seq (.reg [⟨some 6,.mv (.t 3),no⟩,⟨some 7,.call (.k (.fn (.func 324) [] [])) [.t 6],no⟩]) (.seq (.reg [⟨some 8,.mv (.t 3),no⟩,⟨some 9,.call (.k (.fn (.func 325) [] [])) [.t 8],no⟩,⟨some 2,.mv (.t 9),no⟩]) .ret))))⟩
theorem a299_ok:J0a Tryz.prog Tryz.f299=some a299:=by kernel_rfl
def a319:AFn:= ⟨63,[.t 2],(.seq (.reg [⟨some 2,.mv (.k (.nil 1)),no⟩]) (.seq (.reg [⟨some 7,.bsl 1 [],no⟩,⟨some 3,.mv (.t 7),no⟩]) (.seq (.seq (.reg [⟨some 4,.mv (.k (.int .i64 0)),no⟩]) (.blk 0 (.loop (.seq (.seq (.reg [⟨some 8,.mv (.t 4),no⟩,⟨some 9,.mv (.t 0),no⟩,⟨some 10,.len false (.t 9),no⟩,⟨some 11,.bin .lss (.t 8) (.t 10),no⟩]) (.cond (.t 11) .skip (.exit 0))) (.seq (.blk 1 (.seq (.reg [⟨some 5,.mv (.k (.int .i64 0)),no⟩]) (.seq (.blk 2 (.loop (.seq (.seq (.draw (.op ⟨some 14,.mv (.t 5),no⟩ (.op ⟨some 15,.mv (.t 3),no⟩ (.op ⟨some 16,.len false (.t 15),no⟩ (.op ⟨some 17,.bin .lss (.t 14) (.t 16),no⟩ (.op ⟨some 18,.mv (.t 17),no⟩ (.op ⟨some 19,.mv (.t 3),(some (18,true))⟩ (.op ⟨some 20,.mv (.t 5),(some (18,true))⟩ (.op ⟨some 21,.ixa 1 (.t 19) (.t 20),(some (18,true))⟩ (.op ⟨some 22,.ld false 1 (.t 21),(some (18,true))⟩ (.op ⟨some 23,.mv (.t 0),(some (18,true))⟩ (.op ⟨some 24,.mv (.t 4),(some (18,true))⟩ (.op ⟨some 25,.ixa 1 (.t 23) (.t 24),(some (18,true))⟩ (.op ⟨some 26,.ld false 1 (.t 25),(some (18,true))⟩ (.op ⟨some 27,.bin .lss (.t 22) (.t 26),(some (18,true))⟩ (.op ⟨some 28,.pick (.t 18) (.t 27) (.k (.bool false)),no⟩ .fin)))))))))))))))) (.cond (.t 28) .skip (.exit 2))) (.blk 3 (.reg [⟨some 29,.mv (.t 5),no⟩,⟨some 30,.bin .add (.t 29) (.k (.int .i64 1)),no⟩,⟨some 5,.mv (.t 30),no⟩]))))) (.seq (.seq (.draw (.op ⟨some 31,.mv (.t 5),no⟩ (.op ⟨some 32,.mv (.t 3),no⟩ (.op ⟨some 33,.len false (.t 32),no⟩ (.op ⟨some 34,.bin .lss (.t 31) (.t 33),no⟩ (.op ⟨some 35,.mv (.t 34),no⟩ (.op ⟨some 36,.mv (.t 3),(some (35,true))⟩ (.op ⟨some 37,.mv (.t 5),(some (35,true))⟩ (.op ⟨some 38,.ixa 1 (.t 36) (.t 37),(some (35,true))⟩ (.op ⟨some 39,.ld false 1 (.t 38),(some (35,true))⟩ (.op ⟨some 40,.mv (.t 0),(some (35,true))⟩ (.op ⟨some 41,.mv (.t 4),(some (35,true))⟩ (.op ⟨some 42,.ixa 1 (.t 40) (.t 41),(some (35,true))⟩ (.op ⟨some 43,.ld false 1 (.t 42),(some (35,true))⟩ (.op ⟨some 44,.bin .eql (.t 39) (.t 43),(some (35,true))⟩ (.op ⟨some 45,.pick (.t 35) (.t 44) (.k (.bool false)),no⟩ .fin)))))))))))))))) (.cond (.t 45) (.exit 1) .skip)) (.seq (.reg [⟨some 46,.bsl 1 [],no⟩,⟨some 47,.mv (.t 3),no⟩,⟨some 48,.mv (.t 5),no⟩,⟨some 49,.slc false 1 (.t 47) (some (.t 48)) Option.none,no⟩,⟨some 50,.app 16 1 (.t 46) (.t 49),no⟩,⟨some 6,.mv (.t 50),no⟩]) (.draw (.op ⟨some 51,.mv (.t 3),no⟩ (.op ⟨some 52,.mv (.t 5),no⟩ (.op ⟨some 53,.slc false 1 (.t 51) Option.none (some (.t 52)),no⟩ (.op ⟨some 54,.mv (.t 0),no⟩ (.op ⟨some 55,.mv (.t 4),no⟩ (.op ⟨some 56,.ixa 1 (.t 54) (.t 55),no⟩ (.op ⟨some 57,.ld false 1 (.t 56),no⟩ (.op ⟨some 60,.mv (.t 6),no⟩ (.hop ⟨some 58,.bsl 1 [.t 57],no⟩ [(.slc false 1 (.t 51) Option.none (some (.t 52)))] (.hop ⟨some 59,.app 16 1 (.t 53) (.t 58),no⟩ [] (.hop ⟨some 61,.app 16 1 (.t 59) (.t 60),no⟩ [] (.hop ⟨some 3,.mv (.t 61),no⟩ [] .fin)))))))))))))))))) (.reg [⟨some 12,.mv (.t 4),no⟩,⟨some 13,.bin .add (.t 12) (.k (.int .i64 1)),no⟩,⟨some 4,.mv (.t 13),no⟩])))))) (.seq (.reg [⟨some 62,.mv (.t 3),no⟩,⟨some 2,.mv (.t 62),no⟩]) .ret))))⟩
theorem a319_ok:J0a Tryz.prog Tryz.f319=some a319:=by kernel_rfl
theorem K0e {h:Heap}{n id:Nat}{l:List Str}{K:AV→Heap→Nat→Prop}(hB:h id=some ⟨false,1,J0e l⟩) (hK:K (.tup []) (upd h id (some ⟨false,1,J0e (Ja3 l)⟩)) n):J3w Tryz.prog 324 [.ref id 0 l.length] h n K:=by
 refine Jbx (l2:=Ja3 l) (r := .tup []) (by unfold J7a;rw [Tryz.func324];rfl) hB (Jf1 l) (fun s hs => .inl (Jio.1 hs)) (.inl ⟨rfl,fun _ _ _=>trivial⟩) ?_ ?_ hK
 ·intro b cap w hH hb _ hlim
  unfold LIM at hlim
  refine (Tryz.slices_Sort_string b 0 cap l w hH hb (by omega)).mono ?_
  rintro e w' ⟨rfl,q,os,rfl⟩
  exact ⟨⟨_,rfl,fun _=>rfl,fun m h=>by cases h⟩,q,os,rfl⟩
 ·intro _ w
  refine (Tryz.slices_Sort_string_none Option.none 0 w).mono ?_
  rintro e w' ⟨rfl,rfl⟩
  exact ⟨⟨_,rfl,fun _=>rfl,fun m h=>by cases h⟩,rfl⟩
theorem Jpo {h:Heap}{n id:Nat}{l:List Str}{K:AV→Heap→Nat→Prop}(hB:h id=some ⟨false,1,J0e l⟩)
 (hK:K (.ref id 0 (Go.Lib.compact l).length) (upd h id (some ⟨false,1,J0e (Go.Lib.compact l++List.replicate (l.length - (Go.Lib.compact l).length) [])⟩)) n):J3w Tryz.prog 325 [.ref id 0 l.length] h n K:=by
 have hl:=Jax l
 refine Jbx (l2:=Go.Lib.compact l++List.replicate (l.length - (Go.Lib.compact l).length) []) (r := .ref id 0 (Go.Lib.compact l).length) (by unfold J7a;rw [Tryz.func325];rfl) hB (by simp;omega) ?_ (.inr ⟨_,hl,rfl⟩) ?_ ?_ hK
 ·intro s hs
  rcases List.mem_append.1 hs with hs|hs
  ·left
   unfold Go.Lib.compact Go.Lib.compactUpTo at hs
   obtain ⟨j,hj,rfl⟩:=List.mem_map.1 hs
   have hj:=List.mem_range.1 (List.mem_filter.1 hj).1
   simp [hj]
  ·right;exact (List.mem_replicate.1 hs).2
 ·intro b cap w hH hb hcap hlim
  unfold LIM at hlim
  refine (Tryz.slices_Compact_string b 0 cap l w hH (by omega) hcap).mono ?_
  rintro e w' ⟨rfl,q,rfl⟩
  exact ⟨⟨_,rfl,fun h=>by (cases h),fun m h=>by (cases h;rfl)⟩,q,#[],by unfold J7p;rw [Go.Sort.grow_empty]⟩
 ·intro hl0 w
  subst hl0
  refine (Tryz.slices_Compact_string_empty Option.none 0 w).mono ?_
  rintro e w' ⟨rfl,rfl⟩
  exact ⟨⟨_,rfl,fun h=>by (cases h),fun m h=>rfl⟩,rfl⟩
theorem J4j (l:List Str) (hl:l.length≤1048576):Holds Tryz.prog 299 [.sl 1 (J0e l)] (fun r=>r = .us 1 (J0e (J4x l))):=by
 refine J03 Tryz.func299 a299_ok rfl (by simp [a299]) ?_
 simp [a299]
 first|refine J00 (J9r l hl) (by first|simp;done|rfl) ?_|refine J02 (J9r l hl) (by first|simp;done|rfl) ?_
 rintro r rfl
 simp
 refine K0e (l:=l) (by simp) ?_
 simp
 rw [←Jf1 l]
 refine Jpo (l:=Ja3 l) (by simp) ?_
 have h:=Jax (Ja3 l)
 have h2:List.take (Go.Lib.compact (Ja3 l)).length (J0e (Go.Lib.compact (Ja3 l)++List.replicate ((Ja3 l).length - (Go.Lib.compact (Ja3 l)).length) []))=J0e (J4x l):=by
  unfold J0e;rw [List.map_append,List.take_left' (by simp)];rfl
 simp [h2]
set_option maxHeartbeats 1000000 in
theorem J7f (l:List Str) (hl:l.length≤1048576):Holds Tryz.prog 319 [.sl 1 (J0e l)] (fun r=>r = .us 1 (J0e (J4x l))):=by
 refine J03 Tryz.func319 a319_ok rfl (by simp [a319]) ?_
 simp [a319]
 refine J0o [0] 4 l.length (fun i s h n=>∃ (acc:List Str) (id:Nat),s 3 = .ref id 0 acc.length∧h id=some ⟨false,1,J0e acc⟩∧id<n∧acc.length≤i∧SS acc∧∀ x,x∈acc↔x∈l.take i)
  (by unfold LIM;omega) (by simp) ⟨[],0,by simp,by simp [J0e],by simp,by simp,by simp [SS],by simp⟩ ?_ ?_
 ·rintro i s h n R hi hg hk s4 hw ⟨acc,id,s3,eid,hidn,hai,hS,hmem⟩ hR _ _
  simp at hk
  simp [hk,s4,hi,hg]
  intro _
  refine Jor (fun m s' h' n'=>∃ k:Nat,m=acc.length - k∧k≤acc.length∧s' 0 = .sl 1 (J0e l)∧s' 4 = .int .i64 i∧s' 3 = .ref id 0 acc.length∧s' 5 = .int .i64 k∧(∀ j,∀ hj:j<acc.length,j<k→bl acc[j] l[i]=true)∧h'=h∧n'=n) acc.length
   ⟨0,by simp,Nat.zero_le _,by simp [hk],by simp [s4],by simp [s3],by simp,fun j _ hj=>absurd hj (Nat.not_lt_zero _),rfl,rfl⟩ ?_
  rintro m s' h' n' R' ⟨k,rfl,hka,s0',s4',s3',s5',hlt,rfl,rfl⟩ hR' _ hX'
  have rest:∀ s'':Env,s'' 0 = .sl 1 (J0e l)→s'' 4 = .int .i64 i→s'' 3 = .ref id 0 acc.length→s'' 5 = .int .i64 k→(∀ hk:k<acc.length,bl acc[k] l[i]=false)→R' (.exit 2) s'' h' n':=by
   intro s2 t0 t4 t3 t5 hge
   refine hX' _ _ _ _ ?_
   obtain ⟨hS',hm'⟩:=Jmw hS hka hlt hge
   have hmem':∀ x,x∈Jfl acc l[i] k↔x∈l.take (i+1):=fun x=>by
    rw [hm',hmem,List.take_succ_eq_append_getElem hi,List.mem_append,List.mem_singleton]
    exact Or.comm
   have hll:(Jfl acc l[i] k).length≤i+1:=by
    unfold Jfl;split
    ·omega
    ·simp;omega
   by_cases he:acc[k]? = some l[i]
   ·have hk1:k<acc.length:=(List.getElem?_eq_some_iff.1 he).1
    have hek:acc[k]=l[i]:=by rw [List.getElem?_eq_getElem hk1] at he;exact Option.some.inj he
    have hia:Jfl acc l[i] k=acc:=by unfold Jfl;rw [if_pos he]
    rw [hia] at hS' hmem' hll
    simp [t0,t4,t3,t5,eid,hk1,hi,hek,hw]
    exact hR _ _ _ (by simp [t0,hk]) (by simp) ⟨acc,id,by simp [t3],eid,hidn,by omega,hS',hmem'⟩
   ·have hia:Jfl acc l[i] k=acc.take k++l[i]::acc.drop k:=by unfold Jfl;rw [if_neg he]
    have n0:¬id=n':=by omega
    have n1:¬id=n'+1:=by omega
    have n2:¬id=n'+1+1:=by omega
    have n3:¬n'=id:=by omega
    have n4:¬n'+1=id:=by omega
    have n5:¬n'+1+1=id:=by omega
    have n6:¬n'+1+1+1=id:=by omega
    have n7:¬id=n'+1+1+1:=by omega
    have q1:k+(acc.length - k)=acc.length:=by omega
    have q2:acc.length≤1048576:=by omega
    have q3:min k acc.length=k:=Nat.min_eq_left hka
    by_cases hk1:k<acc.length
    ·have hek:¬acc[k]=l[i]:=fun e=>he (by rw [List.getElem?_eq_getElem hk1,e])
     simp [t0,t4,t3,t5,eid,hk1,hi,hek,hw,J4f,asI,n0,n1,n2,n3,n4,n5,n6,n7,q1,q3,hka]
     have hlim:(acc.length - k)*16≤LIM∧(k+1)*16≤LIM∧(k+1+(acc.length - k))*16≤LIM:=by unfold LIM;omega
     refine ⟨hlim.1,hlim.2.1,hlim.2.2,?_⟩
     have hln:(acc.take k++l[i]::acc.drop k).length=k+1+(acc.length - k):=by simp;omega
     refine hR _ _ _ (by simp [t0,hk]) (by simp) ⟨acc.take k++l[i]::acc.drop k,n'+4,?_,?_,by omega,by rw [←hia];exact hll,by rw [←hia];exact hS',by rw [←hia];exact hmem'⟩
     ·rw [hln];simp
     ·simp [J0e,List.take_of_length_le]
      rw [List.take_of_length_le (by simp;omega)]
      simp
    ·simp [t0,t4,t3,t5,eid,hk1,hi,hw,J4f,asI,n0,n1,n2,n3,n4,n5,n6,n7,q1,q3,hka]
     have hlim:(acc.length - k)*16≤LIM∧(k+1)*16≤LIM∧(k+1+(acc.length - k))*16≤LIM:=by unfold LIM;omega
     refine ⟨hlim.1,hlim.2.1,hlim.2.2,?_⟩
     have hln:(acc.take k++l[i]::acc.drop k).length=k+1+(acc.length - k):=by simp;omega
     refine hR _ _ _ (by simp [t0,hk]) (by simp) ⟨acc.take k++l[i]::acc.drop k,n'+4,?_,?_,by omega,by rw [←hia];exact hll,by rw [←hia];exact hS',by rw [←hia];exact hmem'⟩
     ·rw [hln];simp
     ·simp [J0e,List.take_of_length_le]
      rw [List.take_of_length_le (by simp;omega)]
      simp
  by_cases hk1:k<acc.length
  ·simp [s0',s4',s3',s5',eid,hk1,hi]
   refine ⟨fun hb => ?_,fun hb => ?_⟩
   ·refine hR' (acc.length - (k+1)) _ _ _ (by omega) ⟨k+1,rfl,by omega,by simp [s0'],by simp [s4'],by simp [s3'],by simp;exact J1e (by omega),fun j hj hjk => ?_,rfl,rfl⟩
    by_cases hjk':j<k
    ·exact hlt j hj hjk'
    ·have:j=k:=by omega
     subst this;exact hb
   ·exact rest _ (by simp [s0']) (by simp [s4']) (by simp [s3']) (by simp [s5']) fun _=>hb
  ·simp [s0',s4',s3',s5',eid,hk1,hi]
   exact rest _ (by simp [s0']) (by simp [s4']) (by simp [s3']) (by simp [s5']) fun h=>absurd h hk1
 ·rintro s h n R hk s4 ⟨acc,id,s3,eid,hidn,hai,hS,hmem⟩ hret hX
  simp at hk
  rw [List.take_of_length_le (Nat.le_refl _)] at hmem
  have:=Jof hS hmem
  subst this
  simp [hk,s4]
  intro _
  refine hX _ _ _ _ ?_
  simp [s3,eid]
def a239:AFn:= ⟨20,[.t 2],(.seq (.reg [⟨some 1,.boxv (.t 0),no⟩,⟨some 2,.mv (.k (.nil 1)),no⟩]) (.seq (.reg [⟨some 3,.mv (.k (.nil 1)),no⟩]) (.seq (.seq (.reg [⟨some 6,.fld 1 (.t 1),no⟩,⟨some 7,.ld false 1 (.t 6),no⟩,⟨some 8,.len false (.t 7),no⟩,⟨some 9,.mv (.k (.int .i64 0)),no⟩]) (.blk 0 (.loop (.seq (.reg [⟨some 10,.bin .lss (.t 9) (.t 8),no⟩]) (.seq (.cond (.t 10) .skip (.exit 0)) (.seq (.blk 1 (.seq (.reg [⟨some 11,.ixa 2 (.t 7) (.t 9),no⟩,⟨some 12,.ld true 2 (.t 11),no⟩,⟨some 5,.box [(.int .i64 0),(.str [])],no⟩,⟨no,.st 2 (.t 5) (.t 12),no⟩]) (.reg [⟨some 13,.mv (.t 3),no⟩,⟨some 14,.fld 1 (.t 5),no⟩,⟨some 15,.ld false 1 (.t 14),no⟩,⟨some 16,.bsl 1 [.t 15],no⟩,⟨some 17,.app 16 1 (.t 13) (.t 16),no⟩,⟨some 3,.mv (.t 17),no⟩]))) (.reg [⟨some 18,.bin .add (.t 9) (.k (.int .i64 1)),no⟩,⟨some 9,.mv (.t 18),no⟩]))))))) (.seq (.reg [⟨some 19,.mv (.t 3),no⟩,⟨some 2,.mv (.t 19),no⟩]) .ret))))⟩
theorem a239_ok:J0a Tryz.prog Tryz.f239=some a239:=by kernel_rfl
def a243:AFn:= ⟨28,[.t 2],(.seq (.reg [⟨some 1,.boxv (.t 0),no⟩,⟨some 2,.mv (.k (.nil 1)),no⟩]) (.seq (.reg [⟨some 3,.mv (.k (.nil 1)),no⟩]) (.seq (.seq (.reg [⟨some 6,.fld 1 (.t 1),no⟩,⟨some 7,.ld false 1 (.t 6),no⟩,⟨some 8,.len false (.t 7),no⟩,⟨some 9,.mv (.k (.int .i64 0)),no⟩]) (.blk 0 (.loop (.seq (.reg [⟨some 10,.bin .lss (.t 9) (.t 8),no⟩]) (.seq (.cond (.t 10) .skip (.exit 0)) (.seq (.blk 1 (.seq (.reg [⟨some 11,.ixa 2 (.t 7) (.t 9),no⟩,⟨some 12,.ld true 2 (.t 11),no⟩,⟨some 5,.box [(.int .i64 0),(.nil 2)],no⟩,⟨no,.st 2 (.t 5) (.t 12),no⟩]) (.reg [⟨some 13,.mv (.t 3),no⟩,⟨some 14,.ld true 2 (.t 5),no⟩,⟨some 15,.call (.k (.fn (.func 239) [] [])) [.t 14],no⟩,⟨some 16,.app 16 1 (.t 13) (.t 15),no⟩,⟨some 3,.mv (.t 16),no⟩]))) (.reg [⟨some 17,.bin .add (.t 9) (.k (.int .i64 1)),no⟩,⟨some 9,.mv (.t 17),no⟩]))))))) (.seq (.seq (.reg [⟨some 18,.fld 2 (.t 1),no⟩,⟨some 19,.ld false 1 (.t 18),no⟩,⟨some 20,.bin .neq (.t 19) (.k (.str [])),no⟩]) (.cond (.t 20) (.reg [⟨some 21,.mv (.t 3),no⟩,⟨some 22,.fld 2 (.t 1),no⟩,⟨some 23,.ld false 1 (.t 22),no⟩,⟨some 24,.bsl 1 [.t 23],no⟩,⟨some 25,.app 16 1 (.t 21) (.t 24),no⟩,⟨some 3,.mv (.t 25),no⟩]) .skip)) (.seq (.reg [⟨some 26,.mv (.t 3),no⟩,⟨some 27,.call (.k (.fn (.func 299) [] [])) [.t 26],no⟩,⟨some 2,.mv (.t 27),no⟩]) .ret)))))⟩
theorem a243_ok:J0a Tryz.prog Tryz.f243=some a243:=by kernel_rfl
def a288:AFn:= ⟨48,[.t 2],(.seq (.reg [⟨some 1,.boxv (.t 0),no⟩,⟨some 2,.mv (.k (.nil 1)),no⟩]) (.seq (.reg [⟨some 6,.bsl 1 [],no⟩,⟨some 3,.mv (.t 6),no⟩]) (.seq (.seq (.reg [⟨some 4,.mv (.k (.int .i64 0)),no⟩]) (.blk 0 (.loop (.seq (.seq (.reg [⟨some 7,.mv (.t 4),no⟩,⟨some 8,.fld 1 (.t 1),no⟩,⟨some 9,.ld false 1 (.t 8),no⟩,⟨some 10,.len false (.t 9),no⟩,⟨some 11,.bin .lss (.t 7) (.t 10),no⟩]) (.cond (.t 11) .skip (.exit 0))) (.seq (.blk 1 (.seq (.reg [⟨some 5,.mv (.k (.int .i64 0)),no⟩]) (.blk 2 (.loop (.seq (.seq (.reg [⟨some 14,.mv (.t 5),no⟩,⟨some 15,.fld 1 (.t 1),no⟩,⟨some 16,.ld false 1 (.t 15),no⟩,⟨some 17,.mv (.t 4),no⟩,⟨some 18,.ixa 2 (.t 16) (.t 17),no⟩,⟨some 19,.fld 1 (.t 18),no⟩,⟨some 20,.ld false 1 (.t 19),no⟩,⟨some 21,.len false (.t 20),no⟩,⟨some 22,.bin .lss (.t 14) (.t 21),no⟩]) (.cond (.t 22) .skip (.exit 2))) (.seq (.blk 3 (.reg [⟨some 25,.mv (.t 3),no⟩,⟨some 26,.fld 1 (.t 1),no⟩,⟨some 27,.ld false 1 (.t 26),no⟩,⟨some 28,.mv (.t 4),no⟩,⟨some 29,.ixa 2 (.t 27) (.t 28),no⟩,⟨some 30,.fld 1 (.t 29),no⟩,⟨some 31,.ld false 1 (.t 30),no⟩,⟨some 32,.mv (.t 5),no⟩,⟨some 33,.ixa 2 (.t 31) (.t 32),no⟩,⟨some 34,.fld 1 (.t 33),no⟩,⟨some 35,.ld false 1 (.t 34),no⟩,⟨some 36,.bsl 1 [.t 35],no⟩,⟨some 37,.app 16 1 (.t 25) (.t 36),no⟩,⟨some 3,.mv (.t 37),no⟩])) (.reg [⟨some 23,.mv (.t 5),no⟩,⟨some 24,.bin .add (.t 23) (.k (.int .i64 1)),no⟩,⟨some 5,.mv (.t 24),no⟩]))))))) (.reg [⟨some 12,.mv (.t 4),no⟩,⟨some 13,.bin .add (.t 12) (.k (.int .i64 1)),no⟩,⟨some 4,.mv (.t 13),no⟩])))))) (.seq (.seq (.reg [⟨some 38,.fld 2 (.t 1),no⟩,⟨some 39,.ld false 1 (.t 38),no⟩,⟨some 40,.bin .neq (.t 39) (.k (.str [])),no⟩]) (.cond (.t 40) (.reg [⟨some 41,.mv (.t 3),no⟩,⟨some 42,.fld 2 (.t 1),no⟩,⟨some 43,.ld false 1 (.t 42),no⟩,⟨some 44,.bsl 1 [.t 43],no⟩,⟨some 45,.app 16 1 (.t 41) (.t 44),no⟩,⟨some 3,.mv (.t 45),no⟩]) .skip)) (.seq (.reg [⟨some 46,.mv (.t 3),no⟩,⟨some 47,.call (.k (.fn (.func 319) [] [])) [.t 46],no⟩,⟨some 2,.mv (.t 47),no⟩]) .ret)))))⟩
theorem a288_ok:J0a Tryz.prog Tryz.f288=some a288:=by kernel_rfl
def J6m (s:DSum):List Str:=s.Terms.map (·.Name)
def Ja2:List DSum→List Str
 | []=>[]
 | s::l=>J6m s++Ja2 l
def J6z (a:DArg):List Str:=Ja2 a.Heads++if a.Base=[] then [] else [a.Base]
theorem Jc1:∀ l:List DSum,(Ja2 l).length≤wL Jc6 l
 | []=>Nat.zero_le _
 | s::l=>by
  have h1:=Jc1 l
  have h2:=J27 J7o s.Terms
  unfold wL at h1 ⊢
  simp only [Ja2,J6m,List.length_append,List.length_map,List.length_cons,List.map_cons,List.sum_cons]
  rw [show Jc6 s=wL J7o s.Terms from rfl]
  omega
theorem Jf8 (a:DArg) (hw:Ja1 a≤1048576):(J6z a).length≤1048576:=by
 have h1:=Jc1 a.Heads
 unfold Ja1 J66 at hw
 unfold J6z
 rw [List.length_append]
 split
 ·simp;omega
 ·rename_i hb
  have:0<a.Base.length:=List.length_pos_iff.2 hb
  simp;omega
theorem J57 (x:DSum) (hw:x.Terms.length≤1048576):Holds Tryz.prog 239 [.agg (J1g x)] (fun r=>r = .us 1 (J0e (J6m x))):=by
 refine J03 Tryz.func239 a239_ok rfl (by simp [a239]) ?_
 simp [a239,J1g]
 intro _
 refine J0o [7,8] 9 x.Terms.length (fun i s h n=>(i=0∧s 3 = .nil 1)∨∃ id,id<n∧s 3 = .ref id 0 i∧h id=some ⟨false,1,(J0e (J6m x)).take i⟩) (by unfold LIM;omega) (by simp) (by simp) ?_ ?_
 ·rintro i s h n R hi hg hk s9 hw9 hJ hR _ _
  simp at hk
  have htk:(J0e (J6m x)).take (i+1)=(J0e (J6m x)).take i++[[.str (x.Terms[i]).Name]]:=by
   rw [List.take_succ_eq_append_getElem (by simpa [J6m] using hi)];simp [J0e,J6m]
  rcases hJ with ⟨rfl,s3⟩|⟨id,hid,s3,eid⟩
  ·simp [hk,s9,hi,hw9,s3,J12]
   refine ⟨by unfold LIM;omega,?_⟩
   exact hR _ _ _ (by simp [hk]) (by simp;exact J1e (by omega)) (.inr ⟨n+2,by omega,by simp,by simp [htk]⟩)
  ·have n0:¬id=n:=by omega
   have n1:¬id=n+1:=by omega
   have n3:¬n+1=id:=by omega
   have n4:¬n=id:=by omega
   simp [hk,s9,hi,hw9,s3,J12,eid,n0,n1,n3,n4]
   refine ⟨by simp [J6m];omega,by unfold LIM;omega,?_⟩
   exact hR _ _ _ (by simp [hk]) (by simp) (.inr ⟨n+2,by omega,by simp,by simp [htk,List.take_take]⟩)
 ·rintro s h n R hk s9 hJ hret hX
  simp at hk
  simp [hk,s9]
  refine hX _ _ _ _ ?_
  rcases hJ with ⟨h0,s3⟩|⟨id,hid,s3,eid⟩
  ·have:x.Terms=[]:=List.eq_nil_of_length_eq_zero h0
   simp [s3,J6m,this,J0e]
  ·have hl:(J6m x).length=x.Terms.length:=by simp [J6m]
   have ht:List.take x.Terms.length (J0e (J6m x))=J0e (J6m x):=List.take_of_length_le (by simp [hl])
   simp [s3,eid,hl,ht]
set_option maxHeartbeats 1000000 in
theorem J82 (a:DArg) (hw:Ja1 a≤1048576):Holds Tryz.prog 243 [.agg (J0v a)] (fun r=>r = .us 1 (J0e (J4x (J6z a)))):=by
 have hw':=hw
 unfold Ja1 J66 at hw'
 have hsl:=Jc1 a.Heads
 have hll:=J27 Jc6 a.Heads
 refine J03 Tryz.func243 a243_ok rfl (by simp [a243]) ?_
 simp [a243,J0v]
 intro _
 generalize hT:Ja2 a.Heads=T at *
 have hTl:T.length≤1048576:=by omega
 refine J0o [1,7,8] 9 a.Heads.length (fun i s h n=>h 0=some ⟨true,3,[[.bool a.Lst,.sl 2 (a.Heads.map J1g),.str a.Base]]⟩∧0<n∧∃ acc:List Str,acc++Ja2 (a.Heads.drop i)=T∧((acc=[]∧s 3 = .nil 1)∨∃ id,0<id∧id<n∧s 3 = .ref id 0 acc.length∧h id=some ⟨false,1,J0e acc⟩))
  (by unfold LIM;omega) (by simp) ⟨by simp,by simp,[],by simpa using hT,.inl ⟨rfl,by simp⟩⟩ ?_ ?_
 ·rintro i s h n R hi hg hk s9 hw9 ⟨e0,hn,acc,hJ,hJ2⟩ hR _ _
  simp at hk
  rw [List.drop_eq_getElem_cons hi] at hJ
  simp only [Ja2] at hJ
  have hal:=congrArg List.length hJ
  simp only [List.length_append] at hal
  have hwt:(a.Heads[i]).Terms.length≤1048576:=by
   have:=J3d (w:=Jc6) (List.getElem_mem hi)
   rw [show Jc6 a.Heads[i]=wL J7o (a.Heads[i]).Terms from rfl] at this
   have:=J27 J7o (a.Heads[i]).Terms
   omega
  have z0:¬0=n:=by omega
  have z1:¬0=n+1:=by omega
  have z2:¬0=n+1+1:=by omega
  have z3:¬n=0:=by omega
  rcases hJ2 with ⟨rfl,s3⟩|⟨id,hid0,hid,s3,eid⟩
  ·simp [hk,s9,hi,hw9,s3,J1g]
   first|refine J00 (J57 (a.Heads[i]'hi) hwt) (by first|simp [J1g];done|rfl) ?_|refine J02 (J57 (a.Heads[i]'hi) hwt) (by first|simp [J1g];done|rfl) ?_
   rintro r rfl
   simp [hk,s9,hi,hw9,s3]
   refine ⟨by unfold LIM;omega,?_⟩
   exact hR _ _ _ (by simp [hk]) (by simp) ⟨by simp [e0,z0,z1,z2,z3],by omega,J6m a.Heads[i],by simpa using hJ,.inr ⟨n+2,by omega,by omega,by simp,by simp⟩⟩
  ·have n0:¬id=n:=by omega
   have n1:¬id=n+1:=by omega
   have n2:¬id=n+1+1:=by omega
   have n3:¬n+1=id:=by omega
   have n4:¬n=id:=by omega
   have n5:¬0=id:=by omega
   have n6:¬id=0:=by omega
   simp [hk,s9,hi,hw9,s3,J1g,eid,n0]
   first|refine J00 (J57 (a.Heads[i]'hi) hwt) (by first|simp [J1g];done|rfl) ?_|refine J02 (J57 (a.Heads[i]'hi) hwt) (by first|simp [J1g];done|rfl) ?_
   rintro r rfl
   simp [hk,s9,hi,hw9,s3,eid,n0,n1,n2,n3,n4,n5,n6]
   refine ⟨by unfold LIM;omega,?_⟩
   exact hR _ _ _ (by simp [hk]) (by simp) ⟨by simp [e0,z0,z1,z2,z3,n5],by omega,acc++J6m a.Heads[i],by rw [List.append_assoc];exact hJ,.inr ⟨n+2,by omega,by omega,by simp,by simp [J0e]⟩⟩
 ·rintro s h n R hk s9 ⟨e0,hn,acc,hJ,hJ2⟩ hret hX
  simp at hk
  rw [List.drop_eq_nil_of_le (by omega)] at hJ
  simp only [Ja2,List.append_nil] at hJ
  subst hJ
  simp [hk,s9]
  refine hX _ _ _ _ ?_
  have hA:J6z a=acc++if a.Base=[] then [] else [a.Base]:=by unfold J6z;rw [hT]
  have hAl:(J6z a).length≤1048576:=Jf8 a hw
  rw [hA] at hAl ⊢
  clear hX hret
  by_cases hb:a.Base=[]
  ·simp only [hb,if_true,List.append_nil] at hAl ⊢
   rcases hJ2 with ⟨rfl,s3⟩|⟨id,hid0,hid,s3,eid⟩
   ·simp [hk,e0,hb,s3]
    first|refine J00 (J4j [] hAl) (by first|simp [J0e];done|rfl) ?_|refine J02 (J4j [] hAl) (by first|simp [J0e];done|rfl) ?_
    rintro r rfl
    simp
   ·simp [hk,e0,hb,s3]
    first|refine J00 (J4j acc hAl) (by first|simp [eid];done|rfl) ?_|refine J02 (J4j acc hAl) (by first|simp [eid];done|rfl) ?_
    rintro r rfl
    simp
  ·simp only [hb,if_false] at hAl ⊢
   have hlim:(acc.length+1)*16≤LIM:=by simp at hAl;unfold LIM;omega
   rcases hJ2 with ⟨rfl,s3⟩|⟨id,hid0,hid,s3,eid⟩
   ·have z0:¬0=n:=by omega
    simp [hk,e0,hb,s3]
    refine ⟨by unfold LIM;omega,?_⟩
    first|refine J00 (J4j ([]++[a.Base]) hAl) (by first|simp [J0e];done|rfl) ?_|refine J02 (J4j ([]++[a.Base]) hAl) (by first|simp [J0e];done|rfl) ?_
    rintro r rfl
    simp
   ·have n0:¬id=n:=by omega
    have n3:¬n=id:=by omega
    simp [hk,e0,hb,s3,eid,n0,n3]
    refine ⟨hlim,?_⟩
    have ht:List.take (acc.length+1) (J0e acc++[[AV.str a.Base]])=J0e (acc++[a.Base]):=by rw [List.take_of_length_le (by simp)];simp [J0e]
    first|refine J00 (J4j (acc++[a.Base]) hAl) (by first|simp [ht];done|rfl) ?_|refine J02 (J4j (acc++[a.Base]) hAl) (by first|simp [ht];done|rfl) ?_
    rintro r rfl
    simp
set_option maxHeartbeats 1000000 in
theorem Jgn (a:DArg) (hw:Ja1 a≤1048576):Holds Tryz.prog 288 [.agg (J0v a)] (fun r=>r = .us 1 (J0e (J4x (J6z a)))):=by
 have hw':=hw
 unfold Ja1 J66 at hw'
 have hsl:=Jc1 a.Heads
 have hll:=J27 Jc6 a.Heads
 refine J03 Tryz.func288 a288_ok rfl (by simp [a288]) ?_
 simp [a288,J0v]
 generalize hT:Ja2 a.Heads=T at *
 have hTl:T.length≤1048576:=by omega
 refine J0o [1] 4 a.Heads.length (fun i s h n=>h 0=some ⟨true,3,[[.bool a.Lst,.sl 2 (a.Heads.map J1g),.str a.Base]]⟩∧0<n∧∃ (acc:List Str) (id:Nat),acc++Ja2 (a.Heads.drop i)=T∧0<id∧id<n∧s 3 = .ref id 0 acc.length∧h id=some ⟨false,1,J0e acc⟩)
  (by unfold LIM;omega) (by simp) ⟨by simp,by simp,[],1,by simpa using hT,by omega,by omega,by simp,by simp [J0e]⟩ ?_ ?_
 ·rintro i s h n R hi hg hk s4 hw4 ⟨e0,hn,acc,id,hJ,hid0,hid,s3,eid⟩ hR _ _
  simp at hk
  rw [List.drop_eq_getElem_cons hi] at hJ
  simp only [Ja2] at hJ
  have hwt:(a.Heads[i]).Terms.length≤1048576:=by
   have:=J3d (w:=Jc6) (List.getElem_mem hi)
   rw [show Jc6 a.Heads[i]=wL J7o (a.Heads[i]).Terms from rfl] at this
   have:=J27 J7o (a.Heads[i]).Terms
   omega
  simp [hk,s4,hi,hg,e0]
  intro _
  refine J0o [1,4] 5 (a.Heads[i]).Terms.length (fun j s h n=>h 0=some ⟨true,3,[[.bool a.Lst,.sl 2 (a.Heads.map J1g),.str a.Base]]⟩∧0<n∧∃ (acc:List Str) (id:Nat),acc++((J6m a.Heads[i]).drop j++Ja2 (a.Heads.drop (i+1)))=T∧0<id∧id<n∧s 3 = .ref id 0 acc.length∧h id=some ⟨false,1,J0e acc⟩)
   (by unfold LIM;omega) (by simp) ⟨by simp [e0],hn,acc,id,by simpa using hJ,hid0,hid,by simp [s3],by simp [eid]⟩ ?_ ?_
  ·rintro j s2 h2 n2 R2 hj hgj hk2 s5 hw5 ⟨e02,hn2,acc2,id2,hJ2,hid02,hid2,s32,eid2⟩ hR2 _ _
   simp at hk2
   rw [List.drop_eq_getElem_cons (by simpa [J6m] using hj)] at hJ2
   have hal:=congrArg List.length hJ2
   simp at hal
   have n0:¬id2=n2:=by omega
   have n1:¬id2=n2+1:=by omega
   have n3:¬n2+1=id2:=by omega
   have n4:¬n2=id2:=by omega
   have n5:¬0=id2:=by omega
   have n6:¬id2=0:=by omega
   have z0:¬0=n2:=by omega
   have z1:¬0=n2+1:=by omega
   have z3:¬n2=0:=by omega
   simp [hk2,hk,s4,s5,hj,hgj,hw5,hi,e02,J1g,J12,s32,eid2,n0,n1,n3,n4,n5,n6,z0,z1,z3]
   intro _
   refine ⟨by unfold LIM;omega,?_⟩
   refine hR2 _ _ _ (by simp [hk2,hk,s4]) (by simp) ⟨by simp [e02,n5,z0,z1,z3],by omega,acc2++[(a.Heads[i]).Terms[j].Name],n2+1,?_,by omega,by omega,by simp,by simp [J0e]⟩
   rw [←hJ2]
   simp [J6m]
  ·rintro s2 h2 n2 R2 hk2 s5 ⟨e02,hn2,acc2,id2,hJ2,hid02,hid2,s32,eid2⟩ hret2 hX2
   simp at hk2
   rw [List.drop_eq_nil_of_le (by simp [J6m]),List.nil_append] at hJ2
   simp [hk2,hk,s4,s5,hi,e02,J1g]
   intro _
   refine hX2 _ _ _ _ ?_
   simp [hk2,hk,s4,hw4]
   exact hR _ _ _ (by simp [hk2,hk]) (by simp) ⟨e02,hn2,acc2,id2,hJ2,hid02,hid2,by simp [s32],eid2⟩
 ·rintro s h n R hk s4 ⟨e0,hn,acc,id,hJ,hid0,hid,s3,eid⟩ hret hX
  simp at hk
  rw [List.drop_eq_nil_of_le (by omega)] at hJ
  simp only [Ja2,List.append_nil] at hJ
  subst hJ
  simp [hk,s4,e0]
  intro _
  refine hX _ _ _ _ ?_
  have hA:J6z a=acc++if a.Base=[] then [] else [a.Base]:=by unfold J6z;rw [hT]
  have hAl:(J6z a).length≤1048576:=Jf8 a hw
  rw [hA] at hAl ⊢
  clear hX hret
  by_cases hb:a.Base=[]
  ·simp only [hb,if_true,List.append_nil] at hAl ⊢
   simp [hk,e0,hb,s3]
   first|refine J00 (J7f acc hAl) (by first|simp [eid];done|rfl) ?_|refine J02 (J7f acc hAl) (by first|simp [eid];done|rfl) ?_
   rintro r rfl
   simp
  ·simp only [hb,if_false] at hAl ⊢
   have hlim:(acc.length+1)*16≤LIM:=by simp at hAl;unfold LIM;omega
   have n0:¬id=n:=by omega
   have n3:¬n=id:=by omega
   simp [hk,e0,hb,s3,eid,n0,n3]
   refine ⟨hlim,?_⟩
   have ht:List.take (acc.length+1) (J0e acc++[[AV.str a.Base]])=J0e (acc++[a.Base]):=by rw [List.take_of_length_le (by simp)];simp [J0e]
   first|refine J00 (J7f (acc++[a.Base]) hAl) (by first|simp [ht];done|rfl) ?_|refine J02 (J7f (acc++[a.Base]) hAl) (by first|simp [ht];done|rfl) ?_
   rintro r rfl
   simp
theorem Jzb {s:Env}{k:Nat}{v:AV} : J5o s (some k) v k=v:=by simp
theorem K1z {s:Env}{k j:Nat}{v:AV}(hj:¬j=k):J5o s (some k) v j=s j:=by simp [hj]
theorem K5g {α:Type}{f:Nat→α}{k:Nat}{v:α} : upd f k v k=v:=by simp
theorem Jmp {α:Type}{f:Nat→α}{k j:Nat}{v:α}(hj:¬j=k):upd f k v j=f j:=by simp [hj]
attribute [simp ↓ high] Jzb K1z K5g Jmp
def Jy6 (raw:Bool) (o:Option AV):Option AV:=if raw then o else o.map dr
@[simp ↓ high] theorem Kah (o:Option AV):Jy6 true o=o:=by unfold Jy6;rw [if_pos (by simp)]
@[simp ↓ high] theorem K94 (o:Option AV):Jy6 false o=o.map dr:=by unfold Jy6;rw [if_neg (by simp)]
def Jy0 (raw b:Bool) (l:List AV):Option AV:=if b then some (.agg (if raw then l else drl l)) else Option.none
@[simp ↓ high] theorem K9j (l:List AV):Jy0 true true l=some (.agg l):=by unfold Jy0;rw [if_pos (by simp),if_pos (by simp)]
@[simp ↓ high] theorem Ka8 (l:List AV):Jy0 false true l=some (.agg (drl l)):=by unfold Jy0;rw [if_pos (by simp),if_neg (by simp)]
@[simp ↓ high] theorem ldv_1 (raw:Bool) (row:List AV) (c:Nat):ldv raw false row c 1=Jy6 raw (row[c]?):=by
 unfold ldv Jy6
 by_cases h:c<row.length
 ·rw [if_pos (by omega),if_neg (by simp),if_pos rfl,List.getElem?_eq_getElem h];cases raw <;> simp
 ·rw [if_neg (by omega),List.getElem?_eq_none (by omega)];cases raw <;> rfl
@[simp ↓ high] theorem ldv_G (raw:Bool) (row:List AV) (c sz:Nat):ldv raw true row c sz=Jy0 raw (decide (c+sz≤row.length)) ((row.drop c).take sz):=by
 unfold ldv Jy0
 by_cases h:c+sz≤row.length
 ·simp [h]
 ·simp [h]
def K4r (P:Program) (ks:List Kt) (Q:Fin) (keep:List Nat) (J:Env→Prop) (s0:Env) (h0:Heap) (n0:Nat):Fin:=fun e s h n=>match e with
 | .normal=>(∀ j∈keep,s j=s0 j)∧J s∧h=h0∧n=n0
 | e=>J2b P ks e s h n Q
section
variable {P:Program}{a b:AC}{ks:List Kt}{s:Env}{h:Heap}{n:Nat}{Q:Fin}
@[simp ↓] theorem Jxe {keep:List Nat}{J:Env→Prop}{s0 s':Env}{h0 h':Heap}{n0 n':Nat} : K4r P ks Q keep J s0 h0 n0 .normal s' h' n'=((∀ j∈keep,s' j=s0 j)∧J s'∧h'=h0∧n'=n0):=propext Iff.rfl
@[simp ↓] theorem K45 {keep:List Nat}{J:Env→Prop}{s0 s':Env}{h0 h':Heap}{n0 n':Nat} : K4r P ks Q keep J s0 h0 n0 .ret s' h' n'=J2b P ks .ret s' h' n' Q:=propext Iff.rfl
@[simp ↓] theorem K15 {keep:List Nat}{J:Env→Prop}{s0 s':Env}{h0 h':Heap}{n0 n' i:Nat} : K4r P ks Q keep J s0 h0 n0 (.exit i) s' h' n'=J2b P ks (.exit i) s' h' n' Q:=propext Iff.rfl
theorem J0i (keep:List Nat) (J:Env→Prop) (h1:rC P a [] s h n (K4r P (.seq b::ks) Q keep J s h n)) (h2:∀ s',(∀ j∈keep,s' j=s j)→J s'→rC P b ks s' h n Q):rC P (.seq a b) ks s h n Q:=by
 rw [Ja9]
 unfold rC at h1 ⊢
 refine Jdi h1 ?_
 intro e s' h' n' hq
 cases e
 ·obtain ⟨g1,g2,rfl,rfl⟩:=hq
  exact h2 s' g1 g2
 ·exact hq
 ·exact hq
def K35 (P:Program) (ks:List Kt) (Q:Fin) (keep:List Nat) (J:Env→Heap→Nat→Prop) (s0:Env):Fin:=fun e s h n=>match e with
 | .normal=>(∀ j∈keep,s j=s0 j)∧J s h n
 | e=>J2b P ks e s h n Q
@[simp ↓] theorem Jud {keep:List Nat}{J:Env→Heap→Nat→Prop}{s0 s':Env}{h':Heap}{n':Nat} : K35 P ks Q keep J s0 .normal s' h' n'=((∀ j∈keep,s' j=s0 j)∧J s' h' n'):=propext Iff.rfl
@[simp ↓] theorem K4s {keep:List Nat}{J:Env→Heap→Nat→Prop}{s0 s':Env}{h':Heap}{n':Nat} : K35 P ks Q keep J s0 .ret s' h' n'=J2b P ks .ret s' h' n' Q:=propext Iff.rfl
@[simp ↓] theorem K0y {keep:List Nat}{J:Env→Heap→Nat→Prop}{s0 s':Env}{h':Heap}{n' i:Nat} : K35 P ks Q keep J s0 (.exit i) s' h' n'=J2b P ks (.exit i) s' h' n' Q:=propext Iff.rfl
theorem J15 (keep:List Nat) (J:Env→Heap→Nat→Prop) (h1:rC P a [] s h n (K35 P (.seq b::ks) Q keep J s)) (h2:∀ s' h' n',(∀ j∈keep,s' j=s j)→J s' h' n'→rC P b ks s' h' n' Q):rC P (.seq a b) ks s h n Q:=by
 rw [Ja9]
 unfold rC at h1 ⊢
 refine Jdi h1 ?_
 intro e s' h' n' hq
 cases e
 ·exact h2 s' h' n' hq.1 hq.2
 ·exact hq
 ·exact hq
theorem J3g {c:Nat}{e:AC}(hc:s c = .bool true) (h1:rC P b ks s h n Q):rC P (.seq (.cond (.t c) .skip e) b) ks s h n Q:=by
 rw [Ja9,Jaq]
 have:ev s (.t c) = .bool true:=hc
 rw [this]
 simpa using h1
theorem J37 {c id:Nat}(hc:s c = .bool false) (h1:J2b P ks (.exit id) s h n Q):rC P (.seq (.cond (.t c) .skip (.exit id)) b) ks s h n Q:=by
 rw [Ja9,Jaq]
 have:ev s (.t c) = .bool false:=hc
 rw [this]
 simpa using h1
theorem J29 {c:Nat}{e:AC}{ks:List Kt}(hc:s c = .bool true) (h1:J2b P ks .normal s h n Q):rC P (.cond (.t c) .skip e) ks s h n Q:=by
 rw [Jaq]
 have:ev s (.t c) = .bool true:=hc
 rw [this]
 simpa using h1
theorem J23 {c id:Nat}{ks:List Kt}(hc:s c = .bool false) (h1:J2b P ks (.exit id) s h n Q):rC P (.cond (.t c) .skip (.exit id)) ks s h n Q:=by
 rw [Jaq]
 have:ev s (.t c) = .bool false:=hc
 rw [this]
 simpa using h1
theorem J1c {id:Nat}(h1:rC P a (.blk id::ks) s h n Q):rC P (.blk id a) ks s h n Q:=by rw [K1p];exact h1
theorem J0b (h1:rC P a (.seq b::ks) s h n Q):rC P (.seq a b) ks s h n Q:=by rw [Ja9];exact h1
end
def Jhh (c:UInt8):Bool:=decide ((97:Int)≤c.toNat)&&decide ((c.toNat:Int)≤122)
def Jlk (c:UInt8):Bool:=decide ((48:Int)≤c.toNat)&&decide ((c.toNat:Int)≤57)
def J44:Nat→Str→Bool
 | _,[]=>true
 | i,c::l=>(Jhh c||(decide (i≠0)&&Jlk c))&&J44 (i+1) l
def J47 (l:List Str) (s:Str):Bool:=l.any fun x=>x==s
def Jej:List Str:=[[102,117,110],[112,114,101],[114,117,108,101],[114,101,116,117,114,110],[110,105,108]]
def Jmx (s:Str):Bool:=J47 Jej s
def J3i (s:Str):Bool:=inR s.length 1 8 && !Jmx s&&J44 0 s
def J0n (s:Str):Bool:=J3i s&&s.getD (s.length - 1) 0==115
def J2f (s:Str):Bool:=J3i s && !J0n s
def Jn0 (n:Int):Bool:=inR n (-1000000) 1000000
theorem Jgc {s:Str}(h:J3i s=true):1≤s.length∧s.length≤8:=by
 unfold J3i inR at h;simp at h;omega
def J6e:Option Str→List DTerm→Bool
 | _,[]=>true
 | pr,t::l=>(!(t.Coeff==0)&&Jn0 t.Coeff&&J2f t.Name&&(match pr with|Option.none=>true|some q=>Op.bytesLess q t.Name))&&J6e (some t.Name) l
def J8y (s:DSum):Bool:=Jn0 s.Const&&decide (s.Terms.length≤4)&&J6e Option.none s.Terms
def Jaz (a:DArg):Bool:=a.Heads.all J8y&&(if a.Lst then decide (a.Heads.length≤3)&&(a.Base==[]||J0n a.Base) else decide (a.Heads.length=1)&&a.Base==[])
def Jmy (l:List Str) (scope:List Str):Bool:=l.all (J47 scope)
def J6b (a:DArg) (list:Bool) (scope:List Str):Bool:=Jaz a&&(a.Lst==list)&&Jmy (J4x (J6z a)) scope
def J42 (scope:List Str) (g:DSum):Bool:=J8y g&&Jmy (J6m g) scope
def J3n (met:List Str):List Str→Bool
 | []=>true
 | s::l => !J47 met s&&J3n (met++[s]) l
def J85 (l:List Str):Bool:=J3n [] l
def Jtp (params:List Str) (q:DPattern):Bool:=J47 params q.Lst&&J0n q.Lst&&(if q.Cons then J2f q.Head&&J0n q.Tail else q.Head==[]&&q.Tail==[])
def J3o (params:List Str) (met:List Str):List DPattern→Bool
 | []=>true
 | q::l=>(Jtp params q && !J47 met q.Lst)&&J3o params (met++[q.Lst]) l
def J7y (scope:List Str):List DArg→List Str→Bool
 | a::l,s::m=>J6b a (J0n s) scope&&J7y scope l m
 | _,_=>true
def J9g (p:DProgram) (c:DCall) (scope:List Str):Bool:=
 (J0t p.Functions c.Func).isSome&&decide (c.Args.length=((J0t p.Functions c.Func).getD fn0).Params.length)&&(if ((J0t p.Functions c.Func).getD fn0).ListResult then J0n c.Bind else J2f c.Bind) &&
  J7y scope c.Args ((J0t p.Functions c.Func).getD fn0).Params
def J2c (p:DProgram) (r:DRule):Nat→List DCall→Bool
 | _,[]=>true
 | k,c::l=>J9g p c (J1j p r k)&&J2c p r (k+1) l
def J7e (p:DProgram) (r:DRule):Bool:=
 (J0t p.Functions r.Func).isSome&&J3o ((J0t p.Functions r.Func).getD fn0).Params [] r.Patterns&&decide (r.Guards.length≤2)&&r.Guards.all (J42 (J1j p r 0))&&decide (r.Calls.length≤2) &&
  J2c p r 0 r.Calls&&J6b r.Result ((J0t p.Functions r.Func).getD fn0).ListResult (J1j p r r.Calls.length)&&J85 (J1j p r r.Calls.length)
def Jji (f:DFunction):Bool:=J2f f.Name&&decide (f.Params.length≤2)&&(f.Params.all J3i&&J85 f.Params)&&decide (f.Pre.length≤2)&&f.Pre.all fun l=>J14 l f.Params.length
def J8f (met:List Str):List DFunction→Bool
 | []=>true
 | f::l=>(Jji f && !J47 met f.Name)&&J8f (met++[f.Name]) l
def J2l (p:DProgram):Bool:=inR p.Functions.length 1 3&&J8f [] p.Functions&&decide (p.Rules.length≤8)&&p.Rules.all (J7e p)
theorem J9l:∀ (l:List DFunction) (met:List Str),J8f met l=(l.all Jji&&J3n met (l.map (·.Name)))
 | [],met=>rfl
 | f::l,met=>by
  simp only [J8f,J9l l,List.all_cons,List.map_cons,J3n]
  cases Jji f <;> cases J47 met f.Name <;> simp
theorem Jw0 {α:Type}{p:α→Bool}{l m:List α}(h:∀ x,x∈l↔x∈m):l.all p=m.all p:=by
 rw [Bool.eq_iff_iff,List.all_eq_true,List.all_eq_true]
 exact ⟨fun g x hx=>g x ((h x).2 hx),fun g x hx=>g x ((h x).1 hx)⟩
theorem Jey (l scope:List Str):Jmy (J4x l) scope=Jmy l scope:=Jw0 (Jat l).2
theorem Jjk (s:DSum):J6z ⟨false,[s],[]⟩=J6m s:=by simp [J6z,Ja2]
theorem Jk3 (s:DSum):Jaz ⟨false,[s],[]⟩=J8y s:=by simp [Jaz]
def J6o (l scope:List Str):List Str:=l.filter fun s => !J47 scope s
theorem Jia (l scope:List Str):decide ((J6o l scope).length=0)=Jmy l scope:=by
 unfold J6o Jmy
 induction l with
 | nil=>rfl
 | cons x l ih=>
  simp only [List.filter_cons,List.all_cons]
  cases hx:J47 scope x
  ·simp
  ·simp only [Bool.not_true,Bool.false_eq_true,if_false,Bool.true_and];exact ih
theorem Jo2 {l:List DFunction}{i:Nat}(hi:i<l.length):decide (J1i (fun f=>f.Name==(l[i]).Name) l 0=(i:Int)) = !J47 ((l.take i).map (·.Name)) (l[i]).Name:=by
 have key:∀ (l:List DFunction) (i k:Nat) (hi:i<l.length) (nm:Str),(l[i]).Name=nm→(J1i (fun f=>f.Name==nm) l k=((k+i:Nat):Int)↔J47 ((l.take i).map (·.Name)) nm=false):=by
  intro l
  induction l with
  | nil=>intro i k hi;simp at hi
  | cons f l ih=>
   intro i k hi nm hnm
   cases i with
   | zero=>
    simp only [List.getElem_cons_zero] at hnm
    simp [J1i,hnm,J47]
   | succ i=>
    simp only [List.getElem_cons_succ] at hnm
    simp only [J1i,List.take_succ_cons,List.map_cons,J47,List.any_cons]
    by_cases hf:f.Name==nm
    ·simp [hf];omega
    ·have:=ih i (k+1) (by simpa using hi) nm hnm
     simp only [J47] at this
     simp only [hf,Bool.false_eq_true,if_false,Bool.false_or]
     rw [←this]
     constructor <;> intro h <;> rw [h] <;> congr 1 <;> omega
 have:=key l i 0 hi _ rfl
 rw [Nat.zero_add] at this
 cases hb:J47 ((l.take i).map (·.Name)) (l[i]).Name
 ·simp [this.2 hb]
 ·simp only [Bool.not_true,decide_eq_false_iff_not]
  intro h
  rw [this.1 h] at hb;cases hb
abbrev SEnv:=List (Str×DLin)
def J2w (d:DLin) (E:SEnv) (x:Str):DLin:=((E.find? fun e=>e.1==x).map (·.2)).getD d
def Jlf:SEnv→Str→DLin→SEnv
 | [],x,l=>[(x,l)]
 | e::E,x,l=>if e.1=x then (x,l)::E else e::Jlf E x l
def J2q (i n:Int):DLin:=if inR n 0 8&&inR i 0 (n - 1) then ⟨0,(List.replicate n.toNat 0).set i.toNat 1⟩ else J1b
def J88 (a:DLin) (k:Int) (b:DLin):DLin:=(J0j a k b).getD J1b
def K5v:DSum:=⟨0,[]⟩
structure MS where
 E:SEnv
 nx:Nat
 rows:List DLin
 pars:List DLin
 args:List (List DLin)
def Jfv (E:SEnv) (n:Nat) (s:DSum):DLin:=s.Terms.foldl (fun o t=>J88 o t.Coeff (J2w J1b E t.Name)) (J05 s.Const n)
def Jgd (E:SEnv) (n:Nat) (a:DArg):DLin:=
 if a.Lst then (if a.Base=[] then J05 a.Heads.length n else J88 (J05 a.Heads.length n) 1 (J2w J1b E a.Base)) else Jfv E n (a.Heads.getD 0 K5v)
def Jb6 (n:Nat) (st:MS) (x:Str):MS:=
 ⟨Jlf st.E x (J2q st.nx n),st.nx+1,st.rows++(if J0n x then [J2q st.nx n] else []),st.pars++[J2q st.nx n],st.args⟩
def Jzv (ps:List DLin) (n:Nat):List DLin→Option (List DLin)
 | []=>some []
 | l::ls=>match J22 l ps n with
  | Option.none=>Option.none
  | some x=>(Jzv ps n ls).map (x :: ·)
def Jws (n:Nat) (st:MS) (q:DPattern):SEnv:=Jlf st.E q.Head (J2q st.nx n)
def Jmv (n:Nat) (st:MS) (q:DPattern):DLin:=(J4b (J2w J1b (Jws n st q) q.Lst) (-1)).getD J1b
def Jch (n:Nat) (st:MS) (q:DPattern):MS:=
 if q.Cons then ⟨Jlf (Jws n st q) q.Tail (Jmv n st q),st.nx+1,st.rows++[Jmv n st q],st.pars,st.args⟩
 else ⟨st.E,st.nx,st.rows++[J88 (J05 0 n) (-1) (J2w J1b st.E q.Lst)],st.pars,st.args⟩
def Jfj (p:DProgram) (n:Nat) (st:MS) (c:DCall):MS:=
 ⟨Jlf st.E c.Bind (J2q st.nx n),st.nx+1,st.rows++(if ((J0t p.Functions c.Func).getD fn0).ListResult then [J2q st.nx n] else []),st.pars,st.args++[c.Args.map (Jgd st.E n)]⟩
def J3e (l:List DPattern):Nat:=(l.filter (·.Cons)).length
def J10 (r:DRule) (f:DFunction):Nat:=f.Params.length+r.Calls.length+J3e r.Patterns
def st1 (r:DRule) (f:DFunction):MS:=f.Params.foldl (Jb6 (J10 r f)) ⟨[],0,[],[],[]⟩
def st3 (r:DRule) (f:DFunction) (pre:List DLin):MS:=
 r.Patterns.foldl (Jch (J10 r f)) ⟨(st1 r f).E,(st1 r f).nx,(st1 r f).rows++pre,(st1 r f).pars,(st1 r f).args⟩
def J0w (s:MS) (l:List DLin):MS:=⟨s.E,s.nx,s.rows++l,s.pars,s.args⟩
def st5 (p:DProgram) (r:DRule) (f:DFunction) (pre:List DLin):MS:=
 r.Calls.foldl (Jfj p (J10 r f)) (J0w (st3 r f pre) (r.Guards.map (Jfv (st3 r f pre).E (J10 r f))))
def Jyx (n:Nat) (s:MS) (res:DLin):DModel:=⟨⟨n,s.rows⟩,s.pars,s.args,res⟩
def Jm1 (p:DProgram) (r:DRule) (f:DFunction):Option DModel:=
 match Jzv (st1 r f).pars (J10 r f) f.Pre with
 | Option.none=>Option.none
 | some pre=>some (Jyx (J10 r f) (st5 p r f pre) (Jgd (st5 p r f pre).E (J10 r f) r.Result))
def goS (E:SEnv) (n:Nat):List DTerm→DLin→Option DLin
 | [],o=>some o
 | t::ts,o=>match J0j o t.Coeff (J2w (J05 0 n) E t.Name) with
  | Option.none=>Option.none
  | some o'=>goS E n ts o'
def Ju2 (E:SEnv) (n:Nat) (s:DSum):Option DLin:=goS E n s.Terms (J05 s.Const n)
def Jx0 (E:SEnv) (n:Nat) (a:DArg):Option DLin:=
 if a.Lst then (if a.Base=[] then some (J05 a.Heads.length n) else J0j (J05 a.Heads.length n) 1 (J2w (J05 0 n) E a.Base)) else Ju2 E n (a.Heads.getD 0 K5v)
def Jg6 (E:SEnv) (n:Nat) (a:DArg):DLin:=(Jx0 E n a).getD J1b
def Jdn (E:SEnv) (n:Nat) (s:DSum):DLin:=(Ju2 E n s).getD J1b
def J4u (l:DLin) (k:Int):DLin:=⟨IntKind.i64.wrap (l.Const - k),l.Coeffs⟩
def J3k (n:Nat) (l:DLin):DLin:=⟨l.Const,l.Coeffs++List.replicate (n - l.Coeffs.length) 0⟩
def J94 (n:Nat):List Str→Nat→List DLin
 | [],_=>[]
 | x::xs,i=>(if J0n x then [J2q i n] else [])++J94 n xs (i+1)
def Jcc (f:DFunction) (n:Nat):List DLin:=J94 n f.Params 0++f.Pre.map (J3k n)
def J8z (n:Nat) (st:MS) (x:Str):MS:=⟨st.E++[(x,J2q st.nx n)],st.nx+1,st.rows,st.pars++[J2q st.nx n],st.args⟩
def Jja (n:Nat) (st:MS) (q:DPattern):DLin:=J4u (J2w (J05 0 n) st.E q.Lst) 1
def J5l (n:Nat) (st:MS) (q:DPattern):MS:=
 if q.Cons then ⟨st.E++[(q.Head,J2q st.nx n),(q.Tail,Jja n st q)],st.nx+1,st.rows++[Jja n st q],st.pars,st.args⟩
 else ⟨st.E,st.nx,st.rows++[J88 (J05 0 n) (-1) (J2w (J05 0 n) st.E q.Lst)],st.pars,st.args⟩
def J5x (n:Nat) (st:MS) (c:DCall):MS:=
 ⟨st.E++[(c.Bind,J2q st.nx n)],st.nx+1,st.rows++(if J0n c.Bind then [J2q st.nx n] else []),st.pars,st.args++[c.Args.map (Jg6 st.E n)]⟩
def ss1 (r:DRule) (f:DFunction):MS:=f.Params.foldl (J8z (J10 r f)) ⟨[],0,Jcc f (J10 r f),[],[]⟩
def Jc7 (s:MS) (k:Nat):MS:=⟨s.E,k,s.rows,s.pars,s.args⟩
def ss3 (r:DRule) (f:DFunction):MS:=r.Patterns.foldl (J5l (J10 r f)) (Jc7 (ss1 r f) f.Params.length)
def ss5 (r:DRule) (f:DFunction):MS:=
 r.Calls.foldl (J5x (J10 r f)) (J0w (Jc7 (ss3 r f) (f.Params.length+J3e r.Patterns)) (r.Guards.map (Jdn (ss3 r f).E (J10 r f))))
def J4v (r:DRule) (f:DFunction):DModel:=Jyx (J10 r f) (ss5 r f) (Jg6 (ss5 r f).E (J10 r f) r.Result)
def J19 (E:SEnv):List Str:=E.map (·.1)
theorem Jb1 {x:Str}{l:DLin} : ∀ {E:SEnv},x∉J19 E→Jlf E x l=E++[(x,l)]
 | [],_=>rfl
 | e::E,h=>by
  simp only [J19,List.map_cons,List.mem_cons,not_or] at h
  simp only [Jlf,List.cons_append]
  rw [if_neg (fun g=>h.1 g.symm),Jb1 (E:=E) h.2]
theorem Jt8 {E:SEnv}{x:Str}(h:x∈J19 E):∃ l,E.find? (fun e=>e.1==x)=some (x,l)∧(x,l)∈E:=by
 obtain ⟨e,he,rfl⟩:=List.mem_map.1 h
 have:(E.find? fun e'=>e'.1==e.1).isSome=true:=by rw [List.find?_isSome];exact ⟨e,he,by simp⟩
 obtain ⟨⟨y,l⟩,hy⟩:=Option.isSome_iff_exists.1 this
 have h1:=List.find?_some hy
 have h2:=List.mem_of_find?_eq_some hy
 simp only [beq_iff_eq] at h1
 subst h1
 exact ⟨l,hy,h2⟩
theorem Je1 {E:SEnv}{x:Str}(d:DLin) (h:x∈J19 E):∃ l,(x,l)∈E∧∀ d F,J2w d (E++F) x=l:=by
 obtain ⟨l,h1,h2⟩:=Jt8 h
 exact ⟨l,h2,fun d F=>by unfold J2w;rw [List.find?_append,h1];rfl⟩
theorem Jl0 {E:SEnv}{x:Str}(d d':DLin) (h:x∈J19 E):J2w d E x=J2w d' E x:=by
 obtain ⟨l,_,h2⟩:=Je1 d h
 rw [←List.append_nil E,h2,h2]
def Jl3 (n:Nat) (E:SEnv):Prop:=∀ e∈E,e.2.Coeffs.length=n∧n≠0
theorem Jl3.get {n:Nat}{E:SEnv}{x:Str}(H:Jl3 n E) (d:DLin) (h:x∈J19 E):(J2w d E x).Coeffs.length=n:=by
 obtain ⟨l,h1,h2⟩:=Je1 d h
 have:=h2 d []
 rw [List.append_nil] at this
 rw [this];exact (H _ h1).1
theorem Jeq {i n:Nat}(hn:n≤8) (hi:i<n):J2q i n=⟨0,(List.replicate n 0).set i 1⟩:=by
 unfold J2q
 rw [if_pos (by simp [inR];omega)];simp
theorem J9i {i n:Nat}(hn:n≤8) (hi:i<n):(J2q i n).Coeffs.length=n:=by rw [Jeq hn hi];simp
theorem Jqy {c:Int}{b:DLin}(h:b.Coeffs.length≠0):J88 J1b c b=J1b:=by
 unfold J88 J0j
 have:J14 b (J1b.Coeffs.length:Nat)=false:=by
  rw [Bool.eq_false_iff]
  intro g
  have:=J1u g
  simp [J1b] at this
  exact h (by simp [this])
 rw [this];simp
theorem Jlq {n:Nat}{E:SEnv}(H:Jl3 n E):∀ {ts:List DTerm},(∀ t∈ts,t.Name∈J19 E)→(ts≠[]→n≠0)→ts.foldl (fun o t=>J88 o t.Coeff (J2w J1b E t.Name)) J1b=J1b
 | [],_,_=>rfl
 | t::ts,h,hn=>by
  simp only [List.foldl_cons]
  rw [Jqy (by rw [H.get J1b (h t List.mem_cons_self)];exact hn (by simp))]
  exact Jlq H (fun u hu=>h u (List.mem_cons_of_mem _ hu)) (fun _=>hn (by simp))
theorem Jks {n:Nat}{E:SEnv}(H:Jl3 n E):∀ {ts:List DTerm}{o:DLin},(∀ t∈ts,t.Name∈J19 E)→(ts≠[]→n≠0)→ts.foldl (fun o t=>J88 o t.Coeff (J2w J1b E t.Name)) o=(goS E n ts o).getD J1b
 | [],_,_,_=>rfl
 | t::ts,o,h,hn=>by
  have h':∀ u∈ts,u.Name∈J19 E:=fun u hu=>h u (List.mem_cons_of_mem _ hu)
  have hn':ts≠[]→n≠0:=fun _=>hn (by simp)
  simp only [List.foldl_cons,goS]
  rw [Jl0 J1b (J05 0 n) (h t List.mem_cons_self)]
  cases ha:J0j o t.Coeff (J2w (J05 0 n) E t.Name) with
  | none=>
   have:J88 o t.Coeff (J2w (J05 0 n) E t.Name)=J1b:=by unfold J88;rw [ha];rfl
   rw [this]
   exact Jlq H h' hn'
  | some o'=>
   have:J88 o t.Coeff (J2w (J05 0 n) E t.Name)=o':=by unfold J88;rw [ha];rfl
   rw [this]
   exact Jks H h' hn'
theorem Jl3.ne {n:Nat}{E:SEnv}(H:Jl3 n E) (h:E≠[]):n≠0:=by
 obtain ⟨e,l,rfl⟩:=List.exists_cons_of_ne_nil h
 exact (H e List.mem_cons_self).2
theorem Jtl {n:Nat}{E:SEnv}(H:Jl3 n E) {s:DSum}(h:∀ t∈s.Terms,t.Name∈J19 E):Jfv E n s=Jdn E n s:=by
 unfold Jfv Jdn Ju2
 refine Jks H h fun ht=>H.ne ?_
 rintro rfl
 obtain ⟨t,ts,he⟩:=List.exists_cons_of_ne_nil ht
 have:=h t (by rw [he];exact List.mem_cons_self)
 simp [J19] at this
def K6w (E:SEnv) (a:DArg):Prop:=(∀ s∈a.Heads,∀ t∈s.Terms,t.Name∈J19 E)∧(a.Base≠[]→a.Base∈J19 E)
theorem Ju0 {n:Nat}{E:SEnv}(H:Jl3 n E) {a:DArg}(h:K6w E a):Jgd E n a=Jg6 E n a:=by
 unfold Jgd Jg6 Jx0
 cases a.Lst
 ·simp only [Bool.false_eq_true,if_false]
  refine Jtl H ?_
  intro t ht
  cases hh:a.Heads with
  | nil=>rw [hh] at ht;simp [K5v] at ht
  | cons s l=>rw [hh] at ht;simp at ht;exact h.1 s (by rw [hh];exact List.mem_cons_self) t ht
 ·simp only [if_true]
  by_cases hb:a.Base=[]
  ·rw [if_pos hb,if_pos hb];rfl
  ·rw [if_neg hb,if_neg hb,Jl0 J1b (J05 0 n) (h.2 hb)];rfl
theorem Jj7 {x k:Int}(hx:okC x=true) (hk:okC k=true):J20 x k 0=some x:=by
 have h0:okC 0=true:=by decide
 unfold J20 Jd7 Jdo
 simp [hx,hk,h0]
theorem Jp4 {k:Int}(hk:okC k=true):J20 0 k 1=some k:=by
 have h0:okC 0=true:=by decide
 have h1:okC 1=true:=by decide
 unfold J20 Jd7 Jdo
 simp [hk,h0,h1]
theorem Jka {xs:List Int}{c k:Int}{i n:Nat}(hn:n≤8) (hi:i<n) (hx:xs.length=n) (hok:xs.all okC=true) (hc:okC c=true) (hk:okC k=true) (h0:xs[i]? = some 0) :
 J0j ⟨c,xs⟩ k (J2q i n)=some ⟨c,xs.set i k⟩:=by
 have hz0:okC 0=true:=by decide
 have hz1:okC 1=true:=by decide
 have hv:J14 (J2q i n) (xs.length:Nat)=true:=by
  rw [Jeq hn hi]
  unfold J14
  simp only [Bool.and_eq_true,decide_eq_true_eq,List.all_eq_true]
  refine ⟨⟨⟨by simp [inR];omega,by simp [hx]⟩,hz0⟩,?_⟩
  intro y hy
  rcases List.mem_or_eq_of_mem_set hy with hy|rfl
  ·rw [(List.mem_replicate.1 hy).2];exact hz0
  ·exact hz1
 have ho:J14 ⟨c,xs⟩ (xs.length:Nat)=true:=by
  unfold J14
  simp only [Bool.and_eq_true,decide_eq_true_eq]
  exact ⟨⟨⟨by simp [inR];omega,by simp⟩,hc⟩,hok⟩
 have hZ:J4h ⟨c,xs⟩ k (J2q i n)=(xs.set i k).map some:=by
  rw [Jeq hn hi]
  unfold J4h
  refine List.ext_getElem (by simp [hx]) fun j h1 h2 => ?_
  have hj:j<xs.length:=by simp at h2;exact h2
  simp only [List.getElem_zipWith,List.getElem_map]
  by_cases he:i=j
  ·subst he
   have:xs[i]=0:=by rw [List.getElem?_eq_getElem hj] at h0;exact Option.some.inj h0
   simp [this,Jp4 hk]
  ·rw [List.getElem_set_ne he,List.getElem_set_ne he,List.getElem_replicate]
   exact Jj7 (List.all_eq_true.1 hok _ (List.getElem_mem hj)) hk
 have hcc:J20 c k (J2q i n).Const=some c:=by rw [Jeq hn hi];exact Jj7 hc hk
 unfold J0j Jag
 simp only [hv,ho,hk,hcc,hZ,Bool.and_self,Bool.true_and,Option.isSome_some]
 have hA:((xs.set i k).map some).all Option.isSome=true:=by rw [List.all_eq_true];intro x hx;obtain ⟨y,_,rfl⟩:=List.mem_map.1 hx;rfl
 rw [if_pos hA]
 simp [List.map_map,Function.comp_def]
theorem Jnt {n:Nat} : (List.replicate n (0:Int)).all okC=true:=by
 rw [List.all_eq_true];intro x hx;rw [(List.mem_replicate.1 hx).2];decide
theorem Jp6 {l:DLin}{n:Int}(h:J14 l n=true):∀ x∈l.Coeffs,okC x=true:=by
 unfold J14 at h;simp only [Bool.and_eq_true,List.all_eq_true] at h;exact h.2
theorem Je5 {l:DLin}{m n:Nat}(hm:m≤2) (hmn:m≤n) (hn:n≤8) (hl:J14 l m=true):J22 l ((List.range m).map fun i:Nat=>J2q i n) n=some (J3k n l):=by
 have hc:=Jh5 hl
 have hlen:l.Coeffs.length=m:=by have:=(J1u hl).1;omega
 have hall:=Jp6 hl
 obtain ⟨c0,h1⟩:=J72 (n:=n) hc (by omega)
 unfold J22
 match m,hm,hlen with
 | 0,_,hlen=>
  have he:l.Coeffs=[]:=List.eq_nil_of_length_eq_zero hlen
  have hl':J14 l 0=true:=hl
  rw [if_neg (by simp),if_pos (by rw [hl'];simp [inR];omega),c0]
  simp [J3k,he]
 | 1,_,hlen=>
  obtain ⟨a,ha⟩:=List.length_eq_one_iff.1 hlen
  have hl':J14 l 1=true:=hl
  have hka:=hall a (by rw [ha];simp)
  have hz0:(List.replicate n (0:Int))[0]? = some 0:=by rw [List.getElem?_replicate,if_pos (by omega)]
  rw [if_pos (by simp)]
  unfold J41
  have hN:Ji0 ((List.range 1).map fun i:Nat=>J2q i n)=n:=by simp [Ji0,List.range_succ];exact J9i (i:=0) hn (by omega)
  rw [hN,h1,c0]
  simp only [List.length_map,List.length_range]
  rw [if_pos (by simp [hl']),ha]
  simp only [List.range_succ,List.range_zero,List.nil_append,List.map_cons,List.map_nil,List.zip_cons_cons,List.zip_nil_right,J5r]
  rw [Jka (i:=0) hn (by omega) (by simp) Jnt hc hka hz0]
  simp only [J3k,ha]
  obtain ⟨k,rfl⟩:∃ k,n=k+1:=⟨n - 1,by omega⟩
  simp [List.replicate_succ]
 | 2,_,hlen=>
  obtain ⟨a,b,hab⟩:∃ a b,l.Coeffs=[a,b]:=by
   match hh:l.Coeffs,hlen with
   | [a,b],_=>exact ⟨a,b,rfl⟩
  have hl':J14 l 2=true:=hl
  have hka:=hall a (by rw [hab];simp)
  have hkb:=hall b (by rw [hab];simp)
  have hz0:(List.replicate n (0:Int))[0]? = some 0:=by rw [List.getElem?_replicate,if_pos (by omega)]
  rw [if_pos (by simp)]
  unfold J41
  have hN:Ji0 ((List.range 2).map fun i:Nat=>J2q i n)=n:=by simp [Ji0,List.range_succ];exact J9i (i:=0) hn (by omega)
  rw [hN,h1,c0]
  simp only [List.length_map,List.length_range]
  rw [if_pos (by simp [hl']),hab]
  simp only [List.range_succ,List.range_zero,List.nil_append,List.map_cons,List.map_nil,List.zip_cons_cons,List.zip_nil_right,List.cons_append,J5r]
  rw [Jka (i:=0) hn (by omega) (by simp) Jnt hc hka hz0]
  obtain ⟨k,rfl⟩:∃ k,n=k+2:=⟨n - 2,by omega⟩
  simp only
  rw [Jka (i:=1) hn (by omega) (by simp) (by
   rw [List.all_eq_true];intro x hx
   rcases List.mem_or_eq_of_mem_set hx with hx|rfl
   ·rw [(List.mem_replicate.1 hx).2];decide
   ·exact hka) hc hkb (by simp [List.replicate_succ])]
  simp [J3k,hab,List.replicate_succ]
theorem Jm5 {l:DLin}{n:Nat}(h:l.Coeffs.length=n):J3k n l=l:=by
 unfold J3k;rw [h,Nat.sub_self];simp
theorem Jjc {ps:List DLin}{n:Nat} : ∀ {ls:List DLin},(∀ l∈ls,J22 l ps n=some (J3k n l))→Jzv ps n ls=some (ls.map (J3k n))
 | [],_=>rfl
 | l::ls,h=>by
  simp only [Jzv]
  rw [h l List.mem_cons_self,Jjc fun x hx=>h x (List.mem_cons_of_mem _ hx)];rfl
def a203:AFn:= ⟨24,[(.c 4 true 2)],(.seq (.reg [⟨some 4,.box [(.int .i64 0),(.nil 1)],no⟩]) (.seq (.seq (.reg [⟨some 6,.mv (.t 1),no⟩,⟨some 7,.call (.k (.fn (.func 102) [] [])) [.t 6,(.k (.int .i64 0)),(.k (.int .i64 8))],no⟩,⟨some 8,.un .not (.t 7),no⟩,⟨some 9,.mv (.t 8),no⟩,⟨some 10,.mv (.t 0),(some (9,false))⟩,⟨some 11,.mv (.t 1),(some (9,false))⟩,⟨some 12,.bin .sub (.t 11) (.k (.int .i64 1)),(some (9,false))⟩,⟨some 13,.call (.k (.fn (.func 102) [] [])) [.t 10,(.k (.int .i64 0)),.t 12],(some (9,false))⟩,⟨some 14,.un .not (.t 13),(some (9,false))⟩,⟨some 15,.pick (.t 9) (.k (.bool true)) (.t 14),no⟩]) (.cond (.t 15) (.seq (.reg [⟨some 16,.build [(.int .i64 0),(.nil 1)] [],no⟩,⟨no,.st 2 (.t 4) (.t 16),no⟩]) .ret) .skip)) (.seq (.reg [⟨some 17,.mv (.t 1),no⟩,⟨some 18,.call (.k (.fn (.func 178) [] [])) [(.k (.int .i64 0)),.t 17],no⟩,⟨some 5,.box [(.int .i64 0),(.nil 1)],no⟩,⟨no,.st 2 (.t 5) (.t 18),no⟩]) (.seq (.reg [⟨some 19,.fld 1 (.t 5),no⟩,⟨some 20,.ld false 1 (.t 19),no⟩,⟨some 21,.mv (.t 0),no⟩,⟨some 22,.ixa 1 (.t 20) (.t 21),no⟩,⟨no,.st 1 (.t 22) (.k (.int .i64 1)),no⟩]) (.seq (.reg [⟨some 23,.ld true 2 (.t 5),no⟩,⟨no,.st 2 (.t 4) (.t 23),no⟩]) .ret)))))⟩
theorem a203_ok:J0a Tryz.prog Tryz.f203=some a203:=by kernel_rfl
def a261:AFn:= ⟨25,[(.c 4 true 2)],(.seq (.reg [⟨some 4,.box [(.int .i64 0),(.nil 1)],no⟩]) (.seq (.seq (.reg [⟨some 6,.mv (.t 1),no⟩,⟨some 7,.call (.k (.fn (.func 183) [] [])) [.t 6,(.k (.int .i64 0)),(.k (.int .i64 8))],no⟩,⟨some 8,.un .not (.t 7),no⟩,⟨some 9,.mv (.t 8),no⟩,⟨some 10,.mv (.t 0),(some (9,false))⟩,⟨some 11,.mv (.t 1),(some (9,false))⟩,⟨some 12,.bin .sub (.t 11) (.k (.int .i64 1)),(some (9,false))⟩,⟨some 13,.call (.k (.fn (.func 183) [] [])) [.t 10,(.k (.int .i64 0)),.t 12],(some (9,false))⟩,⟨some 14,.un .not (.t 13),(some (9,false))⟩,⟨some 15,.pick (.t 9) (.k (.bool true)) (.t 14),no⟩]) (.cond (.t 15) (.seq (.reg [⟨some 16,.build [(.int .i64 0),(.nil 1)] [],no⟩,⟨no,.st 2 (.t 4) (.t 16),no⟩]) .ret) .skip)) (.seq (.reg [⟨some 17,.mv (.t 1),no⟩,⟨some 18,.mks 8 [(.int .i64 0)] (.t 17) (.t 17),no⟩,⟨some 19,.build [(.int .i64 0),(.nil 1)] [(1,(1,(.t 18)))],no⟩,⟨some 5,.box [(.int .i64 0),(.nil 1)],no⟩,⟨no,.st 2 (.t 5) (.t 19),no⟩]) (.seq (.reg [⟨some 20,.fld 1 (.t 5),no⟩,⟨some 21,.ld false 1 (.t 20),no⟩,⟨some 22,.mv (.t 0),no⟩,⟨some 23,.ixa 1 (.t 21) (.t 22),no⟩,⟨no,.st 1 (.t 23) (.k (.int .i64 1)),no⟩]) (.seq (.reg [⟨some 24,.ld true 2 (.t 5),no⟩,⟨no,.st 2 (.t 4) (.t 24),no⟩]) .ret)))))⟩
theorem a261_ok:J0a Tryz.prog Tryz.f261=some a261:=by kernel_rfl
def a306:AFn:= ⟨14,[(.c 4 true 2)],(.seq (.reg [⟨some 2,.boxv (.t 0),no⟩,⟨some 4,.box [(.int .i64 0),(.nil 1)],no⟩]) (.seq (.reg [⟨some 6,.ld true 2 (.t 2),no⟩,⟨some 7,.call (.k (.fn (.func 82) [] [])) [.t 6],no⟩,⟨some 5,.box [(.int .i64 0),(.nil 1)],no⟩,⟨no,.st 2 (.t 5) (.t 7),no⟩]) (.seq (.reg [⟨some 8,.fld 0 (.t 5),no⟩,⟨some 9,.ld false 1 (.t 8),no⟩,⟨some 10,.mv (.t 1),no⟩,⟨some 11,.bin .sub (.t 9) (.t 10),no⟩,⟨some 12,.fld 0 (.t 5),no⟩,⟨no,.st 1 (.t 12) (.t 11),no⟩]) (.seq (.reg [⟨some 13,.ld true 2 (.t 5),no⟩,⟨no,.st 2 (.t 4) (.t 13),no⟩]) .ret))))⟩
theorem a306_ok:J0a Tryz.prog Tryz.f306=some a306:=by kernel_rfl
def a262:AFn:= ⟨29,[(.c 4 true 2)],(.seq (.reg [⟨some 2,.boxv (.t 0),no⟩,⟨some 4,.box [(.int .i64 0),(.nil 1)],no⟩]) (.seq (.draw (.op ⟨some 7,.fld 0 (.t 2),no⟩ (.op ⟨some 8,.ld false 1 (.t 7),no⟩ (.op ⟨some 9,.mv (.t 1),no⟩ (.both (.op ⟨some 10,.mks 8 [(.int .i64 0)] (.t 9) (.t 9),no⟩ (.op ⟨some 11,.build [(.int .i64 0),(.nil 1)] [(0,(1,(.t 8))),(1,(1,(.t 10)))],no⟩ (.op ⟨some 5,.box [(.int .i64 0),(.nil 1)],no⟩ (.hop ⟨no,.st 2 (.t 5) (.t 11),no⟩ [] .fin)))) (.op ⟨some 5,.box [(.int .i64 0),(.nil 1)],no⟩ (.op ⟨some 10,.mks 8 [(.int .i64 0)] (.t 9) (.t 9),no⟩ (.op ⟨some 11,.build [(.int .i64 0),(.nil 1)] [(0,(1,(.t 8))),(1,(1,(.t 10)))],no⟩ (.hop ⟨no,.st 2 (.t 5) (.t 11),no⟩ [] .fin))))))))) (.seq (.seq (.reg [⟨some 6,.mv (.k (.int .i64 0)),no⟩]) (.blk 0 (.loop (.seq (.seq (.reg [⟨some 12,.mv (.t 6),no⟩,⟨some 13,.fld 1 (.t 2),no⟩,⟨some 14,.ld false 1 (.t 13),no⟩,⟨some 15,.len false (.t 14),no⟩,⟨some 16,.bin .lss (.t 12) (.t 15),no⟩]) (.cond (.t 16) .skip (.exit 0))) (.seq (.blk 1 (.draw (.op ⟨some 19,.fld 1 (.t 5),no⟩ (.op ⟨some 20,.ld false 1 (.t 19),no⟩ (.op ⟨some 21,.mv (.t 6),no⟩ (.op ⟨some 22,.fld 1 (.t 2),no⟩ (.op ⟨some 23,.ld false 1 (.t 22),no⟩ (.op ⟨some 24,.mv (.t 6),no⟩ (.op ⟨some 25,.ixa 1 (.t 23) (.t 24),no⟩ (.op ⟨some 26,.ld false 1 (.t 25),no⟩ (.op ⟨some 27,.ixa 1 (.t 20) (.t 21),no⟩ (.hop ⟨no,.st 1 (.t 27) (.t 26),no⟩ [] .fin)))))))))))) (.reg [⟨some 17,.mv (.t 6),no⟩,⟨some 18,.bin .add (.t 17) (.k (.int .i64 1)),no⟩,⟨some 6,.mv (.t 18),no⟩])))))) (.seq (.reg [⟨some 28,.ld true 2 (.t 5),no⟩,⟨no,.st 2 (.t 4) (.t 28),no⟩]) .ret))))⟩
theorem a262_ok:J0a Tryz.prog Tryz.f262=some a262:=by kernel_rfl
theorem J9w (i n:Int):Holds Tryz.prog 203 [i64 i,i64 n] (fun r=>r = .agg (J08 (J2q i n))):=by
 refine J03 Tryz.func203 a203_ok rfl (by simp [a203]) ?_
 simp [a203]
 first|refine J00 (J1s n 0 8) (by first|simp;done|rfl) ?_|refine J02 (J1s n 0 8) (by first|simp;done|rfl) ?_
 rintro r rfl
 unfold J2q
 cases h1:inR n 0 8
 ·simp [J08,J0k,J1b]
 have hn:0≤n∧n≤8:=by simpa [inR] using h1
 have hw:IntKind.i64.wrap (n - 1)=n - 1:=J1e (by omega)
 simp [hw]
 first|refine J00 (J1s i 0 (n - 1)) (by first|simp;done|rfl) ?_|refine J02 (J1s i 0 (n - 1)) (by first|simp;done|rfl) ?_
 rintro r rfl
 cases h2:inR i 0 (n - 1)
 ·simp [J08,J0k,J1b]
 have hi:0≤i∧i≤n - 1:=by simpa [inR] using h2
 obtain ⟨m,rfl⟩:∃ m:Nat,n=m:=⟨n.toNat,by omega⟩
 obtain ⟨j,rfl⟩:∃ j:Nat,i=j:=⟨i.toNat,by omega⟩
 have hj:j<m:=by omega
 have hc:J05 0 m=⟨0,List.replicate m 0⟩:=(J72 (by decide) (by omega)).1
 simp
 first|refine J00 (J1t 0 m) (by first|simp;done|rfl) ?_|refine J02 (J1t 0 m) (by first|simp;done|rfl) ?_
 rintro r rfl
 simp [hc,J08,hj]
 have e:(List.replicate m [AV.int .i64 0]).set j [AV.int .i64 1]=J0k ((List.replicate m 0).set j 1):=by rw [←Jeg,Jik]
 rw [e,List.take_of_length_le (by simp)]
 simp
theorem J74 (i n:Int):Holds Tryz.prog 261 [i64 i,i64 n] (fun r=>r = .agg (J08 (J2q i n))):=by
 refine J03 Tryz.func261 a261_ok rfl (by simp [a261]) ?_
 simp [a261]
 first|refine J00 (J4d n 0 8) (by first|simp;done|rfl) ?_|refine J02 (J4d n 0 8) (by first|simp;done|rfl) ?_
 rintro r rfl
 unfold J2q
 cases h1:inR n 0 8
 ·simp [J08,J0k,J1b]
 have hn:0≤n∧n≤8:=by simpa [inR] using h1
 have hw:IntKind.i64.wrap (n - 1)=n - 1:=J1e (by omega)
 simp [hw]
 first|refine J00 (J4d i 0 (n - 1)) (by first|simp;done|rfl) ?_|refine J02 (J4d i 0 (n - 1)) (by first|simp;done|rfl) ?_
 rintro r rfl
 cases h2:inR i 0 (n - 1)
 ·simp [J08,J0k,J1b]
 have hi:0≤i∧i≤n - 1:=by simpa [inR] using h2
 obtain ⟨m,rfl⟩:∃ m:Nat,n=m:=⟨n.toNat,by omega⟩
 obtain ⟨j,rfl⟩:∃ j:Nat,i=j:=⟨i.toNat,by omega⟩
 have hj:j<m:=by omega
 have hm:(m:Int)*8≤LIM:=by unfold LIM;omega
 simp [hj,hm,J08]
 have e:(List.replicate m [AV.int .i64 0]).set j [AV.int .i64 1]=J0k ((List.replicate m 0).set j 1):=by rw [←Jeg,Jik]
 rw [e,List.take_of_length_le (by simp)]
 simp
theorem Jau (x:DLin) (k:Int) (hl:x.Coeffs.length≤1048576):Holds Tryz.prog 306 [.agg (J07 x),i64 k] (fun r=>r = .agg (J08 (J4u x k))):=by
 refine J03 Tryz.func306 a306_ok rfl (by simp [a306]) ?_
 simp [a306,J07]
 first|refine J00 (J2k x hl) (by first|simp [J07];done|rfl) ?_|refine J02 (J2k x hl) (by first|simp [J07];done|rfl) ?_
 rintro r rfl
 simp [J08,J4u]
def Jq9 (l:List Int) (n i:Nat):List Int:=l.take i++List.replicate (n - i) 0
theorem Jlm {l:List Int}{n i:Nat}(hi:i<l.length) (hn:l.length≤n):(Jq9 l n i).set i l[i]=Jq9 l n (i+1):=by
 unfold Jq9
 rw [List.set_append_right i l[i] (by simp;omega)]
 have h1:i - (l.take i).length=0:=by simp;omega
 obtain ⟨k,hk⟩:∃ k,n - i=k+1:=⟨n - i - 1,by omega⟩
 rw [h1,hk,List.take_succ_eq_append_getElem hi,List.append_assoc]
 have:n - (i+1)=k:=by omega
 rw [this];simp [List.replicate_succ]
theorem Jr5 {l:List Int}{n i:Nat}(hi:i≤l.length) (hn:l.length≤n):(Jq9 l n i).length=n:=by unfold Jq9;simp;omega
theorem J8n (x:DLin) (n:Nat) (hxn:x.Coeffs.length≤n) (hn:n≤1048576):Holds Tryz.prog 262 [.agg (J07 x),i64 n] (fun r=>r = .agg (J08 (J3k n x))):=by
 have hm:(n:Int)*8≤LIM:=by unfold LIM;omega
 refine J03 Tryz.func262 a262_ok rfl (by simp [a262]) ?_
 simp [a262,J07,hm]
 refine ⟨?_,?_⟩
 all_goals
  refine J0o [1,2,4] 6 x.Coeffs.length (fun i s h m=>∃ a b,((a=2∧b=3)∨(a=3∧b=2))∧3<m∧s 5 = .ptr b 0 0∧h 0=some ⟨true,2,[[.int .i64 x.Const,.sl 1 (J0k x.Coeffs)]]⟩∧h 1=some ⟨true,2,[[.int .i64 0,.nil 1]]⟩∧h b=some ⟨true,2,[[.int .i64 x.Const,.ref a 0 n]]⟩∧h a=some ⟨false,1,J0k (Jq9 x.Coeffs n i)⟩) (by unfold LIM;omega) (by simp) ?_ ?_ ?_
  ·first
   | (refine ⟨2,3,.inl ⟨rfl,rfl⟩,?_⟩;simp [Jq9];done)
   | (refine ⟨3,2,.inr ⟨rfl,rfl⟩,?_⟩;simp [Jq9];done)
  ·rintro i s h m R hi hg hk s6 hw ⟨a,b,hab,hm3,s5,e0,e1,eb,ea⟩ hR _ _
   simp at hk
   have hpl:=Jr5 (l:=x.Coeffs) (n:=n) (Nat.le_of_lt hi) hxn
   have hin:i<n:=by omega
   rcases hab with ⟨rfl,rfl⟩|⟨rfl,rfl⟩
   ·simp [hk,s6,s5,hi,e0,e1,eb,ea,hin,hw,hpl]
    intro _
    refine hR _ _ _ (by simp [hk]) (by simp) ⟨2,3,.inl ⟨rfl,rfl⟩,by omega,by simp [hk,s5],by simp [e0],by simp [e1],by simp [eb],?_⟩
    simp [←Jlm hi hxn]
   ·simp [hk,s6,s5,hi,e0,e1,eb,ea,hin,hw,hpl]
    intro _
    refine hR _ _ _ (by simp [hk]) (by simp) ⟨3,2,.inr ⟨rfl,rfl⟩,by omega,by simp [hk,s5],by simp [e0],by simp [e1],by simp [eb],?_⟩
    simp [←Jlm hi hxn]
  ·rintro s h m R hk s6 ⟨a,b,hab,hm3,s5,e0,e1,eb,ea⟩ _ hX
   simp at hk
   have hpe:Jq9 x.Coeffs n x.Coeffs.length=(J3k n x).Coeffs:=by simp [Jq9,J3k]
   have hwl:(J3k n x).Coeffs.length=n:=by simp [J3k];omega
   have hwc:(J3k n x).Const=x.Const:=rfl
   rw [hpe] at ea
   rcases hab with ⟨rfl,rfl⟩|⟨rfl,rfl⟩
   ·simp [hk,s6,s5,e0,e1,eb,ea]
    intro _
    refine hX _ _ _ _ ?_
    simp [hk,s5,e1,eb,ea,J08,hwl,hwc,List.take_of_length_le]
   ·simp [hk,s6,s5,e0,e1,eb,ea]
    intro _
    refine hX _ _ _ _ ?_
    simp [hk,s5,e1,eb,ea,J08,hwl,hwc,List.take_of_length_le]
def J3c (b z:Nat) (rows:List (List AV)) (v:AV) (h:Heap) (n:Nat):Prop:=(rows=[]∧v = .nil z)∨∃ id,b<id∧id<n∧v = .ref id 0 rows.length∧h id=some ⟨false,z,rows⟩
theorem J3c.keep {b z:Nat}{rows:List (List AV)}{v:AV}{h h':Heap}{n n':Nat}(x:J3c b z rows v h n) (hn:n≤n') (hh:∀ id,b<id→id<n→v = .ref id 0 rows.length→h' id=h id):J3c b z rows v h' n':=
 x.imp (fun y=>y) fun ⟨i,h1,h2,h3,h4⟩=>⟨i,h1,by omega,h3,by rw [hh i h1 h2 h3];exact h4⟩
theorem J3c.dt {b z:Nat}{rows:List (List AV)}{v:AV}{h:Heap}{n:Nat}(x:J3c b z rows v h n):∃ h',Go.Proofs.YtoclolkigjbcgaaGreat.dt v h=some (.us z rows,h')∧∀ id,(∀ l,v ≠ .ref id 0 l)→h' id=h id:=by
 rcases x with ⟨rfl,rfl⟩|⟨i,_,_,rfl,hb⟩
 ·exact ⟨h,by simp,fun _ _=>rfl⟩
 ·refine ⟨upd h i Option.none,by simp [hb],fun id hid => ?_⟩
  have:¬id=i:=fun e=>hid rows.length (by rw [e])
  simp [this]
theorem J3c.cell {b z:Nat}{rows:List (List AV)}{v:AV}{h:Heap}{n:Nat}(x:J3c b z rows v h n):J18 v=true:=by
 rcases x with ⟨_,rfl⟩|⟨i,_,_,rfl,_⟩ <;> rfl
theorem J3c.ne_sz {b z z':Nat}{rows rows':List (List AV)}{v v':AV}{h:Heap}{n id l l':Nat}(x:J3c b z rows v h n) (y:J3c b z' rows' v' h n) (hz:z≠z') (e:v = .ref id 0 l) (e':v' = .ref id 0 l'):False:=by
 rcases x with ⟨_,rfl⟩|⟨i,_,_,rfl,hi⟩
 ·cases e
 rcases y with ⟨_,rfl⟩|⟨j,_,_,rfl,hj⟩
 ·cases e'
 simp only [AV.ref.injEq] at e e'
 rw [e.1] at hi
 rw [e'.1,hi] at hj
 simp at hj
 exact hz hj.1
theorem J3c.ne_ge {b z:Nat}{rows:List (List AV)}{v:AV}{h:Heap}{n q l:Nat}(x:J3c b z rows v h n) (hq:n≤q) (e:v = .ref q 0 l):False:=by
 rcases x with ⟨_,rfl⟩|⟨i,_,hi,rfl,_⟩
 ·cases e
 ·simp only [AV.ref.injEq] at e;omega
theorem Jcl {k:IntKind}{n:Int} : J18 (.int k n)=true:=rfl
theorem Jge {i o l:Nat} : J18 (.ref i o l)=true:=rfl
theorem Jbt {l:List Str}{s:Str} : J47 l s=true↔s∈l:=by simp [J47]
theorem Jhz {l:List Str}{s:Str} : J47 l s=false↔s∉l:=by rw [←Bool.not_eq_true,Jbt]
theorem Jo8 {N:List Str} : ∀ {S:List Str},S.Nodup→(∀ x∈S,x∈N)→S.length≤N.length:=by
 induction N with
 | nil=>
  intro S _ h
  cases S with
  | nil=>exact Nat.le_refl _
  | cons x S=>have:=h x (List.mem_cons_self ..);cases this
 | cons y N ih=>
  intro S hS h
  have:=ih (S:=S.filter (· != y)) (hS.sublist List.filter_sublist) (fun x hx=>by
   rw [List.mem_filter] at hx
   rcases List.mem_cons.1 (h x hx.1) with rfl|h'
   ·simp at hx
   ·exact h')
  have hc:S.length≤(S.filter (· != y)).length+1:=by
   clear this ih h
   induction S with
   | nil=>simp
   | cons x S ih=>
    rw [List.nodup_cons] at hS
    by_cases hx:x=y
    ·subst hx
     have hf:S.filter (· != x)=S:=List.filter_eq_self.2 fun z hz=>by simp;rintro rfl;exact hS.1 hz
     simp [hf]
    ·have hx':(x != y)=true:=by simpa using hx
     simp only [List.filter_cons,hx',if_true,List.length_cons]
     have:=ih hS.2
     omega
  simp only [List.length_cons];omega
theorem Jkk:∀ {l met:List Str},J3n met l=true→l.Nodup∧∀ x∈l,x∉met
 | [],_,_=>⟨List.nodup_nil,fun _ h=>by cases h⟩
 | s::l,met,h=>by
  simp only [J3n,Bool.and_eq_true,Bool.not_eq_true'] at h
  obtain ⟨h1,h2⟩:=Jkk h.2
  have h3:=Jhz.1 h.1
  refine ⟨List.nodup_cons.2 ⟨fun hs=>h2 s hs (by simp),h1⟩,?_⟩
  intro x hx
  rcases List.mem_cons.1 hx with rfl|hx
  ·exact h3
  ·exact fun hm=>h2 x hx (List.mem_append_left _ hm)
def Jlx (n:Nat):List Str→Nat→SEnv
 | [],_=>[]
 | x::xs,i=>(x,J2q i n)::Jlx n xs (i+1)
def Jmd (n:Nat):List Str→Nat→List DLin
 | [],_=>[]
 | _::xs,i=>J2q i n::Jmd n xs (i+1)
theorem Jf4 {n:Nat} : ∀ {xs:List Str}{i:Nat},J19 (Jlx n xs i)=xs
 | [],_=>rfl
 | x::xs,i=>by
  have:=Jf4 (n:=n) (xs:=xs) (i:=i+1)
  unfold J19 at this ⊢
  simp [Jlx,this]
theorem Jhq {n:Nat} : ∀ {xs:List Str}{i:Nat}{e:Str×DLin},e∈Jlx n xs i→∃ j,i≤j∧j<i+xs.length∧e.2=J2q j n
 | [],_,_,h=>by cases h
 | x::xs,i,e,h=>by
  rcases List.mem_cons.1 h with rfl|h
  ·exact ⟨i,Nat.le_refl _,by simp,rfl⟩
  ·obtain ⟨j,h1,h2,h3⟩:=Jhq h
   exact ⟨j,by omega,by simp;omega,h3⟩
theorem Jnf {n:Nat}(hn:n≤8) {xs:List Str}(h:xs.length≤n):Jl3 n (Jlx n xs 0):=by
 intro e he
 obtain ⟨j,_,h2,h3⟩:=Jhq he
 rw [h3]
 exact ⟨J9i hn (by omega),by omega⟩
theorem Jjv {n:Nat}{xs:List Str}(h:xs.length≤2):Jmd n xs 0=(List.range xs.length).map fun i:Nat=>J2q i n:=by
 match xs,h with
 | [],_=>rfl
 | [_],_=>simp [Jmd,List.range_succ]
 | [_,_],_=>simp [Jmd,List.range_succ]
theorem Jdr (E:SEnv) (x:Str) (l:DLin):J19 (E++[(x,l)])=J19 E++[x]:=by simp [J19]
theorem Jh1 {n:Nat} : ∀ {xs:List Str}{a b:MS},a.E=b.E→a.nx=b.nx→a.pars=b.pars→a.args=b.args→xs.Nodup→(∀ x∈xs,x∉J19 a.E) →
 (xs.foldl (Jb6 n) a).E=a.E++Jlx n xs a.nx∧(xs.foldl (J8z n) b).E=a.E++Jlx n xs a.nx∧(xs.foldl (Jb6 n) a).nx=a.nx+xs.length∧(xs.foldl (Jb6 n) a).pars=a.pars++Jmd n xs a.nx∧(xs.foldl (J8z n) b).pars=a.pars++Jmd n xs a.nx ∧
 (xs.foldl (Jb6 n) a).args=a.args∧(xs.foldl (J8z n) b).args=a.args∧(xs.foldl (Jb6 n) a).rows=a.rows++J94 n xs a.nx∧(xs.foldl (J8z n) b).rows=b.rows
 | [],a,b,h1,h2,h3,h4,_,_=>by simp [Jlx,Jmd,J94,h1,h3,h4]
 | x::xs,a,b,h1,h2,h3,h4,hd,hk=>by
  obtain ⟨hx,hd'⟩:=List.nodup_cons.1 hd
  have he:=Jb1 (l:=J2q a.nx n) (hk x List.mem_cons_self)
  simp only [List.foldl_cons]
  have ih:=Jh1 (n:=n) (xs:=xs) (a:=Jb6 n a x) (b:=J8z n b x) (by show Jlf a.E x (J2q a.nx n)=b.E++[(x,J2q b.nx n)];rw [he,h1,h2]) (by simp [Jb6,J8z,h2]) (by simp [Jb6,J8z,h2,h3]) (by simp [Jb6,J8z,h4]) hd' (by
   intro y hy
   have:(Jb6 n a x).E=a.E++[(x,J2q a.nx n)]:=he
   rw [this,Jdr]
   intro hm
   rcases List.mem_append.1 hm with hm|hm
   ·exact hk y (List.mem_cons_of_mem _ hy) hm
   ·simp at hm;subst hm;exact hx hy)
  obtain ⟨g1,g2,g3,g4,g5,g6,g7,g8,g9⟩:=ih
  refine ⟨?_,?_,?_,?_,?_,?_,?_,?_,?_⟩
  ·rw [g1];simp [Jb6,he,Jlx]
  ·rw [g2];simp [Jb6,he,Jlx]
  ·rw [g3];simp [Jb6];omega
  ·rw [g4];simp [Jb6,Jmd]
  ·rw [g5];simp [Jb6,Jmd]
  ·rw [g6];rfl
  ·rw [g7];rfl
  ·rw [g8];simp [Jb6,J94]
  ·rw [g9];rfl
theorem Jo5 {n j:Nat}(hn:n≤8) (hj:j<n):(J4b (J2q j n) (-1)).getD J1b=J4u (J2q j n) 1:=by
 rw [Jeq hn hj]
 have h1:J14 ⟨0,(List.replicate n 0).set j 1⟩ (((List.replicate n (0:Int)).set j 1).length:Nat)=true:=by
  unfold J14
  simp only [Bool.and_eq_true,decide_eq_true_eq,List.all_eq_true]
  refine ⟨⟨⟨by simp [inR];omega,by simp⟩,by decide⟩,?_⟩
  intro y hy
  rcases List.mem_or_eq_of_mem_set hy with hy|rfl
  ·rw [(List.mem_replicate.1 hy).2];decide
  ·decide
 unfold J4b J4u
 simp only [h1]
 have h2:Jdo 0 (-1)=(-1,true):=by decide
 have h3:IntKind.i64.wrap (0 - 1) = -1:=by decide
 simp only [h2,h3]
 simp
theorem Jgu {n:Nat}(hn:n≤8) {ps:List Str}(hps:ps.length≤n):∀ {qs:List DPattern}{a:MS}{F:SEnv},a.E=Jlx n ps 0++F→(∀ q∈qs,q.Lst∈ps)→(Jad qs).Nodup→(∀ x∈Jad qs,x∉J19 a.E)→a.nx+J3e qs≤n→Jl3 n a.E →
 qs.foldl (Jch n) a=qs.foldl (J5l n) a∧J19 (qs.foldl (J5l n) a).E=J19 a.E++Jad qs∧(qs.foldl (J5l n) a).nx=a.nx+J3e qs∧Jl3 n (qs.foldl (J5l n) a).E
 | [],a,F,_,_,_,_,_,hE=>by simp [Jad,J3e,hE]
 | q::qs,a,F,hF,hl,hd,hk,hx,hE=>by
  have hq:q.Lst∈J19 (Jlx n ps 0):=by rw [Jf4];exact hl q List.mem_cons_self
  obtain ⟨l,hm,hg⟩:=Je1 J1b hq
  obtain ⟨j,_,hj,hl2⟩:=Jhq hm
  simp only at hl2
  have hj':j<n:=by omega
  have hget:∀ d F,J2w d (Jlx n ps 0++F) q.Lst=J2q j n:=fun d F=>by rw [hg,hl2]
  simp only [List.foldl_cons]
  cases hc:q.Cons
  ·have hpn:Jad (q::qs)=Jad qs:=by simp [Jad,hc]
   have hcn:J3e (q::qs)=J3e qs:=by simp [J3e,hc]
   rw [hpn] at hd hk ⊢
   rw [hcn] at hx ⊢
   have he:Jch n a q=J5l n a q:=by
    unfold Jch J5l
    rw [hc,hF,hget,hget];rfl
   have hsE:(J5l n a q).E=a.E:=by unfold J5l;rw [hc];rfl
   have hsx:(J5l n a q).nx=a.nx:=by unfold J5l;rw [hc];rfl
   rw [he]
   have ih:=Jgu hn hps (qs:=qs) (a:=J5l n a q) (F:=F) (by rw [hsE,hF]) (fun r hr=>hl r (List.mem_cons_of_mem _ hr)) hd (by rw [hsE];exact hk) (by rw [hsx];exact hx) (by rw [hsE];exact hE)
   rw [hsE,hsx] at ih
   exact ih
  ·have hpn:Jad (q::qs)=q.Head::q.Tail::Jad qs:=by simp [Jad,hc]
   have hcn:J3e (q::qs)=J3e qs+1:=by simp [J3e,hc]
   rw [hpn] at hd hk ⊢
   rw [hcn] at hx ⊢
   obtain ⟨d1,hd⟩:=List.nodup_cons.1 hd
   obtain ⟨d2,hd⟩:=List.nodup_cons.1 hd
   simp only [List.mem_cons,not_or] at d1
   have hEh:Jws n a q=a.E++[(q.Head,J2q a.nx n)]:=Jb1 (hk _ List.mem_cons_self)
   have hLI:Jmv n a q=J4u (J2q j n) 1:=by
    unfold Jmv
    rw [hEh,hF,List.append_assoc,hget]
    exact Jo5 hn hj'
   have hLS:Jja n a q=J4u (J2q j n) 1:=by unfold Jja;rw [hF,hget]
   have hE2:Jlf (a.E++[(q.Head,J2q a.nx n)]) q.Tail (J4u (J2q j n) 1)=a.E++[(q.Head,J2q a.nx n),(q.Tail,J4u (J2q j n) 1)]:=by
    rw [Jb1,List.append_assoc]
    ·rfl
    ·rw [Jdr]
     intro hm
     rcases List.mem_append.1 hm with hm|hm
     ·exact hk q.Tail (by simp) hm
     ·simp at hm;exact d1.1 hm.symm
   have he:Jch n a q=J5l n a q:=by
    unfold Jch J5l
    rw [hc,hLI,hLS,hEh,hE2];rfl
   have hsE:(J5l n a q).E=a.E++[(q.Head,J2q a.nx n),(q.Tail,J4u (J2q j n) 1)]:=by unfold J5l;rw [hc,hLS];rfl
   have hsx:(J5l n a q).nx=a.nx+1:=by unfold J5l;rw [hc];rfl
   have hsk:J19 (J5l n a q).E=J19 a.E++[q.Head,q.Tail]:=by rw [hsE];simp [J19]
   rw [he]
   have ih:=Jgu hn hps (qs:=qs) (a:=J5l n a q) (F:=F++[(q.Head,J2q a.nx n),(q.Tail,J4u (J2q j n) 1)]) (by rw [hsE,hF,List.append_assoc]) (fun r hr=>hl r (List.mem_cons_of_mem _ hr)) hd (by
    intro x hxm
    rw [hsk]
    intro hm
    rcases List.mem_append.1 hm with hm|hm
    ·exact hk x (by simp [hxm]) hm
    ·simp at hm
     rcases hm with rfl|rfl
     ·exact d1.2 hxm
     ·exact d2 hxm) (by rw [hsx];omega) (by
    rw [hsE]
    intro e he
    rcases List.mem_append.1 he with he|he
    ·exact hE e he
    ·simp at he
     rcases he with rfl|rfl
     ·exact ⟨J9i hn (by omega),by omega⟩
     ·exact ⟨J9i (i:=j) hn hj',by omega⟩)
   obtain ⟨g1,g2,g3,g4⟩:=ih
   refine ⟨g1,?_,?_,g4⟩
   ·rw [g2,hsk,List.append_assoc];rfl
   ·rw [g3,hsx];omega
def Jtv (K:List Str) (a:DArg):Prop:=(∀ s∈a.Heads,∀ t∈s.Terms,t.Name∈K)∧(a.Base≠[]→a.Base∈K)
def Jjm (p:DProgram) (K:List Str):List DCall→Prop
 | []=>True
 | c::cs=>(∀ a∈c.Args,Jtv K a)∧((J0t p.Functions c.Func).getD fn0).ListResult=J0n c.Bind∧c.Bind∉K∧Jjm p (K++[c.Bind]) cs
theorem Jib {p:DProgram}{n:Nat}(hn:n≤8):∀ {cs:List DCall}{a:MS},Jjm p (J19 a.E) cs→a.nx+cs.length≤n→Jl3 n a.E →
 cs.foldl (Jfj p n) a=cs.foldl (J5x n) a∧J19 (cs.foldl (J5x n) a).E=J19 a.E++cs.map (·.Bind)∧Jl3 n (cs.foldl (J5x n) a).E
 | [],a,_,_,hE=>by simp [hE]
 | c::cs,a,h,hx,hE=>by
  obtain ⟨h1,h2,h3,h4⟩:=h
  simp only [List.length_cons] at hx
  simp only [List.foldl_cons]
  have hb:Jlf a.E c.Bind (J2q a.nx n)=a.E++[(c.Bind,J2q a.nx n)]:=Jb1 h3
  have ha:c.Args.map (Jgd a.E n)=c.Args.map (Jg6 a.E n):=List.map_congr_left fun x hx=>Ju0 hE (h1 x hx)
  have he:Jfj p n a c=J5x n a c:=by
   unfold Jfj J5x
   rw [hb,ha,h2]
  have hsE:(J5x n a c).E=a.E++[(c.Bind,J2q a.nx n)]:=rfl
  rw [he]
  have ih:=Jib (p:=p) hn (cs:=cs) (a:=J5x n a c) (by rw [hsE,Jdr];exact h4) (by show a.nx+1+_≤_;omega) (by
   rw [hsE]
   intro e he
   rcases List.mem_append.1 he with he|he
   ·exact hE e he
   ·simp at he;subst he;exact ⟨J9i hn (by omega),by omega⟩)
  obtain ⟨g1,g2,g3⟩:=ih
  refine ⟨g1,?_,g3⟩
  rw [g2,hsE,Jdr];simp
theorem Jl2 {a:DArg}{b:Bool}{K:List Str}(h:J6b a b K=true):Jtv K a:=by
 unfold J6b at h
 simp only [Bool.and_eq_true] at h
 have h2:=h.2
 rw [Jey] at h2
 unfold Jmy at h2
 rw [List.all_eq_true] at h2
 have hs:∀ (l:List DSum) (s:DSum),s∈l→∀ t∈s.Terms,t.Name∈Ja2 l:=by
  intro l
  induction l with
  | nil=>intro s hs;cases hs
  | cons x l ih=>
   intro s hs t ht
   simp only [Ja2]
   rcases List.mem_cons.1 hs with rfl|hs
   ·exact List.mem_append_left _ (List.mem_map.2 ⟨t,ht,rfl⟩)
   ·exact List.mem_append_right _ (ih s hs t ht)
 refine ⟨fun s hs' t ht=>Jbt.1 (h2 _ ?_),fun hb=>Jbt.1 (h2 _ ?_)⟩
 ·exact List.mem_append_left _ (hs _ s hs' t ht)
 ·refine List.mem_append_right _ ?_
  rw [if_neg hb];exact List.mem_cons_self
theorem Jgk {K:List Str} : ∀ {l:List DArg}{m:List Str},J7y K l m=true→l.length=m.length→∀ a∈l,∃ b,J6b a b K=true
 | [],_,_,_,_,h=>by cases h
 | a::l,[],_,hl,_,_=>by simp at hl
 | a::l,s::m,h,hl,x,hx=>by
  simp only [J7y,Bool.and_eq_true] at h
  rcases List.mem_cons.1 hx with rfl|hx
  ·exact ⟨_,h.1⟩
  ·exact Jgk h.2 (by simpa using hl) x hx
theorem Jli {p:DProgram}{c:DCall}{K:List Str}(h:J9g p c K=true):(∀ a∈c.Args,∃ b,J6b a b K=true)∧((J0t p.Functions c.Func).getD fn0).ListResult=J0n c.Bind:=by
 unfold J9g at h
 simp only [Bool.and_eq_true,decide_eq_true_eq] at h
 obtain ⟨⟨⟨_,h1⟩,h2⟩,h3⟩:=h
 refine ⟨Jgk h3 h1,?_⟩
 cases hr:((J0t p.Functions c.Func).getD fn0).ListResult
 ·rw [hr] at h2
  simp only [Bool.false_eq_true,if_false,J2f,Bool.and_eq_true,Bool.not_eq_true'] at h2
  exact h2.2.symm
 ·rw [hr] at h2
  simp only [if_true] at h2
  exact h2.symm
theorem J9u {p:DProgram}{r:DRule}{f:DFunction}(hf:J0t p.Functions r.Func=some f) {k:Nat}(hk:k≤r.Calls.length):J1j p r k=f.Params++Jad r.Patterns++(r.Calls.take k).map (·.Bind):=by
 unfold J1j
 rw [hf]
 rw [if_pos (by simp [inR];omega)];simp
theorem Jd6 {p:DProgram}{r:DRule}{f:DFunction}(hf:J0t p.Functions r.Func=some f) (hd:(f.Params++Jad r.Patterns++r.Calls.map (·.Bind)).Nodup) :
 ∀ {m k:Nat},k+m=r.Calls.length→J2c p r k (r.Calls.drop k)=true→Jjm p (J1j p r k) (r.Calls.drop k)
 | 0,k,hm,_=>by rw [List.drop_eq_nil_of_le (by omega)];trivial
 | m+1,k,hm,h=>by
  have hk:k<r.Calls.length:=by omega
  have hsk:J1j p r (k+1:Nat)=J1j p r k++[(r.Calls[k]).Bind]:=by
   rw [J9u hf (by omega),J9u hf (by omega),List.take_succ_eq_append_getElem hk,List.map_append,←List.append_assoc];rfl
  rw [List.drop_eq_getElem_cons hk] at h ⊢
  simp only [J2c,Bool.and_eq_true] at h
  obtain ⟨g1,g2⟩:=Jli h.1
  refine ⟨fun a ha => ?_,g2,?_,?_⟩
  ·obtain ⟨b,hb⟩:=g1 a ha
   exact Jl2 hb
  ·rw [J9u hf (by omega)]
   intro hmem
   have hsub:(f.Params++Jad r.Patterns++(r.Calls.take k).map (·.Bind)++[(r.Calls[k]).Bind]).Nodup:=by
    refine hd.sublist ?_
    rw [List.append_assoc]
    refine List.Sublist.append_left ?_ _
    have:(r.Calls.take k).map (·.Bind)++[(r.Calls[k]).Bind]=(r.Calls.take (k+1)).map (·.Bind):=by rw [List.take_succ_eq_append_getElem hk,List.map_append];rfl
    rw [this]
    exact (List.take_sublist _ _).map _
   rw [List.nodup_append] at hsub
   exact hsub.2.2 _ hmem _ (by simp) rfl
  ·rw [←hsk]
   exact Jd6 hf hd (m:=m) (by omega) h.2
theorem Jon {ps:List Str} : ∀ {qs:List DPattern}{met:List Str},J3o ps met qs=true→(∀ q∈qs,q.Lst∈ps)∧(qs.map (·.Lst)).Nodup∧∀ q∈qs,q.Lst∉met
 | [],_,_=>by simp
 | q::qs,met,h=>by
  simp only [J3o,Bool.and_eq_true,Bool.not_eq_true'] at h
  obtain ⟨⟨h1,h2⟩,h3⟩:=h
  obtain ⟨g1,g2,g3⟩:=Jon h3
  unfold Jtp at h1
  simp only [Bool.and_eq_true] at h1
  have h1':=Jbt.1 h1.1.1
  have h2':=Jhz.1 h2
  refine ⟨?_,?_,?_⟩
  ·intro x hx
   rcases List.mem_cons.1 hx with rfl|hx
   ·exact h1'
   ·exact g1 x hx
  ·rw [List.map_cons,List.nodup_cons]
   refine ⟨?_,g2⟩
   intro hm
   obtain ⟨y,hy,he⟩:=List.mem_map.1 hm
   exact g3 y hy (by rw [he];simp)
  ·intro x hx
   rcases List.mem_cons.1 hx with rfl|hx
   ·exact h2'
   ·exact fun hm=>g3 x hx (List.mem_append_left _ hm)
theorem Jk2 {p:DProgram}{name:Str}{f:DFunction}(hp:J2l p=true) (hf:J0t p.Functions name=some f):f.Params.length≤2∧f.Params.Nodup∧(∀ l∈f.Pre,J14 l f.Params.length=true)∧f.Pre.length≤2:=by
 unfold J2l at hp
 simp only [Bool.and_eq_true,J9l,List.all_eq_true] at hp
 have:=hp.1.1.2.1 f (List.mem_of_find?_eq_some hf)
 unfold Jji J85 at this
 simp only [Bool.and_eq_true,decide_eq_true_eq,List.all_eq_true] at this
 obtain ⟨⟨⟨⟨_,h2⟩,_,h3⟩,h4⟩,h5⟩:=this
 exact ⟨h2,(Jkk h3).1,h5,h4⟩
structure RuleIn (p:DProgram) (r:DRule) (f:DFunction):Prop where
 par:f.Params.length≤2
 pre:∀ l∈f.Pre,J14 l f.Params.length=true
 npre:f.Pre.length≤2
 pats:∀ q∈r.Patterns,q.Lst∈f.Params
 npats:r.Patterns.length≤f.Params.length
 nd:(f.Params++Jad r.Patterns++r.Calls.map (·.Bind)).Nodup
 ncalls:r.Calls.length≤2
 nguards:r.Guards.length≤2
 guards:∀ g∈r.Guards,J42 (f.Params++Jad r.Patterns) g=true
 calls:J2c p r 0 r.Calls=true
 res:J6b r.Result f.ListResult (f.Params++Jad r.Patterns++r.Calls.map (·.Bind))=true
theorem Jcb {p:DProgram}{r:DRule}(hp:J2l p=true) (hr:r∈p.Rules):∃ f,J0t p.Functions r.Func=some f∧RuleIn p r f:=by
 have hp':=hp
 unfold J2l at hp'
 simp only [Bool.and_eq_true,List.all_eq_true] at hp'
 have h:=hp'.2 r hr
 unfold J7e at h
 simp only [Bool.and_eq_true,decide_eq_true_eq] at h
 obtain ⟨⟨⟨⟨⟨⟨⟨g1,g2⟩,g3⟩,g4⟩,g5⟩,g6⟩,g7⟩,g8⟩:=h
 obtain ⟨f,hf⟩:=Option.isSome_iff_exists.1 g1
 rw [hf] at g2 g7
 simp only [Option.getD_some] at g2 g7
 obtain ⟨k1,k2,k3,k4⟩:=Jk2 hp hf
 obtain ⟨q1,q2,_⟩:=Jon g2
 have hs0:=J9u (p:=p) (r:=r) hf (k:=0) (Nat.zero_le _)
 have hsa:=J9u (p:=p) (r:=r) hf (k:=r.Calls.length) (Nat.le_refl _)
 rw [List.take_length] at hsa
 simp only [List.take_zero,List.map_nil,List.append_nil] at hs0
 rw [hsa] at g7 g8
 rw [show ((0:Nat):Int)=0 from rfl] at hs0
 rw [hs0,List.all_eq_true] at g4
 refine ⟨f,hf,k1,k3,k4,q1,?_,(Jkk g8).1,g5,g3,g4,g6,g7⟩
 have:=Jo8 q2 (N:=f.Params) (by
  intro x hx
  obtain ⟨q,hq,rfl⟩:=List.mem_map.1 hx
  exact q1 q hq)
 simpa using this
theorem Jln (l:List DPattern):J3e l≤l.length:=List.length_filter_le _ _
theorem RuleIn.size {p:DProgram}{r:DRule}{f:DFunction}(R:RuleIn p r f):J10 r f≤6:=by
 have:=Jln r.Patterns
 have:=R.par;have:=R.npats;have:=R.ncalls
 unfold J10;omega
theorem Jrd {p:DProgram}{r:DRule}{f:DFunction}(hf:J0t p.Functions r.Func=some f) (R:RuleIn p r f):Jm1 p r f=some (J4v r f):=by
 have h6:=R.size
 have hn:J10 r f≤8:=by omega
 have hpn:f.Params.length≤J10 r f:=by unfold J10;omega
 have hd:=R.nd
 rw [List.append_assoc,List.nodup_append] at hd
 obtain ⟨hd1,hd2,hd3⟩:=hd
 rw [List.nodup_append] at hd2
 obtain ⟨hd4,hd5,hd6⟩:=hd2
 obtain ⟨a1,a2,a3,a4,a5,a6,a7,a8,a9⟩:=Jh1 (n:=J10 r f) (xs:=f.Params) (a:=⟨[],0,[],[],[]⟩) (b:=⟨[],0,Jcc f (J10 r f),[],[]⟩) rfl rfl rfl rfl hd1 (by simp [J19])
 simp only [List.nil_append,Nat.zero_add] at a1 a2 a3 a4 a5 a6 a7 a8 a9
 have hpre:Jzv (st1 r f).pars (J10 r f) f.Pre=some (f.Pre.map (J3k (J10 r f))):=by
  refine Jjc fun l hl => ?_
  unfold st1
  rw [a4,Jjv R.par]
  exact Je5 R.par hpn hn (R.pre l hl)
 unfold Jm1 J4v
 rw [hpre]
 simp only
 have e1:(⟨(st1 r f).E,(st1 r f).nx,(st1 r f).rows++f.Pre.map (J3k (J10 r f)),(st1 r f).pars,(st1 r f).args⟩:MS)=Jc7 (ss1 r f) f.Params.length:=by
  unfold st1 ss1 Jc7
  rw [a1,a2,a3,a4,a5,a6,a7,a8,a9];rfl
 have b0:(Jc7 (ss1 r f) f.Params.length).E=Jlx (J10 r f) f.Params 0++[]:=by rw [List.append_nil];exact a2
 have b1:J19 (Jc7 (ss1 r f) f.Params.length).E=f.Params:=by rw [b0,List.append_nil,Jf4]
 have b2:Jl3 (J10 r f) (Jc7 (ss1 r f) f.Params.length).E:=by rw [b0,List.append_nil];exact Jnf hn hpn
 obtain ⟨c1,c2,c3,c4⟩:=Jgu hn hpn (qs:=r.Patterns) (a:=Jc7 (ss1 r f) f.Params.length) b0 R.pats hd4 (by
  rw [b1];intro x hx hm;exact hd3 x hm x (List.mem_append_left _ hx) rfl) (by show f.Params.length+J3e r.Patterns≤J10 r f;unfold J10;omega) b2
 rw [b1] at c2
 have e3:st3 r f (f.Pre.map (J3k (J10 r f)))=ss3 r f:=by unfold st3 ss3;rw [e1,c1]
 have hg:r.Guards.map (Jfv (ss3 r f).E (J10 r f))=r.Guards.map (Jdn (ss3 r f).E (J10 r f)):=by
  refine List.map_congr_left fun g hg=>Jtl c4 fun t ht => ?_
  have:=R.guards g hg
  unfold J42 Jmy at this
  simp only [Bool.and_eq_true,List.all_eq_true] at this
  have:=Jbt.1 (this.2 t.Name (List.mem_map.2 ⟨t,ht,rfl⟩))
  show t.Name∈J19 (ss3 r f).E
  unfold ss3;rw [c2];exact this
 have e4:J0w (ss3 r f) (r.Guards.map (Jfv (ss3 r f).E (J10 r f)))=J0w (Jc7 (ss3 r f) (f.Params.length+J3e r.Patterns)) (r.Guards.map (Jdn (ss3 r f).E (J10 r f))):=by
  rw [hg]
  unfold J0w Jc7
  have:(ss3 r f).nx=f.Params.length+J3e r.Patterns:=c3
  rw [this]
 have hk0:J19 (J0w (Jc7 (ss3 r f) (f.Params.length+J3e r.Patterns)) (r.Guards.map (Jdn (ss3 r f).E (J10 r f)))).E=f.Params++Jad r.Patterns:=c2
 have hci:=Jd6 (p:=p) (r:=r) hf R.nd (m:=r.Calls.length) (k:=0) (by omega) R.calls
 have hs0:=J9u (p:=p) (r:=r) hf (k:=0) (Nat.zero_le _)
 simp only [List.take_zero,List.map_nil,List.append_nil] at hs0
 rw [hs0,List.drop_zero] at hci
 obtain ⟨d1,d2,d3⟩:=Jib (p:=p) hn (cs:=r.Calls) (a:=J0w (Jc7 (ss3 r f) (f.Params.length+J3e r.Patterns)) (r.Guards.map (Jdn (ss3 r f).E (J10 r f)))) (by rw [hk0];exact hci) (by
  show f.Params.length+J3e r.Patterns+r.Calls.length≤J10 r f;unfold J10;omega) c4
 have e5:st5 p r f (f.Pre.map (J3k (J10 r f)))=ss5 r f:=by unfold st5 ss5;rw [e3,e4,d1]
 rw [e5]
 have er:Jgd (ss5 r f).E (J10 r f) r.Result=Jg6 (ss5 r f).E (J10 r f) r.Result:=by
  refine Ju0 d3 ?_
  have h1:=Jl2 R.res
  have h2:J19 (ss5 r f).E=f.Params++Jad r.Patterns++r.Calls.map (·.Bind):=by unfold ss5;rw [d2,hk0]
  rw [←h2] at h1
  exact h1
 rw [er]
theorem Jqf {p:DProgram}{name:Str}{f:DFunction}(hp:J2l p=true) (hf:J0t p.Functions name=some f):Jcc f f.Params.length=J94 f.Params.length f.Params 0++f.Pre:=by
 obtain ⟨_,_,h,_⟩:=Jk2 hp hf
 unfold Jcc
 congr 1
 conv=>rhs;rw [←List.map_id f.Pre]
 refine List.map_congr_left fun l hl=>Jm5 ?_
 have:=(J1u (h l hl)).1
 omega
end Go.Proofs.YtoclolkigjbcgaaGreat
