/- Contracts: names in order; the names of an argument. -/
import Derived.Test.YtoclolkigjbcgaaGreatUR44
import Derived.Test.YtoclolkigjbcgaaGreatUSh
import Derived.Test.YtoclolkigjbcgaaGreatUC1
namespace Go.Proofs.YtoclolkigjbcgaaGreat
set_option maxRecDepth 40000
set_option maxHeartbeats 4000000
open Go Go.RowKit Go.Proofs
set_option linter.all false
def a299:AFn:= ⟨10,[.t 2],(.seq (.reg [Zo 2 (.mv (.k (.nil 1)))]) (.seq (.reg [Zv 4 0,Zc 5 252 [.t 4],Zv 3 5]) (.seq (.reg [Zv 6 3,Zc 7 324 [.t 6]]) (.seq (.reg [Zv 8 3,Zc 9 325 [.t 8],Zv 2 9]) .ret))))⟩
theorem a299_ok:J08 Tryz.prog Tryz.f299=some a299:=by kernel_rfl
def a319:AFn:= ⟨63,[.t 2],(.seq (.reg [Zo 2 (.mv (.k (.nil 1)))]) (.seq (.reg [Zo 7 (.bsl 1 []),Zv 3 7]) (.seq (.seq (.reg [Zo 4 (.mv (.k (.int .i64 0)))]) (.blk 0 (.loop (.seq (.seq (.reg [Zv 8 4,Zv 9 0,Zo 10 (.len false (.t 9)),Zo 11 (.bin .lss (.t 8) (.t 10))]) (.cond (.t 11) .skip (.exit 0))) (.seq (.blk 1 (.seq (.reg [Zo 5 (.mv (.k (.int .i64 0)))]) (.seq (.blk 2 (.loop (.seq (.seq (.draw (.op (Zv 14 5) (.op (Zv 15 3) (.op (Zo 16 (.len false (.t 15))) (.op (Zo 17 (.bin .lss (.t 14) (.t 16))) (.op (Zv 18 17) (.op ⟨some 19,.mv (.t 3),(some (18,true))⟩ (.op ⟨some 20,.mv (.t 5),(some (18,true))⟩ (.op ⟨some 21,.ixa 1 (.t 19) (.t 20),(some (18,true))⟩ (.op ⟨some 22,.ld false 1 (.t 21),(some (18,true))⟩ (.op ⟨some 23,.mv (.t 0),(some (18,true))⟩ (.op ⟨some 24,.mv (.t 4),(some (18,true))⟩ (.op ⟨some 25,.ixa 1 (.t 23) (.t 24),(some (18,true))⟩ (.op ⟨some 26,.ld false 1 (.t 25),(some (18,true))⟩ (.op ⟨some 27,.bin .lss (.t 22) (.t 26),(some (18,true))⟩ (.op (Zo 28 (.pick (.t 18) (.t 27) (.k (.bool false)))) .fin)))))))))))))))) (.cond (.t 28) .skip (.exit 2))) (.blk 3 (.reg [Zv 29 5,Zo 30 (.bin .add (.t 29) (.k (.int .i64 1))),Zv 5 30]))))) (.seq (.seq (.draw (.op (Zv 31 5) (.op (Zv 32 3) (.op (Zo 33 (.len false (.t 32))) (.op (Zo 34 (.bin .lss (.t 31) (.t 33))) (.op (Zv 35 34) (.op ⟨some 36,.mv (.t 3),(some (35,true))⟩ (.op ⟨some 37,.mv (.t 5),(some (35,true))⟩ (.op ⟨some 38,.ixa 1 (.t 36) (.t 37),(some (35,true))⟩ (.op ⟨some 39,.ld false 1 (.t 38),(some (35,true))⟩ (.op ⟨some 40,.mv (.t 0),(some (35,true))⟩ (.op ⟨some 41,.mv (.t 4),(some (35,true))⟩ (.op ⟨some 42,.ixa 1 (.t 40) (.t 41),(some (35,true))⟩ (.op ⟨some 43,.ld false 1 (.t 42),(some (35,true))⟩ (.op ⟨some 44,.bin .eql (.t 39) (.t 43),(some (35,true))⟩ (.op (Zo 45 (.pick (.t 35) (.t 44) (.k (.bool false)))) .fin)))))))))))))))) (.cond (.t 45) (.exit 1) .skip)) (.seq (.reg [Zo 46 (.bsl 1 []),Zv 47 3,Zv 48 5,Zo 49 (.slc false 1 (.t 47) (some (.t 48)) Option.none),Zo 50 (.app 16 1 (.t 46) (.t 49)),Zv 6 50]) (.draw (.op (Zv 51 3) (.op (Zv 52 5) (.op (Zo 53 (.slc false 1 (.t 51) Option.none (some (.t 52)))) (.op (Zv 54 0) (.op (Zv 55 4) (.op (Zo 56 (.ixa 1 (.t 54) (.t 55))) (.op (Zl 57 false 1 56) (.op (Zv 60 6) (.hop (Zo 58 (.bsl 1 [.t 57])) [(.slc false 1 (.t 51) Option.none (some (.t 52)))] (.hop (Zo 59 (.app 16 1 (.t 53) (.t 58))) [] (.hop (Zo 61 (.app 16 1 (.t 59) (.t 60))) [] (.hop (Zv 3 61) [] .fin)))))))))))))))))) (.reg [Zv 12 4,Zo 13 (.bin .add (.t 12) (.k (.int .i64 1))),Zv 4 13])))))) (.seq (.reg [Zv 62 3,Zv 2 62]) .ret))))⟩
theorem a319_ok:J08 Tryz.prog Tryz.f319=some a319:=by kernel_rfl
theorem Jt0 {h:Heap}{n id:Nat}{l:List Str}{K:AV→Heap→Nat→Prop}(hB:h id=some ⟨false,1,J05 l⟩) (hK:K (.tup []) (upd h id (some ⟨false,1,J05 (J7u l)⟩)) n):J1u Tryz.prog 324 [.ref id 0 l.length] h n K:=by
 refine J8v (l2:=J7u l) (r := .tup []) (by unfold J5b;rw [Tryz.func324];rfl) hB (Jc2 l) (fun s hs => .inl (Jeu.1 hs)) (.inl ⟨rfl,fun _ _ _=>trivial⟩) ?_ ?_ hK
 ·intro b cap w hH hb _ hlim
  unfold LIM at hlim
  refine (Tryz.slices_Sort_string b 0 cap l w hH hb (by omega)).mono ?_
  rintro e w' ⟨rfl,q,os,rfl⟩
  exact ⟨⟨_,rfl,fun _=>rfl,fun m h=>by cases h⟩,q,os,rfl⟩
 ·intro _ w
  refine (Tryz.slices_Sort_string_none Option.none 0 w).mono ?_
  rintro e w' ⟨rfl,rfl⟩
  exact ⟨⟨_,rfl,fun _=>rfl,fun m h=>by cases h⟩,rfl⟩
theorem Jky {h:Heap}{n id:Nat}{l:List Str}{K:AV→Heap→Nat→Prop}(hB:h id=some ⟨false,1,J05 l⟩)
 (hK:K (.ref id 0 (Go.Lib.compact l).length) (upd h id (some ⟨false,1,J05 (Go.Lib.compact l++List.replicate (l.length - (Go.Lib.compact l).length) [])⟩)) n):J1u Tryz.prog 325 [.ref id 0 l.length] h n K:=by
 have hl:=J8e l
 refine J8v (l2:=Go.Lib.compact l++List.replicate (l.length - (Go.Lib.compact l).length) []) (r := .ref id 0 (Go.Lib.compact l).length) (by unfold J5b;rw [Tryz.func325];rfl) hB (by simp;omega) ?_ (.inr ⟨_,hl,rfl⟩) ?_ ?_ hK
 ·intro s hs
  rcases List.mem_append.1 hs with hs|hs
  ·left
   unfold Go.Lib.compact Go.Lib.compactUpTo at hs
   obtain ⟨j,hj,rfl⟩:=List.mem_map.1 hs
   have hj:=List.mem_range.1 (List.mem_filter.1 hj).1
   simp [hj]
  ·right;exact (List.mem_replicate.1 hs).2
 ·intro b cap w hH hb hcap hlim
  unfold LIM at hlim
  refine (Tryz.slices_Compact_string b 0 cap l w hH (by omega) hcap).mono ?_
  rintro e w' ⟨rfl,q,rfl⟩
  exact ⟨⟨_,rfl,fun h=>by (cases h),fun m h=>by (cases h;rfl)⟩,q,#[],by unfold J6g;rw [Go.Sort.grow_empty]⟩
 ·intro hl0 w
  subst hl0
  refine (Tryz.slices_Compact_string_empty Option.none 0 w).mono ?_
  rintro e w' ⟨rfl,rfl⟩
  exact ⟨⟨_,rfl,fun h=>by (cases h),fun m h=>rfl⟩,rfl⟩
theorem J3h (l:List Str) (hl:l.length≤1048576):Holds Tryz.prog 299 [.sl 1 (J05 l)] (fun r=>r = .us 1 (J05 (J3x l))):=by
 refine J01 Tryz.func299 a299_ok rfl (by simp [a299]) ?_
 simp [a299]
 first|refine J02 (J7n l hl) (by first|simp;done|rfl) ?_|refine J03 (J7n l hl) (by first|simp;done|rfl) ?_
 rintro r rfl
 simp
 refine Jt0 (l:=l) (by simp) ?_
 simp
 rw [←Jc2 l]
 refine Jky (l:=J7u l) (by simp) ?_
 have h:=J8e (J7u l)
 have h2:List.take (Go.Lib.compact (J7u l)).length (J05 (Go.Lib.compact (J7u l)++List.replicate ((J7u l).length - (Go.Lib.compact (J7u l)).length) []))=J05 (J3x l):=by
  unfold J05;rw [List.map_append,List.take_left' (by simp)];rfl
 simp [h2]
set_option maxHeartbeats 1000000 in
theorem J5t (l:List Str) (hl:l.length≤1048576):Holds Tryz.prog 319 [.sl 1 (J05 l)] (fun r=>r = .us 1 (J05 (J3x l))):=by
 refine J01 Tryz.func319 a319_ok rfl (by simp [a319]) ?_
 simp [a319]
 refine J0h [0] 4 l.length (fun i s h n=>∃ (acc:List Str) (id:Nat),s 3 = .ref id 0 acc.length∧h id=some ⟨false,1,J05 acc⟩∧id<n∧acc.length≤i∧SS acc∧∀ x,x∈acc↔x∈l.take i)
  (by unfold LIM;omega) (by simp) ⟨[],0,by simp,by simp [J05],by simp,by simp,by simp [SS],by simp⟩ ?_ ?_
 ·rintro i s h n R hi hg hk s4 hw ⟨acc,id,s3,eid,hidn,hai,hS,hmem⟩ hR _ _
  simp at hk
  simp [hk,s4,hi,hg]
  intro _
  refine J77 (fun m s' h' n'=>∃ k:Nat,m=acc.length - k∧k≤acc.length∧s' 0 = .sl 1 (J05 l)∧s' 4 = .int .i64 i∧s' 3 = .ref id 0 acc.length∧s' 5 = .int .i64 k∧(∀ j,∀ hj:j<acc.length,j<k→bl acc[j] l[i]=true)∧h'=h∧n'=n) acc.length
   ⟨0,by simp,Nat.zero_le _,by simp [hk],by simp [s4],by simp [s3],by simp,fun j _ hj=>absurd hj (Nat.not_lt_zero _),rfl,rfl⟩ ?_
  rintro m s' h' n' R' ⟨k,rfl,hka,s0',s4',s3',s5',hlt,rfl,rfl⟩ hR' _ hX'
  have rest:∀ s'':Env,s'' 0 = .sl 1 (J05 l)→s'' 4 = .int .i64 i→s'' 3 = .ref id 0 acc.length→s'' 5 = .int .i64 k→(∀ hk:k<acc.length,bl acc[k] l[i]=false)→R' (.exit 2) s'' h' n':=by
   intro s2 t0 t4 t3 t5 hge
   refine hX' _ _ _ _ ?_
   obtain ⟨hS',hm'⟩:=Jic hS hka hlt hge
   have hmem':∀ x,x∈Jci acc l[i] k↔x∈l.take (i+1):=fun x=>by
    rw [hm',hmem,List.take_succ_eq_append_getElem hi,List.mem_append,List.mem_singleton]
    exact Or.comm
   have hll:(Jci acc l[i] k).length≤i+1:=by
    unfold Jci;split
    ·omega
    ·simp;omega
   by_cases he:acc[k]? = some l[i]
   ·have hk1:k<acc.length:=(List.getElem?_eq_some_iff.1 he).1
    have hek:acc[k]=l[i]:=by rw [List.getElem?_eq_getElem hk1] at he;exact Option.some.inj he
    have hia:Jci acc l[i] k=acc:=by unfold Jci;rw [if_pos he]
    rw [hia] at hS' hmem' hll
    simp [t0,t4,t3,t5,eid,hk1,hi,hek,hw]
    exact hR _ _ _ (by simp [t0,hk]) (by simp) ⟨acc,id,by simp [t3],eid,hidn,by omega,hS',hmem'⟩
   ·have hia:Jci acc l[i] k=acc.take k++l[i]::acc.drop k:=by unfold Jci;rw [if_neg he]
    have n0:¬id=n':=by omega
    have n1:¬id=n'+1:=by omega
    have n2:¬id=n'+1+1:=by omega
    have n3:¬n'=id:=by omega
    have n4:¬n'+1=id:=by omega
    have n5:¬n'+1+1=id:=by omega
    have n6:¬n'+1+1+1=id:=by omega
    have n7:¬id=n'+1+1+1:=by omega
    have q1:k+(acc.length - k)=acc.length:=by omega
    have q2:acc.length≤1048576:=by omega
    have q3:min k acc.length=k:=Nat.min_eq_left hka
    by_cases hk1:k<acc.length
    ·have hek:¬acc[k]=l[i]:=fun e=>he (by rw [List.getElem?_eq_getElem hk1,e])
     simp [t0,t4,t3,t5,eid,hk1,hi,hek,hw,J37,asI,n0,n1,n2,n3,n4,n5,n6,n7,q1,q3,hka]
     have hlim:(acc.length - k)*16≤LIM∧(k+1)*16≤LIM∧(k+1+(acc.length - k))*16≤LIM:=by unfold LIM;omega
     refine ⟨hlim.1,hlim.2.1,hlim.2.2,?_⟩
     have hln:(acc.take k++l[i]::acc.drop k).length=k+1+(acc.length - k):=by simp;omega
     refine hR _ _ _ (by simp [t0,hk]) (by simp) ⟨acc.take k++l[i]::acc.drop k,n'+4,?_,?_,by omega,by rw [←hia];exact hll,by rw [←hia];exact hS',by rw [←hia];exact hmem'⟩
     ·rw [hln];simp
     ·simp [J05,List.take_of_length_le]
      rw [List.take_of_length_le (by simp;omega)]
      simp
    ·simp [t0,t4,t3,t5,eid,hk1,hi,hw,J37,asI,n0,n1,n2,n3,n4,n5,n6,n7,q1,q3,hka]
     have hlim:(acc.length - k)*16≤LIM∧(k+1)*16≤LIM∧(k+1+(acc.length - k))*16≤LIM:=by unfold LIM;omega
     refine ⟨hlim.1,hlim.2.1,hlim.2.2,?_⟩
     have hln:(acc.take k++l[i]::acc.drop k).length=k+1+(acc.length - k):=by simp;omega
     refine hR _ _ _ (by simp [t0,hk]) (by simp) ⟨acc.take k++l[i]::acc.drop k,n'+4,?_,?_,by omega,by rw [←hia];exact hll,by rw [←hia];exact hS',by rw [←hia];exact hmem'⟩
     ·rw [hln];simp
     ·simp [J05,List.take_of_length_le]
      rw [List.take_of_length_le (by simp;omega)]
      simp
  by_cases hk1:k<acc.length
  ·simp [s0',s4',s3',s5',eid,hk1,hi]
   refine ⟨fun hb => ?_,fun hb => ?_⟩
   ·refine hR' (acc.length - (k+1)) _ _ _ (by omega) ⟨k+1,rfl,by omega,by simp [s0'],by simp [s4'],by simp [s3'],by simp;exact J0w (by omega),fun j hj hjk => ?_,rfl,rfl⟩
    by_cases hjk':j<k
    ·exact hlt j hj hjk'
    ·have:j=k:=by omega
     subst this;exact hb
   ·exact rest _ (by simp [s0']) (by simp [s4']) (by simp [s3']) (by simp [s5']) fun _=>hb
  ·simp [s0',s4',s3',s5',eid,hk1,hi]
   exact rest _ (by simp [s0']) (by simp [s4']) (by simp [s3']) (by simp [s5']) fun h=>absurd h hk1
 ·rintro s h n R hk s4 ⟨acc,id,s3,eid,hidn,hai,hS,hmem⟩ hret hX
  simp at hk
  rw [List.take_of_length_le (Nat.le_refl _)] at hmem
  have:=Jj8 hS hmem
  subst this
  simp [hk,s4]
  intro _
  refine hX _ _ _ _ ?_
  simp [s3,eid]
def a239:AFn:= ⟨20,[.t 2],(.seq (.reg [Zo 1 (.boxv (.t 0)),Zo 2 (.mv (.k (.nil 1)))]) (.seq (.reg [Zo 3 (.mv (.k (.nil 1)))]) (.seq (.seq (.reg [Zf 6 1 1,Zl 7 false 1 6,Zo 8 (.len false (.t 7)),Zo 9 (.mv (.k (.int .i64 0)))]) (.blk 0 (.loop (.seq (.reg [Zo 10 (.bin .lss (.t 9) (.t 8))]) (.seq (.cond (.t 10) .skip (.exit 0)) (.seq (.blk 1 (.seq (.reg [Zo 11 (.ixa 2 (.t 7) (.t 9)),Zl 12 true 2 11,Zo 5 (.box [(.int .i64 0),(.str [])]),⟨no,.st 2 (.t 5) (.t 12),no⟩]) (.reg [Zv 13 3,Zf 14 1 5,Zl 15 false 1 14,Zo 16 (.bsl 1 [.t 15]),Zo 17 (.app 16 1 (.t 13) (.t 16)),Zv 3 17]))) (.reg [Zo 18 (.bin .add (.t 9) (.k (.int .i64 1))),Zv 9 18]))))))) (.seq (.reg [Zv 19 3,Zv 2 19]) .ret))))⟩
theorem a239_ok:J08 Tryz.prog Tryz.f239=some a239:=by kernel_rfl
def a243:AFn:= ⟨28,[.t 2],(.seq (.reg [Zo 1 (.boxv (.t 0)),Zo 2 (.mv (.k (.nil 1)))]) (.seq (.reg [Zo 3 (.mv (.k (.nil 1)))]) (.seq (.seq (.reg [Zf 6 1 1,Zl 7 false 1 6,Zo 8 (.len false (.t 7)),Zo 9 (.mv (.k (.int .i64 0)))]) (.blk 0 (.loop (.seq (.reg [Zo 10 (.bin .lss (.t 9) (.t 8))]) (.seq (.cond (.t 10) .skip (.exit 0)) (.seq (.blk 1 (.seq (.reg [Zo 11 (.ixa 2 (.t 7) (.t 9)),Zl 12 true 2 11,Zo 5 (.box [(.int .i64 0),(.nil 2)]),⟨no,.st 2 (.t 5) (.t 12),no⟩]) (.reg [Zv 13 3,Zl 14 true 2 5,Zc 15 239 [.t 14],Zo 16 (.app 16 1 (.t 13) (.t 15)),Zv 3 16]))) (.reg [Zo 17 (.bin .add (.t 9) (.k (.int .i64 1))),Zv 9 17]))))))) (.seq (.seq (.reg [Zf 18 2 1,Zl 19 false 1 18,Zo 20 (.bin .neq (.t 19) (.k (.str [])))]) (.cond (.t 20) (.reg [Zv 21 3,Zf 22 2 1,Zl 23 false 1 22,Zo 24 (.bsl 1 [.t 23]),Zo 25 (.app 16 1 (.t 21) (.t 24)),Zv 3 25]) .skip)) (.seq (.reg [Zv 26 3,Zc 27 299 [.t 26],Zv 2 27]) .ret)))))⟩
theorem a243_ok:J08 Tryz.prog Tryz.f243=some a243:=by kernel_rfl
def a288:AFn:= ⟨48,[.t 2],(.seq (.reg [Zo 1 (.boxv (.t 0)),Zo 2 (.mv (.k (.nil 1)))]) (.seq (.reg [Zo 6 (.bsl 1 []),Zv 3 6]) (.seq (.seq (.reg [Zo 4 (.mv (.k (.int .i64 0)))]) (.blk 0 (.loop (.seq (.seq (.reg [Zv 7 4,Zf 8 1 1,Zl 9 false 1 8,Zo 10 (.len false (.t 9)),Zo 11 (.bin .lss (.t 7) (.t 10))]) (.cond (.t 11) .skip (.exit 0))) (.seq (.blk 1 (.seq (.reg [Zo 5 (.mv (.k (.int .i64 0)))]) (.blk 2 (.loop (.seq (.seq (.reg [Zv 14 5,Zf 15 1 1,Zl 16 false 1 15,Zv 17 4,Zo 18 (.ixa 2 (.t 16) (.t 17)),Zf 19 1 18,Zl 20 false 1 19,Zo 21 (.len false (.t 20)),Zo 22 (.bin .lss (.t 14) (.t 21))]) (.cond (.t 22) .skip (.exit 2))) (.seq (.blk 3 (.reg [Zv 25 3,Zf 26 1 1,Zl 27 false 1 26,Zv 28 4,Zo 29 (.ixa 2 (.t 27) (.t 28)),Zf 30 1 29,Zl 31 false 1 30,Zv 32 5,Zo 33 (.ixa 2 (.t 31) (.t 32)),Zf 34 1 33,Zl 35 false 1 34,Zo 36 (.bsl 1 [.t 35]),Zo 37 (.app 16 1 (.t 25) (.t 36)),Zv 3 37])) (.reg [Zv 23 5,Zo 24 (.bin .add (.t 23) (.k (.int .i64 1))),Zv 5 24]))))))) (.reg [Zv 12 4,Zo 13 (.bin .add (.t 12) (.k (.int .i64 1))),Zv 4 13])))))) (.seq (.seq (.reg [Zf 38 2 1,Zl 39 false 1 38,Zo 40 (.bin .neq (.t 39) (.k (.str [])))]) (.cond (.t 40) (.reg [Zv 41 3,Zf 42 2 1,Zl 43 false 1 42,Zo 44 (.bsl 1 [.t 43]),Zo 45 (.app 16 1 (.t 41) (.t 44)),Zv 3 45]) .skip)) (.seq (.reg [Zv 46 3,Zc 47 319 [.t 46],Zv 2 47]) .ret)))))⟩
theorem a288_ok:J08 Tryz.prog Tryz.f288=some a288:=by kernel_rfl
def J54 (s:DSum):List Str:=s.Terms.map (·.Name)
def J9i:List DSum→List Str
 | []=>[]
 | s::l=>J54 s++J9i l
def J5q (a:DArg):List Str:=J9i a.Heads++if a.Base=[] then [] else [a.Base]
theorem J9f:∀ l:List DSum,(J9i l).length≤wL J8j l
 | []=>Nat.zero_le _
 | s::l=>by
  have h1:=J9f l
  have h2:=J1h J5o s.Terms
  unfold wL at h1 ⊢
  simp only [J9i,J54,List.length_append,List.length_map,List.length_cons,List.map_cons,List.sum_cons]
  rw [show J8j s=wL J5o s.Terms from rfl]
  omega
theorem Jba (a:DArg) (hw:J7w a≤1048576):(J5q a).length≤1048576:=by
 have h1:=J9f a.Heads
 unfold J7w J4u at hw
 unfold J5q
 rw [List.length_append]
 split
 ·simp;omega
 ·rename_i hb
  have:0<a.Base.length:=List.length_pos_iff.2 hb
  simp;omega
theorem J42 (x:DSum) (hw:x.Terms.length≤1048576):Holds Tryz.prog 239 [.agg (J10 x)] (fun r=>r = .us 1 (J05 (J54 x))):=by
 refine J01 Tryz.func239 a239_ok rfl (by simp [a239]) ?_
 simp [a239,J10]
 intro _
 refine J0h [7,8] 9 x.Terms.length (fun i s h n=>(i=0∧s 3 = .nil 1)∨∃ id,id<n∧s 3 = .ref id 0 i∧h id=some ⟨false,1,(J05 (J54 x)).take i⟩) (by unfold LIM;omega) (by simp) (by simp) ?_ ?_
 ·rintro i s h n R hi hg hk s9 hw9 hJ hR _ _
  simp at hk
  have htk:(J05 (J54 x)).take (i+1)=(J05 (J54 x)).take i++[[.str (x.Terms[i]).Name]]:=by
   rw [List.take_succ_eq_append_getElem (by simpa [J54] using hi)];simp [J05,J54]
  rcases hJ with ⟨rfl,s3⟩|⟨id,hid,s3,eid⟩
  ·simp [hk,s9,hi,hw9,s3,J0l]
   refine ⟨by unfold LIM;omega,?_⟩
   exact hR _ _ _ (by simp [hk]) (by simp;exact J0w (by omega)) (.inr ⟨n+2,by omega,by simp,by simp [htk]⟩)
  ·have n0:¬id=n:=by omega
   have n1:¬id=n+1:=by omega
   have n3:¬n+1=id:=by omega
   have n4:¬n=id:=by omega
   simp [hk,s9,hi,hw9,s3,J0l,eid,n0,n1,n3,n4]
   refine ⟨by simp [J54];omega,by unfold LIM;omega,?_⟩
   exact hR _ _ _ (by simp [hk]) (by simp) (.inr ⟨n+2,by omega,by simp,by simp [htk,List.take_take]⟩)
 ·rintro s h n R hk s9 hJ hret hX
  simp at hk
  simp [hk,s9]
  refine hX _ _ _ _ ?_
  rcases hJ with ⟨h0,s3⟩|⟨id,hid,s3,eid⟩
  ·have:x.Terms=[]:=List.eq_nil_of_length_eq_zero h0
   simp [s3,J54,this,J05]
  ·have hl:(J54 x).length=x.Terms.length:=by simp [J54]
   have ht:List.take x.Terms.length (J05 (J54 x))=J05 (J54 x):=List.take_of_length_le (by simp [hl])
   simp [s3,eid,hl,ht]
set_option maxHeartbeats 1000000 in
theorem J6a (a:DArg) (hw:J7w a≤1048576):Holds Tryz.prog 243 [.agg (J0o a)] (fun r=>r = .us 1 (J05 (J3x (J5q a)))):=by
 have hw':=hw
 unfold J7w J4u at hw'
 have hsl:=J9f a.Heads
 have hll:=J1h J8j a.Heads
 refine J01 Tryz.func243 a243_ok rfl (by simp [a243]) ?_
 simp [a243,J0o]
 intro _
 generalize hT:J9i a.Heads=T at *
 have hTl:T.length≤1048576:=by omega
 refine J0h [1,7,8] 9 a.Heads.length (fun i s h n=>h 0=some ⟨true,3,[[.bool a.Lst,.sl 2 (a.Heads.map J10),.str a.Base]]⟩∧0<n∧∃ acc:List Str,acc++J9i (a.Heads.drop i)=T∧((acc=[]∧s 3 = .nil 1)∨∃ id,0<id∧id<n∧s 3 = .ref id 0 acc.length∧h id=some ⟨false,1,J05 acc⟩))
  (by unfold LIM;omega) (by simp) ⟨by simp,by simp,[],by simpa using hT,.inl ⟨rfl,by simp⟩⟩ ?_ ?_
 ·rintro i s h n R hi hg hk s9 hw9 ⟨e0,hn,acc,hJ,hJ2⟩ hR _ _
  simp at hk
  rw [List.drop_eq_getElem_cons hi] at hJ
  simp only [J9i] at hJ
  have hal:=congrArg List.length hJ
  simp only [List.length_append] at hal
  have hwt:(a.Heads[i]).Terms.length≤1048576:=by
   have:=J3i (w:=J8j) (List.getElem_mem hi)
   rw [show J8j a.Heads[i]=wL J5o (a.Heads[i]).Terms from rfl] at this
   have:=J1h J5o (a.Heads[i]).Terms
   omega
  have z0:¬0=n:=by omega
  have z1:¬0=n+1:=by omega
  have z2:¬0=n+1+1:=by omega
  have z3:¬n=0:=by omega
  rcases hJ2 with ⟨rfl,s3⟩|⟨id,hid0,hid,s3,eid⟩
  ·simp [hk,s9,hi,hw9,s3,J10]
   first|refine J02 (J42 (a.Heads[i]'hi) hwt) (by first|simp [J10];done|rfl) ?_|refine J03 (J42 (a.Heads[i]'hi) hwt) (by first|simp [J10];done|rfl) ?_
   rintro r rfl
   simp [hk,s9,hi,hw9,s3]
   refine ⟨by unfold LIM;omega,?_⟩
   exact hR _ _ _ (by simp [hk]) (by simp) ⟨by simp [e0,z0,z1,z2,z3],by omega,J54 a.Heads[i],by simpa using hJ,.inr ⟨n+2,by omega,by omega,by simp,by simp⟩⟩
  ·have n0:¬id=n:=by omega
   have n1:¬id=n+1:=by omega
   have n2:¬id=n+1+1:=by omega
   have n3:¬n+1=id:=by omega
   have n4:¬n=id:=by omega
   have n5:¬0=id:=by omega
   have n6:¬id=0:=by omega
   simp [hk,s9,hi,hw9,s3,J10,eid,n0]
   first|refine J02 (J42 (a.Heads[i]'hi) hwt) (by first|simp [J10];done|rfl) ?_|refine J03 (J42 (a.Heads[i]'hi) hwt) (by first|simp [J10];done|rfl) ?_
   rintro r rfl
   simp [hk,s9,hi,hw9,s3,eid,n0,n1,n2,n3,n4,n5,n6]
   refine ⟨by unfold LIM;omega,?_⟩
   exact hR _ _ _ (by simp [hk]) (by simp) ⟨by simp [e0,z0,z1,z2,z3,n5],by omega,acc++J54 a.Heads[i],by rw [List.append_assoc];exact hJ,.inr ⟨n+2,by omega,by omega,by simp,by simp [J05]⟩⟩
 ·rintro s h n R hk s9 ⟨e0,hn,acc,hJ,hJ2⟩ hret hX
  simp at hk
  rw [List.drop_eq_nil_of_le (by omega)] at hJ
  simp only [J9i,List.append_nil] at hJ
  subst hJ
  simp [hk,s9]
  refine hX _ _ _ _ ?_
  have hA:J5q a=acc++if a.Base=[] then [] else [a.Base]:=by unfold J5q;rw [hT]
  have hAl:(J5q a).length≤1048576:=Jba a hw
  rw [hA] at hAl ⊢
  clear hX hret
  by_cases hb:a.Base=[]
  ·simp only [hb,if_true,List.append_nil] at hAl ⊢
   rcases hJ2 with ⟨rfl,s3⟩|⟨id,hid0,hid,s3,eid⟩
   ·simp [hk,e0,hb,s3]
    first|refine J02 (J3h [] hAl) (by first|simp [J05];done|rfl) ?_|refine J03 (J3h [] hAl) (by first|simp [J05];done|rfl) ?_
    rintro r rfl
    simp
   ·simp [hk,e0,hb,s3]
    first|refine J02 (J3h acc hAl) (by first|simp [eid];done|rfl) ?_|refine J03 (J3h acc hAl) (by first|simp [eid];done|rfl) ?_
    rintro r rfl
    simp
  ·simp only [hb,if_false] at hAl ⊢
   have hlim:(acc.length+1)*16≤LIM:=by simp at hAl;unfold LIM;omega
   rcases hJ2 with ⟨rfl,s3⟩|⟨id,hid0,hid,s3,eid⟩
   ·have z0:¬0=n:=by omega
    simp [hk,e0,hb,s3]
    refine ⟨by unfold LIM;omega,?_⟩
    first|refine J02 (J3h ([]++[a.Base]) hAl) (by first|simp [J05];done|rfl) ?_|refine J03 (J3h ([]++[a.Base]) hAl) (by first|simp [J05];done|rfl) ?_
    rintro r rfl
    simp
   ·have n0:¬id=n:=by omega
    have n3:¬n=id:=by omega
    simp [hk,e0,hb,s3,eid,n0,n3]
    refine ⟨hlim,?_⟩
    have ht:List.take (acc.length+1) (J05 acc++[[AV.str a.Base]])=J05 (acc++[a.Base]):=by rw [List.take_of_length_le (by simp)];simp [J05]
    first|refine J02 (J3h (acc++[a.Base]) hAl) (by first|simp [ht];done|rfl) ?_|refine J03 (J3h (acc++[a.Base]) hAl) (by first|simp [ht];done|rfl) ?_
    rintro r rfl
    simp
set_option maxHeartbeats 1000000 in
theorem Jdb (a:DArg) (hw:J7w a≤1048576):Holds Tryz.prog 288 [.agg (J0o a)] (fun r=>r = .us 1 (J05 (J3x (J5q a)))):=by
 have hw':=hw
 unfold J7w J4u at hw'
 have hsl:=J9f a.Heads
 have hll:=J1h J8j a.Heads
 refine J01 Tryz.func288 a288_ok rfl (by simp [a288]) ?_
 simp [a288,J0o]
 generalize hT:J9i a.Heads=T at *
 have hTl:T.length≤1048576:=by omega
 refine J0h [1] 4 a.Heads.length (fun i s h n=>h 0=some ⟨true,3,[[.bool a.Lst,.sl 2 (a.Heads.map J10),.str a.Base]]⟩∧0<n∧∃ (acc:List Str) (id:Nat),acc++J9i (a.Heads.drop i)=T∧0<id∧id<n∧s 3 = .ref id 0 acc.length∧h id=some ⟨false,1,J05 acc⟩)
  (by unfold LIM;omega) (by simp) ⟨by simp,by simp,[],1,by simpa using hT,by omega,by omega,by simp,by simp [J05]⟩ ?_ ?_
 ·rintro i s h n R hi hg hk s4 hw4 ⟨e0,hn,acc,id,hJ,hid0,hid,s3,eid⟩ hR _ _
  simp at hk
  rw [List.drop_eq_getElem_cons hi] at hJ
  simp only [J9i] at hJ
  have hwt:(a.Heads[i]).Terms.length≤1048576:=by
   have:=J3i (w:=J8j) (List.getElem_mem hi)
   rw [show J8j a.Heads[i]=wL J5o (a.Heads[i]).Terms from rfl] at this
   have:=J1h J5o (a.Heads[i]).Terms
   omega
  simp [hk,s4,hi,hg,e0]
  intro _
  refine J0h [1,4] 5 (a.Heads[i]).Terms.length (fun j s h n=>h 0=some ⟨true,3,[[.bool a.Lst,.sl 2 (a.Heads.map J10),.str a.Base]]⟩∧0<n∧∃ (acc:List Str) (id:Nat),acc++((J54 a.Heads[i]).drop j++J9i (a.Heads.drop (i+1)))=T∧0<id∧id<n∧s 3 = .ref id 0 acc.length∧h id=some ⟨false,1,J05 acc⟩)
   (by unfold LIM;omega) (by simp) ⟨by simp [e0],hn,acc,id,by simpa using hJ,hid0,hid,by simp [s3],by simp [eid]⟩ ?_ ?_
  ·rintro j s2 h2 n2 R2 hj hgj hk2 s5 hw5 ⟨e02,hn2,acc2,id2,hJ2,hid02,hid2,s32,eid2⟩ hR2 _ _
   simp at hk2
   rw [List.drop_eq_getElem_cons (by simpa [J54] using hj)] at hJ2
   have hal:=congrArg List.length hJ2
   simp at hal
   have n0:¬id2=n2:=by omega
   have n1:¬id2=n2+1:=by omega
   have n3:¬n2+1=id2:=by omega
   have n4:¬n2=id2:=by omega
   have n5:¬0=id2:=by omega
   have n6:¬id2=0:=by omega
   have z0:¬0=n2:=by omega
   have z1:¬0=n2+1:=by omega
   have z3:¬n2=0:=by omega
   simp [hk2,hk,s4,s5,hj,hgj,hw5,hi,e02,J10,J0l,s32,eid2,n0,n1,n3,n4,n5,n6,z0,z1,z3]
   intro _
   refine ⟨by unfold LIM;omega,?_⟩
   refine hR2 _ _ _ (by simp [hk2,hk,s4]) (by simp) ⟨by simp [e02,n5,z0,z1,z3],by omega,acc2++[(a.Heads[i]).Terms[j].Name],n2+1,?_,by omega,by omega,by simp,by simp [J05]⟩
   rw [←hJ2]
   simp [J54]
  ·rintro s2 h2 n2 R2 hk2 s5 ⟨e02,hn2,acc2,id2,hJ2,hid02,hid2,s32,eid2⟩ hret2 hX2
   simp at hk2
   rw [List.drop_eq_nil_of_le (by simp [J54]),List.nil_append] at hJ2
   simp [hk2,hk,s4,s5,hi,e02,J10]
   intro _
   refine hX2 _ _ _ _ ?_
   simp [hk2,hk,s4,hw4]
   exact hR _ _ _ (by simp [hk2,hk]) (by simp) ⟨e02,hn2,acc2,id2,hJ2,hid02,hid2,by simp [s32],eid2⟩
 ·rintro s h n R hk s4 ⟨e0,hn,acc,id,hJ,hid0,hid,s3,eid⟩ hret hX
  simp at hk
  rw [List.drop_eq_nil_of_le (by omega)] at hJ
  simp only [J9i,List.append_nil] at hJ
  subst hJ
  simp [hk,s4,e0]
  intro _
  refine hX _ _ _ _ ?_
  have hA:J5q a=acc++if a.Base=[] then [] else [a.Base]:=by unfold J5q;rw [hT]
  have hAl:(J5q a).length≤1048576:=Jba a hw
  rw [hA] at hAl ⊢
  clear hX hret
  by_cases hb:a.Base=[]
  ·simp only [hb,if_true,List.append_nil] at hAl ⊢
   simp [hk,e0,hb,s3]
   first|refine J02 (J5t acc hAl) (by first|simp [eid];done|rfl) ?_|refine J03 (J5t acc hAl) (by first|simp [eid];done|rfl) ?_
   rintro r rfl
   simp
  ·simp only [hb,if_false] at hAl ⊢
   have hlim:(acc.length+1)*16≤LIM:=by simp at hAl;unfold LIM;omega
   have n0:¬id=n:=by omega
   have n3:¬n=id:=by omega
   simp [hk,e0,hb,s3,eid,n0,n3]
   refine ⟨hlim,?_⟩
   have ht:List.take (acc.length+1) (J05 acc++[[AV.str a.Base]])=J05 (acc++[a.Base]):=by rw [List.take_of_length_le (by simp)];simp [J05]
   first|refine J02 (J5t (acc++[a.Base]) hAl) (by first|simp [ht];done|rfl) ?_|refine J03 (J5t (acc++[a.Base]) hAl) (by first|simp [ht];done|rfl) ?_
   rintro r rfl
   simp
theorem Juk {s:Env}{k:Nat}{v:AV} : J4g s (some k) v k=v:=by simp
theorem Ju6 {s:Env}{k j:Nat}{v:AV}(hj:¬j=k):J4g s (some k) v j=s j:=by simp [hj]
theorem Jxj {α:Type}{f:Nat→α}{k:Nat}{v:α} : upd f k v k=v:=by simp
theorem Jud {α:Type}{f:Nat→α}{k j:Nat}{v:α}(hj:¬j=k):upd f k v j=f j:=by simp [hj]
attribute [simp ↓ high] Juk Ju6 Jxj Jud
def Js7 (raw:Bool) (o:Option AV):Option AV:=if raw then o else o.map dr
@[simp ↓ high] theorem K0y (o:Option AV):Js7 true o=o:=by unfold Js7;rw [if_pos (by simp)]
@[simp ↓ high] theorem K07 (o:Option AV):Js7 false o=o.map dr:=by unfold Js7;rw [if_neg (by simp)]
def Js9 (raw b:Bool) (l:List AV):Option AV:=if b then some (.agg (if raw then l else drl l)) else Option.none
@[simp ↓ high] theorem K0v (l:List AV):Js9 true true l=some (.agg l):=by unfold Js9;rw [if_pos (by simp),if_pos (by simp)]
@[simp ↓ high] theorem K13 (l:List AV):Js9 false true l=some (.agg (drl l)):=by unfold Js9;rw [if_pos (by simp),if_neg (by simp)]
@[simp ↓ high] theorem ldv_1 (raw:Bool) (row:List AV) (c:Nat):ldv raw false row c 1=Js7 raw (row[c]?):=by
 unfold ldv Js7
 by_cases h:c<row.length
 ·rw [if_pos (by omega),if_neg (by simp),if_pos rfl,List.getElem?_eq_getElem h];cases raw <;> simp
 ·rw [if_neg (by omega),List.getElem?_eq_none (by omega)];cases raw <;> rfl
@[simp ↓ high] theorem ldv_G (raw:Bool) (row:List AV) (c sz:Nat):ldv raw true row c sz=Js9 raw (decide (c+sz≤row.length)) ((row.drop c).take sz):=by
 unfold ldv Js9
 by_cases h:c+sz≤row.length
 ·simp [h]
 ·simp [h]
def Jwo (P:Program) (ks:List Kt) (Q:Fin) (keep:List Nat) (J:Env→Prop) (s0:Env) (h0:Heap) (n0:Nat):Fin:=fun e s h n=>match e with
 | .normal=>(∀ j∈keep,s j=s0 j)∧J s∧h=h0∧n=n0
 | e=>J40 P ks e s h n Q
section
variable {P:Program}{a b:AC}{ks:List Kt}{s:Env}{h:Heap}{n:Nat}{Q:Fin}
@[simp ↓] theorem Jpx {keep:List Nat}{J:Env→Prop}{s0 s':Env}{h0 h':Heap}{n0 n':Nat} : Jwo P ks Q keep J s0 h0 n0 .normal s' h' n'=((∀ j∈keep,s' j=s0 j)∧J s'∧h'=h0∧n'=n0):=propext Iff.rfl
@[simp ↓] theorem Jw3 {keep:List Nat}{J:Env→Prop}{s0 s':Env}{h0 h':Heap}{n0 n':Nat} : Jwo P ks Q keep J s0 h0 n0 .ret s' h' n'=J40 P ks .ret s' h' n' Q:=propext Iff.rfl
@[simp ↓] theorem Jt8 {keep:List Nat}{J:Env→Prop}{s0 s':Env}{h0 h':Heap}{n0 n' i:Nat} : Jwo P ks Q keep J s0 h0 n0 (.exit i) s' h' n'=J40 P ks (.exit i) s' h' n' Q:=propext Iff.rfl
theorem J0e (keep:List Nat) (J:Env→Prop) (h1:rC P a [] s h n (Jwo P (.seq b::ks) Q keep J s h n)) (h2:∀ s',(∀ j∈keep,s' j=s j)→J s'→rC P b ks s' h n Q):rC P (.seq a b) ks s h n Q:=by
 rw [Jfn]
 unfold rC at h1 ⊢
 refine Jau h1 ?_
 intro e s' h' n' hq
 cases e
 ·obtain ⟨g1,g2,rfl,rfl⟩:=hq
  exact h2 s' g1 g2
 ·exact hq
 ·exact hq
def Jwi (P:Program) (ks:List Kt) (Q:Fin) (keep:List Nat) (J:Env→Heap→Nat→Prop) (s0:Env):Fin:=fun e s h n=>match e with
 | .normal=>(∀ j∈keep,s j=s0 j)∧J s h n
 | e=>J40 P ks e s h n Q
@[simp ↓] theorem Jp6 {keep:List Nat}{J:Env→Heap→Nat→Prop}{s0 s':Env}{h':Heap}{n':Nat} : Jwi P ks Q keep J s0 .normal s' h' n'=((∀ j∈keep,s' j=s0 j)∧J s' h' n'):=propext Iff.rfl
@[simp ↓] theorem Juw {keep:List Nat}{J:Env→Heap→Nat→Prop}{s0 s':Env}{h':Heap}{n':Nat} : Jwi P ks Q keep J s0 .ret s' h' n'=J40 P ks .ret s' h' n' Q:=propext Iff.rfl
@[simp ↓] theorem Juo {keep:List Nat}{J:Env→Heap→Nat→Prop}{s0 s':Env}{h':Heap}{n' i:Nat} : Jwi P ks Q keep J s0 (.exit i) s' h' n'=J40 P ks (.exit i) s' h' n' Q:=propext Iff.rfl
theorem J1q (keep:List Nat) (J:Env→Heap→Nat→Prop) (h1:rC P a [] s h n (Jwi P (.seq b::ks) Q keep J s)) (h2:∀ s' h' n',(∀ j∈keep,s' j=s j)→J s' h' n'→rC P b ks s' h' n' Q):rC P (.seq a b) ks s h n Q:=by
 rw [Jfn]
 unfold rC at h1 ⊢
 refine Jau h1 ?_
 intro e s' h' n' hq
 cases e
 ·exact h2 s' h' n' hq.1 hq.2
 ·exact hq
 ·exact hq
theorem J4m {c:Nat}{e:AC}(hc:s c = .bool true) (h1:rC P b ks s h n Q):rC P (.seq (.cond (.t c) .skip e) b) ks s h n Q:=by
 rw [Jfn,J8b]
 have:ev s (.t c) = .bool true:=hc
 rw [this]
 simpa using h1
theorem J4k {c id:Nat}(hc:s c = .bool false) (h1:J40 P ks (.exit id) s h n Q):rC P (.seq (.cond (.t c) .skip (.exit id)) b) ks s h n Q:=by
 rw [Jfn,J8b]
 have:ev s (.t c) = .bool false:=hc
 rw [this]
 simpa using h1
theorem J2i {c:Nat}{e:AC}{ks:List Kt}(hc:s c = .bool true) (h1:J40 P ks .normal s h n Q):rC P (.cond (.t c) .skip e) ks s h n Q:=by
 rw [J8b]
 have:ev s (.t c) = .bool true:=hc
 rw [this]
 simpa using h1
theorem J2g {c id:Nat}{ks:List Kt}(hc:s c = .bool false) (h1:J40 P ks (.exit id) s h n Q):rC P (.cond (.t c) .skip (.exit id)) ks s h n Q:=by
 rw [J8b]
 have:ev s (.t c) = .bool false:=hc
 rw [this]
 simpa using h1
theorem J1d {id:Nat}(h1:rC P a (.blk id::ks) s h n Q):rC P (.blk id a) ks s h n Q:=by rw [Jsv];exact h1
theorem J0c (h1:rC P a (.seq b::ks) s h n Q):rC P (.seq a b) ks s h n Q:=by rw [Jfn];exact h1
end
def Je8 (c:UInt8):Bool:=decide ((97:Int)≤c.toNat)&&decide ((c.toNat:Int)≤122)
def Jhm (c:UInt8):Bool:=decide ((48:Int)≤c.toNat)&&decide ((c.toNat:Int)≤57)
def J2y:Nat→Str→Bool
 | _,[]=>true
 | i,c::l=>(Je8 c||(decide (i≠0)&&Jhm c))&&J2y (i+1) l
def J1a (l:List Str) (s:Str):Bool:=l.any fun x=>x==s
def Jbo:List Str:=[[102,117,110],[112,114,101],[114,117,108,101],[114,101,116,117,114,110],[110,105,108]]
def Jj0 (s:Str):Bool:=J1a Jbo s
def J2h (s:Str):Bool:=inR s.length 1 8 && !Jj0 s&&J2y 0 s
def J0f (s:Str):Bool:=J2h s&&s.getD (s.length - 1) 0==115
def J1i (s:Str):Bool:=J2h s && !J0f s
def Jj2 (n:Int):Bool:=inR n (-1000000) 1000000
theorem Jd3 {s:Str}(h:J2h s=true):1≤s.length∧s.length≤8:=by
 unfold J2h inR at h;simp at h;omega
def J52:Option Str→List DTerm→Bool
 | _,[]=>true
 | pr,t::l=>(!(t.Coeff==0)&&Jj2 t.Coeff&&J1i t.Name&&(match pr with|Option.none=>true|some q=>Op.bytesLess q t.Name))&&J52 (some t.Name) l
def J8h (s:DSum):Bool:=Jj2 s.Const&&decide (s.Terms.length≤4)&&J52 Option.none s.Terms
def Jcc (a:DArg):Bool:=a.Heads.all J8h&&(if a.Lst then decide (a.Heads.length≤3)&&(a.Base==[]||J0f a.Base) else decide (a.Heads.length=1)&&a.Base==[])
def Jjz (l:List Str) (scope:List Str):Bool:=l.all (J1a scope)
def J6o (a:DArg) (list:Bool) (scope:List Str):Bool:=Jcc a&&(a.Lst==list)&&Jjz (J3x (J5q a)) scope
def J41 (scope:List Str) (g:DSum):Bool:=J8h g&&Jjz (J54 g) scope
def J36 (met:List Str):List Str→Bool
 | []=>true
 | s::l => !J1a met s&&J36 (met++[s]) l
def J6u (l:List Str):Bool:=J36 [] l
def Jor (params:List Str) (q:DPattern):Bool:=J1a params q.Lst&&J0f q.Lst&&(if q.Cons then J1i q.Head&&J0f q.Tail else q.Head==[]&&q.Tail==[])
def J34 (params:List Str) (met:List Str):List DPattern→Bool
 | []=>true
 | q::l=>(Jor params q && !J1a met q.Lst)&&J34 params (met++[q.Lst]) l
def J71 (scope:List Str):List DArg→List Str→Bool
 | a::l,s::m=>J6o a (J0f s) scope&&J71 scope l m
 | _,_=>true
def Jal (p:DProgram) (c:DCall) (scope:List Str):Bool:=
 (J24 p.Functions c.Func).isSome&&decide (c.Args.length=((J24 p.Functions c.Func).getD fn0).Params.length)&&(if ((J24 p.Functions c.Func).getD fn0).ListResult then J0f c.Bind else J1i c.Bind) &&
  J71 scope c.Args ((J24 p.Functions c.Func).getD fn0).Params
def J2x (p:DProgram) (r:DRule):Nat→List DCall→Bool
 | _,[]=>true
 | k,c::l=>Jal p c (J0z p r k)&&J2x p r (k+1) l
def J68 (p:DProgram) (r:DRule):Bool:=
 (J24 p.Functions r.Func).isSome&&J34 ((J24 p.Functions r.Func).getD fn0).Params [] r.Patterns&&decide (r.Guards.length≤2)&&r.Guards.all (J41 (J0z p r 0))&&decide (r.Calls.length≤2) &&
  J2x p r 0 r.Calls&&J6o r.Result ((J24 p.Functions r.Func).getD fn0).ListResult (J0z p r r.Calls.length)&&J6u (J0z p r r.Calls.length)
def Jh9 (f:DFunction):Bool:=J1i f.Name&&decide (f.Params.length≤2)&&(f.Params.all J2h&&J6u f.Params)&&decide (f.Pre.length≤2)&&f.Pre.all fun l=>J6i l f.Params.length
def J6r (met:List Str):List DFunction→Bool
 | []=>true
 | f::l=>(Jh9 f && !J1a met f.Name)&&J6r (met++[f.Name]) l
def J3q (p:DProgram):Bool:=inR p.Functions.length 1 3&&J6r [] p.Functions&&decide (p.Rules.length≤8)&&p.Rules.all (J68 p)
theorem J9s:∀ (l:List DFunction) (met:List Str),J6r met l=(l.all Jh9&&J36 met (l.map (·.Name)))
 | [],met=>rfl
 | f::l,met=>by
  simp only [J6r,J9s l,List.all_cons,List.map_cons,J36]
  cases Jh9 f <;> cases J1a met f.Name <;> simp
theorem Jqf {α:Type}{p:α→Bool}{l m:List α}(h:∀ x,x∈l↔x∈m):l.all p=m.all p:=by
 rw [Bool.eq_iff_iff,List.all_eq_true,List.all_eq_true]
 exact ⟨fun g x hx=>g x ((h x).2 hx),fun g x hx=>g x ((h x).1 hx)⟩
theorem Jg5 (l scope:List Str):Jjz (J3x l) scope=Jjz l scope:=Jqf (J8c l).2
theorem Jh0 (s:DSum):J5q ⟨false,[s],[]⟩=J54 s:=by simp [J5q,J9i]
theorem Jgf (s:DSum):Jcc ⟨false,[s],[]⟩=J8h s:=by simp [Jcc]
def J29 (l scope:List Str):List Str:=l.filter fun s => !J1a scope s
theorem Jad (l scope:List Str):decide ((J29 l scope).length=0)=Jjz l scope:=by
 unfold J29 Jjz
 induction l with
 | nil=>rfl
 | cons x l ih=>
  simp only [List.filter_cons,List.all_cons]
  cases hx:J1a scope x
  ·simp
  ·simp only [Bool.not_true,Bool.false_eq_true,if_false,Bool.true_and];exact ih
theorem Jji {l:List DFunction}{i:Nat}(hi:i<l.length):decide (J0p (fun f=>f.Name==(l[i]).Name) l 0=(i:Int)) = !J1a ((l.take i).map (·.Name)) (l[i]).Name:=by
 have key:∀ (l:List DFunction) (i k:Nat) (hi:i<l.length) (nm:Str),(l[i]).Name=nm→(J0p (fun f=>f.Name==nm) l k=((k+i:Nat):Int)↔J1a ((l.take i).map (·.Name)) nm=false):=by
  intro l
  induction l with
  | nil=>intro i k hi;simp at hi
  | cons f l ih=>
   intro i k hi nm hnm
   cases i with
   | zero=>
    simp only [List.getElem_cons_zero] at hnm
    simp [J0p,hnm,J1a]
   | succ i=>
    simp only [List.getElem_cons_succ] at hnm
    simp only [J0p,List.take_succ_cons,List.map_cons,J1a,List.any_cons]
    by_cases hf:f.Name==nm
    ·simp [hf];omega
    ·have:=ih i (k+1) (by simpa using hi) nm hnm
     simp only [J1a] at this
     simp only [hf,Bool.false_eq_true,if_false,Bool.false_or]
     rw [←this]
     constructor <;> intro h <;> rw [h] <;> congr 1 <;> omega
 have:=key l i 0 hi _ rfl
 rw [Nat.zero_add] at this
 cases hb:J1a ((l.take i).map (·.Name)) (l[i]).Name
 ·simp [this.2 hb]
 ·simp only [Bool.not_true,decide_eq_false_iff_not]
  intro h
  rw [this.1 h] at hb;cases hb
def a230:AFn:= ⟨10,[.t 2],(.seq (.reg [Zo 2 (.mv (.k (.bool false)))]) (.seq (.seq (.reg [Zv 3 0]) (.blk 0 (.seq (.seq (.reg [Zo 5 (.bin .eql (.t 3) (.k (.str [102,117,110]))),Zv 4 5]) (.cond (.t 4) .skip (.seq (.reg [Zo 6 (.bin .eql (.t 3) (.k (.str [112,114,101]))),Zv 4 6]) (.cond (.t 4) .skip (.seq (.reg [Zo 7 (.bin .eql (.t 3) (.k (.str [114,117,108,101]))),Zv 4 7]) (.cond (.t 4) .skip (.seq (.reg [Zo 8 (.bin .eql (.t 3) (.k (.str [114,101,116,117,114,110]))),Zv 4 8]) (.cond (.t 4) .skip (.reg [Zo 9 (.bin .eql (.t 3) (.k (.str [110,105,108]))),Zv 4 9]))))))))) (.cond (.t 4) (.seq (.reg [Zo 2 (.mv (.k (.bool true)))]) .ret) .skip)))) (.seq (.reg [Zo 2 (.mv (.k (.bool false)))]) .ret)))⟩
theorem a230_ok:J08 Tryz.prog Tryz.f230=some a230:=by kernel_rfl
def a224:AFn:= ⟨18,[.t 4],(.seq (.reg [Zo 4 (.mv (.k (.bool false)))]) (.seq (.seq (.reg [Zo 5 (.mv (.k (.int .i64 0)))]) (.blk 0 (.loop (.seq (.seq (.reg [Zv 6 5,Zv 7 0,Zo 8 (.len false (.t 7)),Zo 9 (.bin .lss (.t 6) (.t 8))]) (.cond (.t 9) .skip (.exit 0))) (.seq (.blk 1 (.seq (.reg [Zv 12 0,Zv 13 5,Zo 14 (.ixa 1 (.t 12) (.t 13)),Zl 15 false 1 14,Zv 16 1,Zo 17 (.bin .eql (.t 15) (.t 16))]) (.cond (.t 17) (.seq (.reg [Zo 4 (.mv (.k (.bool true)))]) .ret) .skip))) (.reg [Zv 10 5,Zo 11 (.bin .add (.t 10) (.k (.int .i64 1))),Zv 5 11])))))) (.seq (.reg [Zo 4 (.mv (.k (.bool false)))]) .ret)))⟩
theorem a224_ok:J08 Tryz.prog Tryz.f224=some a224:=by kernel_rfl
def a153:AFn:= ⟨19,[.t 4],(.seq (.reg [Zo 4 (.mv (.k (.int .i64 0)))]) (.seq (.seq (.reg [Zv 6 0,Zo 7 (.len false (.t 6)),Zo 8 (.mv (.k (.int .i64 0)))]) (.blk 0 (.loop (.seq (.reg [Zo 9 (.bin .lss (.t 8) (.t 7))]) (.seq (.cond (.t 9) .skip (.exit 0)) (.seq (.blk 1 (.seq (.reg [Zv 10 8,Zv 5 10]) (.seq (.reg [Zv 11 1,Zv 12 0,Zv 13 5,Zo 14 (.ixa 1 (.t 12) (.t 13)),Zl 15 false 1 14,Zo 16 (.bin .eql (.t 11) (.t 15))]) (.cond (.t 16) (.seq (.reg [Zv 17 5,Zv 4 17]) .ret) .skip)))) (.reg [Zo 18 (.bin .add (.t 8) (.k (.int .i64 1))),Zv 8 18]))))))) (.seq (.reg [Zo 4 (.mv (.k (.int .i64 (-1))))]) .ret)))⟩
theorem a153_ok:J08 Tryz.prog Tryz.f153=some a153:=by kernel_rfl
def a72:AFn:= ⟨9,[.t 4],(.seq (.reg [Zo 4 (.mv (.k (.bool false)))]) (.seq (.reg [Zv 5 0,Zv 6 1,Zc 7 153 [.t 5,.t 6],Zo 8 (.bin .geq (.t 7) (.k (.int .i64 0))),Zv 4 8]) .ret))⟩
theorem a72_ok:J08 Tryz.prog Tryz.f72=some a72:=by kernel_rfl
def a63:AFn:= ⟨19,[.t 4],(.seq (.reg [Zo 4 (.mv (.k (.int .i64 0)))]) (.seq (.seq (.reg [Zo 5 (.mv (.k (.int .i64 0)))]) (.blk 0 (.loop (.seq (.seq (.reg [Zv 6 5,Zv 7 0,Zo 8 (.len false (.t 7)),Zo 9 (.bin .lss (.t 6) (.t 8))]) (.cond (.t 9) .skip (.exit 0))) (.seq (.blk 1 (.seq (.reg [Zv 12 0,Zv 13 5,Zo 14 (.ixa 1 (.t 12) (.t 13)),Zl 15 false 1 14,Zv 16 1,Zo 17 (.bin .eql (.t 15) (.t 16))]) (.cond (.t 17) (.seq (.reg [Zv 18 5,Zv 4 18]) .ret) .skip))) (.reg [Zv 10 5,Zo 11 (.bin .add (.t 10) (.k (.int .i64 1))),Zv 5 11])))))) (.seq (.reg [Zo 4 (.mv (.k (.int .i64 (-1))))]) .ret)))⟩
theorem a63_ok:J08 Tryz.prog Tryz.f63=some a63:=by kernel_rfl
def a333:AFn:= ⟨2,[.t 0],(.seq (.reg [Zo 0 (.mv (.k (.nil 1)))]) (.seq (.reg [Zo 1 (.bsl 1 [(.k (.str [102,117,110])),(.k (.str [112,114,101])),(.k (.str [114,117,108,101])),(.k (.str [114,101,116,117,114,110])),(.k (.str [110,105,108]))]),Zv 0 1]) .ret))⟩
theorem a333_ok:J08 Tryz.prog Tryz.f333=some a333:=by kernel_rfl
def a317:AFn:= ⟨6,[.t 2],(.seq (.reg [Zo 2 (.mv (.k (.bool false)))]) (.seq (.reg [Zc 3 333 [],Zv 4 0,Zc 5 224 [.t 3,.t 4],Zv 2 5]) .ret))⟩
theorem a317_ok:J08 Tryz.prog Tryz.f317=some a317:=by kernel_rfl
def a143:AFn:= ⟨50,[.t 2],(.seq (.reg [Zo 2 (.mv (.k (.bool false)))]) (.seq (.seq (.reg [Zv 6 0,Zo 7 (.len true (.t 6)),Zc 8 102 [.t 7,(.k (.int .i64 1)),(.k (.int .i64 8))],Zo 9 (.un .not (.t 8)),Zv 10 9,⟨some 11,.mv (.t 0),(some (10,false))⟩,⟨some 12,.call (.k (.fn (.func 230) [] [])) [.t 11],(some (10,false))⟩,Zo 13 (.pick (.t 10) (.k (.bool true)) (.t 12))]) (.cond (.t 13) (.seq (.reg [Zo 2 (.mv (.k (.bool false)))]) .ret) .skip)) (.seq (.seq (.reg [Zo 3 (.mv (.k (.int .i64 0)))]) (.blk 0 (.loop (.seq (.seq (.reg [Zv 14 3,Zv 15 0,Zo 16 (.len true (.t 15)),Zo 17 (.bin .lss (.t 14) (.t 16))]) (.cond (.t 17) .skip (.exit 0))) (.seq (.blk 1 (.seq (.reg [Zv 20 0,Zv 21 3,Zo 22 (.ixs (.t 20) (.t 21)),Zo 23 (.bin .geq (.t 22) (.k (.int .u8 97))),Zv 24 23,⟨some 25,.mv (.t 0),(some (24,true))⟩,⟨some 26,.mv (.t 3),(some (24,true))⟩,⟨some 27,.ixs (.t 25) (.t 26),(some (24,true))⟩,⟨some 28,.bin .leq (.t 27) (.k (.int .u8 122)),(some (24,true))⟩,Zo 29 (.pick (.t 24) (.t 28) (.k (.bool false))),Zv 4 29]) (.seq (.reg [Zv 30 0,Zv 31 3,Zo 32 (.ixs (.t 30) (.t 31)),Zo 33 (.bin .geq (.t 32) (.k (.int .u8 48))),Zv 34 33,⟨some 35,.mv (.t 0),(some (34,true))⟩,⟨some 36,.mv (.t 3),(some (34,true))⟩,⟨some 37,.ixs (.t 35) (.t 36),(some (34,true))⟩,⟨some 38,.bin .leq (.t 37) (.k (.int .u8 57)),(some (34,true))⟩,Zo 39 (.pick (.t 34) (.t 38) (.k (.bool false))),Zv 5 39]) (.seq (.reg [Zv 40 4,Zo 41 (.un .not (.t 40)),Zv 42 41,⟨some 43,.mv (.t 5),(some (42,true))⟩,⟨some 44,.mv (.t 43),(some (42,true))⟩,⟨some 45,.mv (.t 3),(some (44,true))⟩,⟨some 46,.bin .gtr (.t 45) (.k (.int .i64 0)),(some (44,true))⟩,⟨some 47,.pick (.t 44) (.t 46) (.k (.bool false)),(some (42,true))⟩,⟨some 48,.un .not (.t 47),(some (42,true))⟩,Zo 49 (.pick (.t 42) (.t 48) (.k (.bool false)))]) (.cond (.t 49) (.seq (.reg [Zo 2 (.mv (.k (.bool false)))]) .ret) .skip))))) (.reg [Zv 18 3,Zo 19 (.bin .add (.t 18) (.k (.int .i64 1))),Zv 3 19])))))) (.seq (.reg [Zo 2 (.mv (.k (.bool true)))]) .ret))))⟩
theorem a143_ok:J08 Tryz.prog Tryz.f143=some a143:=by kernel_rfl
def a316:AFn:= ⟨45,[.t 2],(.seq (.reg [Zo 2 (.mv (.k (.bool false)))]) (.seq (.seq (.reg [Zo 3 (.mv (.k (.int .i64 0)))]) (.blk 0 (.loop (.seq (.seq (.reg [Zv 6 3,Zv 7 0,Zo 8 (.len true (.t 7)),Zo 9 (.bin .lss (.t 6) (.t 8))]) (.cond (.t 9) .skip (.exit 0))) (.seq (.blk 1 (.seq (.reg [Zv 12 0,Zv 13 3,Zo 14 (.ixs (.t 12) (.t 13)),Zo 15 (.bin .geq (.t 14) (.k (.int .u8 97))),Zv 16 15,⟨some 17,.mv (.t 0),(some (16,true))⟩,⟨some 18,.mv (.t 3),(some (16,true))⟩,⟨some 19,.ixs (.t 17) (.t 18),(some (16,true))⟩,⟨some 20,.bin .leq (.t 19) (.k (.int .u8 122)),(some (16,true))⟩,Zo 21 (.pick (.t 16) (.t 20) (.k (.bool false))),Zv 4 21]) (.seq (.reg [Zv 22 0,Zv 23 3,Zo 24 (.ixs (.t 22) (.t 23)),Zo 25 (.bin .geq (.t 24) (.k (.int .u8 48))),Zv 26 25,⟨some 27,.mv (.t 0),(some (26,true))⟩,⟨some 28,.mv (.t 3),(some (26,true))⟩,⟨some 29,.ixs (.t 27) (.t 28),(some (26,true))⟩,⟨some 30,.bin .leq (.t 29) (.k (.int .u8 57)),(some (26,true))⟩,Zo 31 (.pick (.t 26) (.t 30) (.k (.bool false))),Zv 5 31]) (.seq (.reg [Zv 32 4,Zo 33 (.un .not (.t 32)),Zv 34 33,⟨some 35,.mv (.t 3),(some (34,true))⟩,⟨some 36,.bin .eql (.t 35) (.k (.int .i64 0)),(some (34,true))⟩,⟨some 37,.mv (.t 36),(some (34,true))⟩,⟨some 38,.mv (.t 5),(some (37,false))⟩,⟨some 39,.un .not (.t 38),(some (37,false))⟩,⟨some 40,.pick (.t 37) (.k (.bool true)) (.t 39),(some (34,true))⟩,Zo 41 (.pick (.t 34) (.t 40) (.k (.bool false)))]) (.cond (.t 41) (.seq (.reg [Zo 2 (.mv (.k (.bool false)))]) .ret) .skip))))) (.reg [Zv 10 3,Zo 11 (.bin .add (.t 10) (.k (.int .i64 1))),Zv 3 11])))))) (.seq (.reg [Zv 42 0,Zo 43 (.len true (.t 42)),Zo 44 (.bin .gtr (.t 43) (.k (.int .i64 0))),Zv 2 44]) .ret)))⟩
theorem a316_ok:J08 Tryz.prog Tryz.f316=some a316:=by kernel_rfl
def a285:AFn:= ⟨15,[.t 2],(.seq (.reg [Zo 2 (.mv (.k (.bool false)))]) (.seq (.reg [Zv 3 0,Zc 4 316 [.t 3],Zv 5 4,⟨some 6,.mv (.t 0),(some (5,true))⟩,⟨some 7,.len true (.t 6),(some (5,true))⟩,⟨some 8,.bin .leq (.t 7) (.k (.int .i64 8)),(some (5,true))⟩,Zo 9 (.pick (.t 5) (.t 8) (.k (.bool false))),Zv 10 9,⟨some 11,.mv (.t 0),(some (10,true))⟩,⟨some 12,.call (.k (.fn (.func 317) [] [])) [.t 11],(some (10,true))⟩,⟨some 13,.un .not (.t 12),(some (10,true))⟩,Zo 14 (.pick (.t 10) (.t 13) (.k (.bool false))),Zv 2 14]) .ret))⟩
theorem a285_ok:J08 Tryz.prog Tryz.f285=some a285:=by kernel_rfl
def a205:AFn:= ⟨13,[.t 2],(.seq (.reg [Zo 2 (.mv (.k (.bool false)))]) (.seq (.reg [Zv 3 0,Zc 4 143 [.t 3],Zv 5 4,⟨some 6,.mv (.t 0),(some (5,true))⟩,⟨some 7,.mv (.t 0),(some (5,true))⟩,⟨some 8,.len true (.t 7),(some (5,true))⟩,⟨some 9,.bin .sub (.t 8) (.k (.int .i64 1)),(some (5,true))⟩,⟨some 10,.ixs (.t 6) (.t 9),(some (5,true))⟩,⟨some 11,.bin .eql (.t 10) (.k (.int .u8 115)),(some (5,true))⟩,Zo 12 (.pick (.t 5) (.t 11) (.k (.bool false))),Zv 2 12]) .ret))⟩
theorem a205_ok:J08 Tryz.prog Tryz.f205=some a205:=by kernel_rfl
def a140:AFn:= ⟨10,[.t 2],(.seq (.reg [Zo 2 (.mv (.k (.bool false)))]) (.seq (.reg [Zv 3 0,Zc 4 143 [.t 3],Zv 5 4,⟨some 6,.mv (.t 0),(some (5,true))⟩,⟨some 7,.call (.k (.fn (.func 205) [] [])) [.t 6],(some (5,true))⟩,⟨some 8,.un .not (.t 7),(some (5,true))⟩,Zo 9 (.pick (.t 5) (.t 8) (.k (.bool false))),Zv 2 9]) .ret))⟩
theorem a140_ok:J08 Tryz.prog Tryz.f140=some a140:=by kernel_rfl
def a260:AFn:= ⟨13,[.t 2],(.seq (.reg [Zo 2 (.mv (.k (.bool false)))]) (.seq (.reg [Zv 3 0,Zc 4 285 [.t 3],Zv 5 4,⟨some 6,.mv (.t 0),(some (5,true))⟩,⟨some 7,.mv (.t 0),(some (5,true))⟩,⟨some 8,.len true (.t 7),(some (5,true))⟩,⟨some 9,.bin .sub (.t 8) (.k (.int .i64 1)),(some (5,true))⟩,⟨some 10,.ixs (.t 6) (.t 9),(some (5,true))⟩,⟨some 11,.bin .eql (.t 10) (.k (.int .u8 115)),(some (5,true))⟩,Zo 12 (.pick (.t 5) (.t 11) (.k (.bool false))),Zv 2 12]) .ret))⟩
theorem a260_ok:J08 Tryz.prog Tryz.f260=some a260:=by kernel_rfl
def a216:AFn:= ⟨10,[.t 2],(.seq (.reg [Zo 2 (.mv (.k (.bool false)))]) (.seq (.reg [Zv 3 0,Zc 4 285 [.t 3],Zv 5 4,⟨some 6,.mv (.t 0),(some (5,true))⟩,⟨some 7,.call (.k (.fn (.func 260) [] [])) [.t 6],(some (5,true))⟩,⟨some 8,.un .not (.t 7),(some (5,true))⟩,Zo 9 (.pick (.t 5) (.t 8) (.k (.bool false))),Zv 2 9]) .ret))⟩
theorem a216_ok:J08 Tryz.prog Tryz.f216=some a216:=by kernel_rfl
theorem Ja0 (s:Str):Holds Tryz.prog 230 [.str s] (fun r=>r = .bool (Jj0 s)):=by
 by_cases e1:s=[102,117,110]
 ·subst e1
  refine J01 Tryz.func230 a230_ok rfl (by simp [a230]) ?_
  simp [a230,Jj0,J1a,Jbo]
 by_cases e2:s=[112,114,101]
 ·subst e2
  refine J01 Tryz.func230 a230_ok rfl (by simp [a230]) ?_
  simp [a230,Jj0,J1a,Jbo]
 by_cases e3:s=[114,117,108,101]
 ·subst e3
  refine J01 Tryz.func230 a230_ok rfl (by simp [a230]) ?_
  simp [a230,Jj0,J1a,Jbo]
 by_cases e4:s=[114,101,116,117,114,110]
 ·subst e4
  refine J01 Tryz.func230 a230_ok rfl (by simp [a230]) ?_
  simp [a230,Jj0,J1a,Jbo]
 by_cases e5:s=[110,105,108]
 ·subst e5
  refine J01 Tryz.func230 a230_ok rfl (by simp [a230]) ?_
  simp [a230,Jj0,J1a,Jbo]
 have hr:Jj0 s=false:=by simp [Jj0,J1a,Jbo,Ne.symm e1,Ne.symm e2,Ne.symm e3,Ne.symm e4,Ne.symm e5]
 rw [hr]
 refine J01 Tryz.func230 a230_ok rfl (by simp [a230]) ?_
 simp [a230,e1,e2,e3,e4,e5]
theorem Jk9 {l:List Str}{s:Str}{i:Nat}(hi:i<l.length):J1a (l.drop i) s=((l[i]==s)||J1a (l.drop (i+1)) s):=by
 rw [List.drop_eq_getElem_cons hi];rfl
theorem J7k (l:List Str) (s:Str):Holds Tryz.prog 224 [.sl 1 (J05 l),.str s] (fun r=>r = .bool (J1a l s)):=by
 refine J1f Tryz.func224 rfl rfl fun hl => ?_
 simp at hl
 refine J01 Tryz.func224 a224_ok rfl (by simp [a224]) ?_
 simp [a224]
 generalize hB:J1a l s=B
 refine J5e [0,1] 5 l.length (fun i _=>J1a (l.drop i) s=B) hl.1 (by simp) (by simpa using hB) ?_ ?_
 ·rintro i st h R hi hg hk s5 hw hJ hh hR hret _
  simp at hk
  rw [Jk9 hi] at hJ
  simp [hk,s5,hi,hg]
  intro _
  by_cases hx:l[i]=s
  ·simp [hx] at hJ
   simp [hx]
   refine hret _ _ _ ?_
   simp [hJ]
  ·have:(l[i]==s)=false:=by simpa using hx
   rw [this,Bool.false_or] at hJ
   simp [hx,hk,s5,hw]
   exact hR _ (by simp [hk]) (by simp) hJ
 ·rintro st h R hk s5 hJ hh _ hX
  simp at hk
  rw [List.drop_eq_nil_of_le (by omega)] at hJ
  simp [hk,s5]
  intro _
  refine hX _ _ ?_
  simp [←hJ,J1a]
theorem Jk0 (l:List Str) (s:Str):Holds Tryz.prog 153 [.sl 1 (J05 l),.str s] (fun r=>r=i64 (J0p (fun x=>x==s) l 0)):=by
 refine J1f Tryz.func153 rfl rfl fun hl => ?_
 simp at hl
 refine J01 Tryz.func153 a153_ok rfl (by simp [a153]) ?_
 simp [a153]
 intro _
 generalize hB:J0p (fun x=>x==s) l 0=B
 refine J5e [0,1,7] 8 l.length (fun i _=>J0p (fun x=>x==s) (l.drop i) i=B) hl.1 (by simp) (by simpa using hB) ?_ ?_
 ·rintro i st h R hi hg hk s8 hw hJ hh hR hret _
  simp at hk
  rw [List.drop_eq_getElem_cons hi] at hJ
  simp only [J0p] at hJ
  simp [hk,s8,hi,hg]
  by_cases hx:s=l[i]
  ·rw [if_pos (by simp [hx])] at hJ
   simp [hx]
   refine hret _ _ _ ?_
   simp [hJ]
  ·rw [if_neg (by simpa using fun h=>hx h.symm)] at hJ
   simp [hx,hk,s8,hw]
   exact hR _ (by simp [hk]) (by simp) hJ
 ·rintro st h R hk s8 hJ hh _ hX
  simp at hk
  rw [List.drop_eq_nil_of_le (by omega)] at hJ
  simp [hk,s8]
  refine hX _ _ ?_
  simp [←hJ,J0p]
theorem J30 (l:List Str) (s:Str):Holds Tryz.prog 72 [.sl 1 (J05 l),.str s] (fun r=>r = .bool (J1a l s)):=by
 refine J01 Tryz.func72 a72_ok rfl (by simp [a72]) ?_
 simp [a72]
 first|refine J02 (Jk0 l s) (by first|simp;done|rfl) ?_|refine J03 (Jk0 l s) (by first|simp;done|rfl) ?_
 rintro r rfl
 have:=J5l (p:=fun x=>x==s) (l:=l) (i:=0)
 simp only [ge_iff_le] at this
 simp [this,J1a]
theorem J1n (l:List Str) (s:Str):Holds Tryz.prog 63 [.sl 1 (J05 l),.str s] (fun r=>r=i64 (J0p (fun x=>x==s) l 0)):=by
 refine J1f Tryz.func63 rfl rfl fun hl => ?_
 simp at hl
 refine J01 Tryz.func63 a63_ok rfl (by simp [a63]) ?_
 simp [a63]
 generalize hB:J0p (fun x=>x==s) l 0=B
 refine J5e [0,1] 5 l.length (fun i _=>J0p (fun x=>x==s) (l.drop i) i=B) hl.1 (by simp) (by simpa using hB) ?_ ?_
 ·rintro i st h R hi hg hk s5 hw hJ hh hR hret _
  simp at hk
  rw [List.drop_eq_getElem_cons hi] at hJ
  simp only [J0p] at hJ
  simp [hk,s5,hi,hg]
  intro _
  by_cases hx:l[i]=s
  ·rw [if_pos (by simp [hx])] at hJ
   simp [hx,s5]
   refine hret _ _ _ ?_
   simp [hJ]
  ·rw [if_neg (by simpa using hx)] at hJ
   simp [hx,hk,s5,hw]
   exact hR _ (by simp [hk]) (by simp) hJ
 ·rintro st h R hk s5 hJ hh _ hX
  simp at hk
  rw [List.drop_eq_nil_of_le (by omega)] at hJ
  simp [hk,s5]
  intro _
  refine hX _ _ ?_
  simp [←hJ,J0p]
theorem J97:Holds Tryz.prog 333 [] (fun r=>r = .us 1 (J05 Jbo)):=by
 refine J01 Tryz.func333 a333_ok rfl (by simp [a333]) ?_
 simp [a333]
 simp [J05,Jbo]
theorem J9b (s:Str):Holds Tryz.prog 317 [.str s] (fun r=>r = .bool (Jj0 s)):=by
 refine J01 Tryz.func317 a317_ok rfl (by simp [a317]) ?_
 simp [a317]
 first|refine J02 (J97) (by first|simp;done|rfl) ?_|refine J03 (J97) (by first|simp;done|rfl) ?_
 rintro r rfl
 simp
 first|refine J02 (J7k Jbo s) (by first|simp;done|rfl) ?_|refine J03 (J7k Jbo s) (by first|simp;done|rfl) ?_
 rintro r rfl
 simp [Jj0]
theorem Jcu {s:Str}{i:Nat}(hi:i<s.length):J2y i (s.drop i)=((Je8 s[i]||(decide (i≠0)&&Jhm s[i]))&&J2y (i+1) (s.drop (i+1))):=by
 rw [List.drop_eq_getElem_cons hi];rfl
theorem J3o (s:Str):Holds Tryz.prog 143 [.str s] (fun r=>r = .bool (J2h s)):=by
 refine J01 Tryz.func143 a143_ok rfl (by simp [a143]) ?_
 simp [a143]
 intro hl
 first|refine J02 (J3y s.length 1 8) (by first|simp;done|rfl) ?_|refine J03 (J3y s.length 1 8) (by first|simp;done|rfl) ?_
 rintro r rfl
 unfold J2h
 cases h1:inR s.length 1 8
 ·simp
 simp
 first|refine J02 (Ja0 s) (by first|simp;done|rfl) ?_|refine J03 (Ja0 s) (by first|simp;done|rfl) ?_
 rintro r rfl
 cases h2:Jj0 s
 case true=>simp
 simp
 generalize hB:J2y 0 s=B
 refine J5e [0] 3 s.length (fun i _=>J2y i (s.drop i)=B) hl (by simp) (by simpa using hB) ?_ ?_
 ·rintro i st h R hi hg hk s3 hw hJ hh hR hret _
  simp at hk
  rw [Jcu hi] at hJ
  have hgd:s[i]?.getD 0=s[i]:=by simp [hi]
  unfold Je8 Jhm at hJ
  obtain ⟨m,hm⟩:∃ m:Int,((s[i]).toNat:Int)=m:=⟨_,rfl⟩
  rw [hm] at hJ
  refine J0e [0,3] (fun _=>True) (by simp [hk,s3,hi]) ?_
  intro s1 hk1 _
  simp at hk1
  refine J0c (J1d (J0e [0,3] (fun s=>s 4 = .bool (decide (97≤m)&&decide (m≤122))) ?_ ?_))
  ·by_cases u1:97≤m <;> by_cases u2:m≤122 <;> simp [hk,s3,hk1,hi,hgd,hm,u1,u2]
  intro s2 hk2 s4
  simp at hk2
  refine J0e [0,3,4] (fun s=>s 5 = .bool (decide (48≤m)&&decide (m≤57))) ?_ ?_
  ·by_cases u1:48≤m <;> by_cases u2:m≤57 <;> simp [hk,s3,hk1,hk2,hi,hgd,hm,u1,u2]
  intro s5 hk5 s55
  simp at hk5
  generalize (decide (97≤m)&&decide (m≤122))=L at *
  generalize (decide (48≤m)&&decide (m≤57))=D at *
  cases L
  ·cases D
   ·rw [Bool.and_false,Bool.or_false,Bool.false_and] at hJ
    simp [hk,s3,hk1,hk2,hk5,s4,s55]
    refine hret _ _ _ ?_
    simp [hJ]
   ·by_cases h0:i=0
    ·subst h0
     simp at hJ
     simp [hk,s3,hk1,hk2,hk5,s4,s55]
     refine hret _ _ _ ?_
     simp [hJ]
    ·simp [h0] at hJ
     simp [hk,s3,hk1,hk2,hk5,s4,s55,hw,(by omega:0<i)]
     exact hR _ (by simp [hk,hk1,hk2,hk5]) (by simp) hJ
  ·simp at hJ
   simp [hk,s3,hk1,hk2,hk5,s4,s55,hw]
   exact hR _ (by simp [hk,hk1,hk2,hk5]) (by simp) hJ
 ·rintro st h R hk s3 hJ hh _ hX
  simp at hk
  rw [List.drop_eq_nil_of_le (by omega)] at hJ
  simp [hk,s3]
  intro _
  refine hX _ _ ?_
  simp [←hJ,J2y]
set_option maxHeartbeats 1000000 in
theorem Jd7 (s:Str):Holds Tryz.prog 316 [.str s] (fun r=>r = .bool (J2y 0 s&&decide (0<s.length))):=by
 refine J1f Tryz.func316 rfl rfl fun hl => ?_
 simp at hl
 refine J01 Tryz.func316 a316_ok rfl (by simp [a316]) ?_
 simp [a316]
 generalize hB:J2y 0 s=B
 refine J5e [0] 3 s.length (fun i _=>J2y i (s.drop i)=B) hl (by simp) (by simpa using hB) ?_ ?_
 ·rintro i st h R hi hg hk s3 hw hJ hh hR hret _
  simp at hk
  rw [Jcu hi] at hJ
  have hgd:s[i]?.getD 0=s[i]:=by simp [hi]
  unfold Je8 Jhm at hJ
  obtain ⟨m,hm⟩:∃ m:Int,((s[i]).toNat:Int)=m:=⟨_,rfl⟩
  rw [hm] at hJ
  refine J0e [0,3] (fun _=>True) (by simp [hk,s3,hi]) ?_
  intro s1 hk1 _
  simp at hk1
  refine J0c (J1d (J0e [0,3] (fun s=>s 4 = .bool (decide (97≤m)&&decide (m≤122))) ?_ ?_))
  ·by_cases u1:97≤m <;> by_cases u2:m≤122 <;> simp [hk,s3,hk1,hi,hgd,hm,u1,u2]
  intro s2 hk2 s4
  simp at hk2
  refine J0e [0,3,4] (fun s=>s 5 = .bool (decide (48≤m)&&decide (m≤57))) ?_ ?_
  ·by_cases u1:48≤m <;> by_cases u2:m≤57 <;> simp [hk,s3,hk1,hk2,hi,hgd,hm,u1,u2]
  intro s5 hk5 s55
  simp at hk5
  generalize (decide (97≤m)&&decide (m≤122))=L at *
  generalize (decide (48≤m)&&decide (m≤57))=D at *
  cases L
  ·cases D
   ·rw [Bool.and_false,Bool.or_false,Bool.false_and] at hJ
    subst hJ
    by_cases h0:i=0
    ·subst h0
     simp [hk,s3,hk1,hk2,hk5,s4,s55]
     refine hret _ _ _ ?_
     simp
    ·simp [hk,s3,hk1,hk2,hk5,s4,s55,h0]
     refine hret _ _ _ ?_
     simp
   ·by_cases h0:i=0
    ·subst h0
     simp at hJ
     subst hJ
     simp [hk,s3,hk1,hk2,hk5,s4,s55]
     refine hret _ _ _ ?_
     simp
    ·simp [h0] at hJ
     simp [hk,s3,hk1,hk2,hk5,s4,s55,hw,h0]
     exact hR _ (by simp [hk,hk1,hk2,hk5]) (by simp) hJ
  ·simp at hJ
   simp [hk,s3,hk1,hk2,hk5,s4,s55,hw]
   exact hR _ (by simp [hk,hk1,hk2,hk5]) (by simp) hJ
 ·rintro st h R hk s3 hJ hh _ hX
  simp at hk
  rw [List.drop_eq_nil_of_le (by omega)] at hJ
  refine J0e [] (fun _=>False) ?_ (fun _ _ h=>h.elim)
  simp [hk,s3]
  intro _
  refine hX _ _ ?_
  subst hJ
  simp [hk,J2y]
theorem J20 (s:Str):Holds Tryz.prog 285 [.str s] (fun r=>r = .bool (J2h s)):=by
 refine J01 Tryz.func285 a285_ok rfl (by simp [a285]) ?_
 simp [a285]
 first|refine J02 (Jd7 s) (by first|simp;done|rfl) ?_|refine J03 (Jd7 s) (by first|simp;done|rfl) ?_
 rintro r rfl
 unfold J2h inR
 cases h1:J2y 0 s
 ·simp
 by_cases h2:0<s.length
 case neg=>
  have:s.length=0:=by omega
  simp [this]
 have h2':(1:Int)≤s.length:=by omega
 simp [h2,h2']
 intro _
 by_cases h3:s.length≤8
 case neg=>
  have h3':¬(s.length:Int)≤8:=by omega
  simp [h3,h3']
 have h3':(s.length:Int)≤8:=by omega
 simp [h3,h3',Int.not_lt.2 h3']
 first|refine J02 (J9b s) (by first|simp;done|rfl) ?_|refine J03 (J9b s) (by first|simp;done|rfl) ?_
 rintro r rfl
 simp
theorem Jo7 (c:UInt8):((c.toNat:Int)==115)=(c==115):=by
 rw [Bool.eq_iff_iff]
 simp only [beq_iff_eq]
 constructor
 ·intro h
  exact UInt8.toNat_inj.1 (by simp;omega)
 ·rintro rfl
  rfl
theorem J19 (s:Str):Holds Tryz.prog 205 [.str s] (fun r=>r = .bool (J0f s)):=by
 refine J01 Tryz.func205 a205_ok rfl (by simp [a205]) ?_
 simp [a205]
 first|refine J02 (J3o s) (by first|simp;done|rfl) ?_|refine J03 (J3o s) (by first|simp;done|rfl) ?_
 rintro r rfl
 unfold J0f
 cases h1:J2h s
 ·simp
 obtain ⟨h2,h3⟩:=Jd3 h1
 simp
 intro _
 rw [J0w (by omega)]
 have e:((s.length:Int) - 1).toNat=s.length - 1:=by omega
 simp [e]
 refine ⟨by omega,by omega,?_⟩
 exact Jo7 _
theorem J3e (s:Str):Holds Tryz.prog 140 [.str s] (fun r=>r = .bool (J1i s)):=by
 refine J01 Tryz.func140 a140_ok rfl (by simp [a140]) ?_
 simp [a140]
 first|refine J02 (J3o s) (by first|simp;done|rfl) ?_|refine J03 (J3o s) (by first|simp;done|rfl) ?_
 rintro r rfl
 unfold J1i
 cases h1:J2h s
 ·simp
 simp
 first|refine J02 (J19 s) (by first|simp;done|rfl) ?_|refine J03 (J19 s) (by first|simp;done|rfl) ?_
 rintro r rfl
 simp
theorem J0x (s:Str):Holds Tryz.prog 260 [.str s] (fun r=>r = .bool (J0f s)):=by
 refine J01 Tryz.func260 a260_ok rfl (by simp [a260]) ?_
 simp [a260]
 first|refine J02 (J20 s) (by first|simp;done|rfl) ?_|refine J03 (J20 s) (by first|simp;done|rfl) ?_
 rintro r rfl
 unfold J0f
 cases h1:J2h s
 ·simp
 obtain ⟨h2,h3⟩:=Jd3 h1
 simp
 intro _
 rw [J0w (by omega)]
 have e:((s.length:Int) - 1).toNat=s.length - 1:=by omega
 simp [e]
 refine ⟨by omega,by omega,?_⟩
 exact Jo7 _
theorem J3j (s:Str):Holds Tryz.prog 216 [.str s] (fun r=>r = .bool (J1i s)):=by
 refine J01 Tryz.func216 a216_ok rfl (by simp [a216]) ?_
 simp [a216]
 first|refine J02 (J20 s) (by first|simp;done|rfl) ?_|refine J03 (J20 s) (by first|simp;done|rfl) ?_
 rintro r rfl
 unfold J1i
 cases h1:J2h s
 ·simp
 simp
 first|refine J02 (J0x s) (by first|simp;done|rfl) ?_|refine J03 (J0x s) (by first|simp;done|rfl) ?_
 rintro r rfl
 simp
def a295:AFn:= ⟨5,[.t 2],(.seq (.reg [Zo 2 (.mv (.k (.bool false)))]) (.seq (.reg [Zv 3 0,Zc 4 102 [.t 3,(.k (.int .i64 (-1000000))),(.k (.int .i64 1000000))],Zv 2 4]) .ret))⟩
theorem a295_ok:J08 Tryz.prog Tryz.f295=some a295:=by kernel_rfl
def a318:AFn:= ⟨5,[.t 2],(.seq (.reg [Zo 2 (.mv (.k (.bool false)))]) (.seq (.reg [Zv 3 0,Zc 4 183 [.t 3,(.k (.int .i64 (-1000000))),(.k (.int .i64 1000000))],Zv 2 4]) .ret))⟩
theorem a318_ok:J08 Tryz.prog Tryz.f318=some a318:=by kernel_rfl
def a141:AFn:= ⟨18,[.t 2],(.seq (.reg [Zo 2 (.mv (.k (.bool false)))]) (.seq (.seq (.reg [Zv 5 0,Zo 6 (.len false (.t 5)),Zo 7 (.mv (.k (.int .i64 0)))]) (.blk 0 (.loop (.seq (.reg [Zo 8 (.bin .lss (.t 7) (.t 6))]) (.seq (.cond (.t 8) .skip (.exit 0)) (.seq (.blk 1 (.seq (.reg [Zv 9 7,Zo 10 (.ixa 1 (.t 5) (.t 7)),Zl 11 false 1 10,Zv 3 9,Zv 4 11]) (.seq (.reg [Zv 12 0,Zv 13 3,Zo 14 (.slc false 1 (.t 12) Option.none (some (.t 13))),Zv 15 4,Zc 16 72 [.t 14,.t 15]]) (.cond (.t 16) (.seq (.reg [Zo 2 (.mv (.k (.bool false)))]) .ret) .skip)))) (.reg [Zo 17 (.bin .add (.t 7) (.k (.int .i64 1))),Zv 7 17]))))))) (.seq (.reg [Zo 2 (.mv (.k (.bool true)))]) .ret)))⟩
theorem a141_ok:J08 Tryz.prog Tryz.f141=some a141:=by kernel_rfl
def a218:AFn:= ⟨18,[.t 2],(.seq (.reg [Zo 2 (.mv (.k (.bool false)))]) (.seq (.seq (.reg [Zo 3 (.mv (.k (.int .i64 0)))]) (.blk 0 (.loop (.seq (.seq (.reg [Zv 4 3,Zv 5 0,Zo 6 (.len false (.t 5)),Zo 7 (.bin .lss (.t 4) (.t 6))]) (.cond (.t 7) .skip (.exit 0))) (.seq (.blk 1 (.seq (.draw (.op (Zv 10 0) (.op (Zv 11 3) (.op (Zo 12 (.slc false 1 (.t 10) Option.none (some (.t 11)))) (.op (Zv 13 0) (.op (Zv 14 3) (.op (Zo 15 (.ixa 1 (.t 13) (.t 14))) (.op (Zl 16 false 1 15) (.op (Zc 17 224 [.t 12,.t 16]) .fin))))))))) (.cond (.t 17) (.seq (.reg [Zo 2 (.mv (.k (.bool false)))]) .ret) .skip))) (.reg [Zv 8 3,Zo 9 (.bin .add (.t 8) (.k (.int .i64 1))),Zv 3 9])))))) (.seq (.reg [Zo 2 (.mv (.k (.bool true)))]) .ret)))⟩
theorem a218_ok:J08 Tryz.prog Tryz.f218=some a218:=by kernel_rfl
def a296:AFn:= ⟨8,[.t 3],(.seq (.reg [Zo 3 (.mv (.k (.bool false)))]) (.seq (.reg [Zl 4 false 1 1,Zv 5 0,Zc 6 72 [.t 4,.t 5],Zo 7 (.un .not (.t 6)),Zv 3 7]) .ret))⟩
theorem a296_ok:J08 Tryz.prog Tryz.f296=some a296:=by kernel_rfl
def a238:AFn:= ⟨9,[.t 4],(.seq (.reg [Zo 3 (.boxv (.t 1)),Zo 4 (.mv (.k (.bool false)))]) (.seq (.reg [Zv 5 0,Zo 6 (.mkf (.func 296) [] [.t 3]),Zc 7 69 [.t 5,.t 6],Zo 8 (.un .not (.t 7)),Zv 4 8]) .ret))⟩
theorem a238_ok:J08 Tryz.prog Tryz.f238=some a238:=by kernel_rfl
def a137:AFn:= ⟨29,[.t 4],(.seq (.reg [Zo 4 (.mv (.k (.nil 1)))]) (.seq (.reg [Zo 7 (.bsl 1 []),Zv 5 7]) (.seq (.seq (.reg [Zo 6 (.mv (.k (.int .i64 0)))]) (.blk 0 (.loop (.seq (.seq (.reg [Zv 8 6,Zv 9 0,Zo 10 (.len false (.t 9)),Zo 11 (.bin .lss (.t 8) (.t 10))]) (.cond (.t 11) .skip (.exit 0))) (.seq (.blk 1 (.seq (.reg [Zv 14 1,Zv 15 0,Zv 16 6,Zo 17 (.ixa 1 (.t 15) (.t 16)),Zl 18 false 1 17,Zc 19 224 [.t 14,.t 18],Zo 20 (.un .not (.t 19))]) (.cond (.t 20) (.reg [Zv 21 5,Zv 22 0,Zv 23 6,Zo 24 (.ixa 1 (.t 22) (.t 23)),Zl 25 false 1 24,Zo 26 (.bsl 1 [.t 25]),Zo 27 (.app 16 1 (.t 21) (.t 26)),Zv 5 27]) .skip))) (.reg [Zv 12 6,Zo 13 (.bin .add (.t 12) (.k (.int .i64 1))),Zv 6 13])))))) (.seq (.reg [Zv 28 5,Zv 4 28]) .ret))))⟩
theorem a137_ok:J08 Tryz.prog Tryz.f137=some a137:=by kernel_rfl
theorem a69_ok:J08 Tryz.prog Tryz.f69=some (J1z 150):=by kernel_rfl
theorem a150_ok:J08 Tryz.prog Tryz.f150=some (J2r false 1):=by kernel_rfl
theorem a297_ok:J08 Tryz.prog Tryz.f297=some (J1z 323):=by kernel_rfl
theorem a323_ok:J08 Tryz.prog Tryz.f323=some (J2r true 2):=by kernel_rfl
theorem Je5 {P:Program}{s:Env}{h:Heap}{n:Nat}{Q:Fin}{ks:List Kt}{c:Nat}{e:AC}(hc:s c = .bool false) (h1:J40 P ks .normal s h n Q):rC P (.cond (.t c) e .skip) ks s h n Q:=by
 rw [J8b]
 have:ev s (.t c) = .bool false:=hc
 rw [this]
 simpa using h1
theorem Jhb (n:Int):Holds Tryz.prog 295 [i64 n] (fun r=>r = .bool (Jj2 n)):=by
 refine J01 Tryz.func295 a295_ok rfl (by simp [a295]) ?_
 simp [a295]
 first|refine J02 (J3y n (-1000000) 1000000) (by first|simp;done|rfl) ?_|refine J03 (J3y n (-1000000) 1000000) (by first|simp;done|rfl) ?_
 rintro r rfl
 simp
 rfl
theorem Jeh (n:Int):Holds Tryz.prog 318 [i64 n] (fun r=>r = .bool (Jj2 n)):=by
 refine J01 Tryz.func318 a318_ok rfl (by simp [a318]) ?_
 simp [a318]
 first|refine J02 (J7y n (-1000000) 1000000) (by first|simp;done|rfl) ?_|refine J03 (J7y n (-1000000) 1000000) (by first|simp;done|rfl) ?_
 rintro r rfl
 simp
 rfl
theorem J57 (l:List Str):Holds Tryz.prog 141 [.sl 1 (J05 l)] (fun r=>r = .bool (J6u l)):=by
 refine J1f Tryz.func141 rfl rfl fun hl => ?_
 simp at hl
 refine J01 Tryz.func141 a141_ok rfl (by simp [a141]) ?_
 simp [a141]
 intro _
 unfold J6u
 generalize hB:J36 [] l=B
 refine J5e [0,5,6] 7 l.length (fun i _=>J36 (l.take i) (l.drop i)=B) hl (by simp) (by simpa using hB) ?_ ?_
 ·rintro i st h R hi hg hk s7 hw hJ hh hR hret _
  simp at hk
  rw [List.drop_eq_getElem_cons hi] at hJ
  simp only [J36] at hJ
  rw [List.take_append_getElem hi] at hJ
  simp [hk,s7,hi,hg,J37,asI]
  refine ⟨by omega,?_⟩
  have ht:List.take i (J05 l)=J05 (l.take i):=by simp [J05]
  first|refine J02 (J30 (l.take i) (l[i]'hi)) (by first|simp [ht];done|rfl) ?_|refine J03 (J30 (l.take i) (l[i]'hi)) (by first|simp [ht];done|rfl) ?_
  rintro r rfl
  cases hc:J1a (l.take i) l[i]
  ·rw [hc] at hJ
   simp at hJ
   simp [hk,s7,hw]
   exact hR _ (by simp [hk]) (by simp) hJ
  ·rw [hc] at hJ
   simp at hJ
   simp
   refine hret _ _ _ ?_
   simp [hJ]
 ·rintro st h R hk s7 hJ hh _ hX
  simp at hk
  rw [List.drop_eq_nil_of_le (by omega)] at hJ
  simp [hk,s7]
  refine hX _ _ ?_
  simp [←hJ,J36]
theorem J2z (l:List Str):Holds Tryz.prog 218 [.sl 1 (J05 l)] (fun r=>r = .bool (J6u l)):=by
 refine J1f Tryz.func218 rfl rfl fun hl => ?_
 simp at hl
 refine J01 Tryz.func218 a218_ok rfl (by simp [a218]) ?_
 simp [a218]
 unfold J6u
 generalize hB:J36 [] l=B
 refine J5e [0] 3 l.length (fun i _=>J36 (l.take i) (l.drop i)=B) hl (by simp) (by simpa using hB) ?_ ?_
 ·rintro i st h R hi hg hk s3 hw hJ hh hR hret _
  simp at hk
  rw [List.drop_eq_getElem_cons hi] at hJ
  simp only [J36] at hJ
  rw [List.take_append_getElem hi] at hJ
  simp [hk,s3,hi,hg,J37,asI]
  intro _
  refine ⟨by omega,?_⟩
  have ht:List.take i (J05 l)=J05 (l.take i):=by simp [J05]
  first|refine J02 (J7k (l.take i) (l[i]'hi)) (by first|simp [ht];done|rfl) ?_|refine J03 (J7k (l.take i) (l[i]'hi)) (by first|simp [ht];done|rfl) ?_
  rintro r rfl
  cases hc:J1a (l.take i) l[i]
  ·rw [hc] at hJ
   simp at hJ
   simp [hk,s3,hw]
   exact hR _ (by simp [hk]) (by simp) hJ
  ·rw [hc] at hJ
   simp at hJ
   simp
   refine hret _ _ _ ?_
   simp [hJ]
 ·rintro st h R hk s3 hJ hh _ hX
  simp at hk
  rw [List.drop_eq_nil_of_le (by omega)] at hJ
  simp [hk,s3]
  intro _
  refine hX _ _ ?_
  simp [←hJ,J36]
theorem Jmc (l scope:List Str):(l.any fun s => !J1a scope s) = !Jjz l scope:=by unfold Jjz;rw [J9o]
theorem Jif {h:Heap}{n id:Nat}{scope:List Str}(x:Str) (hv:h id=some ⟨true,1,[[.sl 1 (J05 scope)]]⟩) (hid:id<n):Jce Tryz.prog 296 [] [.ptr id 0 0] h n (.str x) (.bool (!J1a scope x)):=by
 intro K hK
 refine J9a ?_
 refine J14 Tryz.func296 a296_ok rfl (by simp [a296]) ?_
 have n1:¬id=n:=by omega
 simp [a296,hv,n1]
 first|refine J02 (J30 scope x) (by first|simp;done|rfl) ?_|refine J03 (J30 scope x) (by first|simp;done|rfl) ?_
 rintro r rfl
 simp [Jex,hK]
theorem J79 (l scope:List Str):Holds Tryz.prog 238 [.sl 1 (J05 l),.sl 1 (J05 scope)] (fun r=>r = .bool (Jjz l scope)):=by
 refine J01 Tryz.func238 a238_ok rfl (by simp [a238]) ?_
 simp [a238]
 refine J15 (p:=fun s => !J1a scope s) (rowOf:=fun s=>[.str s]) (eltOf:=fun s => .str s) Tryz.func69 a69_ok rfl Tryz.func150 a150_ok rfl (fun x=>by simp) l
  (fun x _=>Jif (scope:=scope) x (by simp) (by omega)) ?_
 rw [Jmc]
 simp
theorem Jfd {l scope:List Str}{i:Nat}(hi:i<l.length):J29 (l.drop i) scope=(if J1a scope l[i] then [] else [l[i]])++J29 (l.drop (i+1)) scope:=by
 rw [List.drop_eq_getElem_cons hi]
 unfold J29
 rw [List.filter_cons]
 cases J1a scope l[i] <;> simp
theorem J45 (l scope:List Str) (hl:l.length≤1048576):Holds Tryz.prog 137 [.sl 1 (J05 l),.sl 1 (J05 scope)] (fun r=>r = .us 1 (J05 (J29 l scope))):=by
 refine J01 Tryz.func137 a137_ok rfl (by simp [a137]) ?_
 simp [a137]
 generalize hB:J29 l scope=B
 have hBl:B.length≤l.length:=by rw [←hB];exact List.length_filter_le _ _
 refine J0h [0,1] 6 l.length (fun i s h n=>∃ (acc:List Str) (id:Nat),s 5 = .ref id 0 acc.length∧h id=some ⟨false,1,J05 acc⟩∧id<n∧acc++J29 (l.drop i) scope=B)
  (by unfold LIM;omega) (by simp) ⟨[],0,by simp,by simp [J05],by simp,by simpa using hB⟩ ?_ ?_
 ·rintro i st h n R hi hg hk s6 hw ⟨acc,id,s5,eid,hidn,hJ⟩ hR _ _
  simp at hk
  rw [Jfd hi] at hJ
  have hal:=congrArg List.length hJ
  simp only [List.length_append] at hal
  simp [hk,s6,hi,hg]
  intro _
  first|refine J02 (J7k scope (l[i]'hi)) (by first|simp;done|rfl) ?_|refine J03 (J7k scope (l[i]'hi)) (by first|simp;done|rfl) ?_
  rintro r rfl
  have n0:¬id=n:=by omega
  have n1:¬id=n+1:=by omega
  have n2:¬n+1=id:=by omega
  have n3:¬n=id:=by omega
  cases hc:J1a scope l[i]
  ·rw [hc] at hJ hal
   simp at hJ hal
   simp [hk,s6,hi,hg,s5,eid,n0,n1,n2,n3,hw]
   refine ⟨by unfold LIM;omega,?_⟩
   exact hR _ _ _ (by simp [hk]) (by simp) ⟨acc++[l[i]],n+1,by simp,by simp [J05],by omega,by simpa using hJ⟩
  ·rw [hc] at hJ
   simp at hJ
   simp [hk,s6,hi,hg,hw]
   exact hR _ _ _ (by simp [hk]) (by simp) ⟨acc,id,by simp [s5],by simp [eid],by omega,hJ⟩
 ·rintro st h n R hk s6 ⟨acc,id,s5,eid,hidn,hJ⟩ hret hX
  simp at hk
  rw [List.drop_eq_nil_of_le (by omega)] at hJ
  simp [J29] at hJ
  subst hJ
  simp [hk,s6]
  intro _
  refine hX _ _ _ _ ?_
  simp [s5,eid]
def a237:AFn:= ⟨55,[.t 2],(.seq (.reg [Zo 1 (.boxv (.t 0)),Zo 2 (.mv (.k (.bool false)))]) (.seq (.seq (.reg [Zf 5 0 1,Zl 6 false 1 5,Zc 7 295 [.t 6],Zo 8 (.un .not (.t 7)),Zv 9 8,⟨some 10,.fld 1 (.t 1),(some (9,false))⟩,⟨some 11,.ld false 1 (.t 10),(some (9,false))⟩,⟨some 12,.len false (.t 11),(some (9,false))⟩,⟨some 13,.bin .gtr (.t 12) (.k (.int .i64 4)),(some (9,false))⟩,Zo 14 (.pick (.t 9) (.k (.bool true)) (.t 13))]) (.cond (.t 14) (.seq (.reg [Zo 2 (.mv (.k (.bool false)))]) .ret) .skip)) (.seq (.seq (.reg [Zf 15 1 1,Zl 16 false 1 15,Zo 17 (.len false (.t 16)),Zo 18 (.mv (.k (.int .i64 0)))]) (.blk 0 (.loop (.seq (.reg [Zo 19 (.bin .lss (.t 18) (.t 17))]) (.seq (.cond (.t 19) .skip (.exit 0)) (.seq (.blk 1 (.seq (.reg [Zv 20 18,Zo 21 (.ixa 2 (.t 16) (.t 18)),Zl 22 true 2 21,Zo 4 (.box [(.int .i64 0),(.str [])]),Zv 3 20,⟨no,.st 2 (.t 4) (.t 22),no⟩]) (.seq (.draw (.op (Zf 23 0 4) (.op (Zl 24 false 1 23) (.op (Zo 25 (.bin .eql (.t 24) (.k (.int .i64 0)))) (.op (Zv 26 25) (.op ⟨some 27,.fld 0 (.t 4),(some (26,false))⟩ (.op ⟨some 28,.ld false 1 (.t 27),(some (26,false))⟩ (.op ⟨some 29,.call (.k (.fn (.func 295) [] [])) [.t 28],(some (26,false))⟩ (.op ⟨some 30,.un .not (.t 29),(some (26,false))⟩ (.op (Zo 31 (.pick (.t 26) (.k (.bool true)) (.t 30))) (.op (Zv 32 31) (.op ⟨some 33,.fld 1 (.t 4),(some (32,false))⟩ (.op ⟨some 34,.ld false 1 (.t 33),(some (32,false))⟩ (.op ⟨some 35,.call (.k (.fn (.func 140) [] [])) [.t 34],(some (32,false))⟩ (.op ⟨some 36,.un .not (.t 35),(some (32,false))⟩ (.op (Zo 37 (.pick (.t 32) (.k (.bool true)) (.t 36))) (.op (Zv 38 37) (.op ⟨some 39,.mv (.t 3),(some (38,false))⟩ (.op ⟨some 40,.bin .gtr (.t 39) (.k (.int .i64 0)),(some (38,false))⟩ (.op ⟨some 41,.mv (.t 40),(some (38,false))⟩ (.op ⟨some 42,.fld 1 (.t 1),(some (41,true))⟩ (.op ⟨some 43,.ld false 1 (.t 42),(some (41,true))⟩ (.op ⟨some 44,.mv (.t 3),(some (41,true))⟩ (.op ⟨some 45,.bin .sub (.t 44) (.k (.int .i64 1)),(some (41,true))⟩ (.op ⟨some 46,.ixa 2 (.t 43) (.t 45),(some (41,true))⟩ (.op ⟨some 47,.fld 1 (.t 46),(some (41,true))⟩ (.op ⟨some 48,.ld false 1 (.t 47),(some (41,true))⟩ (.op ⟨some 49,.fld 1 (.t 4),(some (41,true))⟩ (.op ⟨some 50,.ld false 1 (.t 49),(some (41,true))⟩ (.op ⟨some 51,.bin .geq (.t 48) (.t 50),(some (41,true))⟩ (.op ⟨some 52,.pick (.t 41) (.t 51) (.k (.bool false)),(some (38,false))⟩ (.op (Zo 53 (.pick (.t 38) (.k (.bool true)) (.t 52))) .fin)))))))))))))))))))))))))))))))) (.cond (.t 53) (.seq (.reg [Zo 2 (.mv (.k (.bool false)))]) .ret) .skip)))) (.reg [Zo 54 (.bin .add (.t 18) (.k (.int .i64 1))),Zv 18 54]))))))) (.seq (.reg [Zo 2 (.mv (.k (.bool true)))]) .ret))))⟩
theorem a237_ok:J08 Tryz.prog Tryz.f237=some a237:=by kernel_rfl
def Jam (l:List DTerm) (i:Nat):Option Str:=if i=0 then Option.none else (l[i - 1]?).map (·.Name)
theorem J7q {l:List DTerm}{i:Nat}(hi:i<l.length):Jam l (i+1)=some (l[i]).Name:=by simp [Jam,hi]
set_option maxHeartbeats 1000000 in
theorem J5u (x:DSum):Holds Tryz.prog 237 [.agg (J10 x)] (fun r=>r = .bool (J8h x)):=by
 refine J01 Tryz.func237 a237_ok rfl (by simp [a237]) ?_
 simp [a237,J10]
 first|refine J02 (Jhb x.Const) (by first|simp;done|rfl) ?_|refine J03 (Jhb x.Const) (by first|simp;done|rfl) ?_
 rintro r rfl
 unfold J8h
 cases h1:Jj2 x.Const
 ·simp
 simp
 intro hl
 have hd:decide (x.Terms.length≤4)=decide ((x.Terms.length:Int)≤4):=by rw [decide_eq_decide];omega
 rw [hd]
 by_cases h2:(x.Terms.length:Int)≤4
 case neg=>
  have h2n:¬x.Terms.length≤4:=by omega
  simp [h2,h2n,Int.not_le.1 h2]
 simp [h2,Int.not_lt.2 h2]
 intro _
 generalize hB:J52 Option.none x.Terms=B
 refine J0h [1,16,17] 18 x.Terms.length (fun i s h n=>0<n∧h 0=some ⟨true,2,[[i64 x.Const,.sl 2 (x.Terms.map J0l)]]⟩∧J52 (Jam x.Terms i) (x.Terms.drop i)=B) hl (by simp) ⟨by simp,by simp,by simpa [Jam] using hB⟩ ?_ ?_
 ·rintro i st h n R hi hg hk s18 hw ⟨hn,e0,hJ⟩ hR hret _
  simp at hk
  rw [List.drop_eq_getElem_cons hi] at hJ
  simp only [J52] at hJ
  have z0:¬0=n:=by omega
  refine J0e [1,16,17,18] (fun s=>s 19 = .bool true) (by simp [hk,s18,hi]) ?_
  intro st1 hk1 s19
  simp at hk1
  refine J4m s19 (J0c (J1d ?_))
  refine J1q [1,16,17,18] (fun s h' n'=>s 3 = .int .i64 i∧s 4 = .ptr n 0 0∧n'=n+1∧h' n=some ⟨true,2,[J0l x.Terms[i]]⟩∧h' 0=some ⟨true,2,[[i64 x.Const,.sl 2 (x.Terms.map J0l)]]⟩) (by simp [hk,hk1,s18,hi,J0l,e0,z0]) ?_
  rintro st2 h2 n2 hk2 ⟨s3,s4,rfl,en,e0'⟩
  simp at hk2
  obtain ⟨bad,hbad⟩:∃ bad,bad=(((x.Terms[i]).Coeff==0 || !Jj2 (x.Terms[i]).Coeff || !J1i (x.Terms[i]).Name)||(match Jam x.Terms i with|Option.none=>false|some q => !(Op.bytesLess q (x.Terms[i]).Name))):=⟨_,rfl⟩
  refine J0e [1,16,17,18] (fun s=>s 53 = .bool bad) ?_ ?_
  ·subst hbad
   by_cases c0:(x.Terms[i]).Coeff=0
   ·simp [hk,hk1,hk2,s18,hi,J0l,e0',en,z0,s3,s4,c0]
   simp [hk,hk1,hk2,s18,hi,J0l,e0',en,z0,s3,s4,c0]
   first|refine J02 (Jhb (x.Terms[i]'hi).Coeff) (by first|simp;done|rfl) ?_|refine J03 (Jhb (x.Terms[i]'hi).Coeff) (by first|simp;done|rfl) ?_
   rintro r rfl
   cases c1:Jj2 (x.Terms[i]).Coeff
   ·simp [hk,hk1,hk2,s18,hi,J0l,e0',en,z0,s3,s4]
   simp [hk,hk1,hk2,s18,hi,J0l,e0',en,z0,s3,s4]
   first|refine J02 (J3e (x.Terms[i]'hi).Name) (by first|simp;done|rfl) ?_|refine J03 (J3e (x.Terms[i]'hi).Name) (by first|simp;done|rfl) ?_
   rintro r rfl
   cases c2:J1i (x.Terms[i]).Name
   ·simp [hk,hk1,hk2,s18,hi,J0l,e0',en,z0,s3,s4]
   cases i with
   | zero=>simp [hk,hk1,hk2,s18,hi,J0l,e0',en,z0,s3,s4,Jam,c0,c1,c2]
   | succ i=>
    have hi':i<x.Terms.length:=by omega
    have hwr:IntKind.i64.wrap (i:Int)=i:=J0w (by unfold LIM at hl;omega)
    simp [hk,hk1,hk2,s18,hi,hi',J0l,e0',en,z0,s3,s4,J7q hi',hwr,c0,c1,c2]
  intro st3 hk3 s53
  simp at hk3
  have hJ':(!bad&&J52 (some (x.Terms[i]).Name) (x.Terms.drop (i+1)))=B:=by
   rw [←hJ,hbad]
   cases ((x.Terms[i]).Coeff==0) <;> cases (Jj2 (x.Terms[i]).Coeff) <;> cases (J1i (x.Terms[i]).Name) <;> cases (Jam x.Terms i) <;> simp
  rw [←J7q hi] at hJ'
  clear hJ hbad
  cases bad
  ·simp [hk,hk1,hk2,hk3,s18,s53,hw]
   exact hR _ _ _ (by simp [hk,hk1,hk2,hk3]) (by simp) ⟨by omega,by simp [e0'],by simpa using hJ'⟩
  ·simp [hk,hk1,hk2,hk3,s18,s53,hw]
   simp at hJ'
   refine hret _ _ _ ?_
   simp [hJ']
 ·rintro st h n R hk s18 ⟨hn,e0,hJ⟩ hret hX
  simp at hk
  rw [List.drop_eq_nil_of_le (by omega)] at hJ
  refine J0e [1,16,17,18] (fun s=>s 19 = .bool false) (by simp [hk,s18]) ?_
  intro st1 hk1 s19
  simp at hk1
  refine J4k s19 ?_
  simp
  refine hX _ _ _ _ ?_
  simp [←hJ,J52]
def a286:AFn:= ⟨62,[.t 2],(.seq (.reg [Zo 1 (.boxv (.t 0)),Zo 2 (.mv (.k (.bool false)))]) (.seq (.seq (.reg [Zo 3 (.mv (.k (.int .i64 0)))]) (.blk 0 (.loop (.seq (.seq (.reg [Zv 5 3,Zf 6 1 1,Zl 7 false 1 6,Zo 8 (.len false (.t 7)),Zo 9 (.bin .lss (.t 5) (.t 8))]) (.cond (.t 9) .skip (.exit 0))) (.seq (.blk 1 (.seq (.reg [Zf 12 1 1,Zl 13 false 1 12,Zv 14 3,Zo 15 (.ixa 2 (.t 13) (.t 14)),Zl 16 true 2 15,Zo 4 (.box [(.int .i64 0),(.str [])]),⟨no,.st 2 (.t 4) (.t 16),no⟩]) (.seq (.draw (.op (Zf 17 0 4) (.op (Zl 18 false 1 17) (.op (Zo 19 (.bin .eql (.t 18) (.k (.int .i64 0)))) (.op (Zv 20 19) (.op ⟨some 21,.fld 0 (.t 4),(some (20,false))⟩ (.op ⟨some 22,.ld false 1 (.t 21),(some (20,false))⟩ (.op ⟨some 23,.call (.k (.fn (.func 318) [] [])) [.t 22],(some (20,false))⟩ (.op ⟨some 24,.un .not (.t 23),(some (20,false))⟩ (.op (Zo 25 (.pick (.t 20) (.k (.bool true)) (.t 24))) (.op (Zv 26 25) (.op ⟨some 27,.fld 1 (.t 4),(some (26,false))⟩ (.op ⟨some 28,.ld false 1 (.t 27),(some (26,false))⟩ (.op ⟨some 29,.call (.k (.fn (.func 285) [] [])) [.t 28],(some (26,false))⟩ (.op ⟨some 30,.un .not (.t 29),(some (26,false))⟩ (.op (Zo 31 (.pick (.t 26) (.k (.bool true)) (.t 30))) (.op (Zv 32 31) (.op ⟨some 33,.fld 1 (.t 4),(some (32,false))⟩ (.op ⟨some 34,.ld false 1 (.t 33),(some (32,false))⟩ (.op ⟨some 35,.call (.k (.fn (.func 260) [] [])) [.t 34],(some (32,false))⟩ (.op (Zo 36 (.pick (.t 32) (.k (.bool true)) (.t 35))) (.op (Zv 37 36) (.op ⟨some 38,.mv (.t 3),(some (37,false))⟩ (.op ⟨some 39,.bin .gtr (.t 38) (.k (.int .i64 0)),(some (37,false))⟩ (.op ⟨some 40,.mv (.t 39),(some (37,false))⟩ (.op ⟨some 41,.fld 1 (.t 1),(some (40,true))⟩ (.op ⟨some 42,.ld false 1 (.t 41),(some (40,true))⟩ (.op ⟨some 43,.mv (.t 3),(some (40,true))⟩ (.op ⟨some 44,.bin .sub (.t 43) (.k (.int .i64 1)),(some (40,true))⟩ (.op ⟨some 45,.ixa 2 (.t 42) (.t 44),(some (40,true))⟩ (.op ⟨some 46,.fld 1 (.t 45),(some (40,true))⟩ (.op ⟨some 47,.ld false 1 (.t 46),(some (40,true))⟩ (.op ⟨some 48,.fld 1 (.t 4),(some (40,true))⟩ (.op ⟨some 49,.ld false 1 (.t 48),(some (40,true))⟩ (.op ⟨some 50,.bin .geq (.t 47) (.t 49),(some (40,true))⟩ (.op ⟨some 51,.pick (.t 40) (.t 50) (.k (.bool false)),(some (37,false))⟩ (.op (Zo 52 (.pick (.t 37) (.k (.bool true)) (.t 51))) .fin))))))))))))))))))))))))))))))))))))) (.cond (.t 52) (.seq (.reg [Zo 2 (.mv (.k (.bool false)))]) .ret) .skip)))) (.reg [Zv 10 3,Zo 11 (.bin .add (.t 10) (.k (.int .i64 1))),Zv 3 11])))))) (.seq (.reg [Zf 53 0 1,Zl 54 false 1 53,Zc 55 318 [.t 54],Zv 56 55,⟨some 57,.fld 1 (.t 1),(some (56,true))⟩,⟨some 58,.ld false 1 (.t 57),(some (56,true))⟩,⟨some 59,.len false (.t 58),(some (56,true))⟩,⟨some 60,.bin .leq (.t 59) (.k (.int .i64 4)),(some (56,true))⟩,Zo 61 (.pick (.t 56) (.t 60) (.k (.bool false))),Zv 2 61]) .ret)))⟩
theorem a286_ok:J08 Tryz.prog Tryz.f286=some a286:=by kernel_rfl
set_option maxHeartbeats 1000000 in
theorem J56 (x:DSum):Holds Tryz.prog 286 [.agg (J10 x)] (fun r=>r = .bool (J8h x)):=by
 refine J1f Tryz.func286 rfl rfl fun hl => ?_
 simp [J10] at hl
 refine J01 Tryz.func286 a286_ok rfl (by simp [a286]) ?_
 simp [a286,J10]
 unfold J8h
 generalize hB:J52 Option.none x.Terms=B
 refine J0h [1] 3 x.Terms.length (fun i s h n=>0<n∧h 0=some ⟨true,2,[[i64 x.Const,.sl 2 (x.Terms.map J0l)]]⟩∧J52 (Jam x.Terms i) (x.Terms.drop i)=B) hl (by simp) ⟨by simp,by simp,by simpa [Jam] using hB⟩ ?_ ?_
 ·rintro i st h n R hi hg hk s3x hw ⟨hn,e0,hJ⟩ hR hret _
  simp at hk
  rw [List.drop_eq_getElem_cons hi] at hJ
  simp only [J52] at hJ
  have z0:¬0=n:=by omega
  refine J0c ?_
  refine J0e [1,3] (fun s=>s 9 = .bool true) (by simp [hk,s3x,hi,e0]) ?_
  intro st1 hk1 s9
  simp at hk1
  refine J2i s9 (J0c (J1d ?_))
  refine J1q [1,3] (fun s h' n'=>s 4 = .ptr n 0 0∧n'=n+1∧h' n=some ⟨true,2,[J0l x.Terms[i]]⟩∧h' 0=some ⟨true,2,[[i64 x.Const,.sl 2 (x.Terms.map J0l)]]⟩) (by simp [hk,hk1,s3x,hi,J0l,e0,z0]) ?_
  rintro st2 h2 n2 hk2 ⟨s4,rfl,en,e0'⟩
  simp at hk2
  obtain ⟨bad,hbad⟩:∃ bad,bad=(((x.Terms[i]).Coeff==0 || !Jj2 (x.Terms[i]).Coeff || !J1i (x.Terms[i]).Name)||(match Jam x.Terms i with|Option.none=>false|some q => !(Op.bytesLess q (x.Terms[i]).Name))):=⟨_,rfl⟩
  refine J0e [1,3] (fun s=>s 52 = .bool bad) ?_ ?_
  ·subst hbad
   by_cases c0:(x.Terms[i]).Coeff=0
   ·simp (maxSteps:=1000000) [hk,hk1,hk2,s3x,hi,J0l,e0',en,z0,s4,c0]
   simp (maxSteps:=1000000) [hk,hk1,hk2,s3x,hi,J0l,e0',en,z0,s4,c0]
   first|refine J02 (Jeh (x.Terms[i]'hi).Coeff) (by first|simp;done|rfl) ?_|refine J03 (Jeh (x.Terms[i]'hi).Coeff) (by first|simp;done|rfl) ?_
   rintro r rfl
   cases c1:Jj2 (x.Terms[i]).Coeff
   ·simp (maxSteps:=1000000) [hk,hk1,hk2,s3x,hi,J0l,e0',en,z0,s4]
   simp (maxSteps:=1000000) [hk,hk1,hk2,s3x,hi,J0l,e0',en,z0,s4]
   first|refine J02 (J20 (x.Terms[i]'hi).Name) (by first|simp;done|rfl) ?_|refine J03 (J20 (x.Terms[i]'hi).Name) (by first|simp;done|rfl) ?_
   rintro r rfl
   unfold J1i
   cases c2:J2h (x.Terms[i]).Name
   ·simp (maxSteps:=1000000) [hk,hk1,hk2,s3x,hi,J0l,e0',en,z0,s4]
   simp (maxSteps:=1000000) [hk,hk1,hk2,s3x,hi,J0l,e0',en,z0,s4]
   first|refine J02 (J0x (x.Terms[i]'hi).Name) (by first|simp;done|rfl) ?_|refine J03 (J0x (x.Terms[i]'hi).Name) (by first|simp;done|rfl) ?_
   rintro r rfl
   cases c3:J0f (x.Terms[i]).Name
   case true=>simp (maxSteps:=1000000) [hk,hk1,hk2,s3x,hi,J0l,e0',en,z0,s4]
   cases i with
   | zero=>simp (maxSteps:=1000000) [hk,hk1,hk2,s3x,hi,J0l,e0',en,z0,s4,Jam,c0,c1,c2]
   | succ i=>
    have hi':i<x.Terms.length:=by omega
    have hwr:IntKind.i64.wrap (i:Int)=i:=J0w (by unfold LIM at hl;omega)
    simp (maxSteps:=1000000) [hk,hk1,hk2,s3x,hi,hi',J0l,e0',en,z0,s4,J7q hi',hwr,c0,c1,c2]
  intro st3 hk3 s52
  simp at hk3
  have hJ':(!bad&&J52 (some (x.Terms[i]).Name) (x.Terms.drop (i+1)))=B:=by
   rw [←hJ,hbad]
   cases ((x.Terms[i]).Coeff==0) <;> cases (Jj2 (x.Terms[i]).Coeff) <;> cases (J1i (x.Terms[i]).Name) <;> cases (Jam x.Terms i) <;> simp
  rw [←J7q hi] at hJ'
  clear hJ hbad
  cases bad
  ·simp (maxSteps:=1000000) [hk,hk1,hk2,hk3,s3x,s52,hw]
   exact hR _ _ _ (by simp [hk,hk1,hk2,hk3]) (by simp) ⟨by omega,by simp [e0'],by simpa using hJ'⟩
  ·simp (maxSteps:=1000000) [hk,hk1,hk2,hk3,s3x,s52,hw]
   simp at hJ'
   refine hret _ _ _ ?_
   simp [hJ']
 ·rintro st h n R hk s3 ⟨hn,e0,hJ⟩ hret hX
  simp at hk
  rw [List.drop_eq_nil_of_le (by omega)] at hJ
  refine J0c ?_
  refine J0e [1,3] (fun s=>s 9 = .bool false) (by simp [hk,s3,e0]) ?_
  intro st1 hk1 s9
  simp at hk1
  refine J2g s9 ?_
  simp
  refine hX _ _ _ _ ?_
  simp [J52] at hJ
  subst hJ
  simp [hk,hk1,e0]
  first|refine J02 (Jeh x.Const) (by first|simp;done|rfl) ?_|refine J03 (Jeh x.Const) (by first|simp;done|rfl) ?_
  rintro r rfl
  cases h1:Jj2 x.Const
  ·simp
  have hd:decide (x.Terms.length≤4)=decide ((x.Terms.length:Int)≤4):=by rw [decide_eq_decide];omega
  simp [hk,hk1,e0,hd]
end Go.Proofs.YtoclolkigjbcgaaGreat
