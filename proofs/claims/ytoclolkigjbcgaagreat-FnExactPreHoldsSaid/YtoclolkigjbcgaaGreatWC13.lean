/- Contracts: names in order; the names of an argument. -/
import Derived.Test.YtoclolkigjbcgaaGreatWR44
import Derived.Test.YtoclolkigjbcgaaGreatWSh
import Derived.Test.YtoclolkigjbcgaaGreatWC8
namespace Go.Proofs.YtoclolkigjbcgaaGreat
set_option maxRecDepth 40000
set_option maxHeartbeats 4000000
open Go Go.RowKit Go.Proofs
set_option linter.all false
def a299:AFn:= ⟨10,[.t 2],(.seq (.reg [Zo 2 (.mv (.k (.nil 1)))]) (.seq (.reg [Zv 4 0,Zc 5 252 [.t 4],Zv 3 5]) (.seq (.reg [Zv 6 3,Zc 7 324 [.t 6]]) (.seq (.reg [Zv 8 3,Zc 9 325 [.t 8],Zv 2 9]) .ret))))⟩
theorem a299_ok:J0a Tryz.prog Tryz.f299=some a299:=by kernel_rfl
def a319:AFn:= ⟨63,[.t 2],(.seq (.reg [Zo 2 (.mv (.k (.nil 1)))]) (.seq (.reg [Zo 7 (.bsl 1 []),Zv 3 7]) (.seq (.seq (.reg [Zo 4 (.mv (.k (.int .i64 0)))]) (.blk 0 (.loop (.seq (.seq (.reg [Zv 8 4,Zv 9 0,Zo 10 (.len false (.t 9)),Zo 11 (.bin .lss (.t 8) (.t 10))]) (.cond (.t 11) .skip (.exit 0))) (.seq (.blk 1 (.seq (.reg [Zo 5 (.mv (.k (.int .i64 0)))]) (.seq (.blk 2 (.loop (.seq (.seq (.draw (.op (Zv 14 5) (.op (Zv 15 3) (.op (Zo 16 (.len false (.t 15))) (.op (Zo 17 (.bin .lss (.t 14) (.t 16))) (.op (Zv 18 17) (.op ⟨some 19,.mv (.t 3),(some (18,true))⟩ (.op ⟨some 20,.mv (.t 5),(some (18,true))⟩ (.op ⟨some 21,.ixa 1 (.t 19) (.t 20),(some (18,true))⟩ (.op ⟨some 22,.ld false 1 (.t 21),(some (18,true))⟩ (.op ⟨some 23,.mv (.t 0),(some (18,true))⟩ (.op ⟨some 24,.mv (.t 4),(some (18,true))⟩ (.op ⟨some 25,.ixa 1 (.t 23) (.t 24),(some (18,true))⟩ (.op ⟨some 26,.ld false 1 (.t 25),(some (18,true))⟩ (.op ⟨some 27,.bin .lss (.t 22) (.t 26),(some (18,true))⟩ (.op (Zo 28 (.pick (.t 18) (.t 27) (.k (.bool false)))) .fin)))))))))))))))) (.cond (.t 28) .skip (.exit 2))) (.blk 3 (.reg [Zv 29 5,Zo 30 (.bin .add (.t 29) (.k (.int .i64 1))),Zv 5 30]))))) (.seq (.seq (.draw (.op (Zv 31 5) (.op (Zv 32 3) (.op (Zo 33 (.len false (.t 32))) (.op (Zo 34 (.bin .lss (.t 31) (.t 33))) (.op (Zv 35 34) (.op ⟨some 36,.mv (.t 3),(some (35,true))⟩ (.op ⟨some 37,.mv (.t 5),(some (35,true))⟩ (.op ⟨some 38,.ixa 1 (.t 36) (.t 37),(some (35,true))⟩ (.op ⟨some 39,.ld false 1 (.t 38),(some (35,true))⟩ (.op ⟨some 40,.mv (.t 0),(some (35,true))⟩ (.op ⟨some 41,.mv (.t 4),(some (35,true))⟩ (.op ⟨some 42,.ixa 1 (.t 40) (.t 41),(some (35,true))⟩ (.op ⟨some 43,.ld false 1 (.t 42),(some (35,true))⟩ (.op ⟨some 44,.bin .eql (.t 39) (.t 43),(some (35,true))⟩ (.op (Zo 45 (.pick (.t 35) (.t 44) (.k (.bool false)))) .fin)))))))))))))))) (.cond (.t 45) (.exit 1) .skip)) (.seq (.reg [Zo 46 (.bsl 1 []),Zv 47 3,Zv 48 5,Zo 49 (.slc false 1 (.t 47) (some (.t 48)) Option.none),Zo 50 (.app 16 1 (.t 46) (.t 49)),Zv 6 50]) (.draw (.op (Zv 51 3) (.op (Zv 52 5) (.op (Zo 53 (.slc false 1 (.t 51) Option.none (some (.t 52)))) (.op (Zv 54 0) (.op (Zv 55 4) (.op (Zo 56 (.ixa 1 (.t 54) (.t 55))) (.op (Zl 57 false 1 56) (.op (Zv 60 6) (.hop (Zo 58 (.bsl 1 [.t 57])) [(.slc false 1 (.t 51) Option.none (some (.t 52)))] (.hop (Zo 59 (.app 16 1 (.t 53) (.t 58))) [] (.hop (Zo 61 (.app 16 1 (.t 59) (.t 60))) [] (.hop (Zv 3 61) [] .fin)))))))))))))))))) (.reg [Zv 12 4,Zo 13 (.bin .add (.t 12) (.k (.int .i64 1))),Zv 4 13])))))) (.seq (.reg [Zv 62 3,Zv 2 62]) .ret))))⟩
theorem a319_ok:J0a Tryz.prog Tryz.f319=some a319:=by kernel_rfl
theorem Jzo {h:Heap}{n id:Nat}{l:List Str}{K:AV→Heap→Nat→Prop}(hB:h id=some ⟨false,1,J0d l⟩) (hK:K (.tup []) (upd h id (some ⟨false,1,J0d (J9n l)⟩)) n):J30 Tryz.prog 324 [.ref id 0 l.length] h n K:=by
 refine Jb6 (l2:=J9n l) (r := .tup []) (by unfold J73;rw [Tryz.func324];rfl) hB (Jec l) (fun s hs => .inl (Jhi.1 hs)) (.inl ⟨rfl,fun _ _ _=>trivial⟩) ?_ ?_ hK
 ·intro b cap w hH hb _ hlim
  unfold LIM at hlim
  refine (Tryz.slices_Sort_string b 0 cap l w hH hb (by omega)).mono ?_
  rintro e w' ⟨rfl,q,os,rfl⟩
  exact ⟨⟨_,rfl,fun _=>rfl,fun m h=>by cases h⟩,q,os,rfl⟩
 ·intro _ w
  refine (Tryz.slices_Sort_string_none Option.none 0 w).mono ?_
  rintro e w' ⟨rfl,rfl⟩
  exact ⟨⟨_,rfl,fun _=>rfl,fun m h=>by cases h⟩,rfl⟩
theorem Joy {h:Heap}{n id:Nat}{l:List Str}{K:AV→Heap→Nat→Prop}(hB:h id=some ⟨false,1,J0d l⟩)
 (hK:K (.ref id 0 (Go.Lib.compact l).length) (upd h id (some ⟨false,1,J0d (Go.Lib.compact l++List.replicate (l.length - (Go.Lib.compact l).length) [])⟩)) n):J30 Tryz.prog 325 [.ref id 0 l.length] h n K:=by
 have hl:=Ja6 l
 refine Jb6 (l2:=Go.Lib.compact l++List.replicate (l.length - (Go.Lib.compact l).length) []) (r := .ref id 0 (Go.Lib.compact l).length) (by unfold J73;rw [Tryz.func325];rfl) hB (by simp;omega) ?_ (.inr ⟨_,hl,rfl⟩) ?_ ?_ hK
 ·intro s hs
  rcases List.mem_append.1 hs with hs|hs
  ·left
   unfold Go.Lib.compact Go.Lib.compactUpTo at hs
   obtain ⟨j,hj,rfl⟩:=List.mem_map.1 hs
   have hj:=List.mem_range.1 (List.mem_filter.1 hj).1
   simp [hj]
  ·right;exact (List.mem_replicate.1 hs).2
 ·intro b cap w hH hb hcap hlim
  unfold LIM at hlim
  refine (Tryz.slices_Compact_string b 0 cap l w hH (by omega) hcap).mono ?_
  rintro e w' ⟨rfl,q,rfl⟩
  exact ⟨⟨_,rfl,fun h=>by (cases h),fun m h=>by (cases h;rfl)⟩,q,#[],by unfold J7l;rw [Go.Sort.grow_empty]⟩
 ·intro hl0 w
  subst hl0
  refine (Tryz.slices_Compact_string_empty Option.none 0 w).mono ?_
  rintro e w' ⟨rfl,rfl⟩
  exact ⟨⟨_,rfl,fun h=>by (cases h),fun m h=>rfl⟩,rfl⟩
theorem J49 (l:List Str) (hl:l.length≤1048576):Holds Tryz.prog 299 [.sl 1 (J0d l)] (fun r=>r = .us 1 (J0d (J4r l))):=by
 refine J02 Tryz.func299 a299_ok rfl (by simp [a299]) ?_
 simp [a299]
 first|refine J00 (J9d l hl) (by first|simp;done|rfl) ?_|refine J01 (J9d l hl) (by first|simp;done|rfl) ?_
 rintro r rfl
 simp
 refine Jzo (l:=l) (by simp) ?_
 simp
 rw [←Jec l]
 refine Joy (l:=J9n l) (by simp) ?_
 have h:=Ja6 (J9n l)
 have h2:List.take (Go.Lib.compact (J9n l)).length (J0d (Go.Lib.compact (J9n l)++List.replicate ((J9n l).length - (Go.Lib.compact (J9n l)).length) []))=J0d (J4r l):=by
  unfold J0d;rw [List.map_append,List.take_left' (by simp)];rfl
 simp [h2]
set_option maxHeartbeats 1000000 in
theorem J70 (l:List Str) (hl:l.length≤1048576):Holds Tryz.prog 319 [.sl 1 (J0d l)] (fun r=>r = .us 1 (J0d (J4r l))):=by
 refine J02 Tryz.func319 a319_ok rfl (by simp [a319]) ?_
 simp [a319]
 refine J0k [0] 4 l.length (fun i s h n=>∃ (acc:List Str) (id:Nat),s 3 = .ref id 0 acc.length∧h id=some ⟨false,1,J0d acc⟩∧id<n∧acc.length≤i∧SS acc∧∀ x,x∈acc↔x∈l.take i)
  (by unfold LIM;omega) (by simp) ⟨[],0,by simp,by simp [J0d],by simp,by simp,by simp [SS],by simp⟩ ?_ ?_
 ·rintro i s h n R hi hg hk s4 hw ⟨acc,id,s3,eid,hidn,hai,hS,hmem⟩ hR _ _
  simp at hk
  simp [hk,s4,hi,hg]
  intro _
  refine Jor (fun m s' h' n'=>∃ k:Nat,m=acc.length - k∧k≤acc.length∧s' 0 = .sl 1 (J0d l)∧s' 4 = .int .i64 i∧s' 3 = .ref id 0 acc.length∧s' 5 = .int .i64 k∧(∀ j,∀ hj:j<acc.length,j<k→bl acc[j] l[i]=true)∧h'=h∧n'=n) acc.length
   ⟨0,by simp,Nat.zero_le _,by simp [hk],by simp [s4],by simp [s3],by simp,fun j _ hj=>absurd hj (Nat.not_lt_zero _),rfl,rfl⟩ ?_
  rintro m s' h' n' R' ⟨k,rfl,hka,s0',s4',s3',s5',hlt,rfl,rfl⟩ hR' _ hX'
  have rest:∀ s'':Env,s'' 0 = .sl 1 (J0d l)→s'' 4 = .int .i64 i→s'' 3 = .ref id 0 acc.length→s'' 5 = .int .i64 k→(∀ hk:k<acc.length,bl acc[k] l[i]=false)→R' (.exit 2) s'' h' n':=by
   intro s2 t0 t4 t3 t5 hge
   refine hX' _ _ _ _ ?_
   obtain ⟨hS',hm'⟩:=Jlr hS hka hlt hge
   have hmem':∀ x,x∈Jey acc l[i] k↔x∈l.take (i+1):=fun x=>by
    rw [hm',hmem,List.take_succ_eq_append_getElem hi,List.mem_append,List.mem_singleton]
    exact Or.comm
   have hll:(Jey acc l[i] k).length≤i+1:=by
    unfold Jey;split
    ·omega
    ·simp;omega
   by_cases he:acc[k]? = some l[i]
   ·have hk1:k<acc.length:=(List.getElem?_eq_some_iff.1 he).1
    have hek:acc[k]=l[i]:=by rw [List.getElem?_eq_getElem hk1] at he;exact Option.some.inj he
    have hia:Jey acc l[i] k=acc:=by unfold Jey;rw [if_pos he]
    rw [hia] at hS' hmem' hll
    simp [t0,t4,t3,t5,eid,hk1,hi,hek,hw]
    exact hR _ _ _ (by simp [t0,hk]) (by simp) ⟨acc,id,by simp [t3],eid,hidn,by omega,hS',hmem'⟩
   ·have hia:Jey acc l[i] k=acc.take k++l[i]::acc.drop k:=by unfold Jey;rw [if_neg he]
    have n0:¬id=n':=by omega
    have n1:¬id=n'+1:=by omega
    have n2:¬id=n'+1+1:=by omega
    have n3:¬n'=id:=by omega
    have n4:¬n'+1=id:=by omega
    have n5:¬n'+1+1=id:=by omega
    have n6:¬n'+1+1+1=id:=by omega
    have n7:¬id=n'+1+1+1:=by omega
    have q1:k+(acc.length - k)=acc.length:=by omega
    have q2:acc.length≤1048576:=by omega
    have q3:min k acc.length=k:=Nat.min_eq_left hka
    by_cases hk1:k<acc.length
    ·have hek:¬acc[k]=l[i]:=fun e=>he (by rw [List.getElem?_eq_getElem hk1,e])
     simp [t0,t4,t3,t5,eid,hk1,hi,hek,hw,J3z,asI,n0,n1,n2,n3,n4,n5,n6,n7,q1,q3,hka]
     have hlim:(acc.length - k)*16≤LIM∧(k+1)*16≤LIM∧(k+1+(acc.length - k))*16≤LIM:=by unfold LIM;omega
     refine ⟨hlim.1,hlim.2.1,hlim.2.2,?_⟩
     have hln:(acc.take k++l[i]::acc.drop k).length=k+1+(acc.length - k):=by simp;omega
     refine hR _ _ _ (by simp [t0,hk]) (by simp) ⟨acc.take k++l[i]::acc.drop k,n'+4,?_,?_,by omega,by rw [←hia];exact hll,by rw [←hia];exact hS',by rw [←hia];exact hmem'⟩
     ·rw [hln];simp
     ·simp [J0d,List.take_of_length_le]
      rw [List.take_of_length_le (by simp;omega)]
      simp
    ·simp [t0,t4,t3,t5,eid,hk1,hi,hw,J3z,asI,n0,n1,n2,n3,n4,n5,n6,n7,q1,q3,hka]
     have hlim:(acc.length - k)*16≤LIM∧(k+1)*16≤LIM∧(k+1+(acc.length - k))*16≤LIM:=by unfold LIM;omega
     refine ⟨hlim.1,hlim.2.1,hlim.2.2,?_⟩
     have hln:(acc.take k++l[i]::acc.drop k).length=k+1+(acc.length - k):=by simp;omega
     refine hR _ _ _ (by simp [t0,hk]) (by simp) ⟨acc.take k++l[i]::acc.drop k,n'+4,?_,?_,by omega,by rw [←hia];exact hll,by rw [←hia];exact hS',by rw [←hia];exact hmem'⟩
     ·rw [hln];simp
     ·simp [J0d,List.take_of_length_le]
      rw [List.take_of_length_le (by simp;omega)]
      simp
  by_cases hk1:k<acc.length
  ·simp [s0',s4',s3',s5',eid,hk1,hi]
   refine ⟨fun hb => ?_,fun hb => ?_⟩
   ·refine hR' (acc.length - (k+1)) _ _ _ (by omega) ⟨k+1,rfl,by omega,by simp [s0'],by simp [s4'],by simp [s3'],by simp;exact J19 (by omega),fun j hj hjk => ?_,rfl,rfl⟩
    by_cases hjk':j<k
    ·exact hlt j hj hjk'
    ·have:j=k:=by omega
     subst this;exact hb
   ·exact rest _ (by simp [s0']) (by simp [s4']) (by simp [s3']) (by simp [s5']) fun _=>hb
  ·simp [s0',s4',s3',s5',eid,hk1,hi]
   exact rest _ (by simp [s0']) (by simp [s4']) (by simp [s3']) (by simp [s5']) fun h=>absurd h hk1
 ·rintro s h n R hk s4 ⟨acc,id,s3,eid,hidn,hai,hS,hmem⟩ hret hX
  simp at hk
  rw [List.take_of_length_le (Nat.le_refl _)] at hmem
  have:=Jnp hS hmem
  subst this
  simp [hk,s4]
  intro _
  refine hX _ _ _ _ ?_
  simp [s3,eid]
def a239:AFn:= ⟨20,[.t 2],(.seq (.reg [Zo 1 (.boxv (.t 0)),Zo 2 (.mv (.k (.nil 1)))]) (.seq (.reg [Zo 3 (.mv (.k (.nil 1)))]) (.seq (.seq (.reg [Zf 6 1 1,Zl 7 false 1 6,Zo 8 (.len false (.t 7)),Zo 9 (.mv (.k (.int .i64 0)))]) (.blk 0 (.loop (.seq (.reg [Zo 10 (.bin .lss (.t 9) (.t 8))]) (.seq (.cond (.t 10) .skip (.exit 0)) (.seq (.blk 1 (.seq (.reg [Zo 11 (.ixa 2 (.t 7) (.t 9)),Zl 12 true 2 11,Zo 5 (.box [(.int .i64 0),(.str [])]),⟨no,.st 2 (.t 5) (.t 12),no⟩]) (.reg [Zv 13 3,Zf 14 1 5,Zl 15 false 1 14,Zo 16 (.bsl 1 [.t 15]),Zo 17 (.app 16 1 (.t 13) (.t 16)),Zv 3 17]))) (.reg [Zo 18 (.bin .add (.t 9) (.k (.int .i64 1))),Zv 9 18]))))))) (.seq (.reg [Zv 19 3,Zv 2 19]) .ret))))⟩
theorem a239_ok:J0a Tryz.prog Tryz.f239=some a239:=by kernel_rfl
def a243:AFn:= ⟨28,[.t 2],(.seq (.reg [Zo 1 (.boxv (.t 0)),Zo 2 (.mv (.k (.nil 1)))]) (.seq (.reg [Zo 3 (.mv (.k (.nil 1)))]) (.seq (.seq (.reg [Zf 6 1 1,Zl 7 false 1 6,Zo 8 (.len false (.t 7)),Zo 9 (.mv (.k (.int .i64 0)))]) (.blk 0 (.loop (.seq (.reg [Zo 10 (.bin .lss (.t 9) (.t 8))]) (.seq (.cond (.t 10) .skip (.exit 0)) (.seq (.blk 1 (.seq (.reg [Zo 11 (.ixa 2 (.t 7) (.t 9)),Zl 12 true 2 11,Zo 5 (.box [(.int .i64 0),(.nil 2)]),⟨no,.st 2 (.t 5) (.t 12),no⟩]) (.reg [Zv 13 3,Zl 14 true 2 5,Zc 15 239 [.t 14],Zo 16 (.app 16 1 (.t 13) (.t 15)),Zv 3 16]))) (.reg [Zo 17 (.bin .add (.t 9) (.k (.int .i64 1))),Zv 9 17]))))))) (.seq (.seq (.reg [Zf 18 2 1,Zl 19 false 1 18,Zo 20 (.bin .neq (.t 19) (.k (.str [])))]) (.cond (.t 20) (.reg [Zv 21 3,Zf 22 2 1,Zl 23 false 1 22,Zo 24 (.bsl 1 [.t 23]),Zo 25 (.app 16 1 (.t 21) (.t 24)),Zv 3 25]) .skip)) (.seq (.reg [Zv 26 3,Zc 27 299 [.t 26],Zv 2 27]) .ret)))))⟩
theorem a243_ok:J0a Tryz.prog Tryz.f243=some a243:=by kernel_rfl
def a288:AFn:= ⟨48,[.t 2],(.seq (.reg [Zo 1 (.boxv (.t 0)),Zo 2 (.mv (.k (.nil 1)))]) (.seq (.reg [Zo 6 (.bsl 1 []),Zv 3 6]) (.seq (.seq (.reg [Zo 4 (.mv (.k (.int .i64 0)))]) (.blk 0 (.loop (.seq (.seq (.reg [Zv 7 4,Zf 8 1 1,Zl 9 false 1 8,Zo 10 (.len false (.t 9)),Zo 11 (.bin .lss (.t 7) (.t 10))]) (.cond (.t 11) .skip (.exit 0))) (.seq (.blk 1 (.seq (.reg [Zo 5 (.mv (.k (.int .i64 0)))]) (.blk 2 (.loop (.seq (.seq (.reg [Zv 14 5,Zf 15 1 1,Zl 16 false 1 15,Zv 17 4,Zo 18 (.ixa 2 (.t 16) (.t 17)),Zf 19 1 18,Zl 20 false 1 19,Zo 21 (.len false (.t 20)),Zo 22 (.bin .lss (.t 14) (.t 21))]) (.cond (.t 22) .skip (.exit 2))) (.seq (.blk 3 (.reg [Zv 25 3,Zf 26 1 1,Zl 27 false 1 26,Zv 28 4,Zo 29 (.ixa 2 (.t 27) (.t 28)),Zf 30 1 29,Zl 31 false 1 30,Zv 32 5,Zo 33 (.ixa 2 (.t 31) (.t 32)),Zf 34 1 33,Zl 35 false 1 34,Zo 36 (.bsl 1 [.t 35]),Zo 37 (.app 16 1 (.t 25) (.t 36)),Zv 3 37])) (.reg [Zv 23 5,Zo 24 (.bin .add (.t 23) (.k (.int .i64 1))),Zv 5 24]))))))) (.reg [Zv 12 4,Zo 13 (.bin .add (.t 12) (.k (.int .i64 1))),Zv 4 13])))))) (.seq (.seq (.reg [Zf 38 2 1,Zl 39 false 1 38,Zo 40 (.bin .neq (.t 39) (.k (.str [])))]) (.cond (.t 40) (.reg [Zv 41 3,Zf 42 2 1,Zl 43 false 1 42,Zo 44 (.bsl 1 [.t 43]),Zo 45 (.app 16 1 (.t 41) (.t 44)),Zv 3 45]) .skip)) (.seq (.reg [Zv 46 3,Zc 47 319 [.t 46],Zv 2 47]) .ret)))))⟩
theorem a288_ok:J0a Tryz.prog Tryz.f288=some a288:=by kernel_rfl
def J6h (s:DSum):List Str:=s.Terms.map (·.Name)
def J9k:List DSum→List Str
 | []=>[]
 | s::l=>J6h s++J9k l
def J6x (a:DArg):List Str:=J9k a.Heads++if a.Base=[] then [] else [a.Base]
theorem Jbd:∀ l:List DSum,(J9k l).length≤wL Jbm l
 | []=>Nat.zero_le _
 | s::l=>by
  have h1:=Jbd l
  have h2:=J2b J7g s.Terms
  unfold wL at h1 ⊢
  simp only [J9k,J6h,List.length_append,List.length_map,List.length_cons,List.map_cons,List.sum_cons]
  rw [show Jbm s=wL J7g s.Terms from rfl]
  omega
theorem Jen (a:DArg) (hw:Jae a≤1048576):(J6x a).length≤1048576:=by
 have h1:=Jbd a.Heads
 unfold Jae J65 at hw
 unfold J6x
 rw [List.length_append]
 split
 ·simp;omega
 ·rename_i hb
  have:0<a.Base.length:=List.length_pos_iff.2 hb
  simp;omega
theorem J4y (x:DSum) (hw:x.Terms.length≤1048576):Holds Tryz.prog 239 [.agg (J1g x)] (fun r=>r = .us 1 (J0d (J6h x))):=by
 refine J02 Tryz.func239 a239_ok rfl (by simp [a239]) ?_
 simp [a239,J1g]
 intro _
 refine J0k [7,8] 9 x.Terms.length (fun i s h n=>(i=0∧s 3 = .nil 1)∨∃ id,id<n∧s 3 = .ref id 0 i∧h id=some ⟨false,1,(J0d (J6h x)).take i⟩) (by unfold LIM;omega) (by simp) (by simp) ?_ ?_
 ·rintro i s h n R hi hg hk s9 hw9 hJ hR _ _
  simp at hk
  have htk:(J0d (J6h x)).take (i+1)=(J0d (J6h x)).take i++[[.str (x.Terms[i]).Name]]:=by
   rw [List.take_succ_eq_append_getElem (by simpa [J6h] using hi)];simp [J0d,J6h]
  rcases hJ with ⟨rfl,s3⟩|⟨id,hid,s3,eid⟩
  ·simp [hk,s9,hi,hw9,s3,J10]
   refine ⟨by unfold LIM;omega,?_⟩
   exact hR _ _ _ (by simp [hk]) (by simp;exact J19 (by omega)) (.inr ⟨n+2,by omega,by simp,by simp [htk]⟩)
  ·have n0:¬id=n:=by omega
   have n1:¬id=n+1:=by omega
   have n3:¬n+1=id:=by omega
   have n4:¬n=id:=by omega
   simp [hk,s9,hi,hw9,s3,J10,eid,n0,n1,n3,n4]
   refine ⟨by simp [J6h];omega,by unfold LIM;omega,?_⟩
   exact hR _ _ _ (by simp [hk]) (by simp) (.inr ⟨n+2,by omega,by simp,by simp [htk,List.take_take]⟩)
 ·rintro s h n R hk s9 hJ hret hX
  simp at hk
  simp [hk,s9]
  refine hX _ _ _ _ ?_
  rcases hJ with ⟨h0,s3⟩|⟨id,hid,s3,eid⟩
  ·have:x.Terms=[]:=List.eq_nil_of_length_eq_zero h0
   simp [s3,J6h,this,J0d]
  ·have hl:(J6h x).length=x.Terms.length:=by simp [J6h]
   have ht:List.take x.Terms.length (J0d (J6h x))=J0d (J6h x):=List.take_of_length_le (by simp [hl])
   simp [s3,eid,hl,ht]
set_option maxHeartbeats 1000000 in
theorem J7j (a:DArg) (hw:Jae a≤1048576):Holds Tryz.prog 243 [.agg (J0x a)] (fun r=>r = .us 1 (J0d (J4r (J6x a)))):=by
 have hw':=hw
 unfold Jae J65 at hw'
 have hsl:=Jbd a.Heads
 have hll:=J2b Jbm a.Heads
 refine J02 Tryz.func243 a243_ok rfl (by simp [a243]) ?_
 simp [a243,J0x]
 intro _
 generalize hT:J9k a.Heads=T at *
 have hTl:T.length≤1048576:=by omega
 refine J0k [1,7,8] 9 a.Heads.length (fun i s h n=>h 0=some ⟨true,3,[[.bool a.Lst,.sl 2 (a.Heads.map J1g),.str a.Base]]⟩∧0<n∧∃ acc:List Str,acc++J9k (a.Heads.drop i)=T∧((acc=[]∧s 3 = .nil 1)∨∃ id,0<id∧id<n∧s 3 = .ref id 0 acc.length∧h id=some ⟨false,1,J0d acc⟩))
  (by unfold LIM;omega) (by simp) ⟨by simp,by simp,[],by simpa using hT,.inl ⟨rfl,by simp⟩⟩ ?_ ?_
 ·rintro i s h n R hi hg hk s9 hw9 ⟨e0,hn,acc,hJ,hJ2⟩ hR _ _
  simp at hk
  rw [List.drop_eq_getElem_cons hi] at hJ
  simp only [J9k] at hJ
  have hal:=congrArg List.length hJ
  simp only [List.length_append] at hal
  have hwt:(a.Heads[i]).Terms.length≤1048576:=by
   have:=J3o (w:=Jbm) (List.getElem_mem hi)
   rw [show Jbm a.Heads[i]=wL J7g (a.Heads[i]).Terms from rfl] at this
   have:=J2b J7g (a.Heads[i]).Terms
   omega
  have z0:¬0=n:=by omega
  have z1:¬0=n+1:=by omega
  have z2:¬0=n+1+1:=by omega
  have z3:¬n=0:=by omega
  rcases hJ2 with ⟨rfl,s3⟩|⟨id,hid0,hid,s3,eid⟩
  ·simp [hk,s9,hi,hw9,s3,J1g]
   first|refine J00 (J4y (a.Heads[i]'hi) hwt) (by first|simp [J1g];done|rfl) ?_|refine J01 (J4y (a.Heads[i]'hi) hwt) (by first|simp [J1g];done|rfl) ?_
   rintro r rfl
   simp [hk,s9,hi,hw9,s3]
   refine ⟨by unfold LIM;omega,?_⟩
   exact hR _ _ _ (by simp [hk]) (by simp) ⟨by simp [e0,z0,z1,z2,z3],by omega,J6h a.Heads[i],by simpa using hJ,.inr ⟨n+2,by omega,by omega,by simp,by simp⟩⟩
  ·have n0:¬id=n:=by omega
   have n1:¬id=n+1:=by omega
   have n2:¬id=n+1+1:=by omega
   have n3:¬n+1=id:=by omega
   have n4:¬n=id:=by omega
   have n5:¬0=id:=by omega
   have n6:¬id=0:=by omega
   simp [hk,s9,hi,hw9,s3,J1g,eid,n0]
   first|refine J00 (J4y (a.Heads[i]'hi) hwt) (by first|simp [J1g];done|rfl) ?_|refine J01 (J4y (a.Heads[i]'hi) hwt) (by first|simp [J1g];done|rfl) ?_
   rintro r rfl
   simp [hk,s9,hi,hw9,s3,eid,n0,n1,n2,n3,n4,n5,n6]
   refine ⟨by unfold LIM;omega,?_⟩
   exact hR _ _ _ (by simp [hk]) (by simp) ⟨by simp [e0,z0,z1,z2,z3,n5],by omega,acc++J6h a.Heads[i],by rw [List.append_assoc];exact hJ,.inr ⟨n+2,by omega,by omega,by simp,by simp [J0d]⟩⟩
 ·rintro s h n R hk s9 ⟨e0,hn,acc,hJ,hJ2⟩ hret hX
  simp at hk
  rw [List.drop_eq_nil_of_le (by omega)] at hJ
  simp only [J9k,List.append_nil] at hJ
  subst hJ
  simp [hk,s9]
  refine hX _ _ _ _ ?_
  have hA:J6x a=acc++if a.Base=[] then [] else [a.Base]:=by unfold J6x;rw [hT]
  have hAl:(J6x a).length≤1048576:=Jen a hw
  rw [hA] at hAl ⊢
  clear hX hret
  by_cases hb:a.Base=[]
  ·simp only [hb,if_true,List.append_nil] at hAl ⊢
   rcases hJ2 with ⟨rfl,s3⟩|⟨id,hid0,hid,s3,eid⟩
   ·simp [hk,e0,hb,s3]
    first|refine J00 (J49 [] hAl) (by first|simp [J0d];done|rfl) ?_|refine J01 (J49 [] hAl) (by first|simp [J0d];done|rfl) ?_
    rintro r rfl
    simp
   ·simp [hk,e0,hb,s3]
    first|refine J00 (J49 acc hAl) (by first|simp [eid];done|rfl) ?_|refine J01 (J49 acc hAl) (by first|simp [eid];done|rfl) ?_
    rintro r rfl
    simp
  ·simp only [hb,if_false] at hAl ⊢
   have hlim:(acc.length+1)*16≤LIM:=by simp at hAl;unfold LIM;omega
   rcases hJ2 with ⟨rfl,s3⟩|⟨id,hid0,hid,s3,eid⟩
   ·have z0:¬0=n:=by omega
    simp [hk,e0,hb,s3]
    refine ⟨by unfold LIM;omega,?_⟩
    first|refine J00 (J49 ([]++[a.Base]) hAl) (by first|simp [J0d];done|rfl) ?_|refine J01 (J49 ([]++[a.Base]) hAl) (by first|simp [J0d];done|rfl) ?_
    rintro r rfl
    simp
   ·have n0:¬id=n:=by omega
    have n3:¬n=id:=by omega
    simp [hk,e0,hb,s3,eid,n0,n3]
    refine ⟨hlim,?_⟩
    have ht:List.take (acc.length+1) (J0d acc++[[AV.str a.Base]])=J0d (acc++[a.Base]):=by rw [List.take_of_length_le (by simp)];simp [J0d]
    first|refine J00 (J49 (acc++[a.Base]) hAl) (by first|simp [ht];done|rfl) ?_|refine J01 (J49 (acc++[a.Base]) hAl) (by first|simp [ht];done|rfl) ?_
    rintro r rfl
    simp
set_option maxHeartbeats 1000000 in
theorem Jfo (a:DArg) (hw:Jae a≤1048576):Holds Tryz.prog 288 [.agg (J0x a)] (fun r=>r = .us 1 (J0d (J4r (J6x a)))):=by
 have hw':=hw
 unfold Jae J65 at hw'
 have hsl:=Jbd a.Heads
 have hll:=J2b Jbm a.Heads
 refine J02 Tryz.func288 a288_ok rfl (by simp [a288]) ?_
 simp [a288,J0x]
 generalize hT:J9k a.Heads=T at *
 have hTl:T.length≤1048576:=by omega
 refine J0k [1] 4 a.Heads.length (fun i s h n=>h 0=some ⟨true,3,[[.bool a.Lst,.sl 2 (a.Heads.map J1g),.str a.Base]]⟩∧0<n∧∃ (acc:List Str) (id:Nat),acc++J9k (a.Heads.drop i)=T∧0<id∧id<n∧s 3 = .ref id 0 acc.length∧h id=some ⟨false,1,J0d acc⟩)
  (by unfold LIM;omega) (by simp) ⟨by simp,by simp,[],1,by simpa using hT,by omega,by omega,by simp,by simp [J0d]⟩ ?_ ?_
 ·rintro i s h n R hi hg hk s4 hw4 ⟨e0,hn,acc,id,hJ,hid0,hid,s3,eid⟩ hR _ _
  simp at hk
  rw [List.drop_eq_getElem_cons hi] at hJ
  simp only [J9k] at hJ
  have hwt:(a.Heads[i]).Terms.length≤1048576:=by
   have:=J3o (w:=Jbm) (List.getElem_mem hi)
   rw [show Jbm a.Heads[i]=wL J7g (a.Heads[i]).Terms from rfl] at this
   have:=J2b J7g (a.Heads[i]).Terms
   omega
  simp [hk,s4,hi,hg,e0]
  intro _
  refine J0k [1,4] 5 (a.Heads[i]).Terms.length (fun j s h n=>h 0=some ⟨true,3,[[.bool a.Lst,.sl 2 (a.Heads.map J1g),.str a.Base]]⟩∧0<n∧∃ (acc:List Str) (id:Nat),acc++((J6h a.Heads[i]).drop j++J9k (a.Heads.drop (i+1)))=T∧0<id∧id<n∧s 3 = .ref id 0 acc.length∧h id=some ⟨false,1,J0d acc⟩)
   (by unfold LIM;omega) (by simp) ⟨by simp [e0],hn,acc,id,by simpa using hJ,hid0,hid,by simp [s3],by simp [eid]⟩ ?_ ?_
  ·rintro j s2 h2 n2 R2 hj hgj hk2 s5 hw5 ⟨e02,hn2,acc2,id2,hJ2,hid02,hid2,s32,eid2⟩ hR2 _ _
   simp at hk2
   rw [List.drop_eq_getElem_cons (by simpa [J6h] using hj)] at hJ2
   have hal:=congrArg List.length hJ2
   simp at hal
   have n0:¬id2=n2:=by omega
   have n1:¬id2=n2+1:=by omega
   have n3:¬n2+1=id2:=by omega
   have n4:¬n2=id2:=by omega
   have n5:¬0=id2:=by omega
   have n6:¬id2=0:=by omega
   have z0:¬0=n2:=by omega
   have z1:¬0=n2+1:=by omega
   have z3:¬n2=0:=by omega
   simp [hk2,hk,s4,s5,hj,hgj,hw5,hi,e02,J1g,J10,s32,eid2,n0,n1,n3,n4,n5,n6,z0,z1,z3]
   intro _
   refine ⟨by unfold LIM;omega,?_⟩
   refine hR2 _ _ _ (by simp [hk2,hk,s4]) (by simp) ⟨by simp [e02,n5,z0,z1,z3],by omega,acc2++[(a.Heads[i]).Terms[j].Name],n2+1,?_,by omega,by omega,by simp,by simp [J0d]⟩
   rw [←hJ2]
   simp [J6h]
  ·rintro s2 h2 n2 R2 hk2 s5 ⟨e02,hn2,acc2,id2,hJ2,hid02,hid2,s32,eid2⟩ hret2 hX2
   simp at hk2
   rw [List.drop_eq_nil_of_le (by simp [J6h]),List.nil_append] at hJ2
   simp [hk2,hk,s4,s5,hi,e02,J1g]
   intro _
   refine hX2 _ _ _ _ ?_
   simp [hk2,hk,s4,hw4]
   exact hR _ _ _ (by simp [hk2,hk]) (by simp) ⟨e02,hn2,acc2,id2,hJ2,hid02,hid2,by simp [s32],eid2⟩
 ·rintro s h n R hk s4 ⟨e0,hn,acc,id,hJ,hid0,hid,s3,eid⟩ hret hX
  simp at hk
  rw [List.drop_eq_nil_of_le (by omega)] at hJ
  simp only [J9k,List.append_nil] at hJ
  subst hJ
  simp [hk,s4,e0]
  intro _
  refine hX _ _ _ _ ?_
  have hA:J6x a=acc++if a.Base=[] then [] else [a.Base]:=by unfold J6x;rw [hT]
  have hAl:(J6x a).length≤1048576:=Jen a hw
  rw [hA] at hAl ⊢
  clear hX hret
  by_cases hb:a.Base=[]
  ·simp only [hb,if_true,List.append_nil] at hAl ⊢
   simp [hk,e0,hb,s3]
   first|refine J00 (J70 acc hAl) (by first|simp [eid];done|rfl) ?_|refine J01 (J70 acc hAl) (by first|simp [eid];done|rfl) ?_
   rintro r rfl
   simp
  ·simp only [hb,if_false] at hAl ⊢
   have hlim:(acc.length+1)*16≤LIM:=by simp at hAl;unfold LIM;omega
   have n0:¬id=n:=by omega
   have n3:¬n=id:=by omega
   simp [hk,e0,hb,s3,eid,n0,n3]
   refine ⟨hlim,?_⟩
   have ht:List.take (acc.length+1) (J0d acc++[[AV.str a.Base]])=J0d (acc++[a.Base]):=by rw [List.take_of_length_le (by simp)];simp [J0d]
   first|refine J00 (J70 (acc++[a.Base]) hAl) (by first|simp [ht];done|rfl) ?_|refine J01 (J70 (acc++[a.Base]) hAl) (by first|simp [ht];done|rfl) ?_
   rintro r rfl
   simp
theorem Jz5 {s:Env}{k:Nat}{v:AV} : J5c s (some k) v k=v:=by simp
theorem Jz0 {s:Env}{k j:Nat}{v:AV}(hj:¬j=k):J5c s (some k) v j=s j:=by simp [hj]
theorem K5n {α:Type}{f:Nat→α}{k:Nat}{v:α} : upd f k v k=v:=by simp
theorem Jm1 {α:Type}{f:Nat→α}{k j:Nat}{v:α}(hj:¬j=k):upd f k v j=f j:=by simp [hj]
attribute [simp ↓ high] Jz5 Jz0 K5n Jm1
def Jxh (raw:Bool) (o:Option AV):Option AV:=if raw then o else o.map dr
@[simp ↓ high] theorem K91 (o:Option AV):Jxh true o=o:=by unfold Jxh;rw [if_pos (by simp)]
@[simp ↓ high] theorem Ka7 (o:Option AV):Jxh false o=o.map dr:=by unfold Jxh;rw [if_neg (by simp)]
def Jy5 (raw b:Bool) (l:List AV):Option AV:=if b then some (.agg (if raw then l else drl l)) else Option.none
@[simp ↓ high] theorem K9b (l:List AV):Jy5 true true l=some (.agg l):=by unfold Jy5;rw [if_pos (by simp),if_pos (by simp)]
@[simp ↓ high] theorem Ka5 (l:List AV):Jy5 false true l=some (.agg (drl l)):=by unfold Jy5;rw [if_pos (by simp),if_neg (by simp)]
@[simp ↓ high] theorem ldv_1 (raw:Bool) (row:List AV) (c:Nat):ldv raw false row c 1=Jxh raw (row[c]?):=by
 unfold ldv Jxh
 by_cases h:c<row.length
 ·rw [if_pos (by omega),if_neg (by simp),if_pos rfl,List.getElem?_eq_getElem h];cases raw <;> simp
 ·rw [if_neg (by omega),List.getElem?_eq_none (by omega)];cases raw <;> rfl
@[simp ↓ high] theorem ldv_G (raw:Bool) (row:List AV) (c sz:Nat):ldv raw true row c sz=Jy5 raw (decide (c+sz≤row.length)) ((row.drop c).take sz):=by
 unfold ldv Jy5
 by_cases h:c+sz≤row.length
 ·simp [h]
 ·simp [h]
def K2h (P:Program) (ks:List Kt) (Q:Fin) (keep:List Nat) (J:Env→Prop) (s0:Env) (h0:Heap) (n0:Nat):Fin:=fun e s h n=>match e with
 | .normal=>(∀ j∈keep,s j=s0 j)∧J s∧h=h0∧n=n0
 | e=>J25 P ks e s h n Q
section
variable {P:Program}{a b:AC}{ks:List Kt}{s:Env}{h:Heap}{n:Nat}{Q:Fin}
@[simp ↓] theorem Ju5 {keep:List Nat}{J:Env→Prop}{s0 s':Env}{h0 h':Heap}{n0 n':Nat} : K2h P ks Q keep J s0 h0 n0 .normal s' h' n'=((∀ j∈keep,s' j=s0 j)∧J s'∧h'=h0∧n'=n0):=propext Iff.rfl
@[simp ↓] theorem K3l {keep:List Nat}{J:Env→Prop}{s0 s':Env}{h0 h':Heap}{n0 n':Nat} : K2h P ks Q keep J s0 h0 n0 .ret s' h' n'=J25 P ks .ret s' h' n' Q:=propext Iff.rfl
@[simp ↓] theorem K14 {keep:List Nat}{J:Env→Prop}{s0 s':Env}{h0 h':Heap}{n0 n' i:Nat} : K2h P ks Q keep J s0 h0 n0 (.exit i) s' h' n'=J25 P ks (.exit i) s' h' n' Q:=propext Iff.rfl
theorem J0g (keep:List Nat) (J:Env→Prop) (h1:rC P a [] s h n (K2h P (.seq b::ks) Q keep J s h n)) (h2:∀ s',(∀ j∈keep,s' j=s j)→J s'→rC P b ks s' h n Q):rC P (.seq a b) ks s h n Q:=by
 rw [Jc2]
 unfold rC at h1 ⊢
 refine Jdd h1 ?_
 intro e s' h' n' hq
 cases e
 ·obtain ⟨g1,g2,rfl,rfl⟩:=hq
  exact h2 s' g1 g2
 ·exact hq
 ·exact hq
def K2t (P:Program) (ks:List Kt) (Q:Fin) (keep:List Nat) (J:Env→Heap→Nat→Prop) (s0:Env):Fin:=fun e s h n=>match e with
 | .normal=>(∀ j∈keep,s j=s0 j)∧J s h n
 | e=>J25 P ks e s h n Q
@[simp ↓] theorem Juz {keep:List Nat}{J:Env→Heap→Nat→Prop}{s0 s':Env}{h':Heap}{n':Nat} : K2t P ks Q keep J s0 .normal s' h' n'=((∀ j∈keep,s' j=s0 j)∧J s' h' n'):=propext Iff.rfl
@[simp ↓] theorem K2u {keep:List Nat}{J:Env→Heap→Nat→Prop}{s0 s':Env}{h':Heap}{n':Nat} : K2t P ks Q keep J s0 .ret s' h' n'=J25 P ks .ret s' h' n' Q:=propext Iff.rfl
@[simp ↓] theorem Jz6 {keep:List Nat}{J:Env→Heap→Nat→Prop}{s0 s':Env}{h':Heap}{n' i:Nat} : K2t P ks Q keep J s0 (.exit i) s' h' n'=J25 P ks (.exit i) s' h' n' Q:=propext Iff.rfl
theorem J17 (keep:List Nat) (J:Env→Heap→Nat→Prop) (h1:rC P a [] s h n (K2t P (.seq b::ks) Q keep J s)) (h2:∀ s' h' n',(∀ j∈keep,s' j=s j)→J s' h' n'→rC P b ks s' h' n' Q):rC P (.seq a b) ks s h n Q:=by
 rw [Jc2]
 unfold rC at h1 ⊢
 refine Jdd h1 ?_
 intro e s' h' n' hq
 cases e
 ·exact h2 s' h' n' hq.1 hq.2
 ·exact hq
 ·exact hq
theorem J2m {c:Nat}{e:AC}(hc:s c = .bool true) (h1:rC P b ks s h n Q):rC P (.seq (.cond (.t c) .skip e) b) ks s h n Q:=by
 rw [Jc2,Ja3]
 have:ev s (.t c) = .bool true:=hc
 rw [this]
 simpa using h1
theorem J2g {c id:Nat}(hc:s c = .bool false) (h1:J25 P ks (.exit id) s h n Q):rC P (.seq (.cond (.t c) .skip (.exit id)) b) ks s h n Q:=by
 rw [Jc2,Ja3]
 have:ev s (.t c) = .bool false:=hc
 rw [this]
 simpa using h1
theorem J1u {c:Nat}{e:AC}{ks:List Kt}(hc:s c = .bool true) (h1:J25 P ks .normal s h n Q):rC P (.cond (.t c) .skip e) ks s h n Q:=by
 rw [Ja3]
 have:ev s (.t c) = .bool true:=hc
 rw [this]
 simpa using h1
theorem J1s {c id:Nat}{ks:List Kt}(hc:s c = .bool false) (h1:J25 P ks (.exit id) s h n Q):rC P (.cond (.t c) .skip (.exit id)) ks s h n Q:=by
 rw [Ja3]
 have:ev s (.t c) = .bool false:=hc
 rw [this]
 simpa using h1
theorem J0t {id:Nat}(h1:rC P a (.blk id::ks) s h n Q):rC P (.blk id a) ks s h n Q:=by rw [K0v];exact h1
theorem J09 (h1:rC P a (.seq b::ks) s h n Q):rC P (.seq a b) ks s h n Q:=by rw [Jc2];exact h1
end
def Jg7 (c:UInt8):Bool:=decide ((97:Int)≤c.toNat)&&decide ((c.toNat:Int)≤122)
def Jld (c:UInt8):Bool:=decide ((48:Int)≤c.toNat)&&decide ((c.toNat:Int)≤57)
def J3t:Nat→Str→Bool
 | _,[]=>true
 | i,c::l=>(Jg7 c||(decide (i≠0)&&Jld c))&&J3t (i+1) l
def J3x (l:List Str) (s:Str):Bool:=l.any fun x=>x==s
def Jee:List Str:=[[102,117,110],[112,114,101],[114,117,108,101],[114,101,116,117,114,110],[110,105,108]]
def Jmc (s:Str):Bool:=J3x Jee s
def J37 (s:Str):Bool:=inR s.length 1 8 && !Jmc s&&J3t 0 s
def J0l (s:Str):Bool:=J37 s&&s.getD (s.length - 1) 0==115
def J28 (s:Str):Bool:=J37 s && !J0l s
def Jmb (n:Int):Bool:=inR n (-1000000) 1000000
theorem Jfe {s:Str}(h:J37 s=true):1≤s.length∧s.length≤8:=by
 unfold J37 inR at h;simp at h;omega
def J64:Option Str→List DTerm→Bool
 | _,[]=>true
 | pr,t::l=>(!(t.Coeff==0)&&Jmb t.Coeff&&J28 t.Name&&(match pr with|Option.none=>true|some q=>Op.bytesLess q t.Name))&&J64 (some t.Name) l
def J8o (s:DSum):Bool:=Jmb s.Const&&decide (s.Terms.length≤4)&&J64 Option.none s.Terms
def Jac (a:DArg):Bool:=a.Heads.all J8o&&(if a.Lst then decide (a.Heads.length≤3)&&(a.Base==[]||J0l a.Base) else decide (a.Heads.length=1)&&a.Base==[])
def Jm9 (l:List Str) (scope:List Str):Bool:=l.all (J3x scope)
def J5t (a:DArg) (list:Bool) (scope:List Str):Bool:=Jac a&&(a.Lst==list)&&Jm9 (J4r (J6x a)) scope
def J3p (scope:List Str) (g:DSum):Bool:=J8o g&&Jm9 (J6h g) scope
def J40 (met:List Str):List Str→Bool
 | []=>true
 | s::l => !J3x met s&&J40 (met++[s]) l
def J7x (l:List Str):Bool:=J40 [] l
def Jt5 (params:List Str) (q:DPattern):Bool:=J3x params q.Lst&&J0l q.Lst&&(if q.Cons then J28 q.Head&&J0l q.Tail else q.Head==[]&&q.Tail==[])
def J3e (params:List Str) (met:List Str):List DPattern→Bool
 | []=>true
 | q::l=>(Jt5 params q && !J3x met q.Lst)&&J3e params (met++[q.Lst]) l
def J7r (scope:List Str):List DArg→List Str→Bool
 | a::l,s::m=>J5t a (J0l s) scope&&J7r scope l m
 | _,_=>true
def Jaz (p:DProgram) (c:DCall) (scope:List Str):Bool:=
 (J1p p.Functions c.Func).isSome&&decide (c.Args.length=((J1p p.Functions c.Func).getD fn0).Params.length)&&(if ((J1p p.Functions c.Func).getD fn0).ListResult then J0l c.Bind else J28 c.Bind) &&
  J7r scope c.Args ((J1p p.Functions c.Func).getD fn0).Params
def J2y (p:DProgram) (r:DRule):Nat→List DCall→Bool
 | _,[]=>true
 | k,c::l=>Jaz p c (J1j p r k)&&J2y p r (k+1) l
def J7v (p:DProgram) (r:DRule):Bool:=
 (J1p p.Functions r.Func).isSome&&J3e ((J1p p.Functions r.Func).getD fn0).Params [] r.Patterns&&decide (r.Guards.length≤2)&&r.Guards.all (J3p (J1j p r 0))&&decide (r.Calls.length≤2) &&
  J2y p r 0 r.Calls&&J5t r.Result ((J1p p.Functions r.Func).getD fn0).ListResult (J1j p r r.Calls.length)&&J7x (J1j p r r.Calls.length)
def Jjj (f:DFunction):Bool:=J28 f.Name&&decide (f.Params.length≤2)&&(f.Params.all J37&&J7x f.Params)&&decide (f.Pre.length≤2)&&f.Pre.all fun l=>J1c l f.Params.length
def J81 (met:List Str):List DFunction→Bool
 | []=>true
 | f::l=>(Jjj f && !J3x met f.Name)&&J81 (met++[f.Name]) l
def J4c (p:DProgram):Bool:=inR p.Functions.length 1 3&&J81 [] p.Functions&&decide (p.Rules.length≤8)&&p.Rules.all (J7v p)
theorem Jbt:∀ (l:List DFunction) (met:List Str),J81 met l=(l.all Jjj&&J40 met (l.map (·.Name)))
 | [],met=>rfl
 | f::l,met=>by
  simp only [J81,Jbt l,List.all_cons,List.map_cons,J40]
  cases Jjj f <;> cases J3x met f.Name <;> simp
theorem Ju3 {α:Type}{p:α→Bool}{l m:List α}(h:∀ x,x∈l↔x∈m):l.all p=m.all p:=by
 rw [Bool.eq_iff_iff,List.all_eq_true,List.all_eq_true]
 exact ⟨fun g x hx=>g x ((h x).2 hx),fun g x hx=>g x ((h x).1 hx)⟩
theorem Jdz (l scope:List Str):Jm9 (J4r l) scope=Jm9 l scope:=Ju3 (Ja4 l).2
theorem Jjb (s:DSum):J6x ⟨false,[s],[]⟩=J6h s:=by simp [J6x,J9k]
theorem Jjh (s:DSum):Jac ⟨false,[s],[]⟩=J8o s:=by simp [Jac]
def J6i (l scope:List Str):List Str:=l.filter fun s => !J3x scope s
theorem Jhl (l scope:List Str):decide ((J6i l scope).length=0)=Jm9 l scope:=by
 unfold J6i Jm9
 induction l with
 | nil=>rfl
 | cons x l ih=>
  simp only [List.filter_cons,List.all_cons]
  cases hx:J3x scope x
  ·simp
  ·simp only [Bool.not_true,Bool.false_eq_true,if_false,Bool.true_and];exact ih
theorem Jos {l:List DFunction}{i:Nat}(hi:i<l.length):decide (J1r (fun f=>f.Name==(l[i]).Name) l 0=(i:Int)) = !J3x ((l.take i).map (·.Name)) (l[i]).Name:=by
 have key:∀ (l:List DFunction) (i k:Nat) (hi:i<l.length) (nm:Str),(l[i]).Name=nm→(J1r (fun f=>f.Name==nm) l k=((k+i:Nat):Int)↔J3x ((l.take i).map (·.Name)) nm=false):=by
  intro l
  induction l with
  | nil=>intro i k hi;simp at hi
  | cons f l ih=>
   intro i k hi nm hnm
   cases i with
   | zero=>
    simp only [List.getElem_cons_zero] at hnm
    simp [J1r,hnm,J3x]
   | succ i=>
    simp only [List.getElem_cons_succ] at hnm
    simp only [J1r,List.take_succ_cons,List.map_cons,J3x,List.any_cons]
    by_cases hf:f.Name==nm
    ·simp [hf];omega
    ·have:=ih i (k+1) (by simpa using hi) nm hnm
     simp only [J3x] at this
     simp only [hf,Bool.false_eq_true,if_false,Bool.false_or]
     rw [←this]
     constructor <;> intro h <;> rw [h] <;> congr 1 <;> omega
 have:=key l i 0 hi _ rfl
 rw [Nat.zero_add] at this
 cases hb:J3x ((l.take i).map (·.Name)) (l[i]).Name
 ·simp [this.2 hb]
 ·simp only [Bool.not_true,decide_eq_false_iff_not]
  intro h
  rw [this.1 h] at hb;cases hb
def OVi (xs:List Int) (v:AV) (h:Heap) (n:Nat):Prop:=(v = .nil 1∧xs=[])∨∃ id,id<n∧v = .ref id 0 xs.length∧h id=some ⟨false,1,J0e xs⟩
def SVi (xs:List Int) (v:AV) (h:Heap) (n:Nat):Prop:=v = .sl 1 (J0e xs)∨OVi xs v h n
def J1h (h h':Heap) (n:Nat):Prop:=∀ id z rows,id<n→h id=some ⟨false,z,rows⟩→h' id=some ⟨false,z,rows⟩
theorem J1h.of {h h':Heap}{n:Nat}(hh:∀ id,id<n→h' id=h id):J1h h h' n:=fun id _ _ hid e=>by rw [hh id hid,e]
theorem J1h.trans {h h1 h2:Heap}{n n1:Nat}(a:J1h h h1 n) (b:J1h h1 h2 n1) (hn:n≤n1):J1h h h2 n:=fun id z rows hid e=>b id z rows (by omega) (a id z rows hid e)
theorem OVi.keep {xs:List Int}{v:AV}{h h':Heap}{n n':Nat}(x:OVi xs v h n) (hn:n≤n') (k:J1h h h' n):OVi xs v h' n':=by
 rcases x with x|⟨id,h1,h2,h3⟩
 ·exact .inl x
 ·exact .inr ⟨id,by omega,h2,k id _ _ h1 h3⟩
theorem SVi.keep {xs:List Int}{v:AV}{h h':Heap}{n n':Nat}(x:SVi xs v h n) (hn:n≤n') (k:J1h h h' n):SVi xs v h' n':=by
 rcases x with x|x
 ·exact .inl x
 ·exact .inr (x.keep hn k)
theorem OVi.cell {xs:List Int}{v:AV}{h:Heap}{n:Nat}(x:OVi xs v h n):J0n v=true:=by
 rcases x with ⟨rfl,_⟩|⟨id,_,rfl,_⟩ <;> rfl
theorem SVi.cell {xs:List Int}{v:AV}{h:Heap}{n:Nat}(x:SVi xs v h n):J0n v=true:=by
 rcases x with rfl|x
 ·rfl
 ·exact x.cell
theorem OVi.bw {xs:List Int}{v:AV}{h:Heap}{n:Nat}(x:OVi xs v h n):Go.Proofs.YtoclolkigjbcgaaGreat.bw v h=some (.sl 1 (J0e xs)):=by
 rcases x with ⟨rfl,rfl⟩|⟨id,_,rfl,e⟩
 ·rfl
 ·simp [e]
theorem SVi.bw {xs:List Int}{v:AV}{h:Heap}{n:Nat}(x:SVi xs v h n):Go.Proofs.YtoclolkigjbcgaaGreat.bw v h=some (.sl 1 (J0e xs)):=by
 rcases x with rfl|x
 ·rfl
 ·exact x.bw
theorem SVi.bwk {xs:List Int}{v:AV}{h h':Heap}{n:Nat}(x:SVi xs v h n) (k:J1h h h' n):Go.Proofs.YtoclolkigjbcgaaGreat.bw v h'=some (.sl 1 (J0e xs)):=(x.keep (Nat.le_refl n) k).bw
def J3r (d:DDer) (r:List AV) (h:Heap) (n:Nat):Prop:=∃ vl vm,r=[.int .i64 d.l.Const,vl,vm,.int .i64 d.scale]∧SVi d.l.Coeffs vl h n∧OVi d.mult vm h n
def J46 (d:DDer) (r:List AV) (h:Heap) (n:Nat):Prop:=∃ vl vm,r=[.int .i64 d.l.Const,vl,vm]∧SVi d.l.Coeffs vl h n∧OVi (d.mult++[d.scale]) vm h n
theorem J3r.keep {d:DDer}{r:List AV}{h h':Heap}{n n':Nat}(x:J3r d r h n) (hn:n≤n') (k:J1h h h' n):J3r d r h' n':=by
 obtain ⟨vl,vm,h1,h2,h3⟩:=x
 exact ⟨vl,vm,h1,h2.keep hn k,h3.keep hn k⟩
theorem J46.keep {d:DDer}{r:List AV}{h h':Heap}{n n':Nat}(x:J46 d r h n) (hn:n≤n') (k:J1h h h' n):J46 d r h' n':=by
 obtain ⟨vl,vm,h1,h2,h3⟩:=x
 exact ⟨vl,vm,h1,h2.keep hn k,h3.keep hn k⟩
def J2a (R:DDer→List AV→Heap→Nat→Prop) (z b:Nat) (ds:List DDer) (v:AV) (h:Heap) (n:Nat):Prop:=
 (v = .nil z∧ds=[])∨∃ id rows,b≤id∧id<n∧v = .ref id 0 ds.length∧h id=some ⟨true,z,rows⟩∧rows.length=ds.length∧∀ (i:Nat) d,ds[i]? = some d→∃ r,rows[i]? = some r∧R d r h n
section
variable {R:DDer→List AV→Heap→Nat→Prop}{z b:Nat}{ds:List DDer}{v:AV}{h h':Heap}{n n':Nat}
theorem J2a.keep (hR:∀ d r h h' n n',R d r h n→n≤n'→J1h h h' n→R d r h' n') (x:J2a R z b ds v h n) (hn:n≤n') (k:J1h h h' n) (hb:∀ id rows,b≤id→id<n→v = .ref id 0 ds.length→h id=some ⟨true,z,rows⟩→h' id=some ⟨true,z,rows⟩):J2a R z b ds v h' n':=by
 rcases x with x|⟨id,rows,h0,h1,h2,h3,h4,h5⟩
 ·exact .inl x
 ·refine .inr ⟨id,rows,h0,by omega,h2,hb id rows h0 h1 h2 h3,h4,fun i d hd => ?_⟩
  obtain ⟨r,g1,g2⟩:=h5 i d hd
  exact ⟨r,g1,hR _ _ _ _ _ _ g2 hn k⟩
theorem J2a.low {b':Nat}(x:J2a R z b ds v h n) (hb:b'≤b):J2a R z b' ds v h n:=by
 rcases x with x|⟨id,rows,h0,h1⟩
 ·exact .inl x
 ·exact .inr ⟨id,rows,by omega,h1⟩
theorem J2a.snoc (hR:∀ d r h h' n n',R d r h n→n≤n'→J1h h h' n→R d r h' n') {d:DDer}{r:List AV}{id:Nat}{rows:List (List AV)}(hl:rows.length=ds.length) (hx:∀ (i:Nat) d,ds[i]? = some d→∃ r,rows[i]? = some r∧R d r h n) (hr:R d r h n) (hn:n≤n') (k:J1h h h' n)
 (hb:b≤id) (hid:id<n') (e:h' id=some ⟨true,z,rows++[r]⟩):J2a R z b (ds++[d]) (.ref id 0 (ds.length+1)) h' n':=by
 refine .inr ⟨id,rows++[r],hb,hid,by simp,e,by simp [hl],fun i d' hd => ?_⟩
 rcases Nat.lt_trichotomy i ds.length with hi|hi|hi
 ·rw [List.getElem?_append_left hi] at hd
  obtain ⟨r',g1,g2⟩:=hx i d' hd
  exact ⟨r',by rw [List.getElem?_append_left (by omega)];exact g1,hR _ _ _ _ _ _ g2 hn k⟩
 ·subst hi
  simp at hd
  subst hd
  exact ⟨r,by rw [←hl];simp,hR _ _ _ _ _ _ hr hn k⟩
 ·rw [List.getElem?_eq_none (by simp;omega)] at hd;cases hd
end
theorem J6p {R:DDer→List AV→Heap→Nat→Prop}{z b bytes:Nat}{ds:List DDer}{v y:AV}{h:Heap}{n:Nat}{d:DDer}{r:List AV}{K:AV→Heap→Nat→Prop}(hR:∀ d r h h' n n',R d r h n→n≤n'→J1h h h' n→R d r h' n') (x:J2a R z b ds v h n) (hy:J3f h y=some (z,[r])) (hr:R d r h n) (hbn:b≤n) (hl:(ds.length+1)*bytes≤LIM)
 (hK:∀ h',J1h h h' n→(∀ id,id<n→(∀ k,v ≠ .ref id 0 k)→h' id=h id)→J2a R z b (ds++[d]) (.ref n 0 (ds.length+1)) h' (n+1)→K (.ref n 0 (ds.length+1)) h' (n+1)):Jst bytes z v y h n K:=by
 rcases x with ⟨rfl,rfl⟩|⟨id,rows,h0,h1,rfl,h3,h4,h5⟩
 ·simp only [Jop,hy,onO]
  have hk:J1h h (upd h n (some ⟨true,z,[r]⟩)) n:=J1h.of fun id hid=>by rw [J0v];omega
  refine ⟨trivial,by simpa using hl,hK _ hk (fun id hid _=>by rw [J0v];omega) ?_⟩
  exact J2a.snoc (ds:=[]) (rows:=[]) hR rfl (by simp) hr (Nat.le_succ n) hk hbn (Nat.lt_succ_self n) (by simp)
 ·have ht:List.take ds.length rows=rows:=List.take_of_length_le (by omega)
  simp only [Jp7,hy,h3,onO,ht]
  have hf:∀ i,i<n→i≠id→upd (upd h id Option.none) n (some ⟨true,z,rows++[r]⟩) i=h i:=fun i hi hne'=>by
   rw [J0v _ _ _ _ (by omega),J0v _ _ _ _ hne']
  have hk:J1h h (upd (upd h id Option.none) n (some ⟨true,z,rows++[r]⟩)) n:=fun i z' rows' hi e=>by
   have hne':i≠id:=fun e2=>by subst e2;rw [h3] at e;simp at e
   rw [hf i hi hne'];exact e
  refine ⟨trivial,trivial,trivial,by omega,trivial,by simpa using hl,hK _ hk (fun i hi hv=>hf i hi fun e=>hv ds.length (by rw [e])) ?_⟩
  exact J2a.snoc hR h4 h5 hr (Nat.le_succ n) hk hbn (Nat.lt_succ_self n) (by simp)
section
variable {R:DDer→List AV→Heap→Nat→Prop}{z b:Nat}{ds:List DDer}{v:AV}{h:Heap}{n:Nat}{K:AV→Heap→Nat→Prop}
theorem J4f (x:J2a R z b ds v h n) (hl:ds.length≤LIM) (hk:K (.int .i64 ds.length) h n):Ju7 false v h n K:=by
 rcases x with ⟨rfl,rfl⟩|⟨id,rows,_,_,rfl,e,_⟩
 ·simpa using hk
 ·simp only [Jsm,e];exact ⟨rfl,fun _=>hk⟩
theorem J6e {i:Nat}(x:J2a R z b ds v h n) (hi:i<ds.length) (hk:∀ id rows r,id<n→h id=some ⟨true,z,rows⟩→(hl:i<rows.length)→rows[i]'hl=r→R ds[i] r h n→K (.ptr id i 0) h n):Jza z v (some (i:Int)) h n K:=by
 rcases x with ⟨_,rfl⟩|⟨id,rows,_,hid,rfl,e,hl,hx⟩
 ·simp at hi
 ·obtain ⟨r,g1,g2⟩:=hx i ds[i] (List.getElem?_eq_getElem hi)
  simp [hi,e]
  refine hk id rows r hid e (by omega) ?_ g2
  rw [List.getElem?_eq_getElem (by omega)] at g1
  exact Option.some.inj g1
end
theorem Jb1 {P:Program}{f:FuncId}{xs:List AV}{h:Heap}{n:Nat}{K:AV→Heap→Nat→Prop}(hA:J30 P f xs h n fun r h' n'=>(∀ id,id<n→h' id=h id)∧K r h' n'):J30 P f xs h n (hK h K):=by
 refine ⟨hA.1,fun base w0 w L F vs H hv => ?_⟩
 refine (hA.2 base w0 w L F vs H hv).mono ?_
 rintro e w' ⟨v,r,L',n',F',h',rfl,H',J8i,hr,hh,hk⟩
 refine ⟨v,r,L',n',F',h',rfl,H',J8i,hr,fun id B hB => ?_,hk⟩
 have hlt:id<n:=by
  cases hl:L id with
  | none=>rw [H.mod id hl] at hB;cases hB
  | some l=>exact H.lt id l hl
 rw [hh id hlt];exact hB
section
variable {xs:List Int}{v:AV}{h:Heap}{n:Nat}{K:AV→Heap→Nat→Prop}
theorem Jk2 (x:SVi xs v h n) (hk:K (.int .i64 xs.length) h n):Jxk false v h n K:=by
 rcases x with rfl|⟨rfl,rfl⟩|⟨id,_,rfl,e⟩
 ·simpa using hk
 ·simpa using hk
 ·simpa [e] using hk
theorem Jpz (x:SVi xs v h n) (hk:xs.length≤LIM→K (.int .i64 xs.length) h n) (hl:xs.length≤LIM):Ju7 false v h n K:=by
 rcases x with rfl|⟨rfl,rfl⟩|⟨id,_,rfl,e⟩
 ·simpa using hk
 ·simpa using hk (by simp)
 ·simpa [e] using hk
theorem J74 {i:Nat}(x:SVi xs v h n) (hi:i<xs.length) (hk:∀ a,(∀ K':AV→Heap→Nat→Prop,K' (.int .i64 xs[i]) h n→ldV false 1 a h n K')→K a h n):Jza 1 v (some (i:Int)) h n K:=by
 rcases x with rfl|⟨rfl,rfl⟩|⟨id,_,rfl,e⟩
 ·simp [hi]
  exact hk _ fun K' h'=>by simpa [hi] using h'
 ·simp at hi
 ·simp [hi,e]
  exact hk _ fun K' h'=>by simpa [e,hi] using h'
end
def a312:AFn:= ⟨23,[.t 4],(.seq (.reg [Zo 4 (.mv (.k (.int .i64 0)))]) (.seq (.seq (.reg [Zv 5 0,Zc 6 232 [.t 5],Zo 7 (.un .not (.t 6)),Zv 8 7,⟨some 9,.mv (.t 1),(some (8,false))⟩,⟨some 10,.call (.k (.fn (.func 232) [] [])) [.t 9],(some (8,false))⟩,⟨some 11,.un .not (.t 10),(some (8,false))⟩,Zo 12 (.pick (.t 8) (.k (.bool true)) (.t 11))]) (.cond (.t 12) (.seq (.reg [Zo 4 (.mv (.k (.int .i64 0)))]) .ret) .skip)) (.seq (.blk 0 (.loop (.seq (.seq (.reg [Zv 13 1,Zo 14 (.bin .neq (.t 13) (.k (.int .i64 0)))]) (.cond (.t 14) .skip (.exit 0))) (.blk 1 (.draw (.op (Zv 15 1) (.op (Zv 16 0) (.op (Zv 17 1) (.op (Zo 18 (.bin .rem (.t 16) (.t 17))) (.hop (Zv 0 15) [] (.hop (Zv 1 18) [] .fin))))))))))) (.seq (.reg [Zv 19 0,Zv 20 0,Zo 21 (.un .neg (.t 20)),Zo 22 (.mnx true (.t 19) (.t 21)),Zv 4 22]) .ret))))⟩
theorem a312_ok:J0a Tryz.prog Tryz.f312=some a312:=by kernel_rfl
def a338:AFn:= ⟨8,[.t 2],(.seq (.reg [Zo 2 (.mv (.k (.int .i64 0)))]) (.seq (.seq (.reg [Zv 3 0,Zo 4 (.bin .lss (.t 3) (.k (.int .i64 0)))]) (.cond (.t 4) (.seq (.reg [Zv 5 0,Zo 6 (.bin .sub (.k (.int .i64 0)) (.t 5)),Zv 2 6]) .ret) .skip)) (.seq (.reg [Zv 7 0,Zv 2 7]) .ret)))⟩
theorem a338_ok:J0a Tryz.prog Tryz.f338=some a338:=by kernel_rfl
def a329:AFn:= ⟨28,[.t 4],(.seq (.reg [Zo 4 (.mv (.k (.int .i64 0)))]) (.seq (.seq (.reg [Zv 8 0,Zc 9 181 [.t 8],Zo 10 (.un .not (.t 9)),Zv 11 10,⟨some 12,.mv (.t 1),(some (11,false))⟩,⟨some 13,.call (.k (.fn (.func 181) [] [])) [.t 12],(some (11,false))⟩,⟨some 14,.un .not (.t 13),(some (11,false))⟩,Zo 15 (.pick (.t 11) (.k (.bool true)) (.t 14))]) (.cond (.t 15) (.seq (.reg [Zo 4 (.mv (.k (.int .i64 0)))]) .ret) .skip)) (.seq (.reg [Zv 16 0,Zc 17 338 [.t 16],Zv 5 17]) (.seq (.reg [Zv 18 1,Zc 19 338 [.t 18],Zv 6 19]) (.seq (.blk 0 (.loop (.seq (.seq (.reg [Zv 20 6,Zo 21 (.bin .gtr (.t 20) (.k (.int .i64 0)))]) (.cond (.t 21) .skip (.exit 0))) (.blk 1 (.seq (.reg [Zv 22 5,Zv 23 6,Zo 24 (.bin .rem (.t 22) (.t 23)),Zv 7 24]) (.seq (.reg [Zv 25 6,Zv 5 25]) (.reg [Zv 26 7,Zv 6 26]))))))) (.seq (.reg [Zv 27 5,Zv 4 27]) .ret))))))⟩
theorem a329_ok:J0a Tryz.prog Tryz.f329=some a329:=by kernel_rfl
theorem K9a {a b:Nat}(ha:a≤1000000000) (_hb:b≤1000000000):(a:Int).tmod (b:Int)=((a % b:Nat):Int):=by
 rw [Int.ofNat_tmod]
theorem K1b (a b:Nat) (ha:a≤1000000000) (hb:b≤1000000000):Holds Tryz.prog 312 [i64 a,i64 b] (fun r=>r=i64 (Nat.gcd a b:Nat)):=by
 have oa:okC (a:Int)=true:=by rw [J5m];omega
 have ob:okC (b:Int)=true:=by rw [J5m];omega
 refine J02 Tryz.func312 a312_ok rfl (by simp [a312]) ?_
 simp [a312]
 first|refine J00 (J1x (a:Int)) (by first|simp;done|rfl) ?_|refine J01 (J1x (a:Int)) (by first|simp;done|rfl) ?_
 rintro r rfl
 simp [oa]
 first|refine J00 (J1x (b:Int)) (by first|simp;done|rfl) ?_|refine J01 (J1x (b:Int)) (by first|simp;done|rfl) ?_
 rintro r rfl
 simp [ob]
 generalize hG:Nat.gcd a b=G
 refine Jb2 (fun k s h n=>∃ x y:Nat,k=y∧s 0=i64 x∧s 1=i64 y∧x≤1000000000∧y≤1000000000∧Nat.gcd x y=G) b ⟨a,b,rfl,by simp,by simp,ha,hb,hG⟩ ?_
 rintro k s h n ⟨x,y,hky,s0,s1,hx,hy,hg⟩
 by_cases h0:y=0
 ·subst h0
  simp at hg
  subst hg
  have hw:IntKind.i64.wrap (0 - (x:Int))=0 - (x:Int):=J19 (by omega)
  have hm:¬(0 - (x:Int))>x:=by omega
  simp [s0,s1]
  simp at hw hm
  simp [hw]
  omega
 ·have hy0:¬(y:Int)=0:=by omega
  simp [s0,s1,hy0,K9a hx hy,h0]
  exact ⟨x % y,by rw [hky];exact Nat.mod_lt _ (by omega),y,rfl,by simp,hy,by have:=Nat.mod_lt x (show 0<y by omega);omega,by rw [←hg,Nat.gcd_comm x y,Nat.gcd_rec y x,Nat.gcd_comm]⟩
theorem Jb4 (a:Nat) (ha:a≤1000000000):Holds Tryz.prog 338 [i64 a] (fun r=>r=i64 a):=by
 refine J02 Tryz.func338 a338_ok rfl (by simp [a338]) ?_
 simp [a338]
 omega
theorem Jvz (a b:Nat) (ha:a≤1000000000) (hb:b≤1000000000):Holds Tryz.prog 329 [i64 a,i64 b] (fun r=>r=i64 (Nat.gcd a b:Nat)):=by
 have oa:okC (a:Int)=true:=by rw [J5m];omega
 have ob:okC (b:Int)=true:=by rw [J5m];omega
 refine J02 Tryz.func329 a329_ok rfl (by simp [a329]) ?_
 simp [a329]
 first|refine J00 (J3n (a:Int)) (by first|simp;done|rfl) ?_|refine J01 (J3n (a:Int)) (by first|simp;done|rfl) ?_
 rintro r rfl
 simp [oa]
 first|refine J00 (J3n (b:Int)) (by first|simp;done|rfl) ?_|refine J01 (J3n (b:Int)) (by first|simp;done|rfl) ?_
 rintro r rfl
 simp [ob]
 first|refine J00 (Jb4 a ha) (by first|simp;done|rfl) ?_|refine J01 (Jb4 a ha) (by first|simp;done|rfl) ?_
 rintro r rfl
 simp
 first|refine J00 (Jb4 b hb) (by first|simp;done|rfl) ?_|refine J01 (Jb4 b hb) (by first|simp;done|rfl) ?_
 rintro r rfl
 simp
 generalize hG:Nat.gcd a b=G
 refine Jb2 (fun k s h n=>∃ x y:Nat,k=y∧s 5=i64 x∧s 6=i64 y∧x≤1000000000∧y≤1000000000∧Nat.gcd x y=G) b ⟨a,b,rfl,by simp,by simp,ha,hb,hG⟩ ?_
 rintro k s h n ⟨x,y,hky,s5,s6,hx,hy,hg⟩
 by_cases h0:y=0
 ·subst h0
  simp at hg
  subst hg
  simp [s5,s6]
 ·have hy0:¬(y:Int)=0:=by omega
  have hy1:(0:Int)<y:=by omega
  simp [s5,s6,hy0,hy1,K9a hx hy,h0]
  have hpos:0<y:=by omega
  simp [hpos]
  exact ⟨x % y,by rw [hky];exact Nat.mod_lt _ (by omega),y,rfl,by simp,hy,by have:=Nat.mod_lt x (show 0<y by omega);omega,by rw [←hg,Nat.gcd_comm x y,Nat.gcd_rec y x,Nat.gcd_comm]⟩
def cm0:AC:=(.reg [Zo 6 (.mv (.k (.int .i64 0))),Zo 7 (.mv (.k (.bool false)))])
def cm1:AC:=(.reg [Zl 13 false 1 2,Zv 14 0,Zc 15 308 [.t 13,.t 14],Zv 12 15,Zo 16 (.ext (.t 12) 0),Zo 17 (.ext (.t 12) 1),Zv 8 16,Zv 9 17])
def cm2:AC:=(.reg [Zv 19 8,Zl 20 false 1 3,Zv 21 1,Zc 22 274 [.t 19,.t 20,.t 21],Zv 18 22,Zo 23 (.ext (.t 18) 0),Zo 24 (.ext (.t 18) 1),Zv 10 23,Zv 11 24])
def cm3:AC:=(.reg [Zv 25 10,Zv 26 9,Zv 27 26,⟨some 28,.mv (.t 11),(some (27,true))⟩,Zo 29 (.pick (.t 27) (.t 28) (.k (.bool false))),Zv 6 25,Zv 7 29])
def a331:AFn:=⟨30,[.t 6,.t 7],(.seq cm0 (.seq cm1 (.seq cm2 (.seq cm3 .ret))))⟩
theorem a331_ok:J5h true Tryz.prog Tryz.f331=some a331:=by kernel_rfl
def cb0:AC:=(.reg [Zo 4 (.boxv (.t 0)),Zo 5 (.boxv (.t 1)),Zo 6 (.boxv (.t 2)),Zo 7 (.boxv (.t 3)),Zo 8 (.box [(.int .i64 0),(.nil 1),(.nil 1),(.int .i64 0)]),Zo 9 (.mv (.k (.bool false)))])
def cb1:AC:=(.draw (.op (Zf 21 0 4) (.op (Zf 22 1 21) (.op (Zl 23 false 1 22) (.op (Zo 24 (.len false (.t 23))) (.op (Zl 26 false 1 5) (.op (Zf 27 0 4) (.op (Zl 28 true 2 27) (.both (.op (Zc 25 178 [(.k (.int .i64 0)),.t 24]) (.both (.op (Zc 29 193 [.t 25,.t 26,.t 28]) (.op (Zv 20 29) (.op (Zo 30 (.ext (.t 20) 0)) (.op (Zo 31 (.ext (.t 20) 1)) (.op (Zo 10 (.box [(.int .i64 0),(.nil 1)])) (.hop ⟨no,.st 2 (.t 10) (.t 30),no⟩ [] (.op (Zv 11 31) .fin))))))) (.op (Zo 10 (.box [(.int .i64 0),(.nil 1)])) (.op (Zc 29 193 [.t 25,.t 26,.t 28]) (.op (Zv 20 29) (.op (Zo 30 (.ext (.t 20) 0)) (.op (Zo 31 (.ext (.t 20) 1)) (.hop ⟨no,.st 2 (.t 10) (.t 30),no⟩ [] (.op (Zv 11 31) .fin))))))))) (.op (Zo 10 (.box [(.int .i64 0),(.nil 1)])) (.op (Zc 25 178 [(.k (.int .i64 0)),.t 24]) (.op (Zc 29 193 [.t 25,.t 26,.t 28]) (.op (Zv 20 29) (.op (Zo 30 (.ext (.t 20) 0)) (.op (Zo 31 (.ext (.t 20) 1)) (.hop ⟨no,.st 2 (.t 10) (.t 30),no⟩ [] (.op (Zv 11 31) .fin)))))))))))))))))
def cb2:AC:=(.reg [Zl 33 true 2 10,Zl 34 false 1 7,Zf 35 0 6,Zl 36 true 2 35,Zc 37 193 [.t 33,.t 34,.t 36],Zv 32 37,Zo 38 (.ext (.t 32) 0),Zo 39 (.ext (.t 32) 1),⟨no,.st 2 (.t 10) (.t 38),no⟩,Zv 12 39])
def cb3:AC:=(.seq (.reg [Zv 40 11,Zo 41 (.un .not (.t 40)),Zv 42 41,⟨some 43,.mv (.t 12),(some (42,false))⟩,⟨some 44,.un .not (.t 43),(some (42,false))⟩,Zo 45 (.pick (.t 42) (.k (.bool true)) (.t 44))]) (.cond (.t 45) (.seq (.reg [Zo 46 (.build [(.int .i64 0),(.nil 1),(.nil 1),(.int .i64 0)] []),⟨no,.st 4 (.t 8) (.t 46),no⟩,Zo 9 (.mv (.k (.bool false)))]) .ret) .skip))
def cb4:AC:=(.reg [Zo 47 (.mkf (.func 331) [] [.t 5,.t 7]),Zv 13 47])
def cb5:AC:=(.reg [Zl 48 true 2 10,Zo 49 (.build [(.int .i64 0),(.nil 1),(.nil 1),(.int .i64 0)] [(0,(2,(.t 48)))]),Zo 14 (.box [(.int .i64 0),(.nil 1),(.nil 1),(.int .i64 0)]),⟨no,.st 4 (.t 14) (.t 49),no⟩])
def cb6:AC:=(.reg [Zv 51 13,Zf 52 3 4,Zl 53 false 1 52,Zf 54 3 6,Zl 55 false 1 54,Zo 56 (.call (.t 51) [.t 53,.t 55]),Zv 50 56,Zo 57 (.ext (.t 50) 0),Zo 58 (.ext (.t 50) 1),Zv 15 57,Zv 16 58])
def cb7:AC:=(.reg [Zv 59 15,Zf 60 3 14,⟨no,.st 1 (.t 60) (.t 59),no⟩])
def K90:AC:=(.draw (.op (Zv 68 13) (.op (Zf 69 2 4) (.op (Zl 70 false 1 69) (.op (Zv 71 17) (.op (Zo 72 (.ixa 1 (.t 70) (.t 71))) (.op (Zl 73 false 1 72) (.op (Zf 74 2 6) (.op (Zl 75 false 1 74) (.op (Zv 76 17) (.op (Zo 77 (.ixa 1 (.t 75) (.t 76))) (.op (Zl 78 false 1 77) (.op (Zo 79 (.call (.t 68) [.t 73,.t 78])) (.op (Zv 67 79) (.op (Zo 80 (.ext (.t 67) 0)) (.op (Zo 81 (.ext (.t 67) 1)) (.op (Zv 18 80) (.op (Zv 19 81) .fin))))))))))))))))))
def K8x:AC:=(.reg [Zf 82 2 14,Zl 83 false 1 82,Zv 84 18,Zo 85 (.bsl 1 [.t 84]),Zo 86 (.app 8 1 (.t 83) (.t 85)),Zf 87 2 14,⟨no,.st 1 (.t 87) (.t 86),no⟩])
def K7q:AC:=(.reg [Zv 88 16,Zv 89 88,⟨some 90,.mv (.t 19),(some (89,true))⟩,Zo 91 (.pick (.t 89) (.t 90) (.k (.bool false))),Zv 16 91])
def cb8:AC:=(.seq (.reg [Zf 61 2 4,Zl 62 false 1 61,Zo 63 (.len false (.t 62)),Zo 64 (.mv (.k (.int .i64 0)))]) (.blk 0 (.loop (.seq (.reg [Zo 65 (.bin .lss (.t 64) (.t 63))]) (.seq (.cond (.t 65) .skip (.exit 0)) (.seq (.blk 1 (.seq (.reg [Zv 66 64,Zv 17 66]) (.seq K90 (.seq  K8x  K7q)))) (.reg [Zo 92 (.bin .add (.t 64) (.k (.int .i64 1))),Zv 64 92])))))))
def cb9:AC:=(.reg [Zl 93 true 4 14,Zv 94 16,⟨no,.st 4 (.t 8) (.t 93),no⟩,Zv 9 94])
def a313:AFn:=⟨95,[(.c 8 true 4),.t 9],(.seq cb0 (.seq cb1 (.seq cb2 (.seq cb3 (.seq cb4 (.seq cb5 (.seq cb6 (.seq cb7 (.seq cb8 (.seq cb9 .ret))))))))))⟩
theorem a313_ok:J5h true Tryz.prog Tryz.f313=some a313:=by kernel_rfl
def Jnr (l:DLin) (k q:Nat) (h:Heap) (lo n:Nat):Prop:=lo≤k∧k<n∧lo≤q∧q<n∧¬k=q∧h k=some ⟨true,2,[[.int .i64 l.Const,.ref q 0 l.Coeffs.length]]⟩∧h q=some ⟨false,1,J0e l.Coeffs⟩
theorem Jkk {h:Heap}{n i5 i7:Nat}{j k x y:Int}(e5:h i5=some ⟨true,1,[[i64 j]]⟩) (e7:h i7=some ⟨true,1,[[i64 k]]⟩) {K:AV→Heap→Nat→Prop}(hK:K (J2v (Jct j x k y)) h n):J30 Tryz.prog 331 [i64 x,i64 y,.ptr i5 0 0,.ptr i7 0 0] h n K:=by
 refine J1z Tryz.func331 a331_ok rfl (by simp [a331]) ?_
 simp [a331,cm0,cm1,cm2,cm3,e5]
 first|refine J00 (J76 j x) (by first|simp;done|rfl) ?_|refine J01 (J76 j x) (by first|simp;done|rfl) ?_
 rintro r rfl
 simp [J2v,e7]
 first|refine J00 (J72 (J63 j x).1 k y) (by first|simp;done|rfl) ?_|refine J01 (J72 (J63 j x).1 k y) (by first|simp;done|rfl) ?_
 rintro r rfl
 simp [J2v]
 unfold J2v Jct at hK
 cases h1:(J63 j x).2
 ·rw [h1] at hK;simpa using hK
 ·rw [h1] at hK;simpa using hK
section
variable {ks:List Kt}{s:Env}{h h':Heap}{n:Nat}{Q:Fin}
theorem Juw {a:DDer}{va ma:AV}{j:Int}{k4 k5:Nat}(s4:s 4 = .ptr k4 0 0) (s5:s 5 = .ptr k5 0 0) (e4:h k4=some ⟨true,4,[[.int .i64 a.l.Const,va,ma,.int .i64 a.scale]]⟩) (e5:h k5=some ⟨true,1,[[i64 j]]⟩) (A1:SVi a.l.Coeffs va h n)
 (hK:∀ s' h' n' k q,(∀ i∈[4,5,6,7,8],s' i=s i)→n≤n'→(∀ id,id<n→h' id=h id)→s' 11 = .bool (J0b (J04 0 a.l.Coeffs.length) j a.l).isSome→s' 10 = .ptr k 0 0→Jnr ((J0b (J04 0 a.l.Coeffs.length) j a.l).getD J1d) k q h' n n'→J25 Tryz.prog ks .normal s' h' n' Q):rC Tryz.prog cb1 ks s h n Q:=by
 have fr:∀ id,id<n→¬id=n∧¬id=n+1∧¬id=n+2∧¬id=n+1+1:=by intro id _;omega
 have ne:¬n=n+1∧¬n+1=n∧¬n=n+1+1∧¬n+1+1=n∧¬n+1=n+1+1∧¬n+1+1=n+1:=by omega
 have hb1:∀ y,bw va (upd h n y)=some (.sl 1 (J0e a.l.Coeffs)):=fun y=>A1.bwk (J1h.of fun id hid=>by simp [fr id hid])
 have hb2:∀ y z,bw va (upd (upd h n y) (n+1) z)=some (.sl 1 (J0e a.l.Coeffs)):=fun y z=>A1.bwk (J1h.of fun id hid=>by simp [fr id hid])
 simp [cb1,s4,s5,e4,e5]
 refine Jk2 A1 ?_
 simp [s4,s5,e4,e5]
 refine ⟨?_,?_⟩
 ·skip
  first|refine J00 (J11 0 a.l.Coeffs.length) (by first|simp;done|rfl) ?_|refine J01 (J11 0 a.l.Coeffs.length) (by first|simp;done|rfl) ?_
  rintro r rfl
  simp [J07]
  refine ⟨?_,?_⟩
  ·skip
   first|refine J00 (J0q (J04 0 a.l.Coeffs.length) j a.l) (by first|simp [J06,hb1];done|rfl) ?_|refine J01 (J0q (J04 0 a.l.Coeffs.length) j a.l) (by first|simp [J06,hb1];done|rfl) ?_
   rintro r rfl
   rw [J0o]
   generalize J0b (J04 0 a.l.Coeffs.length) j a.l=T at *
   simp [J07,ne]
   exact hK _ _ _ (n+1+1) (n+1) (by simp) (by omega) (fun id hid=>by simp [fr id hid]) (by simp) (by simp) ⟨by omega,by omega,by omega,by omega,by omega,by simp,by simp [ne]⟩
  ·skip
   first|refine J00 (J0q (J04 0 a.l.Coeffs.length) j a.l) (by first|simp [J06,hb2,ne];done|rfl) ?_|refine J01 (J0q (J04 0 a.l.Coeffs.length) j a.l) (by first|simp [J06,hb2,ne];done|rfl) ?_
   rintro r rfl
   rw [J0o]
   generalize J0b (J04 0 a.l.Coeffs.length) j a.l=T at *
   simp [J07,ne]
   exact hK _ _ _ (n+1) (n+1+1) (by simp) (by omega) (fun id hid=>by simp [fr id hid]) (by simp) (by simp) ⟨by omega,by omega,by omega,by omega,by omega,by simp [ne],by simp [ne]⟩
 ·skip
  first|refine J00 (J11 0 a.l.Coeffs.length) (by first|simp;done|rfl) ?_|refine J01 (J11 0 a.l.Coeffs.length) (by first|simp;done|rfl) ?_
  rintro r rfl
  simp [J07,ne]
  first|refine J00 (J0q (J04 0 a.l.Coeffs.length) j a.l) (by first|simp [J06,hb2,ne];done|rfl) ?_|refine J01 (J0q (J04 0 a.l.Coeffs.length) j a.l) (by first|simp [J06,hb2,ne];done|rfl) ?_
  rintro r rfl
  rw [J0o]
  generalize J0b (J04 0 a.l.Coeffs.length) j a.l=T at *
  simp [J07,ne]
  exact hK _ _ _ n (n+1+1) (by simp) (by omega) (fun id hid=>by simp [fr id hid]) (by simp) (by simp) ⟨by omega,by omega,by omega,by omega,by omega,by simp [ne],by simp [ne]⟩
theorem Ju2 {b:DDer}{l:DLin}{vb mb:AV}{k:Int}{k6 k7 k10 q10 lo:Nat}(s6:s 6 = .ptr k6 0 0) (s7:s 7 = .ptr k7 0 0) (s10:s 10 = .ptr k10 0 0) (e6:h k6=some ⟨true,4,[[.int .i64 b.l.Const,vb,mb,.int .i64 b.scale]]⟩) (e7:h k7=some ⟨true,1,[[i64 k]]⟩) (L:Jnr l k10 q10 h lo n) (B1:SVi b.l.Coeffs vb h n) (hlo:lo≤n)
 (hK:∀ s' h' n' q,(∀ i∈[4,5,6,7,8,10,11],s' i=s i)→n≤n'→(∀ id,id<lo→h' id=h id)→s' 12 = .bool (J0b l k b.l).isSome→Jnr ((J0b l k b.l).getD J1d) k10 q h' lo n'→J25 Tryz.prog ks .normal s' h' n' Q):rC Tryz.prog cb2 ks s h n Q:=by
 obtain ⟨l1,l2,l3,l4,l5,l6,l7⟩:=L
 have fr:∀ id,id<n→¬id=n∧¬id=n+1∧¬id=n+2∧¬id=n+1+1:=by intro id _;omega
 have hb:=B1.bw
 have ne:¬k10=n∧¬n=k10:=by omega
 simp [cb2,s6,s7,s10,e6,e7,l6,l7]
 first|refine J00 (J0q l k b.l) (by first|simp [J06,hb,l6,l7];done|rfl) ?_|refine J01 (J0q l k b.l) (by first|simp [J06,hb,l6,l7];done|rfl) ?_
 rintro r rfl
 rw [J0o]
 generalize J0b l k b.l=T at *
 simp [J07,ne,s10,l6]
 refine hK _ _ _ n (by simp) (by omega) (fun id hid=>by simp [show ¬id=n∧¬id=k10 by omega]) (by simp) ⟨by omega,by omega,by omega,by omega,by omega,by simp [ne],by simp [ne]⟩
end
theorem Jrw {xs:List Int}{v:AV}{h:Heap}{n k:Nat}{y:Int}{K:AV→Heap→Nat→Prop}(x:OVi xs v h n) (hk:h k=some ⟨false,1,[[i64 y]]⟩) (hvk:∀ l,v ≠ .ref k 0 l) (hkn:k<n) (hl:(xs.length+1)*8≤LIM)
 (hK:∀ h',h' n=some ⟨false,1,J0e (xs++[y])⟩→(∀ id,id≠n→id≠k→(∀ l,v ≠ .ref id 0 l)→h' id=h id)→K (.ref n 0 (xs.length+1)) h' (n+1)):Jsz 8 1 v (.ref k 0 1) h n K:=by
 rcases x with ⟨rfl,rfl⟩|⟨id,h1,rfl,h3⟩
 ·simp [hk]
  refine ⟨by simpa using hl,hK _ (by simp [J0e]) ?_⟩
  intro id h1 h2 _
  simp [h1,h2]
 ·have hne:¬id=k:=fun e=>hvk xs.length (by rw [e])
  have hne':¬id=n:=by omega
  have hk':¬k=n:=by omega
  have hk2:¬k=id:=fun e=>hne e.symm
  simp [hk,h3,hne,hne',hk',hk2]
  refine ⟨by simpa using hl,hK _ (by simp [J0e]) ?_⟩
  intro i g1 g2 g3
  have:¬i=id:=fun e=>g3 xs.length (by rw [e])
  simp [g1,g2,this]
def Ka8:DDer:=⟨⟨0,[]⟩,[],0⟩
theorem Jz1 {h:Heap}{n:Nat} : J3r Ka8 [.int .i64 0,.nil 1,.nil 1,.int .i64 0] h n:=⟨.nil 1,.nil 1,rfl,.inr (.inl ⟨rfl,rfl⟩),.inl ⟨rfl,rfl⟩⟩
theorem Job {a b:DDer}{j k:Int}(h:J0b (J04 0 a.l.Coeffs.length) j a.l=Option.none):J87 a j b k=Option.none:=by unfold J87;rw [h]
theorem Jmf {a b:DDer}{j k:Int}{l:DLin}(h:J0b (J04 0 a.l.Coeffs.length) j a.l=some l) (h2:J0b l k b.l=Option.none):J87 a j b k=Option.none:=by unfold J87;simp only [h,h2]
theorem Jj6 {a b:DDer}{j k:Int}{l l2:DLin}(h:J0b (J04 0 a.l.Coeffs.length) j a.l=some l) (h2:J0b l k b.l=some l2):J87 a j b k=if (Jct j a.scale k b.scale).2&&(J8l j a.mult k b.mult).all (·.2) then some ⟨l2,(J8l j a.mult k b.mult).map (·.1),(Jct j a.scale k b.scale).1⟩ else Option.none:=by unfold J87;simp only [h,h2]
def Jir (j:Int) (xs:List Int) (k:Int) (ys:List Int) (i:Nat):List Int:=((J8l j xs k ys).take i).map (·.1)
def Jhs (j:Int) (xs:List Int) (k:Int) (ys:List Int) (i:Nat):Bool:=((J8l j xs k ys).take i).all (·.2)
theorem Jk3 {j k:Int}{xs ys:List Int}{i:Nat}(hi:i<xs.length) (hy:ys.length=xs.length):Jir j xs k ys (i+1)=Jir j xs k ys i++[(Jct j xs[i] k (ys[i]'(by omega))).1]∧Jhs j xs k ys (i+1)=(Jhs j xs k ys i&&(Jct j xs[i] k (ys[i]'(by omega))).2):=by
 have hl:i<(J8l j xs k ys).length:=by simp [J8l];omega
 have he:(J8l j xs k ys)[i]=Jct j xs[i] k (ys[i]'(by omega)):=by simp [J8l]
 unfold Jir Jhs
 rw [List.take_succ_eq_append_getElem hl]
 simp [he]
theorem Jo3 {j k:Int}{xs ys:List Int}(hy:ys.length=xs.length):Jir j xs k ys xs.length=(J8l j xs k ys).map (·.1)∧Jhs j xs k ys xs.length=(J8l j xs k ys).all (·.2):=by
 have:(J8l j xs k ys).take xs.length=J8l j xs k ys:=List.take_of_length_le (by simp [J8l];omega)
 unfold Jir Jhs;rw [this];exact ⟨rfl,rfl⟩
theorem Jkt {j k:Int}{xs ys:List Int}{i:Nat} : (Jir j xs k ys i).length≤xs.length:=by simp [Jir,J8l];omega
section
variable {ks:List Kt}{s:Env}{h h':Heap}{n:Nat}{Q:Fin}
structure CbS (n0:Nat) (h0:Heap) (a b:DDer) (va ma vb mb:AV) (j k:Int) (k14 q:Nat) (l2:DLin) (xs:List Int) (sc:Int) (h:Heap) (m:Nat):Prop where
 le:n0+5≤k14
 lt:k14<m
 q0:n0+5≤q
 qm:q<m
 fr:∀ id,id<n0→h id=h0 id
 e4:h n0=some ⟨true,4,[[.int .i64 a.l.Const,va,ma,.int .i64 a.scale]]⟩
 e5:h (n0+1)=some ⟨true,1,[[i64 j]]⟩
 e6:h (n0+2)=some ⟨true,4,[[.int .i64 b.l.Const,vb,mb,.int .i64 b.scale]]⟩
 e7:h (n0+3)=some ⟨true,1,[[i64 k]]⟩
 e8:h (n0+4)=some ⟨true,4,[[.int .i64 0,.nil 1,.nil 1,.int .i64 0]]⟩
 eq:h q=some ⟨false,1,J0e l2.Coeffs⟩
 e14:∃ vm,h k14=some ⟨true,4,[[.int .i64 l2.Const,.ref q 0 l2.Coeffs.length,vm,.int .i64 sc]]⟩∧OVi xs vm h m∧∀ id l,vm = .ref id 0 l→n0+5≤id∧id≠q
theorem CbS.step {n0:Nat}{h0:Heap}{a b:DDer}{va ma vb mb:AV}{j k:Int}{k14 q:Nat}{l2:DLin}{xs xs':List Int}{sc:Int}{h h':Heap}{m m':Nat}{vm:AV}(S:CbS n0 h0 a b va ma vb mb j k k14 q l2 xs sc h m) (hm:m≤m') (hf:∀ id,id<n0+5→h' id=h id) (hq:h' q=h q)
 (e:h' k14=some ⟨true,4,[[.int .i64 l2.Const,.ref q 0 l2.Coeffs.length,vm,.int .i64 sc]]⟩) (hx:OVi xs' vm h' m') (hv:∀ id l,vm = .ref id 0 l→n0+5≤id∧id≠q):CbS n0 h0 a b va ma vb mb j k k14 q l2 xs' sc h' m':=by
 obtain ⟨S1,S2,S3,S4,S5,S6,S7,S8,S9,S10,S11,_⟩:=S
 exact ⟨S1,by omega,S3,by omega,fun id hid=>by rw [hf id (by omega)];exact S5 id hid,by rw [hf _ (by omega)];exact S6,by rw [hf _ (by omega)];exact S7,by rw [hf _ (by omega)];exact S8,by rw [hf _ (by omega)];exact S9,by rw [hf _ (by omega)];exact S10,by rw [hq];exact S11,vm,e,hx,hv⟩
theorem Jva {n0:Nat}{h0:Heap}{a b:DDer}{va ma vb mb:AV}{j k:Int}{k14:Nat}{sc:Int}{l2:DLin}{q:Nat}(hml:b.mult.length=a.mult.length) (hm20:a.mult.length≤20) (A2:OVi a.mult ma h0 n0) (B2:OVi b.mult mb h0 n0) (ok:Bool)
 (s4:s 4 = .ptr n0 0 0) (s6:s 6 = .ptr (n0+2) 0 0) (s13:s 13 = .fn (.func 331) [] [.ptr (n0+1) 0 0,.ptr (n0+3) 0 0]) (s14:s 14 = .ptr k14 0 0) (s16:s 16 = .bool ok)
 (S0:CbS n0 h0 a b va ma vb mb j k k14 q l2 [] sc h n)
 (hK:∀ s' h' n',(∀ i∈[8,14],s' i=s i)→s' 16 = .bool (ok&&(J8l j a.mult k b.mult).all (·.2))→n≤n'→CbS n0 h0 a b va ma vb mb j k k14 q l2 ((J8l j a.mult k b.mult).map (·.1)) sc h' n'→J25 Tryz.prog ks .normal s' h' n' Q):rC Tryz.prog cb8 ks s h n Q:=by
 have hA0:SVi a.mult ma h n := .inr (A2.keep (by have:=S0.le;have:=S0.lt;omega) (J1h.of S0.fr))
 simp [cb8,s4,S0.e4]
 refine Jpz hA0 ?_ (by unfold LIM;omega)
 intro _
 simp
 refine J0k [4,6,8,13,14,63] 64 a.mult.length (fun i s h m=>n≤m∧s 16 = .bool (ok&&Jhs j a.mult k b.mult i)∧CbS n0 h0 a b va ma vb mb j k k14 q l2 (Jir j a.mult k b.mult i) sc h m) (by unfold LIM;omega) (by simp) ⟨Nat.le_refl _,by simp [Jhs,s16],S0⟩ ?_ ?_
 ·rintro i st h m R hi hg hk s64 hw ⟨hnm,s16,S⟩ hR hret _
  simp at hk
  have hib:i<b.mult.length:=by omega
  obtain ⟨g1,g2⟩:=Jk3 (j:=j) (k:=k) (xs:=a.mult) (ys:=b.mult) hi hml
  have S':=S
  obtain ⟨S1,S2,Sq0,Sqm,S3,S4,S5,S6,S7,S8,Sq,vm,S9,S10,S11⟩:=S
  have hA:SVi a.mult ma h m := .inr (A2.keep (by omega) (J1h.of S3))
  have hB:SVi b.mult mb h m := .inr (B2.keep (by omega) (J1h.of S3))
  refine J0g [4,6,8,13,14,16,63,64] (fun s=>s 65 = .bool true) (by simp [hk,s64,hi]) ?_
  intro st1 hk1 s65
  simp at hk1
  refine J2m s65 (J09 (J0t ?_))
  refine J0g [4,6,8,13,14,16,63,64] (fun s=>s 17 = .int .i64 i) (by simp [hk1,s64]) ?_
  intro st2 hk2 s17
  simp at hk2
  refine J0g [4,6,8,13,14,16,63,64] (fun s=>s 18 = .int .i64 (Jct j a.mult[i] k b.mult[i]).1∧s 19 = .bool (Jct j a.mult[i] k b.mult[i]).2) ?_ ?_
  ·simp [K90,hk2,hk1,hk,s4,s6,s13,s17,S4,S6]
   refine J74 hA hi ?_
   intro w1 hw1
   simp
   refine hw1 _ ?_
   simp [hk2,hk1,hk,s6,s17,S6]
   refine J74 hB hib ?_
   intro w2 hw2
   simp
   refine hw2 _ ?_
   simp [hk2,hk1,hk,s13]
   refine Jkk S5 S7 ?_
   simp [J2v]
  rintro st3 hk3 ⟨s18,s19⟩
  simp at hk3
  generalize (Jct j a.mult[i] k b.mult[i]).1=y at *
  generalize (Jct j a.mult[i] k b.mult[i]).2=ob at *
  have x1:¬k14=m:=by omega
  have x2:¬k14=m+1:=by omega
  have vne:∀ id,(∃ z rows,h id=some ⟨true,z,rows⟩)→∀ l,vm ≠ .ref id 0 l:=fun id he l e=>by
   obtain ⟨z,rows,he⟩:=he
   rcases S10 with ⟨rfl,_⟩|⟨id',q1,rfl,q3⟩
   ·cases e
   ·simp at e;rw [e.1,he] at q3;simp at q3
  have vlt:∀ id,m≤id→∀ l,vm ≠ .ref id 0 l:=fun id he l e=>by
   rcases S10 with ⟨rfl,_⟩|⟨id',q1,rfl,q3⟩
   ·cases e
   ·simp at e;omega
  have vmx:OVi (Jir j a.mult k b.mult i) vm (upd h m (some ⟨false,1,[[i64 y]]⟩)) (m+1):=S10.keep (Nat.le_succ m) (J1h.of fun id hid=>by rw [J0v];omega)
  have hl:=Jkt (j:=j) (k:=k) (xs:=a.mult) (ys:=b.mult) (i:=i)
  refine J17 [4,6,8,13,14,16,19,63,64] (fun s h' m'=>m≤m'∧CbS n0 h0 a b va ma vb mb j k k14 q l2 (Jir j a.mult k b.mult (i+1)) sc h' m') ?_ ?_
  ·simp [K8x,hk3,hk2,hk1,hk,s14,s18,S9,x1]
   refine Jrw (y:=y) vmx (by simp) (vlt m (Nat.le_refl m)) (Nat.lt_succ_self m) (by unfold LIM;omega) ?_
   intro h' f1 f2
   have old:∀ id,id<m→(∀ l,vm ≠ .ref id 0 l)→h' id=h id:=fun id hid hv=>by
    rw [f2 id (by omega) (by omega) hv,J0v];omega
   have y14:=old k14 S2 (vne k14 ⟨_,_,S9⟩)
   rw [S9] at y14
   simp [hk3,hk2,hk1,hk,s14,y14]
   refine ⟨by omega,S'.step (vm := .ref (m+1) 0 ((Jir j a.mult k b.mult i).length+1)) (by omega) ?_ ?_ (by simp) ?_ ?_⟩
   ·intro id hid
    have:¬id=k14:=by omega
    simp [this]
    refine old id (by omega) fun l e => ?_
    have:=(S11 id l e).1
    omega
   ·have:¬q=k14:=by rintro rfl;rw [S9] at Sq;simp at Sq
    simp [this]
    exact old q Sqm fun l e=>(S11 q l e).2 rfl
   ·refine .inr ⟨m+1,by omega,by rw [g1];simp,?_⟩
    have:¬m+1=k14:=by omega
    simp [this,f1,g1]
   ·intro id l e
    simp at e
    omega
  rintro st4 h4 m4 hk4 ⟨hm4,S4'⟩
  simp at hk4
  have g3:(ok&&Jhs j a.mult k b.mult (i+1))=((ok&&Jhs j a.mult k b.mult i)&&ob):=by rw [g2,Bool.and_assoc]
  generalize (ok&&Jhs j a.mult k b.mult i)=bo at *
  generalize (ok&&Jhs j a.mult k b.mult (i+1))=bo2 at *
  subst g3
  cases bo
  ·simp [K7q,hk4,hk3,hk2,hk1,hk,s16,s19,s64,hw]
   exact hR _ _ _ (by simp [hk4,hk3,hk2,hk1,hk]) (by simp) ⟨by omega,by simp,S4'⟩
  ·simp [K7q,hk4,hk3,hk2,hk1,hk,s16,s19,s64,hw]
   exact hR _ _ _ (by simp [hk4,hk3,hk2,hk1,hk]) (by simp) ⟨by omega,by simp,S4'⟩
 ·rintro st h m R hk s64 ⟨hnm,s16,S⟩ hret hX
  simp at hk
  obtain ⟨g1,g2⟩:=Jo3 (j:=j) (k:=k) (xs:=a.mult) (ys:=b.mult) hml
  rw [g1] at S
  rw [g2] at s16
  refine J0g [8,14,16] (fun s=>s 65 = .bool false) (by simp [hk,s64]) ?_
  intro st1 hk1 s65
  simp at hk1
  refine J2g s65 ?_
  refine hX _ _ _ _ ?_
  simp
  exact hK _ _ _ (by simp [hk1,hk]) (by rw [hk1.2.2];exact s16) hnm S
end
def sc0:AC:=(.reg [Zo 8 (.mv (.k (.nil 1))),Zo 9 (.mv (.k (.bool false)))])
def sc1:AC:=(.reg [Zo 18 (.bsl 1 []),Zv 10 18])
def sca:AC:=(.reg [Zv 26 0,Zv 27 11,Zo 28 (.ixa 1 (.t 26) (.t 27)),Zl 29 false 1 28,Zv 30 1,Zc 31 263 [.t 29,.t 30],Zv 25 31,Zo 32 (.ext (.t 25) 0),Zo 33 (.ext (.t 25) 1),Zv 12 32,Zv 13 33])
def scb:AC:=(.reg [Zv 35 2,Zv 36 11,Zo 37 (.ixa 1 (.t 35) (.t 36)),Zl 38 false 1 37,Zv 39 3,Zc 40 263 [.t 38,.t 39],Zv 34 40,Zo 41 (.ext (.t 34) 0),Zo 42 (.ext (.t 34) 1),Zv 14 41,Zv 15 42])
def scc:AC:=(.reg [Zv 44 12,Zv 45 14,Zc 46 264 [.t 44,.t 45],Zv 43 46,Zo 47 (.ext (.t 43) 0),Zo 48 (.ext (.t 43) 1),Zv 16 47,Zv 17 48])
def scd:AC:=(.reg [Zv 60 10,Zv 61 16,Zo 62 (.bsl 1 [.t 61]),Zo 63 (.app 8 1 (.t 60) (.t 62)),Zv 10 63])
def sc2:AC:=(.seq (.reg [Zo 11 (.mv (.k (.int .i64 0)))]) (.blk 0 (.loop (.seq (.seq (.reg [Zv 19 11,Zv 20 0,Zo 21 (.len false (.t 20)),Zo 22 (.bin .lss (.t 19) (.t 21))]) (.cond (.t 22) .skip (.exit 0))) (.seq (.blk 1 (.seq  sca (.seq  scb (.seq  scc (.seq (.seq (.reg [Zv 49 13,Zo 50 (.un .not (.t 49)),Zv 51 50,⟨some 52,.mv (.t 15),(some (51,false))⟩,⟨some 53,.un .not (.t 52),(some (51,false))⟩,Zo 54 (.pick (.t 51) (.k (.bool true)) (.t 53)),Zv 55 54,⟨some 56,.mv (.t 17),(some (55,false))⟩,⟨some 57,.un .not (.t 56),(some (55,false))⟩,Zo 58 (.pick (.t 55) (.k (.bool true)) (.t 57))]) (.cond (.t 58) (.seq (.reg [Zo 59 (.bsl 1 []),Zv 8 59,Zo 9 (.mv (.k (.bool false)))]) .ret) .skip))  scd))))) (.reg [Zv 23 11,Zo 24 (.bin .add (.t 23) (.k (.int .i64 1))),Zv 11 24]))))))
def sc3:AC:=(.reg [Zv 64 10,Zv 8 64,Zo 9 (.mv (.k (.bool true)))])
def a330:AFn:=⟨65,[.t 8,.t 9],(.seq sc0 (.seq sc1 (.seq sc2 (.seq sc3 .ret))))⟩
theorem a330_ok:J5h true Tryz.prog Tryz.f330=some a330:=by kernel_rfl
theorem Jlz {m:Nat} : List.replicate m [i64 0]=J0e (List.replicate m 0):=by
 unfold J0e
 rw [List.map_replicate]
theorem Jhg (x y:Int):J63 x y=J63 y x:=by
 unfold J63
 rw [Int.mul_comm x y,Bool.and_comm (okC x) (okC y)]
def scV (j:Int) (xs:List Int) (k:Int) (ys:List Int):List Int:=if (J8l j xs k ys).all (·.2) then (J8l j xs k ys).map (·.1) else []
theorem Jw0 {j k:Int}{xs ys:List Int}{i:Nat}(h:Jhs j xs k ys i=false):(J8l j xs k ys).all (·.2)=false:=by
 unfold Jhs at h
 rw [←List.take_append_drop i (J8l j xs k ys),List.all_append,h];rfl
theorem Jjp (xs ys:List Int) (j k:Int) (hy:ys.length=xs.length) (hl:xs.length≤100):Holds Tryz.prog 330 [.sl 1 (J0e xs),i64 j,.sl 1 (J0e ys),i64 k] (fun r=>r = .tup [.us 1 (J0e (scV j xs k ys)),.bool ((J8l j xs k ys).all (·.2))]):=by
 refine J02 Tryz.func330 a330_ok rfl (by simp [a330]) ?_
 simp [a330,sc0,sc1,sc2]
 refine J0k [0,1,2,3] 11 xs.length (fun i s h m=>Jhs j xs k ys i=true∧∃ id,id<m∧s 10 = .ref id 0 (Jir j xs k ys i).length∧h id=some ⟨false,1,J0e (Jir j xs k ys i)⟩) (by unfold LIM;omega) (by simp) ⟨by simp [Jhs],0,by simp,by simp [Jir],by simp [Jir,J0e]⟩ ?_ ?_
 ·rintro i st h m R hi hg hk s11 hw ⟨hb,id,hid,s10,eid⟩ hR hret _
  simp at hk
  have hib:i<ys.length:=by omega
  obtain ⟨g1,g2⟩:=Jk3 (j:=j) (k:=k) (xs:=xs) (ys:=ys) hi hy
  refine J09 (J0g [0,1,2,3,10,11] (fun s=>s 22 = .bool true) (by simp [hk,s11,hi]) ?_)
  intro st1 hk1 s22
  simp at hk1
  refine J1u s22 (J09 (J0t ?_))
  refine J0g [0,1,2,3,10,11] (fun s=>s 12 = .int .i64 (J63 j xs[i]).1∧s 13 = .bool (J63 j xs[i]).2) ?_ ?_
  ·simp [sca,hk1,hk,s11,hi]
   first|refine J00 (J4e (xs[i]'hi) j) (by first|simp;done|rfl) ?_|refine J01 (J4e (xs[i]'hi) j) (by first|simp;done|rfl) ?_
   rintro r rfl
   rw [Jhg]
   simp [J2v]
  rintro st2 hk2 ⟨s12,s13⟩
  simp at hk2
  refine J0g [0,1,2,3,10,11,12,13] (fun s=>s 14 = .int .i64 (J63 k ys[i]).1∧s 15 = .bool (J63 k ys[i]).2) ?_ ?_
  ·simp [scb,hk2,hk1,hk,s11,hib]
   first|refine J00 (J4e (ys[i]'hib) k) (by first|simp;done|rfl) ?_|refine J01 (J4e (ys[i]'hib) k) (by first|simp;done|rfl) ?_
   rintro r rfl
   rw [Jhg]
   simp [J2v]
  rintro st3 hk3 ⟨s14,s15⟩
  simp at hk3
  refine J0g [0,1,2,3,10,11,13,15] (fun s=>s 16 = .int .i64 (Jct j xs[i] k ys[i]).1∧s 17 = .bool (Jcf (J63 j xs[i]).1 (J63 k ys[i]).1).2) ?_ ?_
  ·simp [scc,hk3,s12,s14]
   first|refine J00 (J6d (J63 j xs[i]).1 (J63 k ys[i]).1) (by first|simp;done|rfl) ?_|refine J01 (J6d (J63 j xs[i]).1 (J63 k ys[i]).1) (by first|simp;done|rfl) ?_
   rintro r rfl
   simp [J2v,Jct,J4b]
  rintro st4 hk4 ⟨s16,s17⟩
  simp at hk4
  have hok:(Jct j xs[i] k ys[i]).2=((J63 j xs[i]).2&&((J63 k ys[i]).2&&(Jcf (J63 j xs[i]).1 (J63 k ys[i]).1).2)):=rfl
  have x13:st4 13 = .bool (J63 j xs[i]).2:=by rw [hk4.2.2.2.2.2.2.1,hk3.2.2.2.2.2.2.2,s13]
  have x15:st4 15 = .bool (J63 k ys[i]).2:=by rw [hk4.2.2.2.2.2.2.2,s15]
  have x10:st4 10 = .ref id 0 (Jir j xs k ys i).length:=by rw [hk4.2.2.2.2.1,hk3.2.2.2.2.1,hk2.2.2.2.2.1,hk1.2.2.2.2.1,s10]
  have hbad:Jhs j xs k ys (i+1)=false→scV j xs k ys=[]∧(J8l j xs k ys).all (·.2)=false:=fun h=>by
   have:=Jw0 h
   exact ⟨by unfold scV;rw [this];rfl,this⟩
  have hne:¬id=m:=by omega
  have hml:=Jkt (j:=j) (k:=k) (xs:=xs) (ys:=ys) (i:=i)
  rw [hb,Bool.true_and,hok] at g2
  cases c1:(J63 j xs[i]).2 <;> rw [c1] at x13 g2
  ·obtain ⟨y1,y2⟩:=hbad (by rw [g2];rfl)
   simp [x13]
   refine hret _ _ _ ?_
   simp [y1,y2,J0e]
  cases c2:(J63 k ys[i]).2 <;> rw [c2] at x15 g2
  ·obtain ⟨y1,y2⟩:=hbad (by rw [g2];rfl)
   simp [x13,x15]
   refine hret _ _ _ ?_
   simp [y1,y2,J0e]
  cases c3:(Jcf (J63 j xs[i]).1 (J63 k ys[i]).1).2 <;> rw [c3] at s17 g2
  ·obtain ⟨y1,y2⟩:=hbad (by rw [g2];rfl)
   simp [x13,x15,s17]
   refine hret _ _ _ ?_
   simp [y1,y2,J0e]
  simp [x13,x15,s17,scd,x10,s16,eid,hne]
  refine ⟨fun e=>hne e.symm,by unfold LIM;omega,?_⟩
  simp [hk4,hk3,hk2,hk1,s11,hw]
  have ht:Jhs j xs k ys (i+1)=true:=by rw [g2];rfl
  refine hR _ _ _ (by simp [hk4,hk3,hk2,hk1,hk]) (by simp) ⟨ht,m+1,by omega,by rw [g1];simp,by rw [g1];simp [J0e]⟩
 ·rintro st h m R hk s11 ⟨hb,id,hid,s10,eid⟩ hret hX
  simp at hk
  obtain ⟨g1,g2⟩:=Jo3 (j:=j) (k:=k) (xs:=xs) (ys:=ys) hy
  rw [g1] at s10 eid
  rw [g2] at hb
  have hv:scV j xs k ys=(J8l j xs k ys).map (·.1):=by unfold scV;rw [hb];rfl
  refine J09 (J0g [10] (fun s=>s 22 = .bool false) (by simp [hk,s11]) ?_)
  intro st1 hk1 s22
  simp at hk1
  refine J1s s22 ?_
  refine hX _ _ _ _ ?_
  rw [hv,hb]
  have ht:List.take (J8l j xs k ys).length (J0e ((J8l j xs k ys).map (·.1)))=J0e ((J8l j xs k ys).map (·.1)):=List.take_of_length_le (by simp)
  simp [sc3,hk1,s10,eid,ht]
def jn0:AC:=(.reg [Zo 3 (.boxv (.t 0)),Zo 4 (.boxv (.t 1)),Zo 6 (.box [(.int .i64 0),(.nil 1),(.nil 1)]),Zo 7 (.mv (.k (.bool false)))])
def jn1:AC:=(.reg [Zf 17 0 3,Zf 18 1 17,Zl 19 false 1 18,Zv 20 2,Zo 21 (.ixa 1 (.t 19) (.t 20)),Zl 22 false 1 21,Zv 8 22])
def jn2:AC:=(.reg [Zf 23 0 4,Zf 24 1 23,Zl 25 false 1 24,Zv 26 2,Zo 27 (.ixa 1 (.t 25) (.t 26)),Zl 28 false 1 27,Zo 29 (.bin .sub (.k (.int .i64 0)) (.t 28)),Zv 9 29])
def jn3:AC:=(.reg [Zv 30 8,Zv 31 9,Zc 32 329 [.t 30,.t 31],Zc 33 270 [.t 32,(.k (.int .i64 1))],Zv 10 33])
def jn4:AC:=(.draw (.op (Zf 35 0 3) (.op (Zf 36 1 35) (.op (Zl 37 false 1 36) (.op (Zo 38 (.len false (.t 37))) (.op (Zv 41 9) (.op (Zv 42 10) (.op (Zo 43 (.bin .quo (.t 41) (.t 42))) (.op (Zf 44 0 3) (.op (Zl 45 true 2 44) (.both (.op (Zo 39 (.mks 8 [(.int .i64 0)] (.t 38) (.t 38))) (.op (Zo 40 (.build [(.int .i64 0),(.nil 1)] [(1,(1,(.t 39)))])) (.both (.op (Zc 46 98 [.t 40,.t 43,.t 45]) (.op (Zv 34 46) (.op (Zo 47 (.ext (.t 34) 0)) (.op (Zo 48 (.ext (.t 34) 1)) (.op (Zo 11 (.box [(.int .i64 0),(.nil 1)])) (.hop ⟨no,.st 2 (.t 11) (.t 47),no⟩ [] (.op (Zv 12 48) .fin))))))) (.op (Zo 11 (.box [(.int .i64 0),(.nil 1)])) (.op (Zc 46 98 [.t 40,.t 43,.t 45]) (.op (Zv 34 46) (.op (Zo 47 (.ext (.t 34) 0)) (.op (Zo 48 (.ext (.t 34) 1)) (.hop ⟨no,.st 2 (.t 11) (.t 47),no⟩ [] (.op (Zv 12 48) .fin)))))))))) (.op (Zo 11 (.box [(.int .i64 0),(.nil 1)])) (.op (Zo 39 (.mks 8 [(.int .i64 0)] (.t 38) (.t 38))) (.op (Zo 40 (.build [(.int .i64 0),(.nil 1)] [(1,(1,(.t 39)))])) (.op (Zc 46 98 [.t 40,.t 43,.t 45]) (.op (Zv 34 46) (.op (Zo 47 (.ext (.t 34) 0)) (.op (Zo 48 (.ext (.t 34) 1)) (.hop ⟨no,.st 2 (.t 11) (.t 47),no⟩ [] (.op (Zv 12 48) .fin))))))))))))))))))))
def jn5:AC:=(.draw (.op (Zl 50 true 2 11) (.op (Zv 51 8) (.op (Zv 52 10) (.op (Zo 53 (.bin .quo (.t 51) (.t 52))) (.op (Zf 54 0 4) (.op (Zl 55 true 2 54) (.both (.op (Zc 56 98 [.t 50,.t 53,.t 55]) (.op (Zv 49 56) (.op (Zo 57 (.ext (.t 49) 0)) (.op (Zo 58 (.ext (.t 49) 1)) (.op (Zo 13 (.box [(.int .i64 0),(.nil 1)])) (.hop ⟨no,.st 2 (.t 13) (.t 57),no⟩ [] (.op (Zv 14 58) .fin))))))) (.op (Zo 13 (.box [(.int .i64 0),(.nil 1)])) (.op (Zc 56 98 [.t 50,.t 53,.t 55]) (.op (Zv 49 56) (.op (Zo 57 (.ext (.t 49) 0)) (.op (Zo 58 (.ext (.t 49) 1)) (.hop ⟨no,.st 2 (.t 13) (.t 57),no⟩ [] (.op (Zv 14 58) .fin)))))))))))))))
def jn6:AC:=(.draw (.op (Zf 60 2 3) (.op (Zl 61 false 1 60) (.op (Zv 62 9) (.op (Zv 63 10) (.op (Zo 64 (.bin .quo (.t 62) (.t 63))) (.op (Zf 65 2 4) (.op (Zl 66 false 1 65) (.op (Zv 67 8) (.op (Zv 68 10) (.op (Zo 69 (.bin .quo (.t 67) (.t 68))) (.op (Zc 70 330 [.t 61,.t 64,.t 66,.t 69]) (.op (Zv 59 70) (.op (Zo 71 (.ext (.t 59) 0)) (.op (Zo 72 (.ext (.t 59) 1)) (.op (Zv 15 71) (.op (Zv 16 72) .fin)))))))))))))))))
def jn7:AC:=(.reg [Zl 73 true 2 13,Zv 74 15,Zo 75 (.build [(.int .i64 0),(.nil 1),(.nil 1)] [(0,(2,(.t 73))),(2,(1,(.t 74)))]),Zv 76 12,Zv 77 76,⟨some 78,.mv (.t 14),(some (77,true))⟩,Zo 79 (.pick (.t 77) (.t 78) (.k (.bool false))),Zv 80 79,⟨some 81,.mv (.t 16),(some (80,true))⟩,Zo 82 (.pick (.t 80) (.t 81) (.k (.bool false))),⟨no,.st 3 (.t 6) (.t 75),no⟩,Zv 7 82])
def a304:AFn:=⟨83,[(.c 6 true 3),.t 7],(.seq jn0 (.seq jn1 (.seq jn2 (.seq jn3 (.seq jn4 (.seq jn5 (.seq jn6 (.seq jn7 .ret))))))))⟩
theorem a304_ok:J5h true Tryz.prog Tryz.f304=some a304:=by kernel_rfl
theorem Jdl {j k s t:Int}{xs ys:List Int}(h:ys.length=xs.length):J8l j (xs++[s]) k (ys++[t])=J8l j xs k ys++[Jct j s k t]:=by
 unfold J8l
 rw [List.zipWith_append h.symm];rfl
theorem bwA {c:Int}{l:List Int}{v:AV}{h:Heap}(x:Go.Proofs.YtoclolkigjbcgaaGreat.bw v h=some (.sl 1 (J0e l))):Go.Proofs.YtoclolkigjbcgaaGreat.bw (.agg [.int .i64 c,v]) h=some (.agg (J06 ⟨c,l⟩)):=by
 simp only [Go.Proofs.YtoclolkigjbcgaaGreat.bw,bwl,x];rfl
section
variable {ks:List Kt}{s:Env}{h h':Heap}{n:Nat}{Q:Fin}
theorem Jx5 {a:DDer}{va ma:AV}{N m k3:Nat}{q g:Int}(ga:GD N m a) (hq:0≤q∧q≤1000000000) (hg0:0<g) (s3:s 3 = .ptr k3 0 0) (s9:s 9 = .int .i64 q) (s10:s 10 = .int .i64 g) (e3:h k3=some ⟨true,3,[[.int .i64 a.l.Const,va,ma]]⟩) (A1:SVi a.l.Coeffs va h n)
 (hK:∀ s' h' n' k r,(∀ i∈[3,4,6,8,9,10],s' i=s i)→n≤n'→(∀ id,id<n→h' id=h id)→s' 12 = .bool (J0b (J04 0 a.l.Coeffs.length) (q.tdiv g) a.l).isSome→s' 11 = .ptr k 0 0→Jnr ((J0b (J04 0 a.l.Coeffs.length) (q.tdiv g) a.l).getD J1d) k r h' n n'→J25 Tryz.prog ks .normal s' h' n' Q):rC Tryz.prog jn4 ks s h n Q:=by
 have fr:∀ id,id<n→¬id=n∧¬id=n+1∧¬id=n+2∧¬id=n+1+1:=by intro id _;omega
 have ne:¬n=n+1∧¬n+1=n∧¬n=n+1+1∧¬n+1+1=n∧¬n+1=n+1+1∧¬n+1+1=n+1:=by omega
 have w1:=Jbx (g:=g) hq.1 hq.2 (by omega)
 have v1:IntKind.i64.wrap (q.tdiv g)=q.tdiv g:=J19 (by omega)
 have hgn:¬g=0:=by omega
 have h8:=J1t ga.ok
 have hcl:=ga.cl
 have hc0:J04 0 (a.l.Coeffs.length:Int)=⟨0,List.replicate a.l.Coeffs.length 0⟩:=(J4a (by decide) (by omega)).1
 have hz:=Jlz (m:=a.l.Coeffs.length)
 have hz0:=hz
 simp only [i64] at hz0
 have hcall:∀ {H:Heap}{M z:Nat}{K:AV→Heap→Nat→Prop},H z=some ⟨false,1,List.replicate a.l.Coeffs.length [.int .i64 0]⟩→J1h h H n→(∀ T,T=J0b (J04 0 a.l.Coeffs.length) (q.tdiv g) a.l→K (.tup [.agg [.int .i64 (T.getD J1d).Const,.ref M 0 (T.getD J1d).Coeffs.length],.bool T.isSome]) (upd H M (some ⟨false,1,J0e (T.getD J1d).Coeffs⟩)) (M+1))→J30 Tryz.prog 98 [.agg [.int .i64 0,.ref z 0 a.l.Coeffs.length],i64 (q.tdiv g),.agg [.int .i64 a.l.Const,va]] H M (Go.Proofs.YtoclolkigjbcgaaGreat.hK H K):=by
  intro H M z K hH hkp hk
  refine J00 (J0m (J04 0 a.l.Coeffs.length) (q.tdiv g) a.l) ?_ ?_
  ·have hb:bw (.ref z 0 a.l.Coeffs.length) H=some (.sl 1 (J0e (List.replicate a.l.Coeffs.length 0))):=by
    simp [hH]
    rw [hz0]
    exact Jpb _
   rw [hc0]
   simp only [bwl,bwA hb,bwA (A1.bwk hkp)]
   rfl
  ·rintro r rfl
   rw [J0o]
   have:=hk _ rfl
   simpa [J07] using this
 simp [jn4,s3,s9,s10,e3]
 refine Jk2 A1 ?_
 simp [hgn,v1,s3,e3,s9,s10]
 have hkp1:∀ y,J1h h (upd h n y) n:=fun y=>J1h.of fun id hid=>by simp [fr id hid]
 have hkp2:∀ y z,J1h h (upd (upd h n y) (n+1) z) n:=fun y z=>J1h.of fun id hid=>by simp [fr id hid]
 refine ⟨⟨by unfold LIM;omega,?_,?_⟩,by unfold LIM;omega,?_⟩
 ·refine hcall (z:=n) (by simp) (hkp1 _) ?_
  intro T hT
  simp [ne]
  rw [←hT] at hK
  exact hK _ _ _ (n+1+1) (n+1) (by simp) (by omega) (fun id hid=>by simp [fr id hid]) (by simp) (by simp) ⟨by omega,by omega,by omega,by omega,by omega,by simp,by simp [ne]⟩
 ·refine hcall (z:=n) (by simp [ne]) (hkp2 _ _) ?_
  intro T hT
  simp [ne]
  rw [←hT] at hK
  exact hK _ _ _ (n+1) (n+1+1) (by simp) (by omega) (fun id hid=>by simp [fr id hid]) (by simp) (by simp) ⟨by omega,by omega,by omega,by omega,by omega,by simp [ne],by simp [ne]⟩
 ·refine hcall (z:=n+1) (by simp [ne]) (hkp2 _ _) ?_
  intro T hT
  simp [ne]
  rw [←hT] at hK
  exact hK _ _ _ n (n+1+1) (by simp) (by omega) (fun id hid=>by simp [fr id hid]) (by simp) (by simp) ⟨by omega,by omega,by omega,by omega,by omega,by simp [ne],by simp [ne]⟩
theorem Jwy {b:DDer}{vb mb:AV}{N m k4 k11 q11 lo:Nat}{p g:Int}{l:DLin}(hp:0≤p∧p≤1000000000) (hg0:0<g) (s4:s 4 = .ptr k4 0 0) (s8:s 8 = .int .i64 p) (s10:s 10 = .int .i64 g) (s11:s 11 = .ptr k11 0 0) (e4:h k4=some ⟨true,3,[[.int .i64 b.l.Const,vb,mb]]⟩) (L:Jnr l k11 q11 h lo n) (B1:SVi b.l.Coeffs vb h n)
 (hK:∀ s' h' n' k r,(∀ i∈[3,4,6,8,9,10,12],s' i=s i)→n≤n'→(∀ id,id<n→h' id=h id)→s' 14 = .bool (J0b l (p.tdiv g) b.l).isSome→s' 13 = .ptr k 0 0→Jnr ((J0b l (p.tdiv g) b.l).getD J1d) k r h' n n'→J25 Tryz.prog ks .normal s' h' n' Q):rC Tryz.prog jn5 ks s h n Q:=by
 obtain ⟨l1,l2,l3,l4,l5,l6,l7⟩:=L
 have fr:∀ id,id<n→¬id=n∧¬id=n+1∧¬id=n+2∧¬id=n+1+1:=by intro id _;omega
 have ne:¬n=n+1∧¬n+1=n∧¬n=n+1+1∧¬n+1+1=n∧¬n+1=n+1+1∧¬n+1+1=n+1:=by omega
 have w1:=Jbx (g:=g) hp.1 hp.2 (by omega)
 have v1:IntKind.i64.wrap (p.tdiv g)=p.tdiv g:=J19 (by omega)
 have hgn:¬g=0:=by omega
 have hcall:∀ {H:Heap}{M:Nat}{K:AV→Heap→Nat→Prop},J1h h H n→(∀ T,T=J0b l (p.tdiv g) b.l→K (.tup [.agg [.int .i64 (T.getD J1d).Const,.ref M 0 (T.getD J1d).Coeffs.length],.bool T.isSome]) (upd H M (some ⟨false,1,J0e (T.getD J1d).Coeffs⟩)) (M+1))→J30 Tryz.prog 98 [.agg [.int .i64 l.Const,.ref q11 0 l.Coeffs.length],i64 (p.tdiv g),.agg [.int .i64 b.l.Const,vb]] H M (Go.Proofs.YtoclolkigjbcgaaGreat.hK H K):=by
  intro H M K hkp hk
  refine J00 (J0m l (p.tdiv g) b.l) ?_ ?_
  ·have hb:bw (.ref q11 0 l.Coeffs.length) H=some (.sl 1 (J0e l.Coeffs)):=by
    have:=hkp q11 _ _ l4 l7
    simp [this]
   simp only [bwl,bwA hb,bwA (B1.bwk hkp)]
   rfl
  ·rintro r rfl
   rw [J0o]
   have:=hk _ rfl
   simpa [J07] using this
 simp [jn5,s4,s8,s10,s11,e4,l6,hgn,v1]
 refine ⟨?_,?_⟩
 ·refine hcall (J1h.of fun _ _=>rfl) ?_
  intro T hT
  simp [ne]
  rw [←hT] at hK
  exact hK _ _ _ (n+1) n (by simp) (by omega) (fun id hid=>by simp [fr id hid]) (by simp) (by simp) ⟨by omega,by omega,by omega,by omega,by omega,by simp,by simp [ne]⟩
 ·refine hcall (J1h.of fun id hid=>by simp [fr id hid]) ?_
  intro T hT
  simp [ne]
  rw [←hT] at hK
  exact hK _ _ _ n (n+1) (by simp) (by omega) (fun id hid=>by simp [fr id hid]) (by simp) (by simp) ⟨by omega,by omega,by omega,by omega,by omega,by simp [ne],by simp [ne]⟩
end
end Go.Proofs.YtoclolkigjbcgaaGreat
