/- Contracts: names in order; the names of an argument. -/
import Derived.Test.YtoclolkigjbcgaaGreatXR44
import Derived.Test.YtoclolkigjbcgaaGreatXSh
import Derived.Test.YtoclolkigjbcgaaGreatXC11
import Derived.Test.YtoclolkigjbcgaaGreatXC1
namespace Go.Proofs.YtoclolkigjbcgaaGreat
set_option maxRecDepth 40000
set_option maxHeartbeats 4000000
open Go Go.RowKit Go.Proofs
set_option linter.all false
def a299:AFn:= ⟨10,[.t 2],(.seq (.reg [Zo 2 (.mv (.k (.nil 1)))]) (.seq (.reg [Zv 4 0,Zc 5 252 [.t 4],Zv 3 5]) (.seq (.reg [Zv 6 3,Zc 7 324 [.t 6]]) (.seq (.reg [Zv 8 3,Zc 9 325 [.t 8],Zv 2 9]) .ret))))⟩
theorem a299_ok:J06 Tryz.prog Tryz.f299=some a299:=by kernel_rfl
def a319:AFn:= ⟨63,[.t 2],(.seq (.reg [Zo 2 (.mv (.k (.nil 1)))]) (.seq (.reg [Zo 7 (.bsl 1 []),Zv 3 7]) (.seq (.seq (.reg [Zo 4 (.mv (.k (.int .i64 0)))]) (.blk 0 (.loop (.seq (.seq (.reg [Zv 8 4,Zv 9 0,Zo 10 (.len false (.t 9)),Zo 11 (.bin .lss (.t 8) (.t 10))]) (.cond (.t 11) .skip (.exit 0))) (.seq (.blk 1 (.seq (.reg [Zo 5 (.mv (.k (.int .i64 0)))]) (.seq (.blk 2 (.loop (.seq (.seq (.draw (.op (Zv 14 5) (.op (Zv 15 3) (.op (Zo 16 (.len false (.t 15))) (.op (Zo 17 (.bin .lss (.t 14) (.t 16))) (.op (Zv 18 17) (.op ⟨some 19,.mv (.t 3),(some (18,true))⟩ (.op ⟨some 20,.mv (.t 5),(some (18,true))⟩ (.op ⟨some 21,.ixa 1 (.t 19) (.t 20),(some (18,true))⟩ (.op ⟨some 22,.ld false 1 (.t 21),(some (18,true))⟩ (.op ⟨some 23,.mv (.t 0),(some (18,true))⟩ (.op ⟨some 24,.mv (.t 4),(some (18,true))⟩ (.op ⟨some 25,.ixa 1 (.t 23) (.t 24),(some (18,true))⟩ (.op ⟨some 26,.ld false 1 (.t 25),(some (18,true))⟩ (.op ⟨some 27,.bin .lss (.t 22) (.t 26),(some (18,true))⟩ (.op (Zo 28 (.pick (.t 18) (.t 27) (.k (.bool false)))) .fin)))))))))))))))) (.cond (.t 28) .skip (.exit 2))) (.blk 3 (.reg [Zv 29 5,Zo 30 (.bin .add (.t 29) (.k (.int .i64 1))),Zv 5 30]))))) (.seq (.seq (.draw (.op (Zv 31 5) (.op (Zv 32 3) (.op (Zo 33 (.len false (.t 32))) (.op (Zo 34 (.bin .lss (.t 31) (.t 33))) (.op (Zv 35 34) (.op ⟨some 36,.mv (.t 3),(some (35,true))⟩ (.op ⟨some 37,.mv (.t 5),(some (35,true))⟩ (.op ⟨some 38,.ixa 1 (.t 36) (.t 37),(some (35,true))⟩ (.op ⟨some 39,.ld false 1 (.t 38),(some (35,true))⟩ (.op ⟨some 40,.mv (.t 0),(some (35,true))⟩ (.op ⟨some 41,.mv (.t 4),(some (35,true))⟩ (.op ⟨some 42,.ixa 1 (.t 40) (.t 41),(some (35,true))⟩ (.op ⟨some 43,.ld false 1 (.t 42),(some (35,true))⟩ (.op ⟨some 44,.bin .eql (.t 39) (.t 43),(some (35,true))⟩ (.op (Zo 45 (.pick (.t 35) (.t 44) (.k (.bool false)))) .fin)))))))))))))))) (.cond (.t 45) (.exit 1) .skip)) (.seq (.reg [Zo 46 (.bsl 1 []),Zv 47 3,Zv 48 5,Zo 49 (.slc false 1 (.t 47) (some (.t 48)) Option.none),Zo 50 (.app 16 1 (.t 46) (.t 49)),Zv 6 50]) (.draw (.op (Zv 51 3) (.op (Zv 52 5) (.op (Zo 53 (.slc false 1 (.t 51) Option.none (some (.t 52)))) (.op (Zv 54 0) (.op (Zv 55 4) (.op (Zo 56 (.ixa 1 (.t 54) (.t 55))) (.op (Zl 57 false 1 56) (.op (Zv 60 6) (.hop (Zo 58 (.bsl 1 [.t 57])) [(.slc false 1 (.t 51) Option.none (some (.t 52)))] (.hop (Zo 59 (.app 16 1 (.t 53) (.t 58))) [] (.hop (Zo 61 (.app 16 1 (.t 59) (.t 60))) [] (.hop (Zv 3 61) [] .fin)))))))))))))))))) (.reg [Zv 12 4,Zo 13 (.bin .add (.t 12) (.k (.int .i64 1))),Zv 4 13])))))) (.seq (.reg [Zv 62 3,Zv 2 62]) .ret))))⟩
theorem a319_ok:J06 Tryz.prog Tryz.f319=some a319:=by kernel_rfl
theorem K3t {h:Heap}{n id:Nat}{l:List Str}{K:AV→Heap→Nat→Prop}(hB:h id=some ⟨false,1,J0a l⟩) (hK:K (.tup []) (upd h id (some ⟨false,1,J0a (Jag l)⟩)) n):J2c Tryz.prog 324 [.ref id 0 l.length] h n K:=by
 refine Jc7 (l2:=Jag l) (r := .tup []) (by unfold J72;rw [Tryz.func324];rfl) hB (Jgf l) (fun s hs => .inl (Jky.1 hs)) (.inl ⟨rfl,fun _ _ _=>trivial⟩) ?_ ?_ hK
 ·intro b cap w hH hb _ hlim
  unfold LIM at hlim
  refine (Tryz.slices_Sort_string b 0 cap l w hH hb (by omega)).mono ?_
  rintro e w' ⟨rfl,q,os,rfl⟩
  exact ⟨⟨_,rfl,fun _=>rfl,fun m h=>by cases h⟩,q,os,rfl⟩
 ·intro _ w
  refine (Tryz.slices_Sort_string_none Option.none 0 w).mono ?_
  rintro e w' ⟨rfl,rfl⟩
  exact ⟨⟨_,rfl,fun _=>rfl,fun m h=>by cases h⟩,rfl⟩
theorem Jsj {h:Heap}{n id:Nat}{l:List Str}{K:AV→Heap→Nat→Prop}(hB:h id=some ⟨false,1,J0a l⟩)
 (hK:K (.ref id 0 (Go.Lib.compact l).length) (upd h id (some ⟨false,1,J0a (Go.Lib.compact l++List.replicate (l.length - (Go.Lib.compact l).length) [])⟩)) n):J2c Tryz.prog 325 [.ref id 0 l.length] h n K:=by
 have hl:=Jbc l
 refine Jc7 (l2:=Go.Lib.compact l++List.replicate (l.length - (Go.Lib.compact l).length) []) (r := .ref id 0 (Go.Lib.compact l).length) (by unfold J72;rw [Tryz.func325];rfl) hB (by simp;omega) ?_ (.inr ⟨_,hl,rfl⟩) ?_ ?_ hK
 ·intro s hs
  rcases List.mem_append.1 hs with hs|hs
  ·left
   unfold Go.Lib.compact Go.Lib.compactUpTo at hs
   obtain ⟨j,hj,rfl⟩:=List.mem_map.1 hs
   have hj:=List.mem_range.1 (List.mem_filter.1 hj).1
   simp [hj]
  ·right;exact (List.mem_replicate.1 hs).2
 ·intro b cap w hH hb hcap hlim
  unfold LIM at hlim
  refine (Tryz.slices_Compact_string b 0 cap l w hH (by omega) hcap).mono ?_
  rintro e w' ⟨rfl,q,rfl⟩
  exact ⟨⟨_,rfl,fun h=>by (cases h),fun m h=>by (cases h;rfl)⟩,q,#[],by unfold J88;rw [Go.Sort.grow_empty]⟩
 ·intro hl0 w
  subst hl0
  refine (Tryz.slices_Compact_string_empty Option.none 0 w).mono ?_
  rintro e w' ⟨rfl,rfl⟩
  exact ⟨⟨_,rfl,fun h=>by (cases h),fun m h=>rfl⟩,rfl⟩
theorem J4r (l:List Str) (hl:l.length≤1048576):Holds Tryz.prog 299 [.sl 1 (J0a l)] (fun r=>r = .us 1 (J0a (J5d l))):=by
 refine J03 Tryz.func299 a299_ok rfl (by simp [a299]) ?_
 simp [a299]
 first|refine J01 (J9s l hl) (by first|simp;done|rfl) ?_|refine J02 (J9s l hl) (by first|simp;done|rfl) ?_
 rintro r rfl
 simp
 refine K3t (l:=l) (by simp) ?_
 simp
 rw [←Jgf l]
 refine Jsj (l:=Jag l) (by simp) ?_
 have h:=Jbc (Jag l)
 have h2:List.take (Go.Lib.compact (Jag l)).length (J0a (Go.Lib.compact (Jag l)++List.replicate ((Jag l).length - (Go.Lib.compact (Jag l)).length) []))=J0a (J5d l):=by
  unfold J0a;rw [List.map_append,List.take_left' (by simp)];rfl
 simp [h2]
set_option maxHeartbeats 1000000 in
theorem J81 (l:List Str) (hl:l.length≤1048576):Holds Tryz.prog 319 [.sl 1 (J0a l)] (fun r=>r = .us 1 (J0a (J5d l))):=by
 refine J03 Tryz.func319 a319_ok rfl (by simp [a319]) ?_
 simp [a319]
 refine J0l [0] 4 l.length (fun i s h n=>∃ (acc:List Str) (id:Nat),s 3 = .ref id 0 acc.length∧h id=some ⟨false,1,J0a acc⟩∧id<n∧acc.length≤i∧SS acc∧∀ x,x∈acc↔x∈l.take i)
  (by unfold LIM;omega) (by simp) ⟨[],0,by simp,by simp [J0a],by simp,by simp,by simp [SS],by simp⟩ ?_ ?_
 ·rintro i s h n R hi hg hk s4 hw ⟨acc,id,s3,eid,hidn,hai,hS,hmem⟩ hR _ _
  simp at hk
  simp [hk,s4,hi,hg]
  intro _
  refine Jkt (fun m s' h' n'=>∃ k:Nat,m=acc.length - k∧k≤acc.length∧s' 0 = .sl 1 (J0a l)∧s' 4 = .int .i64 i∧s' 3 = .ref id 0 acc.length∧s' 5 = .int .i64 k∧(∀ j,∀ hj:j<acc.length,j<k→bl acc[j] l[i]=true)∧h'=h∧n'=n) acc.length
   ⟨0,by simp,Nat.zero_le _,by simp [hk],by simp [s4],by simp [s3],by simp,fun j _ hj=>absurd hj (Nat.not_lt_zero _),rfl,rfl⟩ ?_
  rintro m s' h' n' R' ⟨k,rfl,hka,s0',s4',s3',s5',hlt,rfl,rfl⟩ hR' _ hX'
  have rest:∀ s'':Env,s'' 0 = .sl 1 (J0a l)→s'' 4 = .int .i64 i→s'' 3 = .ref id 0 acc.length→s'' 5 = .int .i64 k→(∀ hk:k<acc.length,bl acc[k] l[i]=false)→R' (.exit 2) s'' h' n':=by
   intro s2 t0 t4 t3 t5 hge
   refine hX' _ _ _ _ ?_
   obtain ⟨hS',hm'⟩:=Jpj hS hka hlt hge
   have hmem':∀ x,x∈Jgz acc l[i] k↔x∈l.take (i+1):=fun x=>by
    rw [hm',hmem,List.take_succ_eq_append_getElem hi,List.mem_append,List.mem_singleton]
    exact Or.comm
   have hll:(Jgz acc l[i] k).length≤i+1:=by
    unfold Jgz;split
    ·omega
    ·simp;omega
   by_cases he:acc[k]? = some l[i]
   ·have hk1:k<acc.length:=(List.getElem?_eq_some_iff.1 he).1
    have hek:acc[k]=l[i]:=by rw [List.getElem?_eq_getElem hk1] at he;exact Option.some.inj he
    have hia:Jgz acc l[i] k=acc:=by unfold Jgz;rw [if_pos he]
    rw [hia] at hS' hmem' hll
    simp [t0,t4,t3,t5,eid,hk1,hi,hek,hw]
    exact hR _ _ _ (by simp [t0,hk]) (by simp) ⟨acc,id,by simp [t3],eid,hidn,by omega,hS',hmem'⟩
   ·have hia:Jgz acc l[i] k=acc.take k++l[i]::acc.drop k:=by unfold Jgz;rw [if_neg he]
    have n0:¬id=n':=by omega
    have n1:¬id=n'+1:=by omega
    have n2:¬id=n'+1+1:=by omega
    have n3:¬n'=id:=by omega
    have n4:¬n'+1=id:=by omega
    have n5:¬n'+1+1=id:=by omega
    have n6:¬n'+1+1+1=id:=by omega
    have n7:¬id=n'+1+1+1:=by omega
    have q1:k+(acc.length - k)=acc.length:=by omega
    have q2:acc.length≤1048576:=by omega
    have q3:min k acc.length=k:=Nat.min_eq_left hka
    by_cases hk1:k<acc.length
    ·have hek:¬acc[k]=l[i]:=fun e=>he (by rw [List.getElem?_eq_getElem hk1,e])
     simp [t0,t4,t3,t5,eid,hk1,hi,hek,hw,J4p,asI,n0,n1,n2,n3,n4,n5,n6,n7,q1,q3,hka]
     have hlim:(acc.length - k)*16≤LIM∧(k+1)*16≤LIM∧(k+1+(acc.length - k))*16≤LIM:=by unfold LIM;omega
     refine ⟨hlim.1,hlim.2.1,hlim.2.2,?_⟩
     have hln:(acc.take k++l[i]::acc.drop k).length=k+1+(acc.length - k):=by simp;omega
     refine hR _ _ _ (by simp [t0,hk]) (by simp) ⟨acc.take k++l[i]::acc.drop k,n'+4,?_,?_,by omega,by rw [←hia];exact hll,by rw [←hia];exact hS',by rw [←hia];exact hmem'⟩
     ·rw [hln];simp
     ·simp [J0a,List.take_of_length_le]
      rw [List.take_of_length_le (by simp;omega)]
      simp
    ·simp [t0,t4,t3,t5,eid,hk1,hi,hw,J4p,asI,n0,n1,n2,n3,n4,n5,n6,n7,q1,q3,hka]
     have hlim:(acc.length - k)*16≤LIM∧(k+1)*16≤LIM∧(k+1+(acc.length - k))*16≤LIM:=by unfold LIM;omega
     refine ⟨hlim.1,hlim.2.1,hlim.2.2,?_⟩
     have hln:(acc.take k++l[i]::acc.drop k).length=k+1+(acc.length - k):=by simp;omega
     refine hR _ _ _ (by simp [t0,hk]) (by simp) ⟨acc.take k++l[i]::acc.drop k,n'+4,?_,?_,by omega,by rw [←hia];exact hll,by rw [←hia];exact hS',by rw [←hia];exact hmem'⟩
     ·rw [hln];simp
     ·simp [J0a,List.take_of_length_le]
      rw [List.take_of_length_le (by simp;omega)]
      simp
  by_cases hk1:k<acc.length
  ·simp [s0',s4',s3',s5',eid,hk1,hi]
   refine ⟨fun hb => ?_,fun hb => ?_⟩
   ·refine hR' (acc.length - (k+1)) _ _ _ (by omega) ⟨k+1,rfl,by omega,by simp [s0'],by simp [s4'],by simp [s3'],by simp;exact J0r (by omega),fun j hj hjk => ?_,rfl,rfl⟩
    by_cases hjk':j<k
    ·exact hlt j hj hjk'
    ·have:j=k:=by omega
     subst this;exact hb
   ·exact rest _ (by simp [s0']) (by simp [s4']) (by simp [s3']) (by simp [s5']) fun _=>hb
  ·simp [s0',s4',s3',s5',eid,hk1,hi]
   exact rest _ (by simp [s0']) (by simp [s4']) (by simp [s3']) (by simp [s5']) fun h=>absurd h hk1
 ·rintro s h n R hk s4 ⟨acc,id,s3,eid,hidn,hai,hS,hmem⟩ hret hX
  simp at hk
  rw [List.take_of_length_le (Nat.le_refl _)] at hmem
  have:=Jqq hS hmem
  subst this
  simp [hk,s4]
  intro _
  refine hX _ _ _ _ ?_
  simp [s3,eid]
def a239:AFn:= ⟨20,[.t 2],(.seq (.reg [Zo 1 (.boxv (.t 0)),Zo 2 (.mv (.k (.nil 1)))]) (.seq (.reg [Zo 3 (.mv (.k (.nil 1)))]) (.seq (.seq (.reg [Zf 6 1 1,Zl 7 false 1 6,Zo 8 (.len false (.t 7)),Zo 9 (.mv (.k (.int .i64 0)))]) (.blk 0 (.loop (.seq (.reg [Zo 10 (.bin .lss (.t 9) (.t 8))]) (.seq (.cond (.t 10) .skip (.exit 0)) (.seq (.blk 1 (.seq (.reg [Zo 11 (.ixa 2 (.t 7) (.t 9)),Zl 12 true 2 11,Zo 5 (.box [(.int .i64 0),(.str [])]),⟨no,.st 2 (.t 5) (.t 12),no⟩]) (.reg [Zv 13 3,Zf 14 1 5,Zl 15 false 1 14,Zo 16 (.bsl 1 [.t 15]),Zo 17 (.app 16 1 (.t 13) (.t 16)),Zv 3 17]))) (.reg [Zo 18 (.bin .add (.t 9) (.k (.int .i64 1))),Zv 9 18]))))))) (.seq (.reg [Zv 19 3,Zv 2 19]) .ret))))⟩
theorem a239_ok:J06 Tryz.prog Tryz.f239=some a239:=by kernel_rfl
def a243:AFn:= ⟨28,[.t 2],(.seq (.reg [Zo 1 (.boxv (.t 0)),Zo 2 (.mv (.k (.nil 1)))]) (.seq (.reg [Zo 3 (.mv (.k (.nil 1)))]) (.seq (.seq (.reg [Zf 6 1 1,Zl 7 false 1 6,Zo 8 (.len false (.t 7)),Zo 9 (.mv (.k (.int .i64 0)))]) (.blk 0 (.loop (.seq (.reg [Zo 10 (.bin .lss (.t 9) (.t 8))]) (.seq (.cond (.t 10) .skip (.exit 0)) (.seq (.blk 1 (.seq (.reg [Zo 11 (.ixa 2 (.t 7) (.t 9)),Zl 12 true 2 11,Zo 5 (.box [(.int .i64 0),(.nil 2)]),⟨no,.st 2 (.t 5) (.t 12),no⟩]) (.reg [Zv 13 3,Zl 14 true 2 5,Zc 15 239 [.t 14],Zo 16 (.app 16 1 (.t 13) (.t 15)),Zv 3 16]))) (.reg [Zo 17 (.bin .add (.t 9) (.k (.int .i64 1))),Zv 9 17]))))))) (.seq (.seq (.reg [Zf 18 2 1,Zl 19 false 1 18,Zo 20 (.bin .neq (.t 19) (.k (.str [])))]) (.cond (.t 20) (.reg [Zv 21 3,Zf 22 2 1,Zl 23 false 1 22,Zo 24 (.bsl 1 [.t 23]),Zo 25 (.app 16 1 (.t 21) (.t 24)),Zv 3 25]) .skip)) (.seq (.reg [Zv 26 3,Zc 27 299 [.t 26],Zv 2 27]) .ret)))))⟩
theorem a243_ok:J06 Tryz.prog Tryz.f243=some a243:=by kernel_rfl
def a288:AFn:= ⟨48,[.t 2],(.seq (.reg [Zo 1 (.boxv (.t 0)),Zo 2 (.mv (.k (.nil 1)))]) (.seq (.reg [Zo 6 (.bsl 1 []),Zv 3 6]) (.seq (.seq (.reg [Zo 4 (.mv (.k (.int .i64 0)))]) (.blk 0 (.loop (.seq (.seq (.reg [Zv 7 4,Zf 8 1 1,Zl 9 false 1 8,Zo 10 (.len false (.t 9)),Zo 11 (.bin .lss (.t 7) (.t 10))]) (.cond (.t 11) .skip (.exit 0))) (.seq (.blk 1 (.seq (.reg [Zo 5 (.mv (.k (.int .i64 0)))]) (.blk 2 (.loop (.seq (.seq (.reg [Zv 14 5,Zf 15 1 1,Zl 16 false 1 15,Zv 17 4,Zo 18 (.ixa 2 (.t 16) (.t 17)),Zf 19 1 18,Zl 20 false 1 19,Zo 21 (.len false (.t 20)),Zo 22 (.bin .lss (.t 14) (.t 21))]) (.cond (.t 22) .skip (.exit 2))) (.seq (.blk 3 (.reg [Zv 25 3,Zf 26 1 1,Zl 27 false 1 26,Zv 28 4,Zo 29 (.ixa 2 (.t 27) (.t 28)),Zf 30 1 29,Zl 31 false 1 30,Zv 32 5,Zo 33 (.ixa 2 (.t 31) (.t 32)),Zf 34 1 33,Zl 35 false 1 34,Zo 36 (.bsl 1 [.t 35]),Zo 37 (.app 16 1 (.t 25) (.t 36)),Zv 3 37])) (.reg [Zv 23 5,Zo 24 (.bin .add (.t 23) (.k (.int .i64 1))),Zv 5 24]))))))) (.reg [Zv 12 4,Zo 13 (.bin .add (.t 12) (.k (.int .i64 1))),Zv 4 13])))))) (.seq (.seq (.reg [Zf 38 2 1,Zl 39 false 1 38,Zo 40 (.bin .neq (.t 39) (.k (.str [])))]) (.cond (.t 40) (.reg [Zv 41 3,Zf 42 2 1,Zl 43 false 1 42,Zo 44 (.bsl 1 [.t 43]),Zo 45 (.app 16 1 (.t 41) (.t 44)),Zv 3 45]) .skip)) (.seq (.reg [Zv 46 3,Zc 47 319 [.t 46],Zv 2 47]) .ret)))))⟩
theorem a288_ok:J06 Tryz.prog Tryz.f288=some a288:=by kernel_rfl
def J70 (s:DSum):List Str:=s.Terms.map (·.Name)
def Jaf:List DSum→List Str
 | []=>[]
 | s::l=>J70 s++Jaf l
def J7c (a:DArg):List Str:=Jaf a.Heads++if a.Base=[] then [] else [a.Base]
theorem Jbz:∀ l:List DSum,(Jaf l).length≤wL Jbe l
 | []=>Nat.zero_le _
 | s::l=>by
  have h1:=Jbz l
  have h2:=J2b J7j s.Terms
  unfold wL at h1 ⊢
  simp only [Jaf,J70,List.length_append,List.length_map,List.length_cons,List.map_cons,List.sum_cons]
  rw [show Jbe s=wL J7j s.Terms from rfl]
  omega
theorem Jfe (a:DArg) (hw:Jah a≤1048576):(J7c a).length≤1048576:=by
 have h1:=Jbz a.Heads
 unfold Jah J6q at hw
 unfold J7c
 rw [List.length_append]
 split
 ·simp;omega
 ·rename_i hb
  have:0<a.Base.length:=List.length_pos_iff.2 hb
  simp;omega
theorem J5k (x:DSum) (hw:x.Terms.length≤1048576):Holds Tryz.prog 239 [.agg (J1j x)] (fun r=>r = .us 1 (J0a (J70 x))):=by
 refine J03 Tryz.func239 a239_ok rfl (by simp [a239]) ?_
 simp [a239,J1j]
 intro _
 refine J0l [7,8] 9 x.Terms.length (fun i s h n=>(i=0∧s 3 = .nil 1)∨∃ id,id<n∧s 3 = .ref id 0 i∧h id=some ⟨false,1,(J0a (J70 x)).take i⟩) (by unfold LIM;omega) (by simp) (by simp) ?_ ?_
 ·rintro i s h n R hi hg hk s9 hw9 hJ hR _ _
  simp at hk
  have htk:(J0a (J70 x)).take (i+1)=(J0a (J70 x)).take i++[[.str (x.Terms[i]).Name]]:=by
   rw [List.take_succ_eq_append_getElem (by simpa [J70] using hi)];simp [J0a,J70]
  rcases hJ with ⟨rfl,s3⟩|⟨id,hid,s3,eid⟩
  ·simp [hk,s9,hi,hw9,s3,J16]
   refine ⟨by unfold LIM;omega,?_⟩
   exact hR _ _ _ (by simp [hk]) (by simp;exact J0r (by omega)) (.inr ⟨n+2,by omega,by simp,by simp [htk]⟩)
  ·have n0:¬id=n:=by omega
   have n1:¬id=n+1:=by omega
   have n3:¬n+1=id:=by omega
   have n4:¬n=id:=by omega
   simp [hk,s9,hi,hw9,s3,J16,eid,n0,n1,n3,n4]
   refine ⟨by simp [J70];omega,by unfold LIM;omega,?_⟩
   exact hR _ _ _ (by simp [hk]) (by simp) (.inr ⟨n+2,by omega,by simp,by simp [htk,List.take_take]⟩)
 ·rintro s h n R hk s9 hJ hret hX
  simp at hk
  simp [hk,s9]
  refine hX _ _ _ _ ?_
  rcases hJ with ⟨h0,s3⟩|⟨id,hid,s3,eid⟩
  ·have:x.Terms=[]:=List.eq_nil_of_length_eq_zero h0
   simp [s3,J70,this,J0a]
  ·have hl:(J70 x).length=x.Terms.length:=by simp [J70]
   have ht:List.take x.Terms.length (J0a (J70 x))=J0a (J70 x):=List.take_of_length_le (by simp [hl])
   simp [s3,eid,hl,ht]
set_option maxHeartbeats 1000000 in
theorem J8e (a:DArg) (hw:Jah a≤1048576):Holds Tryz.prog 243 [.agg (J15 a)] (fun r=>r = .us 1 (J0a (J5d (J7c a)))):=by
 have hw':=hw
 unfold Jah J6q at hw'
 have hsl:=Jbz a.Heads
 have hll:=J2b Jbe a.Heads
 refine J03 Tryz.func243 a243_ok rfl (by simp [a243]) ?_
 simp [a243,J15]
 intro _
 generalize hT:Jaf a.Heads=T at *
 have hTl:T.length≤1048576:=by omega
 refine J0l [1,7,8] 9 a.Heads.length (fun i s h n=>h 0=some ⟨true,3,[[.bool a.Lst,.sl 2 (a.Heads.map J1j),.str a.Base]]⟩∧0<n∧∃ acc:List Str,acc++Jaf (a.Heads.drop i)=T∧((acc=[]∧s 3 = .nil 1)∨∃ id,0<id∧id<n∧s 3 = .ref id 0 acc.length∧h id=some ⟨false,1,J0a acc⟩))
  (by unfold LIM;omega) (by simp) ⟨by simp,by simp,[],by simpa using hT,.inl ⟨rfl,by simp⟩⟩ ?_ ?_
 ·rintro i s h n R hi hg hk s9 hw9 ⟨e0,hn,acc,hJ,hJ2⟩ hR _ _
  simp at hk
  rw [List.drop_eq_getElem_cons hi] at hJ
  simp only [Jaf] at hJ
  have hal:=congrArg List.length hJ
  simp only [List.length_append] at hal
  have hwt:(a.Heads[i]).Terms.length≤1048576:=by
   have:=J4b (w:=Jbe) (List.getElem_mem hi)
   rw [show Jbe a.Heads[i]=wL J7j (a.Heads[i]).Terms from rfl] at this
   have:=J2b J7j (a.Heads[i]).Terms
   omega
  have z0:¬0=n:=by omega
  have z1:¬0=n+1:=by omega
  have z2:¬0=n+1+1:=by omega
  have z3:¬n=0:=by omega
  rcases hJ2 with ⟨rfl,s3⟩|⟨id,hid0,hid,s3,eid⟩
  ·simp [hk,s9,hi,hw9,s3,J1j]
   first|refine J01 (J5k (a.Heads[i]'hi) hwt) (by first|simp [J1j];done|rfl) ?_|refine J02 (J5k (a.Heads[i]'hi) hwt) (by first|simp [J1j];done|rfl) ?_
   rintro r rfl
   simp [hk,s9,hi,hw9,s3]
   refine ⟨by unfold LIM;omega,?_⟩
   exact hR _ _ _ (by simp [hk]) (by simp) ⟨by simp [e0,z0,z1,z2,z3],by omega,J70 a.Heads[i],by simpa using hJ,.inr ⟨n+2,by omega,by omega,by simp,by simp⟩⟩
  ·have n0:¬id=n:=by omega
   have n1:¬id=n+1:=by omega
   have n2:¬id=n+1+1:=by omega
   have n3:¬n+1=id:=by omega
   have n4:¬n=id:=by omega
   have n5:¬0=id:=by omega
   have n6:¬id=0:=by omega
   simp [hk,s9,hi,hw9,s3,J1j,eid,n0]
   first|refine J01 (J5k (a.Heads[i]'hi) hwt) (by first|simp [J1j];done|rfl) ?_|refine J02 (J5k (a.Heads[i]'hi) hwt) (by first|simp [J1j];done|rfl) ?_
   rintro r rfl
   simp [hk,s9,hi,hw9,s3,eid,n0,n1,n2,n3,n4,n5,n6]
   refine ⟨by unfold LIM;omega,?_⟩
   exact hR _ _ _ (by simp [hk]) (by simp) ⟨by simp [e0,z0,z1,z2,z3,n5],by omega,acc++J70 a.Heads[i],by rw [List.append_assoc];exact hJ,.inr ⟨n+2,by omega,by omega,by simp,by simp [J0a]⟩⟩
 ·rintro s h n R hk s9 ⟨e0,hn,acc,hJ,hJ2⟩ hret hX
  simp at hk
  rw [List.drop_eq_nil_of_le (by omega)] at hJ
  simp only [Jaf,List.append_nil] at hJ
  subst hJ
  simp [hk,s9]
  refine hX _ _ _ _ ?_
  have hA:J7c a=acc++if a.Base=[] then [] else [a.Base]:=by unfold J7c;rw [hT]
  have hAl:(J7c a).length≤1048576:=Jfe a hw
  rw [hA] at hAl ⊢
  clear hX hret
  by_cases hb:a.Base=[]
  ·simp only [hb,if_true,List.append_nil] at hAl ⊢
   rcases hJ2 with ⟨rfl,s3⟩|⟨id,hid0,hid,s3,eid⟩
   ·simp [hk,e0,hb,s3]
    first|refine J01 (J4r [] hAl) (by first|simp [J0a];done|rfl) ?_|refine J02 (J4r [] hAl) (by first|simp [J0a];done|rfl) ?_
    rintro r rfl
    simp
   ·simp [hk,e0,hb,s3]
    first|refine J01 (J4r acc hAl) (by first|simp [eid];done|rfl) ?_|refine J02 (J4r acc hAl) (by first|simp [eid];done|rfl) ?_
    rintro r rfl
    simp
  ·simp only [hb,if_false] at hAl ⊢
   have hlim:(acc.length+1)*16≤LIM:=by simp at hAl;unfold LIM;omega
   rcases hJ2 with ⟨rfl,s3⟩|⟨id,hid0,hid,s3,eid⟩
   ·have z0:¬0=n:=by omega
    simp [hk,e0,hb,s3]
    refine ⟨by unfold LIM;omega,?_⟩
    first|refine J01 (J4r ([]++[a.Base]) hAl) (by first|simp [J0a];done|rfl) ?_|refine J02 (J4r ([]++[a.Base]) hAl) (by first|simp [J0a];done|rfl) ?_
    rintro r rfl
    simp
   ·have n0:¬id=n:=by omega
    have n3:¬n=id:=by omega
    simp [hk,e0,hb,s3,eid,n0,n3]
    refine ⟨hlim,?_⟩
    have ht:List.take (acc.length+1) (J0a acc++[[AV.str a.Base]])=J0a (acc++[a.Base]):=by rw [List.take_of_length_le (by simp)];simp [J0a]
    first|refine J01 (J4r (acc++[a.Base]) hAl) (by first|simp [ht];done|rfl) ?_|refine J02 (J4r (acc++[a.Base]) hAl) (by first|simp [ht];done|rfl) ?_
    rintro r rfl
    simp
set_option maxHeartbeats 1000000 in
theorem Ji4 (a:DArg) (hw:Jah a≤1048576):Holds Tryz.prog 288 [.agg (J15 a)] (fun r=>r = .us 1 (J0a (J5d (J7c a)))):=by
 have hw':=hw
 unfold Jah J6q at hw'
 have hsl:=Jbz a.Heads
 have hll:=J2b Jbe a.Heads
 refine J03 Tryz.func288 a288_ok rfl (by simp [a288]) ?_
 simp [a288,J15]
 generalize hT:Jaf a.Heads=T at *
 have hTl:T.length≤1048576:=by omega
 refine J0l [1] 4 a.Heads.length (fun i s h n=>h 0=some ⟨true,3,[[.bool a.Lst,.sl 2 (a.Heads.map J1j),.str a.Base]]⟩∧0<n∧∃ (acc:List Str) (id:Nat),acc++Jaf (a.Heads.drop i)=T∧0<id∧id<n∧s 3 = .ref id 0 acc.length∧h id=some ⟨false,1,J0a acc⟩)
  (by unfold LIM;omega) (by simp) ⟨by simp,by simp,[],1,by simpa using hT,by omega,by omega,by simp,by simp [J0a]⟩ ?_ ?_
 ·rintro i s h n R hi hg hk s4 hw4 ⟨e0,hn,acc,id,hJ,hid0,hid,s3,eid⟩ hR _ _
  simp at hk
  rw [List.drop_eq_getElem_cons hi] at hJ
  simp only [Jaf] at hJ
  have hwt:(a.Heads[i]).Terms.length≤1048576:=by
   have:=J4b (w:=Jbe) (List.getElem_mem hi)
   rw [show Jbe a.Heads[i]=wL J7j (a.Heads[i]).Terms from rfl] at this
   have:=J2b J7j (a.Heads[i]).Terms
   omega
  simp [hk,s4,hi,hg,e0]
  intro _
  refine J0l [1,4] 5 (a.Heads[i]).Terms.length (fun j s h n=>h 0=some ⟨true,3,[[.bool a.Lst,.sl 2 (a.Heads.map J1j),.str a.Base]]⟩∧0<n∧∃ (acc:List Str) (id:Nat),acc++((J70 a.Heads[i]).drop j++Jaf (a.Heads.drop (i+1)))=T∧0<id∧id<n∧s 3 = .ref id 0 acc.length∧h id=some ⟨false,1,J0a acc⟩)
   (by unfold LIM;omega) (by simp) ⟨by simp [e0],hn,acc,id,by simpa using hJ,hid0,hid,by simp [s3],by simp [eid]⟩ ?_ ?_
  ·rintro j s2 h2 n2 R2 hj hgj hk2 s5 hw5 ⟨e02,hn2,acc2,id2,hJ2,hid02,hid2,s32,eid2⟩ hR2 _ _
   simp at hk2
   rw [List.drop_eq_getElem_cons (by simpa [J70] using hj)] at hJ2
   have hal:=congrArg List.length hJ2
   simp at hal
   have n0:¬id2=n2:=by omega
   have n1:¬id2=n2+1:=by omega
   have n3:¬n2+1=id2:=by omega
   have n4:¬n2=id2:=by omega
   have n5:¬0=id2:=by omega
   have n6:¬id2=0:=by omega
   have z0:¬0=n2:=by omega
   have z1:¬0=n2+1:=by omega
   have z3:¬n2=0:=by omega
   simp [hk2,hk,s4,s5,hj,hgj,hw5,hi,e02,J1j,J16,s32,eid2,n0,n1,n3,n4,n5,n6,z0,z1,z3]
   intro _
   refine ⟨by unfold LIM;omega,?_⟩
   refine hR2 _ _ _ (by simp [hk2,hk,s4]) (by simp) ⟨by simp [e02,n5,z0,z1,z3],by omega,acc2++[(a.Heads[i]).Terms[j].Name],n2+1,?_,by omega,by omega,by simp,by simp [J0a]⟩
   rw [←hJ2]
   simp [J70]
  ·rintro s2 h2 n2 R2 hk2 s5 ⟨e02,hn2,acc2,id2,hJ2,hid02,hid2,s32,eid2⟩ hret2 hX2
   simp at hk2
   rw [List.drop_eq_nil_of_le (by simp [J70]),List.nil_append] at hJ2
   simp [hk2,hk,s4,s5,hi,e02,J1j]
   intro _
   refine hX2 _ _ _ _ ?_
   simp [hk2,hk,s4,hw4]
   exact hR _ _ _ (by simp [hk2,hk]) (by simp) ⟨e02,hn2,acc2,id2,hJ2,hid02,hid2,by simp [s32],eid2⟩
 ·rintro s h n R hk s4 ⟨e0,hn,acc,id,hJ,hid0,hid,s3,eid⟩ hret hX
  simp at hk
  rw [List.drop_eq_nil_of_le (by omega)] at hJ
  simp only [Jaf,List.append_nil] at hJ
  subst hJ
  simp [hk,s4,e0]
  intro _
  refine hX _ _ _ _ ?_
  have hA:J7c a=acc++if a.Base=[] then [] else [a.Base]:=by unfold J7c;rw [hT]
  have hAl:(J7c a).length≤1048576:=Jfe a hw
  rw [hA] at hAl ⊢
  clear hX hret
  by_cases hb:a.Base=[]
  ·simp only [hb,if_true,List.append_nil] at hAl ⊢
   simp [hk,e0,hb,s3]
   first|refine J01 (J81 acc hAl) (by first|simp [eid];done|rfl) ?_|refine J02 (J81 acc hAl) (by first|simp [eid];done|rfl) ?_
   rintro r rfl
   simp
  ·simp only [hb,if_false] at hAl ⊢
   have hlim:(acc.length+1)*16≤LIM:=by simp at hAl;unfold LIM;omega
   have n0:¬id=n:=by omega
   have n3:¬n=id:=by omega
   simp [hk,e0,hb,s3,eid,n0,n3]
   refine ⟨hlim,?_⟩
   have ht:List.take (acc.length+1) (J0a acc++[[AV.str a.Base]])=J0a (acc++[a.Base]):=by rw [List.take_of_length_le (by simp)];simp [J0a]
   first|refine J01 (J81 (acc++[a.Base]) hAl) (by first|simp [ht];done|rfl) ?_|refine J02 (J81 (acc++[a.Base]) hAl) (by first|simp [ht];done|rfl) ?_
   rintro r rfl
   simp
theorem K40 {s:Env}{k:Nat}{v:AV} : J63 s (some k) v k=v:=by simp
theorem K5n {s:Env}{k j:Nat}{v:AV}(hj:¬j=k):J63 s (some k) v j=s j:=by simp [hj]
theorem Kbp {α:Type}{f:Nat→α}{k:Nat}{v:α} : upd f k v k=v:=by simp
theorem K54 {α:Type}{f:Nat→α}{k j:Nat}{v:α}(hj:¬j=k):upd f k v j=f j:=by simp [hj]
attribute [simp ↓ high] K40 K5n Kbp K54
def K2d (raw:Bool) (o:Option AV):Option AV:=if raw then o else o.map dr
@[simp ↓ high] theorem Kdv (o:Option AV):K2d true o=o:=by unfold K2d;rw [if_pos (by simp)]
@[simp ↓ high] theorem Ke5 (o:Option AV):K2d false o=o.map dr:=by unfold K2d;rw [if_neg (by simp)]
def K2u (raw b:Bool) (l:List AV):Option AV:=if b then some (.agg (if raw then l else drl l)) else Option.none
@[simp ↓ high] theorem Kct (l:List AV):K2u true true l=some (.agg l):=by unfold K2u;rw [if_pos (by simp),if_pos (by simp)]
@[simp ↓ high] theorem Kd8 (l:List AV):K2u false true l=some (.agg (drl l)):=by unfold K2u;rw [if_pos (by simp),if_neg (by simp)]
@[simp ↓ high] theorem ldv_1 (raw:Bool) (row:List AV) (c:Nat):ldv raw false row c 1=K2d raw (row[c]?):=by
 unfold ldv K2d
 by_cases h:c<row.length
 ·rw [if_pos (by omega),if_neg (by simp),if_pos rfl,List.getElem?_eq_getElem h];cases raw <;> simp
 ·rw [if_neg (by omega),List.getElem?_eq_none (by omega)];cases raw <;> rfl
@[simp ↓ high] theorem ldv_G (raw:Bool) (row:List AV) (c sz:Nat):ldv raw true row c sz=K2u raw (decide (c+sz≤row.length)) ((row.drop c).take sz):=by
 unfold ldv K2u
 by_cases h:c+sz≤row.length
 ·simp [h]
 ·simp [h]
def K7d (P:Program) (ks:List Kt) (Q:Fin) (keep:List Nat) (J:Env→Prop) (s0:Env) (h0:Heap) (n0:Nat):Fin:=fun e s h n=>match e with
 | .normal=>(∀ j∈keep,s j=s0 j)∧J s∧h=h0∧n=n0
 | e=>J2u P ks e s h n Q
section
variable {P:Program}{a b:AC}{ks:List Kt}{s:Env}{h:Heap}{n:Nat}{Q:Fin}
@[simp ↓] theorem Jyn {keep:List Nat}{J:Env→Prop}{s0 s':Env}{h0 h':Heap}{n0 n':Nat} : K7d P ks Q keep J s0 h0 n0 .normal s' h' n'=((∀ j∈keep,s' j=s0 j)∧J s'∧h'=h0∧n'=n0):=propext Iff.rfl
@[simp ↓] theorem K8q {keep:List Nat}{J:Env→Prop}{s0 s':Env}{h0 h':Heap}{n0 n':Nat} : K7d P ks Q keep J s0 h0 n0 .ret s' h' n'=J2u P ks .ret s' h' n' Q:=propext Iff.rfl
@[simp ↓] theorem K4t {keep:List Nat}{J:Env→Prop}{s0 s':Env}{h0 h':Heap}{n0 n' i:Nat} : K7d P ks Q keep J s0 h0 n0 (.exit i) s' h' n'=J2u P ks (.exit i) s' h' n' Q:=propext Iff.rfl
theorem J0i (keep:List Nat) (J:Env→Prop) (h1:rC P a [] s h n (K7d P (.seq b::ks) Q keep J s h n)) (h2:∀ s',(∀ j∈keep,s' j=s j)→J s'→rC P b ks s' h n Q):rC P (.seq a b) ks s h n Q:=by
 rw [Jla]
 unfold rC at h1 ⊢
 refine Jep h1 ?_
 intro e s' h' n' hq
 cases e
 ·obtain ⟨g1,g2,rfl,rfl⟩:=hq
  exact h2 s' g1 g2
 ·exact hq
 ·exact hq
def K6p (P:Program) (ks:List Kt) (Q:Fin) (keep:List Nat) (J:Env→Heap→Nat→Prop) (s0:Env):Fin:=fun e s h n=>match e with
 | .normal=>(∀ j∈keep,s j=s0 j)∧J s h n
 | e=>J2u P ks e s h n Q
@[simp ↓] theorem Jyt {keep:List Nat}{J:Env→Heap→Nat→Prop}{s0 s':Env}{h':Heap}{n':Nat} : K6p P ks Q keep J s0 .normal s' h' n'=((∀ j∈keep,s' j=s0 j)∧J s' h' n'):=propext Iff.rfl
@[simp ↓] theorem K7v {keep:List Nat}{J:Env→Heap→Nat→Prop}{s0 s':Env}{h':Heap}{n':Nat} : K6p P ks Q keep J s0 .ret s' h' n'=J2u P ks .ret s' h' n' Q:=propext Iff.rfl
@[simp ↓] theorem K3y {keep:List Nat}{J:Env→Heap→Nat→Prop}{s0 s':Env}{h':Heap}{n' i:Nat} : K6p P ks Q keep J s0 (.exit i) s' h' n'=J2u P ks (.exit i) s' h' n' Q:=propext Iff.rfl
theorem J1n (keep:List Nat) (J:Env→Heap→Nat→Prop) (h1:rC P a [] s h n (K6p P (.seq b::ks) Q keep J s)) (h2:∀ s' h' n',(∀ j∈keep,s' j=s j)→J s' h' n'→rC P b ks s' h' n' Q):rC P (.seq a b) ks s h n Q:=by
 rw [Jla]
 unfold rC at h1 ⊢
 refine Jep h1 ?_
 intro e s' h' n' hq
 cases e
 ·exact h2 s' h' n' hq.1 hq.2
 ·exact hq
 ·exact hq
theorem J3x {c:Nat}{e:AC}(hc:s c = .bool true) (h1:rC P b ks s h n Q):rC P (.seq (.cond (.t c) .skip e) b) ks s h n Q:=by
 rw [Jla,Jb9]
 have:ev s (.t c) = .bool true:=hc
 rw [this]
 simpa using h1
theorem J3s {c id:Nat}(hc:s c = .bool false) (h1:J2u P ks (.exit id) s h n Q):rC P (.seq (.cond (.t c) .skip (.exit id)) b) ks s h n Q:=by
 rw [Jla,Jb9]
 have:ev s (.t c) = .bool false:=hc
 rw [this]
 simpa using h1
theorem J25 {c:Nat}{e:AC}{ks:List Kt}(hc:s c = .bool true) (h1:J2u P ks .normal s h n Q):rC P (.cond (.t c) .skip e) ks s h n Q:=by
 rw [Jb9]
 have:ev s (.t c) = .bool true:=hc
 rw [this]
 simpa using h1
theorem J29 {c id:Nat}{ks:List Kt}(hc:s c = .bool false) (h1:J2u P ks (.exit id) s h n Q):rC P (.cond (.t c) .skip (.exit id)) ks s h n Q:=by
 rw [Jb9]
 have:ev s (.t c) = .bool false:=hc
 rw [this]
 simpa using h1
theorem J1h {id:Nat}(h1:rC P a (.blk id::ks) s h n Q):rC P (.blk id a) ks s h n Q:=by rw [K5y];exact h1
theorem J0b (h1:rC P a (.seq b::ks) s h n Q):rC P (.seq a b) ks s h n Q:=by rw [Jla];exact h1
end
def Jj0 (c:UInt8):Bool:=decide ((97:Int)≤c.toNat)&&decide ((c.toNat:Int)≤122)
def Joj (c:UInt8):Bool:=decide ((48:Int)≤c.toNat)&&decide ((c.toNat:Int)≤57)
def J4h:Nat→Str→Bool
 | _,[]=>true
 | i,c::l=>(Jj0 c||(decide (i≠0)&&Joj c))&&J4h (i+1) l
def J2p (l:List Str) (s:Str):Bool:=l.any fun x=>x==s
def Jg7:List Str:=[[102,117,110],[112,114,101],[114,117,108,101],[114,101,116,117,114,110],[110,105,108]]
def Jpo (s:Str):Bool:=J2p Jg7 s
def J3v (s:Str):Bool:=inR s.length 1 8 && !Jpo s&&J4h 0 s
def J0n (s:Str):Bool:=J3v s&&s.getD (s.length - 1) 0==115
def J2o (s:Str):Bool:=J3v s && !J0n s
def Jpp (n:Int):Bool:=inR n (-1000000) 1000000
theorem Jhf {s:Str}(h:J3v s=true):1≤s.length∧s.length≤8:=by
 unfold J3v inR at h;simp at h;omega
def J6w:Option Str→List DTerm→Bool
 | _,[]=>true
 | pr,t::l=>(!(t.Coeff==0)&&Jpp t.Coeff&&J2o t.Name&&(match pr with|Option.none=>true|some q=>Op.bytesLess q t.Name))&&J6w (some t.Name) l
def J98 (s:DSum):Bool:=Jpp s.Const&&decide (s.Terms.length≤4)&&J6w Option.none s.Terms
def Jb0 (a:DArg):Bool:=a.Heads.all J98&&(if a.Lst then decide (a.Heads.length≤3)&&(a.Base==[]||J0n a.Base) else decide (a.Heads.length=1)&&a.Base==[])
def Jpq (l:List Str) (scope:List Str):Bool:=l.all (J2p scope)
def J6n (a:DArg) (list:Bool) (scope:List Str):Bool:=Jb0 a&&(a.Lst==list)&&Jpq (J5d (J7c a)) scope
def J4e (scope:List Str) (g:DSum):Bool:=J98 g&&Jpq (J70 g) scope
def J43 (met:List Str):List Str→Bool
 | []=>true
 | s::l => !J2p met s&&J43 (met++[s]) l
def J8k (l:List Str):Bool:=J43 [] l
def Jxp (params:List Str) (q:DPattern):Bool:=J2p params q.Lst&&J0n q.Lst&&(if q.Cons then J2o q.Head&&J0n q.Tail else q.Head==[]&&q.Tail==[])
def J45 (params:List Str) (met:List Str):List DPattern→Bool
 | []=>true
 | q::l=>(Jxp params q && !J2p met q.Lst)&&J45 params (met++[q.Lst]) l
def J8c (scope:List Str):List DArg→List Str→Bool
 | a::l,s::m=>J6n a (J0n s) scope&&J8c scope l m
 | _,_=>true
def J9k (p:DProgram) (c:DCall) (scope:List Str):Bool:=
 (J1o p.Functions c.Func).isSome&&decide (c.Args.length=((J1o p.Functions c.Func).getD fn0).Params.length)&&(if ((J1o p.Functions c.Func).getD fn0).ListResult then J0n c.Bind else J2o c.Bind) &&
  J8c scope c.Args ((J1o p.Functions c.Func).getD fn0).Params
def J2m (p:DProgram) (r:DRule):Nat→List DCall→Bool
 | _,[]=>true
 | k,c::l=>J9k p c (J1m p r k)&&J2m p r (k+1) l
def J7u (p:DProgram) (r:DRule):Bool:=
 (J1o p.Functions r.Func).isSome&&J45 ((J1o p.Functions r.Func).getD fn0).Params [] r.Patterns&&decide (r.Guards.length≤2)&&r.Guards.all (J4e (J1m p r 0))&&decide (r.Calls.length≤2) &&
  J2m p r 0 r.Calls&&J6n r.Result ((J1o p.Functions r.Func).getD fn0).ListResult (J1m p r r.Calls.length)&&J8k (J1m p r r.Calls.length)
def Jlq (f:DFunction):Bool:=J2o f.Name&&decide (f.Params.length≤2)&&(f.Params.all J3v&&J8k f.Params)&&decide (f.Pre.length≤2)&&f.Pre.all fun l=>J1q l f.Params.length
def J8p (met:List Str):List DFunction→Bool
 | []=>true
 | f::l=>(Jlq f && !J2p met f.Name)&&J8p (met++[f.Name]) l
def J2s (p:DProgram):Bool:=inR p.Functions.length 1 3&&J8p [] p.Functions&&decide (p.Rules.length≤8)&&p.Rules.all (J7u p)
theorem Ja1:∀ (l:List DFunction) (met:List Str),J8p met l=(l.all Jlq&&J43 met (l.map (·.Name)))
 | [],met=>rfl
 | f::l,met=>by
  simp only [J8p,Ja1 l,List.all_cons,List.map_cons,J43]
  cases Jlq f <;> cases J2p met f.Name <;> simp
theorem K10 {α:Type}{p:α→Bool}{l m:List α}(h:∀ x,x∈l↔x∈m):l.all p=m.all p:=by
 rw [Bool.eq_iff_iff,List.all_eq_true,List.all_eq_true]
 exact ⟨fun g x hx=>g x ((h x).2 hx),fun g x hx=>g x ((h x).1 hx)⟩
theorem Jf9 (l scope:List Str):Jpq (J5d l) scope=Jpq l scope:=K10 (Jay l).2
theorem Jle (s:DSum):J7c ⟨false,[s],[]⟩=J70 s:=by simp [J7c,Jaf]
theorem Jmo (s:DSum):Jb0 ⟨false,[s],[]⟩=J98 s:=by simp [Jb0]
def J76 (l scope:List Str):List Str:=l.filter fun s => !J2p scope s
theorem Jk6 (l scope:List Str):decide ((J76 l scope).length=0)=Jpq l scope:=by
 unfold J76 Jpq
 induction l with
 | nil=>rfl
 | cons x l ih=>
  simp only [List.filter_cons,List.all_cons]
  cases hx:J2p scope x
  ·simp
  ·simp only [Bool.not_true,Bool.false_eq_true,if_false,Bool.true_and];exact ih
theorem Jrc {l:List DFunction}{i:Nat}(hi:i<l.length):decide (J0t (fun f=>f.Name==(l[i]).Name) l 0=(i:Int)) = !J2p ((l.take i).map (·.Name)) (l[i]).Name:=by
 have key:∀ (l:List DFunction) (i k:Nat) (hi:i<l.length) (nm:Str),(l[i]).Name=nm→(J0t (fun f=>f.Name==nm) l k=((k+i:Nat):Int)↔J2p ((l.take i).map (·.Name)) nm=false):=by
  intro l
  induction l with
  | nil=>intro i k hi;simp at hi
  | cons f l ih=>
   intro i k hi nm hnm
   cases i with
   | zero=>
    simp only [List.getElem_cons_zero] at hnm
    simp [J0t,hnm,J2p]
   | succ i=>
    simp only [List.getElem_cons_succ] at hnm
    simp only [J0t,List.take_succ_cons,List.map_cons,J2p,List.any_cons]
    by_cases hf:f.Name==nm
    ·simp [hf];omega
    ·have:=ih i (k+1) (by simpa using hi) nm hnm
     simp only [J2p] at this
     simp only [hf,Bool.false_eq_true,if_false,Bool.false_or]
     rw [←this]
     constructor <;> intro h <;> rw [h] <;> congr 1 <;> omega
 have:=key l i 0 hi _ rfl
 rw [Nat.zero_add] at this
 cases hb:J2p ((l.take i).map (·.Name)) (l[i]).Name
 ·simp [this.2 hb]
 ·simp only [Bool.not_true,decide_eq_false_iff_not]
  intro h
  rw [this.1 h] at hb;cases hb
abbrev SEnv:=List (Str×DLin)
def J38 (d:DLin) (E:SEnv) (x:Str):DLin:=((E.find? fun e=>e.1==x).map (·.2)).getD d
def Jnl:SEnv→Str→DLin→SEnv
 | [],x,l=>[(x,l)]
 | e::E,x,l=>if e.1=x then (x,l)::E else e::Jnl E x l
def J37 (i n:Int):DLin:=if inR n 0 8&&inR i 0 (n - 1) then ⟨0,(List.replicate n.toNat 0).set i.toNat 1⟩ else J1g
def J8m (a:DLin) (k:Int) (b:DLin):DLin:=(J0j a k b).getD J1g
def Kax:DSum:=⟨0,[]⟩
structure MS where
 E:SEnv
 nx:Nat
 rows:List DLin
 pars:List DLin
 args:List (List DLin)
def Jh3 (E:SEnv) (n:Nat) (s:DSum):DLin:=s.Terms.foldl (fun o t=>J8m o t.Coeff (J38 J1g E t.Name)) (J09 s.Const n)
def Jhx (E:SEnv) (n:Nat) (a:DArg):DLin:=
 if a.Lst then (if a.Base=[] then J09 a.Heads.length n else J8m (J09 a.Heads.length n) 1 (J38 J1g E a.Base)) else Jh3 E n (a.Heads.getD 0 Kax)
def Jbw (n:Nat) (st:MS) (x:Str):MS:=
 ⟨Jnl st.E x (J37 st.nx n),st.nx+1,st.rows++(if J0n x then [J37 st.nx n] else []),st.pars++[J37 st.nx n],st.args⟩
def K4j (ps:List DLin) (n:Nat):List DLin→Option (List DLin)
 | []=>some []
 | l::ls=>match J0s l ps n with
  | Option.none=>Option.none
  | some x=>(K4j ps n ls).map (x :: ·)
def Jzs (n:Nat) (st:MS) (q:DPattern):SEnv:=Jnl st.E q.Head (J37 st.nx n)
def Jp9 (n:Nat) (st:MS) (q:DPattern):DLin:=(Jbs (J38 J1g (Jzs n st q) q.Lst) (-1)).getD J1g
def Jd4 (n:Nat) (st:MS) (q:DPattern):MS:=
 if q.Cons then ⟨Jnl (Jzs n st q) q.Tail (Jp9 n st q),st.nx+1,st.rows++[Jp9 n st q],st.pars,st.args⟩
 else ⟨st.E,st.nx,st.rows++[J8m (J09 0 n) (-1) (J38 J1g st.E q.Lst)],st.pars,st.args⟩
def Jgy (p:DProgram) (n:Nat) (st:MS) (c:DCall):MS:=
 ⟨Jnl st.E c.Bind (J37 st.nx n),st.nx+1,st.rows++(if ((J1o p.Functions c.Func).getD fn0).ListResult then [J37 st.nx n] else []),st.pars,st.args++[c.Args.map (Jhx st.E n)]⟩
def J3p (l:List DPattern):Nat:=(l.filter (·.Cons)).length
def J19 (r:DRule) (f:DFunction):Nat:=f.Params.length+r.Calls.length+J3p r.Patterns
def st1 (r:DRule) (f:DFunction):MS:=f.Params.foldl (Jbw (J19 r f)) ⟨[],0,[],[],[]⟩
def st3 (r:DRule) (f:DFunction) (pre:List DLin):MS:=
 r.Patterns.foldl (Jd4 (J19 r f)) ⟨(st1 r f).E,(st1 r f).nx,(st1 r f).rows++pre,(st1 r f).pars,(st1 r f).args⟩
def J0y (s:MS) (l:List DLin):MS:=⟨s.E,s.nx,s.rows++l,s.pars,s.args⟩
def st5 (p:DProgram) (r:DRule) (f:DFunction) (pre:List DLin):MS:=
 r.Calls.foldl (Jgy p (J19 r f)) (J0y (st3 r f pre) (r.Guards.map (Jh3 (st3 r f pre).E (J19 r f))))
def K1l (n:Nat) (s:MS) (res:DLin):DModel:=⟨⟨n,s.rows⟩,s.pars,s.args,res⟩
def Jni (p:DProgram) (r:DRule) (f:DFunction):Option DModel:=
 match K4j (st1 r f).pars (J19 r f) f.Pre with
 | Option.none=>Option.none
 | some pre=>some (K1l (J19 r f) (st5 p r f pre) (Jhx (st5 p r f pre).E (J19 r f) r.Result))
def goS (E:SEnv) (n:Nat):List DTerm→DLin→Option DLin
 | [],o=>some o
 | t::ts,o=>match J0j o t.Coeff (J38 (J09 0 n) E t.Name) with
  | Option.none=>Option.none
  | some o'=>goS E n ts o'
def Jwy (E:SEnv) (n:Nat) (s:DSum):Option DLin:=goS E n s.Terms (J09 s.Const n)
def Jzz (E:SEnv) (n:Nat) (a:DArg):Option DLin:=
 if a.Lst then (if a.Base=[] then some (J09 a.Heads.length n) else J0j (J09 a.Heads.length n) 1 (J38 (J09 0 n) E a.Base)) else Jwy E n (a.Heads.getD 0 Kax)
def Jhe (E:SEnv) (n:Nat) (a:DArg):DLin:=(Jzz E n a).getD J1g
def Jel (E:SEnv) (n:Nat) (s:DSum):DLin:=(Jwy E n s).getD J1g
def J56 (l:DLin) (k:Int):DLin:=⟨IntKind.i64.wrap (l.Const - k),l.Coeffs⟩
def J4g (n:Nat) (l:DLin):DLin:=⟨l.Const,l.Coeffs++List.replicate (n - l.Coeffs.length) 0⟩
def Je3 (n:Nat):List Str→Nat→List DLin
 | [],_=>[]
 | x::xs,i=>(if J0n x then [J37 i n] else [])++Je3 n xs (i+1)
def Jec (f:DFunction) (n:Nat):List DLin:=Je3 n f.Params 0++f.Pre.map (J4g n)
def J9a (n:Nat) (st:MS) (x:Str):MS:=⟨st.E++[(x,J37 st.nx n)],st.nx+1,st.rows,st.pars++[J37 st.nx n],st.args⟩
def Jku (n:Nat) (st:MS) (q:DPattern):DLin:=J56 (J38 (J09 0 n) st.E q.Lst) 1
def J62 (n:Nat) (st:MS) (q:DPattern):MS:=
 if q.Cons then ⟨st.E++[(q.Head,J37 st.nx n),(q.Tail,Jku n st q)],st.nx+1,st.rows++[Jku n st q],st.pars,st.args⟩
 else ⟨st.E,st.nx,st.rows++[J8m (J09 0 n) (-1) (J38 (J09 0 n) st.E q.Lst)],st.pars,st.args⟩
def J69 (n:Nat) (st:MS) (c:DCall):MS:=
 ⟨st.E++[(c.Bind,J37 st.nx n)],st.nx+1,st.rows++(if J0n c.Bind then [J37 st.nx n] else []),st.pars,st.args++[c.Args.map (Jhe st.E n)]⟩
def ss1 (r:DRule) (f:DFunction):MS:=f.Params.foldl (J9a (J19 r f)) ⟨[],0,Jec f (J19 r f),[],[]⟩
def Jcl (s:MS) (k:Nat):MS:=⟨s.E,k,s.rows,s.pars,s.args⟩
def ss3 (r:DRule) (f:DFunction):MS:=r.Patterns.foldl (J62 (J19 r f)) (Jcl (ss1 r f) f.Params.length)
def ss5 (r:DRule) (f:DFunction):MS:=
 r.Calls.foldl (J69 (J19 r f)) (J0y (Jcl (ss3 r f) (f.Params.length+J3p r.Patterns)) (r.Guards.map (Jel (ss3 r f).E (J19 r f))))
def J66 (r:DRule) (f:DFunction):DModel:=K1l (J19 r f) (ss5 r f) (Jhe (ss5 r f).E (J19 r f) r.Result)
def J1d (E:SEnv):List Str:=E.map (·.1)
theorem Jc6 {x:Str}{l:DLin} : ∀ {E:SEnv},x∉J1d E→Jnl E x l=E++[(x,l)]
 | [],_=>rfl
 | e::E,h=>by
  simp only [J1d,List.map_cons,List.mem_cons,not_or] at h
  simp only [Jnl,List.cons_append]
  rw [if_neg (fun g=>h.1 g.symm),Jc6 (E:=E) h.2]
theorem Jtz {E:SEnv}{x:Str}(h:x∈J1d E):∃ l,E.find? (fun e=>e.1==x)=some (x,l)∧(x,l)∈E:=by
 obtain ⟨e,he,rfl⟩:=List.mem_map.1 h
 have:(E.find? fun e'=>e'.1==e.1).isSome=true:=by rw [List.find?_isSome];exact ⟨e,he,by simp⟩
 obtain ⟨⟨y,l⟩,hy⟩:=Option.isSome_iff_exists.1 this
 have h1:=List.find?_some hy
 have h2:=List.mem_of_find?_eq_some hy
 simp only [beq_iff_eq] at h1
 subst h1
 exact ⟨l,hy,h2⟩
theorem Jfb {E:SEnv}{x:Str}(d:DLin) (h:x∈J1d E):∃ l,(x,l)∈E∧∀ d F,J38 d (E++F) x=l:=by
 obtain ⟨l,h1,h2⟩:=Jtz h
 exact ⟨l,h2,fun d F=>by unfold J38;rw [List.find?_append,h1];rfl⟩
theorem Jog {E:SEnv}{x:Str}(d d':DLin) (h:x∈J1d E):J38 d E x=J38 d' E x:=by
 obtain ⟨l,_,h2⟩:=Jfb d h
 rw [←List.append_nil E,h2,h2]
def Jn0 (n:Nat) (E:SEnv):Prop:=∀ e∈E,e.2.Coeffs.length=n∧n≠0
theorem Jn0.get {n:Nat}{E:SEnv}{x:Str}(H:Jn0 n E) (d:DLin) (h:x∈J1d E):(J38 d E x).Coeffs.length=n:=by
 obtain ⟨l,h1,h2⟩:=Jfb d h
 have:=h2 d []
 rw [List.append_nil] at this
 rw [this];exact (H _ h1).1
theorem Jga {i n:Nat}(hn:n≤8) (hi:i<n):J37 i n=⟨0,(List.replicate n 0).set i 1⟩:=by
 unfold J37
 rw [if_pos (by simp [inR];omega)];simp
theorem Jac {i n:Nat}(hn:n≤8) (hi:i<n):(J37 i n).Coeffs.length=n:=by rw [Jga hn hi];simp
theorem Jwk {c:Int}{b:DLin}(h:b.Coeffs.length≠0):J8m J1g c b=J1g:=by
 unfold J8m J0j
 have:J1q b (J1g.Coeffs.length:Nat)=false:=by
  rw [Bool.eq_false_iff]
  intro g
  have:=J1z g
  simp [J1g] at this
  exact h (by simp [this])
 rw [this];simp
theorem Jn8 {n:Nat}{E:SEnv}(H:Jn0 n E):∀ {ts:List DTerm},(∀ t∈ts,t.Name∈J1d E)→(ts≠[]→n≠0)→ts.foldl (fun o t=>J8m o t.Coeff (J38 J1g E t.Name)) J1g=J1g
 | [],_,_=>rfl
 | t::ts,h,hn=>by
  simp only [List.foldl_cons]
  rw [Jwk (by rw [H.get J1g (h t List.mem_cons_self)];exact hn (by simp))]
  exact Jn8 H (fun u hu=>h u (List.mem_cons_of_mem _ hu)) (fun _=>hn (by simp))
theorem Jo0 {n:Nat}{E:SEnv}(H:Jn0 n E):∀ {ts:List DTerm}{o:DLin},(∀ t∈ts,t.Name∈J1d E)→(ts≠[]→n≠0)→ts.foldl (fun o t=>J8m o t.Coeff (J38 J1g E t.Name)) o=(goS E n ts o).getD J1g
 | [],_,_,_=>rfl
 | t::ts,o,h,hn=>by
  have h':∀ u∈ts,u.Name∈J1d E:=fun u hu=>h u (List.mem_cons_of_mem _ hu)
  have hn':ts≠[]→n≠0:=fun _=>hn (by simp)
  simp only [List.foldl_cons,goS]
  rw [Jog J1g (J09 0 n) (h t List.mem_cons_self)]
  cases ha:J0j o t.Coeff (J38 (J09 0 n) E t.Name) with
  | none=>
   have:J8m o t.Coeff (J38 (J09 0 n) E t.Name)=J1g:=by unfold J8m;rw [ha];rfl
   rw [this]
   exact Jn8 H h' hn'
  | some o'=>
   have:J8m o t.Coeff (J38 (J09 0 n) E t.Name)=o':=by unfold J8m;rw [ha];rfl
   rw [this]
   exact Jo0 H h' hn'
theorem Jn0.ne {n:Nat}{E:SEnv}(H:Jn0 n E) (h:E≠[]):n≠0:=by
 obtain ⟨e,l,rfl⟩:=List.exists_cons_of_ne_nil h
 exact (H e List.mem_cons_self).2
theorem Jxb {n:Nat}{E:SEnv}(H:Jn0 n E) {s:DSum}(h:∀ t∈s.Terms,t.Name∈J1d E):Jh3 E n s=Jel E n s:=by
 unfold Jh3 Jel Jwy
 refine Jo0 H h fun ht=>H.ne ?_
 rintro rfl
 obtain ⟨t,ts,he⟩:=List.exists_cons_of_ne_nil ht
 have:=h t (by rw [he];exact List.mem_cons_self)
 simp [J1d] at this
def K9g (E:SEnv) (a:DArg):Prop:=(∀ s∈a.Heads,∀ t∈s.Terms,t.Name∈J1d E)∧(a.Base≠[]→a.Base∈J1d E)
theorem Jx6 {n:Nat}{E:SEnv}(H:Jn0 n E) {a:DArg}(h:K9g E a):Jhx E n a=Jhe E n a:=by
 unfold Jhx Jhe Jzz
 cases a.Lst
 ·simp only [Bool.false_eq_true,if_false]
  refine Jxb H ?_
  intro t ht
  cases hh:a.Heads with
  | nil=>rw [hh] at ht;simp [Kax] at ht
  | cons s l=>rw [hh] at ht;simp at ht;exact h.1 s (by rw [hh];exact List.mem_cons_self) t ht
 ·simp only [if_true]
  by_cases hb:a.Base=[]
  ·rw [if_pos hb,if_pos hb];rfl
  ·rw [if_neg hb,if_neg hb,Jog J1g (J09 0 n) (h.2 hb)];rfl
theorem Jjl {x k:Int}(hx:okC x=true) (hk:okC k=true):J2f x k 0=some x:=by
 have h0:okC 0=true:=by decide
 unfold J2f Je5 Jh2
 simp [hx,hk,h0]
theorem Js8 {k:Int}(hk:okC k=true):J2f 0 k 1=some k:=by
 have h0:okC 0=true:=by decide
 have h1:okC 1=true:=by decide
 unfold J2f Je5 Jh2
 simp [hk,h0,h1]
theorem Jmq {xs:List Int}{c k:Int}{i n:Nat}(hn:n≤8) (hi:i<n) (hx:xs.length=n) (hok:xs.all okC=true) (hc:okC c=true) (hk:okC k=true) (h0:xs[i]? = some 0) :
 J0j ⟨c,xs⟩ k (J37 i n)=some ⟨c,xs.set i k⟩:=by
 have hz0:okC 0=true:=by decide
 have hz1:okC 1=true:=by decide
 have hv:J1q (J37 i n) (xs.length:Nat)=true:=by
  rw [Jga hn hi]
  unfold J1q
  simp only [Bool.and_eq_true,decide_eq_true_eq,List.all_eq_true]
  refine ⟨⟨⟨by simp [inR];omega,by simp [hx]⟩,hz0⟩,?_⟩
  intro y hy
  rcases List.mem_or_eq_of_mem_set hy with hy|rfl
  ·rw [(List.mem_replicate.1 hy).2];exact hz0
  ·exact hz1
 have ho:J1q ⟨c,xs⟩ (xs.length:Nat)=true:=by
  unfold J1q
  simp only [Bool.and_eq_true,decide_eq_true_eq]
  exact ⟨⟨⟨by simp [inR];omega,by simp⟩,hc⟩,hok⟩
 have hZ:J59 ⟨c,xs⟩ k (J37 i n)=(xs.set i k).map some:=by
  rw [Jga hn hi]
  unfold J59
  refine List.ext_getElem (by simp [hx]) fun j h1 h2 => ?_
  have hj:j<xs.length:=by simp at h2;exact h2
  simp only [List.getElem_zipWith,List.getElem_map]
  by_cases he:i=j
  ·subst he
   have:xs[i]=0:=by rw [List.getElem?_eq_getElem hj] at h0;exact Option.some.inj h0
   simp [this,Js8 hk]
  ·rw [List.getElem_set_ne he,List.getElem_set_ne he,List.getElem_replicate]
   exact Jjl (List.all_eq_true.1 hok _ (List.getElem_mem hj)) hk
 have hcc:J2f c k (J37 i n).Const=some c:=by rw [Jga hn hi];exact Jjl hc hk
 unfold J0j Jdm
 simp only [hv,ho,hk,hcc,hZ,Bool.and_self,Bool.true_and,Option.isSome_some]
 have hA:((xs.set i k).map some).all Option.isSome=true:=by rw [List.all_eq_true];intro x hx;obtain ⟨y,_,rfl⟩:=List.mem_map.1 hx;rfl
 rw [if_pos hA]
 simp [List.map_map,Function.comp_def]
theorem Jse {n:Nat} : (List.replicate n (0:Int)).all okC=true:=by
 rw [List.all_eq_true];intro x hx;rw [(List.mem_replicate.1 hx).2];decide
theorem Jr4 {l:DLin}{n:Int}(h:J1q l n=true):∀ x∈l.Coeffs,okC x=true:=by
 unfold J1q at h;simp only [Bool.and_eq_true,List.all_eq_true] at h;exact h.2
theorem Jl7 {l:DLin}{m n:Nat}(hm:m≤2) (hmn:m≤n) (hn:n≤8) (hl:J1q l m=true):J0s l ((List.range m).map fun i:Nat=>J37 i n) n=some (J4g n l):=by
 have hc:=Jiz hl
 have hlen:l.Coeffs.length=m:=by have:=(J1z hl).1;omega
 have hall:=Jr4 hl
 obtain ⟨c0,h1⟩:=J7f (n:=n) hc (by omega)
 unfold J0s
 match m,hm,hlen with
 | 0,_,hlen=>
  have he:l.Coeffs=[]:=List.eq_nil_of_length_eq_zero hlen
  have hl':J1q l 0=true:=hl
  rw [if_neg (by simp),if_pos (by rw [hl'];simp [inR];omega),c0]
  simp [J4g,he]
 | 1,_,hlen=>
  obtain ⟨a,ha⟩:=List.length_eq_one_iff.1 hlen
  have hl':J1q l 1=true:=hl
  have hka:=hall a (by rw [ha];simp)
  have hz0:(List.replicate n (0:Int))[0]? = some 0:=by rw [List.getElem?_replicate,if_pos (by omega)]
  rw [if_pos (by simp)]
  unfold J3q
  have hN:Jij ((List.range 1).map fun i:Nat=>J37 i n)=n:=by simp [Jij,List.range_succ];exact Jac (i:=0) hn (by omega)
  rw [hN,h1,c0]
  simp only [List.length_map,List.length_range]
  rw [if_pos (by simp [hl']),ha]
  simp only [List.range_succ,List.range_zero,List.nil_append,List.map_cons,List.map_nil,List.zip_cons_cons,List.zip_nil_right,J5j]
  rw [Jmq (i:=0) hn (by omega) (by simp) Jse hc hka hz0]
  simp only [J4g,ha]
  obtain ⟨k,rfl⟩:∃ k,n=k+1:=⟨n - 1,by omega⟩
  simp [List.replicate_succ]
 | 2,_,hlen=>
  obtain ⟨a,b,hab⟩:∃ a b,l.Coeffs=[a,b]:=by
   match hh:l.Coeffs,hlen with
   | [a,b],_=>exact ⟨a,b,rfl⟩
  have hl':J1q l 2=true:=hl
  have hka:=hall a (by rw [hab];simp)
  have hkb:=hall b (by rw [hab];simp)
  have hz0:(List.replicate n (0:Int))[0]? = some 0:=by rw [List.getElem?_replicate,if_pos (by omega)]
  rw [if_pos (by simp)]
  unfold J3q
  have hN:Jij ((List.range 2).map fun i:Nat=>J37 i n)=n:=by simp [Jij,List.range_succ];exact Jac (i:=0) hn (by omega)
  rw [hN,h1,c0]
  simp only [List.length_map,List.length_range]
  rw [if_pos (by simp [hl']),hab]
  simp only [List.range_succ,List.range_zero,List.nil_append,List.map_cons,List.map_nil,List.zip_cons_cons,List.zip_nil_right,List.cons_append,J5j]
  rw [Jmq (i:=0) hn (by omega) (by simp) Jse hc hka hz0]
  obtain ⟨k,rfl⟩:∃ k,n=k+2:=⟨n - 2,by omega⟩
  simp only
  rw [Jmq (i:=1) hn (by omega) (by simp) (by
   rw [List.all_eq_true];intro x hx
   rcases List.mem_or_eq_of_mem_set hx with hx|rfl
   ·rw [(List.mem_replicate.1 hx).2];decide
   ·exact hka) hc hkb (by simp [List.replicate_succ])]
  simp [J4g,hab,List.replicate_succ]
theorem Jmu {ps:List DLin}{n:Nat} : ∀ {ls:List DLin},(∀ l∈ls,J0s l ps n=some (J4g n l))→K4j ps n ls=some (ls.map (J4g n))
 | [],_=>rfl
 | l::ls,h=>by
  simp only [K4j]
  rw [h l List.mem_cons_self,Jmu fun x hx=>h x (List.mem_cons_of_mem _ hx)];rfl
def a203:AFn:= ⟨24,[(.c 4 true 2)],(.seq (.reg [Zo 4 (.box [(.int .i64 0),(.nil 1)])]) (.seq (.seq (.reg [Zv 6 1,Zc 7 102 [.t 6,(.k (.int .i64 0)),(.k (.int .i64 8))],Zo 8 (.un .not (.t 7)),Zv 9 8,⟨some 10,.mv (.t 0),(some (9,false))⟩,⟨some 11,.mv (.t 1),(some (9,false))⟩,⟨some 12,.bin .sub (.t 11) (.k (.int .i64 1)),(some (9,false))⟩,⟨some 13,.call (.k (.fn (.func 102) [] [])) [.t 10,(.k (.int .i64 0)),.t 12],(some (9,false))⟩,⟨some 14,.un .not (.t 13),(some (9,false))⟩,Zo 15 (.pick (.t 9) (.k (.bool true)) (.t 14))]) (.cond (.t 15) (.seq (.reg [Zo 16 (.build [(.int .i64 0),(.nil 1)] []),⟨no,.st 2 (.t 4) (.t 16),no⟩]) .ret) .skip)) (.seq (.reg [Zv 17 1,Zc 18 178 [(.k (.int .i64 0)),.t 17],Zo 5 (.box [(.int .i64 0),(.nil 1)]),⟨no,.st 2 (.t 5) (.t 18),no⟩]) (.seq (.reg [Zf 19 1 5,Zl 20 false 1 19,Zv 21 0,Zo 22 (.ixa 1 (.t 20) (.t 21)),⟨no,.st 1 (.t 22) (.k (.int .i64 1)),no⟩]) (.seq (.reg [Zl 23 true 2 5,⟨no,.st 2 (.t 4) (.t 23),no⟩]) .ret)))))⟩
theorem a203_ok:J06 Tryz.prog Tryz.f203=some a203:=by kernel_rfl
def a261:AFn:= ⟨25,[(.c 4 true 2)],(.seq (.reg [Zo 4 (.box [(.int .i64 0),(.nil 1)])]) (.seq (.seq (.reg [Zv 6 1,Zc 7 183 [.t 6,(.k (.int .i64 0)),(.k (.int .i64 8))],Zo 8 (.un .not (.t 7)),Zv 9 8,⟨some 10,.mv (.t 0),(some (9,false))⟩,⟨some 11,.mv (.t 1),(some (9,false))⟩,⟨some 12,.bin .sub (.t 11) (.k (.int .i64 1)),(some (9,false))⟩,⟨some 13,.call (.k (.fn (.func 183) [] [])) [.t 10,(.k (.int .i64 0)),.t 12],(some (9,false))⟩,⟨some 14,.un .not (.t 13),(some (9,false))⟩,Zo 15 (.pick (.t 9) (.k (.bool true)) (.t 14))]) (.cond (.t 15) (.seq (.reg [Zo 16 (.build [(.int .i64 0),(.nil 1)] []),⟨no,.st 2 (.t 4) (.t 16),no⟩]) .ret) .skip)) (.seq (.reg [Zv 17 1,Zo 18 (.mks 8 [(.int .i64 0)] (.t 17) (.t 17)),Zo 19 (.build [(.int .i64 0),(.nil 1)] [(1,(1,(.t 18)))]),Zo 5 (.box [(.int .i64 0),(.nil 1)]),⟨no,.st 2 (.t 5) (.t 19),no⟩]) (.seq (.reg [Zf 20 1 5,Zl 21 false 1 20,Zv 22 0,Zo 23 (.ixa 1 (.t 21) (.t 22)),⟨no,.st 1 (.t 23) (.k (.int .i64 1)),no⟩]) (.seq (.reg [Zl 24 true 2 5,⟨no,.st 2 (.t 4) (.t 24),no⟩]) .ret)))))⟩
theorem a261_ok:J06 Tryz.prog Tryz.f261=some a261:=by kernel_rfl
def a306:AFn:= ⟨14,[(.c 4 true 2)],(.seq (.reg [Zo 2 (.boxv (.t 0)),Zo 4 (.box [(.int .i64 0),(.nil 1)])]) (.seq (.reg [Zl 6 true 2 2,Zc 7 82 [.t 6],Zo 5 (.box [(.int .i64 0),(.nil 1)]),⟨no,.st 2 (.t 5) (.t 7),no⟩]) (.seq (.reg [Zf 8 0 5,Zl 9 false 1 8,Zv 10 1,Zo 11 (.bin .sub (.t 9) (.t 10)),Zf 12 0 5,⟨no,.st 1 (.t 12) (.t 11),no⟩]) (.seq (.reg [Zl 13 true 2 5,⟨no,.st 2 (.t 4) (.t 13),no⟩]) .ret))))⟩
theorem a306_ok:J06 Tryz.prog Tryz.f306=some a306:=by kernel_rfl
def a262:AFn:= ⟨29,[(.c 4 true 2)],(.seq (.reg [Zo 2 (.boxv (.t 0)),Zo 4 (.box [(.int .i64 0),(.nil 1)])]) (.seq (.draw (.op (Zf 7 0 2) (.op (Zl 8 false 1 7) (.op (Zv 9 1) (.both (.op (Zo 10 (.mks 8 [(.int .i64 0)] (.t 9) (.t 9))) (.op (Zo 11 (.build [(.int .i64 0),(.nil 1)] [(0,(1,(.t 8))),(1,(1,(.t 10)))])) (.op (Zo 5 (.box [(.int .i64 0),(.nil 1)])) (.hop ⟨no,.st 2 (.t 5) (.t 11),no⟩ [] .fin)))) (.op (Zo 5 (.box [(.int .i64 0),(.nil 1)])) (.op (Zo 10 (.mks 8 [(.int .i64 0)] (.t 9) (.t 9))) (.op (Zo 11 (.build [(.int .i64 0),(.nil 1)] [(0,(1,(.t 8))),(1,(1,(.t 10)))])) (.hop ⟨no,.st 2 (.t 5) (.t 11),no⟩ [] .fin))))))))) (.seq (.seq (.reg [Zo 6 (.mv (.k (.int .i64 0)))]) (.blk 0 (.loop (.seq (.seq (.reg [Zv 12 6,Zf 13 1 2,Zl 14 false 1 13,Zo 15 (.len false (.t 14)),Zo 16 (.bin .lss (.t 12) (.t 15))]) (.cond (.t 16) .skip (.exit 0))) (.seq (.blk 1 (.draw (.op (Zf 19 1 5) (.op (Zl 20 false 1 19) (.op (Zv 21 6) (.op (Zf 22 1 2) (.op (Zl 23 false 1 22) (.op (Zv 24 6) (.op (Zo 25 (.ixa 1 (.t 23) (.t 24))) (.op (Zl 26 false 1 25) (.op (Zo 27 (.ixa 1 (.t 20) (.t 21))) (.hop ⟨no,.st 1 (.t 27) (.t 26),no⟩ [] .fin)))))))))))) (.reg [Zv 17 6,Zo 18 (.bin .add (.t 17) (.k (.int .i64 1))),Zv 6 18])))))) (.seq (.reg [Zl 28 true 2 5,⟨no,.st 2 (.t 4) (.t 28),no⟩]) .ret))))⟩
theorem a262_ok:J06 Tryz.prog Tryz.f262=some a262:=by kernel_rfl
theorem Joe (i n:Int):Holds Tryz.prog 203 [i64 i,i64 n] (fun r=>r = .agg (J08 (J37 i n))):=by
 refine J03 Tryz.func203 a203_ok rfl (by simp [a203]) ?_
 simp [a203]
 first|refine J01 (J24 n 0 8) (by first|simp;done|rfl) ?_|refine J02 (J24 n 0 8) (by first|simp;done|rfl) ?_
 rintro r rfl
 unfold J37
 cases h1:inR n 0 8
 ·simp [J08,J0m,J1g]
 have hn:0≤n∧n≤8:=by simpa [inR] using h1
 have hw:IntKind.i64.wrap (n - 1)=n - 1:=J0r (by omega)
 simp [hw]
 first|refine J01 (J24 i 0 (n - 1)) (by first|simp;done|rfl) ?_|refine J02 (J24 i 0 (n - 1)) (by first|simp;done|rfl) ?_
 rintro r rfl
 cases h2:inR i 0 (n - 1)
 ·simp [J08,J0m,J1g]
 have hi:0≤i∧i≤n - 1:=by simpa [inR] using h2
 obtain ⟨m,rfl⟩:∃ m:Nat,n=m:=⟨n.toNat,by omega⟩
 obtain ⟨j,rfl⟩:∃ j:Nat,i=j:=⟨i.toNat,by omega⟩
 have hj:j<m:=by omega
 have hc:J09 0 m=⟨0,List.replicate m 0⟩:=(J7f (by decide) (by omega)).1
 simp
 first|refine J01 (J27 0 m) (by first|simp;done|rfl) ?_|refine J02 (J27 0 m) (by first|simp;done|rfl) ?_
 rintro r rfl
 simp [hc,J08,hj]
 have e:(List.replicate m [AV.int .i64 0]).set j [AV.int .i64 1]=J0m ((List.replicate m 0).set j 1):=by rw [←Jeu,Jjt]
 rw [e,List.take_of_length_le (by simp)]
 simp
theorem J7i (i n:Int):Holds Tryz.prog 261 [i64 i,i64 n] (fun r=>r = .agg (J08 (J37 i n))):=by
 refine J03 Tryz.func261 a261_ok rfl (by simp [a261]) ?_
 simp [a261]
 first|refine J01 (J5m n 0 8) (by first|simp;done|rfl) ?_|refine J02 (J5m n 0 8) (by first|simp;done|rfl) ?_
 rintro r rfl
 unfold J37
 cases h1:inR n 0 8
 ·simp [J08,J0m,J1g]
 have hn:0≤n∧n≤8:=by simpa [inR] using h1
 have hw:IntKind.i64.wrap (n - 1)=n - 1:=J0r (by omega)
 simp [hw]
 first|refine J01 (J5m i 0 (n - 1)) (by first|simp;done|rfl) ?_|refine J02 (J5m i 0 (n - 1)) (by first|simp;done|rfl) ?_
 rintro r rfl
 cases h2:inR i 0 (n - 1)
 ·simp [J08,J0m,J1g]
 have hi:0≤i∧i≤n - 1:=by simpa [inR] using h2
 obtain ⟨m,rfl⟩:∃ m:Nat,n=m:=⟨n.toNat,by omega⟩
 obtain ⟨j,rfl⟩:∃ j:Nat,i=j:=⟨i.toNat,by omega⟩
 have hj:j<m:=by omega
 have hm:(m:Int)*8≤LIM:=by unfold LIM;omega
 simp [hj,hm,J08]
 have e:(List.replicate m [AV.int .i64 0]).set j [AV.int .i64 1]=J0m ((List.replicate m 0).set j 1):=by rw [←Jeu,Jjt]
 rw [e,List.take_of_length_le (by simp)]
 simp
theorem Jax (x:DLin) (k:Int) (hl:x.Coeffs.length≤1048576):Holds Tryz.prog 306 [.agg (J05 x),i64 k] (fun r=>r = .agg (J08 (J56 x k))):=by
 refine J03 Tryz.func306 a306_ok rfl (by simp [a306]) ?_
 simp [a306,J05]
 first|refine J01 (J2v x hl) (by first|simp [J05];done|rfl) ?_|refine J02 (J2v x hl) (by first|simp [J05];done|rfl) ?_
 rintro r rfl
 simp [J08,J56]
def Jtj (l:List Int) (n i:Nat):List Int:=l.take i++List.replicate (n - i) 0
theorem Jng {l:List Int}{n i:Nat}(hi:i<l.length) (hn:l.length≤n):(Jtj l n i).set i l[i]=Jtj l n (i+1):=by
 unfold Jtj
 rw [List.set_append_right i l[i] (by simp;omega)]
 have h1:i - (l.take i).length=0:=by simp;omega
 obtain ⟨k,hk⟩:∃ k,n - i=k+1:=⟨n - i - 1,by omega⟩
 rw [h1,hk,List.take_succ_eq_append_getElem hi,List.append_assoc]
 have:n - (i+1)=k:=by omega
 rw [this];simp [List.replicate_succ]
theorem Juf {l:List Int}{n i:Nat}(hi:i≤l.length) (hn:l.length≤n):(Jtj l n i).length=n:=by unfold Jtj;simp;omega
theorem J8w (x:DLin) (n:Nat) (hxn:x.Coeffs.length≤n) (hn:n≤1048576):Holds Tryz.prog 262 [.agg (J05 x),i64 n] (fun r=>r = .agg (J08 (J4g n x))):=by
 have hm:(n:Int)*8≤LIM:=by unfold LIM;omega
 refine J03 Tryz.func262 a262_ok rfl (by simp [a262]) ?_
 simp [a262,J05,hm]
 refine ⟨?_,?_⟩
 all_goals
  refine J0l [1,2,4] 6 x.Coeffs.length (fun i s h m=>∃ a b,((a=2∧b=3)∨(a=3∧b=2))∧3<m∧s 5 = .ptr b 0 0∧h 0=some ⟨true,2,[[.int .i64 x.Const,.sl 1 (J0m x.Coeffs)]]⟩∧h 1=some ⟨true,2,[[.int .i64 0,.nil 1]]⟩∧h b=some ⟨true,2,[[.int .i64 x.Const,.ref a 0 n]]⟩∧h a=some ⟨false,1,J0m (Jtj x.Coeffs n i)⟩) (by unfold LIM;omega) (by simp) ?_ ?_ ?_
  ·first
   | (refine ⟨2,3,.inl ⟨rfl,rfl⟩,?_⟩;simp [Jtj];done)
   | (refine ⟨3,2,.inr ⟨rfl,rfl⟩,?_⟩;simp [Jtj];done)
  ·rintro i s h m R hi hg hk s6 hw ⟨a,b,hab,hm3,s5,e0,e1,eb,ea⟩ hR _ _
   simp at hk
   have hpl:=Juf (l:=x.Coeffs) (n:=n) (Nat.le_of_lt hi) hxn
   have hin:i<n:=by omega
   rcases hab with ⟨rfl,rfl⟩|⟨rfl,rfl⟩
   ·simp [hk,s6,s5,hi,e0,e1,eb,ea,hin,hw,hpl]
    intro _
    refine hR _ _ _ (by simp [hk]) (by simp) ⟨2,3,.inl ⟨rfl,rfl⟩,by omega,by simp [hk,s5],by simp [e0],by simp [e1],by simp [eb],?_⟩
    simp [←Jng hi hxn]
   ·simp [hk,s6,s5,hi,e0,e1,eb,ea,hin,hw,hpl]
    intro _
    refine hR _ _ _ (by simp [hk]) (by simp) ⟨3,2,.inr ⟨rfl,rfl⟩,by omega,by simp [hk,s5],by simp [e0],by simp [e1],by simp [eb],?_⟩
    simp [←Jng hi hxn]
  ·rintro s h m R hk s6 ⟨a,b,hab,hm3,s5,e0,e1,eb,ea⟩ _ hX
   simp at hk
   have hpe:Jtj x.Coeffs n x.Coeffs.length=(J4g n x).Coeffs:=by simp [Jtj,J4g]
   have hwl:(J4g n x).Coeffs.length=n:=by simp [J4g];omega
   have hwc:(J4g n x).Const=x.Const:=rfl
   rw [hpe] at ea
   rcases hab with ⟨rfl,rfl⟩|⟨rfl,rfl⟩
   ·simp [hk,s6,s5,e0,e1,eb,ea]
    intro _
    refine hX _ _ _ _ ?_
    simp [hk,s5,e1,eb,ea,J08,hwl,hwc,List.take_of_length_le]
   ·simp [hk,s6,s5,e0,e1,eb,ea]
    intro _
    refine hX _ _ _ _ ?_
    simp [hk,s5,e1,eb,ea,J08,hwl,hwc,List.take_of_length_le]
def J41 (b z:Nat) (rows:List (List AV)) (v:AV) (h:Heap) (n:Nat):Prop:=(rows=[]∧v = .nil z)∨∃ id,b<id∧id<n∧v = .ref id 0 rows.length∧h id=some ⟨false,z,rows⟩
theorem J41.keep {b z:Nat}{rows:List (List AV)}{v:AV}{h h':Heap}{n n':Nat}(x:J41 b z rows v h n) (hn:n≤n') (hh:∀ id,b<id→id<n→v = .ref id 0 rows.length→h' id=h id):J41 b z rows v h' n':=
 x.imp (fun y=>y) fun ⟨i,h1,h2,h3,h4⟩=>⟨i,h1,by omega,h3,by rw [hh i h1 h2 h3];exact h4⟩
theorem J41.dt {b z:Nat}{rows:List (List AV)}{v:AV}{h:Heap}{n:Nat}(x:J41 b z rows v h n):∃ h',Go.Proofs.YtoclolkigjbcgaaGreat.dt v h=some (.us z rows,h')∧∀ id,(∀ l,v ≠ .ref id 0 l)→h' id=h id:=by
 rcases x with ⟨rfl,rfl⟩|⟨i,_,_,rfl,hb⟩
 ·exact ⟨h,by simp,fun _ _=>rfl⟩
 ·refine ⟨upd h i Option.none,by simp [hb],fun id hid => ?_⟩
  have:¬id=i:=fun e=>hid rows.length (by rw [e])
  simp [this]
theorem J41.cell {b z:Nat}{rows:List (List AV)}{v:AV}{h:Heap}{n:Nat}(x:J41 b z rows v h n):J0x v=true:=by
 rcases x with ⟨_,rfl⟩|⟨i,_,_,rfl,_⟩ <;> rfl
theorem J41.ne_sz {b z z':Nat}{rows rows':List (List AV)}{v v':AV}{h:Heap}{n id l l':Nat}(x:J41 b z rows v h n) (y:J41 b z' rows' v' h n) (hz:z≠z') (e:v = .ref id 0 l) (e':v' = .ref id 0 l'):False:=by
 rcases x with ⟨_,rfl⟩|⟨i,_,_,rfl,hi⟩
 ·cases e
 rcases y with ⟨_,rfl⟩|⟨j,_,_,rfl,hj⟩
 ·cases e'
 simp only [AV.ref.injEq] at e e'
 rw [e.1] at hi
 rw [e'.1,hi] at hj
 simp at hj
 exact hz hj.1
theorem J41.ne_ge {b z:Nat}{rows:List (List AV)}{v:AV}{h:Heap}{n q l:Nat}(x:J41 b z rows v h n) (hq:n≤q) (e:v = .ref q 0 l):False:=by
 rcases x with ⟨_,rfl⟩|⟨i,_,hi,rfl,_⟩
 ·cases e
 ·simp only [AV.ref.injEq] at e;omega
theorem Jd1 {k:IntKind}{n:Int} : J0x (.int k n)=true:=rfl
theorem Jhi {i o l:Nat} : J0x (.ref i o l)=true:=rfl
inductive RT (E:List (Str×Str)):Str→Str→Prop
 | refl (a:Str):RT E a a
 | step {a b c:Str} : RT E a b→(b,c)∈E→RT E a c
theorem RT.closed {E:List (Str×Str)}{S:Str→Prop}{a b:Str}(h:RT E a b) (ha:S a) (hc:∀ x y,(x,y)∈E→S x→S y):S b:=by
 induction h with
 | refl=>exact ha
 | step _ he ih=>exact hc _ _ he ih
theorem J3d {l:List Str}{s:Str} : J2p l s=true↔s∈l:=by simp [J2p]
theorem Jbl {l:List Str}{s:Str} : J2p l s=false↔s∉l:=by rw [←Bool.not_eq_true,J3d]
def Jhc (S:List Str) (e:Str×Str):List Str:=if J2p S e.1 then (if J2p S e.2 then S else S++[e.2]) else S
def Jk9 (E:List (Str×Str)) (S:List Str):List Str:=E.foldl Jhc S
def Jph (E:List (Str×Str)):Nat→List Str→List Str
 | 0,S=>S
 | n+1,S=>Jph E n (Jk9 E S)
theorem Jtq {S:List Str}{e:Str×Str}{x:Str}(h:x∈S):x∈Jhc S e:=by
 unfold Jhc;split
 ·split
  ·exact h
  ·exact List.mem_append_left _ h
 ·exact h
theorem Jui {E:List (Str×Str)} : ∀ {S:List Str}{x:Str},x∈S→x∈Jk9 E S:=by
 unfold Jk9
 induction E with
 | nil=>intro S x h;exact h
 | cons e E ih=>intro S x h;exact ih (Jtq h)
theorem Joc {E:List (Str×Str)} : ∀ {n:Nat}{S:List Str}{x:Str},x∈S→x∈Jph E n S
 | 0,_,_,h=>h
 | n+1,_,_,h=>Joc (n:=n) (Jui h)
theorem Jpf {S:List Str}{e:Str×Str}(h:S.Nodup):(Jhc S e).Nodup:=by
 unfold Jhc;split
 ·split
  ·exact h
  ·rename_i h2
   rw [Bool.not_eq_true,Jbl] at h2
   rw [List.nodup_append]
   exact ⟨h,by simp,fun a ha b hb hab=>h2 (by rw [←List.mem_singleton.1 hb,←hab];exact ha)⟩
 ·exact h
theorem Jh4 {E:List (Str×Str)} : ∀ {S:List Str},S.Nodup→(Jk9 E S).Nodup:=by
 unfold Jk9
 induction E with
 | nil=>intro S h;exact h
 | cons e E ih=>intro S h;exact ih (Jpf h)
theorem Job {S:List Str}{e:Str×Str} : S.length≤(Jhc S e).length:=by
 unfold Jhc;split
 ·split <;> simp
 ·simp
theorem Jj4 {E:List (Str×Str)} : ∀ {S:List Str},S.length≤(Jk9 E S).length:=by
 unfold Jk9
 induction E with
 | nil=>intro S;exact Nat.le_refl _
 | cons e E ih=>intro S;exact Nat.le_trans Job ih
theorem Jg2 {E:List (Str×Str)} : ∀ {S:List Str},(Jk9 E S).length=S.length→Jk9 E S=S∧∀ x y,(x,y)∈E→x∈S→y∈S:=by
 unfold Jk9
 induction E with
 | nil=>intro S _;exact ⟨rfl,fun _ _ h=>by cases h⟩
 | cons e E ih=>
  intro S h
  simp only [List.foldl_cons] at h ⊢
  have h1:=Job (S:=S) (e:=e)
  have h2:(Jhc S e).length≤(List.foldl Jhc (Jhc S e) E).length:=Jj4 (E:=E)
  have h3:Jhc S e=S:=by
   unfold Jhc at h1 h2 h ⊢
   split at h1 <;> rename_i g1
   ·split at h1 <;> rename_i g2
    ·simp [g1,g2]
    ·exfalso;simp only [g1,g2,if_true,if_false] at h h2;simp at h h2;omega
   ·simp [g1]
  rw [h3] at h ⊢
  obtain ⟨k1,k2⟩:=ih h
  refine ⟨k1,fun x y hxy hx => ?_⟩
  rcases List.mem_cons.1 hxy with rfl|hxy
  ·unfold Jhc at h3
   rw [if_pos (J3d.2 hx)] at h3
   split at h3
   ·rename_i g;exact J3d.1 g
   ·have:=congrArg List.length h3;simp at this
  ·exact k2 x y hxy hx
theorem Jz1 {E:List (Str×Str)}{S:List Str}{e:Str×Str}{a:Str}(he:e∈E) (h:∀ x∈S,RT E a x):∀ x∈Jhc S e,RT E a x:=by
 unfold Jhc;split
 ·rename_i g
  split
  ·exact h
  ·intro x hx
   rcases List.mem_append.1 hx with hx|hx
   ·exact h x hx
   ·rw [List.mem_singleton.1 hx];exact (h _ (J3d.1 g)).step he
 ·exact h
theorem Jyq {E:List (Str×Str)}{a:Str} : ∀ {S:List Str},(∀ x∈S,RT E a x)→∀ x∈Jk9 E S,RT E a x:=by
 have key:∀ (E':List (Str×Str)),(∀ e∈E',e∈E)→∀ (S:List Str),(∀ x∈S,RT E a x)→∀ x∈E'.foldl Jhc S,RT E a x:=by
  intro E'
  induction E' with
  | nil=>intro _ S h;exact h
  | cons e E' ih=>intro hE S h;exact ih (fun e he=>hE e (List.mem_cons_of_mem _ he)) _ (Jz1 (hE e (List.mem_cons_self ..)) h)
 intro S h
 exact key E (fun _ h=>h) S h
theorem Jqr {E:List (Str×Str)}{a:Str} : ∀ {n:Nat}{S:List Str},(∀ x∈S,RT E a x)→∀ x∈Jph E n S,RT E a x
 | 0,_,h=>h
 | n+1,_,h=>Jqr (n:=n) (Jyq h)
theorem Ji6 {E:List (Str×Str)}{N:List Str}(hE:∀ e∈E,e.2∈N):∀ {S:List Str},(∀ x∈S,x∈N)→∀ x∈Jk9 E S,x∈N:=by
 unfold Jk9
 induction E with
 | nil=>intro S h;exact h
 | cons e E ih=>
  intro S h
  refine ih (fun e he=>hE e (List.mem_cons_of_mem _ he)) ?_
  intro x hx
  unfold Jhc at hx
  split at hx
  ·split at hx
   ·exact h x hx
   ·rcases List.mem_append.1 hx with hx|hx
    ·exact h x hx
    ·rw [List.mem_singleton.1 hx];exact hE e (List.mem_cons_self ..)
  ·exact h x hx
theorem Jfw {N:List Str} : ∀ {S:List Str},S.Nodup→(∀ x∈S,x∈N)→S.length≤N.length:=by
 induction N with
 | nil=>
  intro S _ h
  cases S with
  | nil=>exact Nat.le_refl _
  | cons x S=>have:=h x (List.mem_cons_self ..);cases this
 | cons y N ih=>
  intro S hS h
  have:=ih (S:=S.filter (· != y)) (hS.sublist List.filter_sublist) (fun x hx=>by
   rw [List.mem_filter] at hx
   rcases List.mem_cons.1 (h x hx.1) with rfl|h'
   ·simp at hx
   ·exact h')
  have hc:S.length≤(S.filter (· != y)).length+1:=by
   clear this ih h
   induction S with
   | nil=>simp
   | cons x S ih=>
    rw [List.nodup_cons] at hS
    by_cases hx:x=y
    ·subst hx
     have hf:S.filter (· != x)=S:=List.filter_eq_self.2 fun z hz=>by simp;rintro rfl;exact hS.1 hz
     simp [hf]
    ·have hx':(x != y)=true:=by simpa using hx
     simp only [List.filter_cons,hx',if_true,List.length_cons]
     have:=ih hS.2
     omega
  simp only [List.length_cons];omega
theorem Jet {E:List (Str×Str)}{N:List Str}(hE:∀ e∈E,e.2∈N):∀ (n:Nat) {S:List Str},S.Nodup→(∀ x∈S,x∈N)→N.length≤n+S.length→∀ x y,(x,y)∈E→x∈Jph E n S→y∈Jph E n S
 | 0,S,hS,hN,hn,x,y,hxy,hx=>by
  have h1:=Jfw (Jh4 (E:=E) hS) (Ji6 hE hN)
  have h2:=Jj4 (E:=E) (S:=S)
  exact (Jg2 (E:=E) (S:=S) (by omega)).2 x y hxy hx
 | n+1,S,hS,hN,hn,x,y,hxy,hx=>by
  by_cases hst:(Jk9 E S).length=S.length
  ·obtain ⟨k1,k2⟩:=Jg2 hst
   have hall:∀ m,Jph E m S=S:=by
    intro m
    induction m with
    | zero=>rfl
    | succ m ih=>simp only [Jph,k1];exact ih
   rw [hall] at hx ⊢
   exact k2 x y hxy hx
  ·have h2:=Jj4 (E:=E) (S:=S)
   exact Jet hE n (Jh4 hS) (Ji6 hE hN) (by omega) x y hxy hx
theorem Jnv {E:List (Str×Str)}{N:List Str}{a:Str}(hE:∀ e∈E,e.2∈N) (ha:a∈N) {n:Nat}(hn:N.length≤n+1) (x:Str):x∈Jph E n [a]↔RT E a x:=by
 constructor
 ·exact Jqr (fun x hx=>by rw [List.mem_singleton.1 hx];exact .refl _) x
 ·intro h
  exact h.closed (Joc (by simp)) (Jet hE n (by simp) (fun x hx=>by rw [List.mem_singleton.1 hx];exact ha) (by simpa using hn))
def J82 (E:List (Str×Str)) (N:List Str) (a:Str):List Str:=N.filter (J2p (Jph E N.length [a]))
theorem Ja3 {E:List (Str×Str)}{N:List Str}{a:Str}(hE:∀ e∈E,e.2∈N) (ha:a∈N) (x:Str):x∈J82 E N a↔x∈N∧RT E a x:=by
 unfold J82
 rw [List.mem_filter,J3d,Jnv hE ha (by omega)]
theorem Jq3 {E:List (Str×Str)}{N:List Str}{a:Str}{M:List Str}(hE:∀ e∈E,e.2∈N) (ha:a∈N) (hM:∀ x,x∈M↔RT E a x):N.filter (J2p M)=J82 E N a:=by
 unfold J82
 refine List.filter_congr fun x _ => ?_
 rw [Bool.eq_iff_iff,J3d,J3d,hM,Jnv hE ha (by omega)]
def Juc (E:List (Str×Str)) (N:List Str) (a:Str):List Str:=(J82 E N a).filter fun g=>J2p (J82 E N g) a
theorem Js1 {E:List (Str×Str)}{N:List Str}{a:Str}(hE:∀ e∈E,e.2∈N) (ha:a∈N) (x:Str):x∈Juc E N a↔x∈N∧RT E a x∧RT E x a:=by
 unfold Juc
 rw [List.mem_filter,J3d,Ja3 hE ha]
 constructor
 ·rintro ⟨⟨h1,h2⟩,h3⟩
  exact ⟨h1,h2,((Ja3 hE h1 a).1 h3).2⟩
 ·rintro ⟨h1,h2,h3⟩
  exact ⟨⟨h1,h2⟩,(Ja3 hE h1 a).2 ⟨ha,h3⟩⟩
end Go.Proofs.YtoclolkigjbcgaaGreat
