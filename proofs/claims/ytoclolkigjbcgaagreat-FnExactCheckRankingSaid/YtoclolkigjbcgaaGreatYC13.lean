/- Contracts: names in order; the names of an argument. -/
import Derived.Test.YtoclolkigjbcgaaGreatYR44
import Derived.Test.YtoclolkigjbcgaaGreatYSh
import Derived.Test.YtoclolkigjbcgaaGreatYC11
import Derived.Test.YtoclolkigjbcgaaGreatYC1
namespace Go.Proofs.YtoclolkigjbcgaaGreat
set_option maxRecDepth 40000
set_option maxHeartbeats 4000000
open Go Go.RowKit Go.Proofs
set_option linter.all false
def a299:AFn:= ⟨10,[.t 2],(.seq (.reg [Zo 2 (.mv (.k (.nil 1)))]) (.seq (.reg [Zv 4 0,Zc 5 252 [.t 4],Zv 3 5]) (.seq (.reg [Zv 6 3,Zc 7 324 [.t 6]]) (.seq (.reg [Zv 8 3,Zc 9 325 [.t 8],Zv 2 9]) .ret))))⟩
theorem a299_ok:J09 Tryz.prog Tryz.f299=some a299:=by kernel_rfl
def a319:AFn:= ⟨63,[.t 2],(.seq (.reg [Zo 2 (.mv (.k (.nil 1)))]) (.seq (.reg [Zo 7 (.bsl 1 []),Zv 3 7]) (.seq (.seq (.reg [Zo 4 (.mv (.k (.int .i64 0)))]) (.blk 0 (.loop (.seq (.seq (.reg [Zv 8 4,Zv 9 0,Zo 10 (.len false (.t 9)),Zo 11 (.bin .lss (.t 8) (.t 10))]) (.cond (.t 11) .skip (.exit 0))) (.seq (.blk 1 (.seq (.reg [Zo 5 (.mv (.k (.int .i64 0)))]) (.seq (.blk 2 (.loop (.seq (.seq (.draw (.op (Zv 14 5) (.op (Zv 15 3) (.op (Zo 16 (.len false (.t 15))) (.op (Zo 17 (.bin .lss (.t 14) (.t 16))) (.op (Zv 18 17) (.op ⟨some 19,.mv (.t 3),(some (18,true))⟩ (.op ⟨some 20,.mv (.t 5),(some (18,true))⟩ (.op ⟨some 21,.ixa 1 (.t 19) (.t 20),(some (18,true))⟩ (.op ⟨some 22,.ld false 1 (.t 21),(some (18,true))⟩ (.op ⟨some 23,.mv (.t 0),(some (18,true))⟩ (.op ⟨some 24,.mv (.t 4),(some (18,true))⟩ (.op ⟨some 25,.ixa 1 (.t 23) (.t 24),(some (18,true))⟩ (.op ⟨some 26,.ld false 1 (.t 25),(some (18,true))⟩ (.op ⟨some 27,.bin .lss (.t 22) (.t 26),(some (18,true))⟩ (.op (Zo 28 (.pick (.t 18) (.t 27) (.k (.bool false)))) .fin)))))))))))))))) (.cond (.t 28) .skip (.exit 2))) (.blk 3 (.reg [Zv 29 5,Zo 30 (.bin .add (.t 29) (.k (.int .i64 1))),Zv 5 30]))))) (.seq (.seq (.draw (.op (Zv 31 5) (.op (Zv 32 3) (.op (Zo 33 (.len false (.t 32))) (.op (Zo 34 (.bin .lss (.t 31) (.t 33))) (.op (Zv 35 34) (.op ⟨some 36,.mv (.t 3),(some (35,true))⟩ (.op ⟨some 37,.mv (.t 5),(some (35,true))⟩ (.op ⟨some 38,.ixa 1 (.t 36) (.t 37),(some (35,true))⟩ (.op ⟨some 39,.ld false 1 (.t 38),(some (35,true))⟩ (.op ⟨some 40,.mv (.t 0),(some (35,true))⟩ (.op ⟨some 41,.mv (.t 4),(some (35,true))⟩ (.op ⟨some 42,.ixa 1 (.t 40) (.t 41),(some (35,true))⟩ (.op ⟨some 43,.ld false 1 (.t 42),(some (35,true))⟩ (.op ⟨some 44,.bin .eql (.t 39) (.t 43),(some (35,true))⟩ (.op (Zo 45 (.pick (.t 35) (.t 44) (.k (.bool false)))) .fin)))))))))))))))) (.cond (.t 45) (.exit 1) .skip)) (.seq (.reg [Zo 46 (.bsl 1 []),Zv 47 3,Zv 48 5,Zo 49 (.slc false 1 (.t 47) (some (.t 48)) Option.none),Zo 50 (.app 16 1 (.t 46) (.t 49)),Zv 6 50]) (.draw (.op (Zv 51 3) (.op (Zv 52 5) (.op (Zo 53 (.slc false 1 (.t 51) Option.none (some (.t 52)))) (.op (Zv 54 0) (.op (Zv 55 4) (.op (Zo 56 (.ixa 1 (.t 54) (.t 55))) (.op (Zl 57 false 1 56) (.op (Zv 60 6) (.hop (Zo 58 (.bsl 1 [.t 57])) [(.slc false 1 (.t 51) Option.none (some (.t 52)))] (.hop (Zo 59 (.app 16 1 (.t 53) (.t 58))) [] (.hop (Zo 61 (.app 16 1 (.t 59) (.t 60))) [] (.hop (Zv 3 61) [] .fin)))))))))))))))))) (.reg [Zv 12 4,Zo 13 (.bin .add (.t 12) (.k (.int .i64 1))),Zv 4 13])))))) (.seq (.reg [Zv 62 3,Zv 2 62]) .ret))))⟩
theorem a319_ok:J09 Tryz.prog Tryz.f319=some a319:=by kernel_rfl
theorem K0o {h:Heap}{n id:Nat}{l:List Str}{K:AV→Heap→Nat→Prop}(hB:h id=some ⟨false,1,J0b l⟩) (hK:K (.tup []) (upd h id (some ⟨false,1,J0b (Ja3 l)⟩)) n):J3u Tryz.prog 324 [.ref id 0 l.length] h n K:=by
 refine Jbo (l2:=Ja3 l) (r := .tup []) (by unfold J77;rw [Tryz.func324];rfl) hB (Jfm l) (fun s hs => .inl (Jjg.1 hs)) (.inl ⟨rfl,fun _ _ _=>trivial⟩) ?_ ?_ hK
 ·intro b cap w hH hb _ hlim
  unfold LIM at hlim
  refine (Tryz.slices_Sort_string b 0 cap l w hH hb (by omega)).mono ?_
  rintro e w' ⟨rfl,q,os,rfl⟩
  exact ⟨⟨_,rfl,fun _=>rfl,fun m h=>by cases h⟩,q,os,rfl⟩
 ·intro _ w
  refine (Tryz.slices_Sort_string_none Option.none 0 w).mono ?_
  rintro e w' ⟨rfl,rfl⟩
  exact ⟨⟨_,rfl,fun _=>rfl,fun m h=>by cases h⟩,rfl⟩
theorem Joi {h:Heap}{n id:Nat}{l:List Str}{K:AV→Heap→Nat→Prop}(hB:h id=some ⟨false,1,J0b l⟩)
 (hK:K (.ref id 0 (Go.Lib.compact l).length) (upd h id (some ⟨false,1,J0b (Go.Lib.compact l++List.replicate (l.length - (Go.Lib.compact l).length) [])⟩)) n):J3u Tryz.prog 325 [.ref id 0 l.length] h n K:=by
 have hl:=Jap l
 refine Jbo (l2:=Go.Lib.compact l++List.replicate (l.length - (Go.Lib.compact l).length) []) (r := .ref id 0 (Go.Lib.compact l).length) (by unfold J77;rw [Tryz.func325];rfl) hB (by simp;omega) ?_ (.inr ⟨_,hl,rfl⟩) ?_ ?_ hK
 ·intro s hs
  rcases List.mem_append.1 hs with hs|hs
  ·left
   unfold Go.Lib.compact Go.Lib.compactUpTo at hs
   obtain ⟨j,hj,rfl⟩:=List.mem_map.1 hs
   have hj:=List.mem_range.1 (List.mem_filter.1 hj).1
   simp [hj]
  ·right;exact (List.mem_replicate.1 hs).2
 ·intro b cap w hH hb hcap hlim
  unfold LIM at hlim
  refine (Tryz.slices_Compact_string b 0 cap l w hH (by omega) hcap).mono ?_
  rintro e w' ⟨rfl,q,rfl⟩
  exact ⟨⟨_,rfl,fun h=>by (cases h),fun m h=>by (cases h;rfl)⟩,q,#[],by unfold J82;rw [Go.Sort.grow_empty]⟩
 ·intro hl0 w
  subst hl0
  refine (Tryz.slices_Compact_string_empty Option.none 0 w).mono ?_
  rintro e w' ⟨rfl,rfl⟩
  exact ⟨⟨_,rfl,fun h=>by (cases h),fun m h=>rfl⟩,rfl⟩
theorem J4f (l:List Str) (hl:l.length≤1048576):Holds Tryz.prog 299 [.sl 1 (J0b l)] (fun r=>r = .us 1 (J0b (J4w l))):=by
 refine J03 Tryz.func299 a299_ok rfl (by simp [a299]) ?_
 simp [a299]
 first|refine J01 (J9v l hl) (by first|simp;done|rfl) ?_|refine J02 (J9v l hl) (by first|simp;done|rfl) ?_
 rintro r rfl
 simp
 refine K0o (l:=l) (by simp) ?_
 simp
 rw [←Jfm l]
 refine Joi (l:=Ja3 l) (by simp) ?_
 have h:=Jap (Ja3 l)
 have h2:List.take (Go.Lib.compact (Ja3 l)).length (J0b (Go.Lib.compact (Ja3 l)++List.replicate ((Ja3 l).length - (Go.Lib.compact (Ja3 l)).length) []))=J0b (J4w l):=by
  unfold J0b;rw [List.map_append,List.take_left' (by simp)];rfl
 simp [h2]
set_option maxHeartbeats 1000000 in
theorem J79 (l:List Str) (hl:l.length≤1048576):Holds Tryz.prog 319 [.sl 1 (J0b l)] (fun r=>r = .us 1 (J0b (J4w l))):=by
 refine J03 Tryz.func319 a319_ok rfl (by simp [a319]) ?_
 simp [a319]
 refine J0n [0] 4 l.length (fun i s h n=>∃ (acc:List Str) (id:Nat),s 3 = .ref id 0 acc.length∧h id=some ⟨false,1,J0b acc⟩∧id<n∧acc.length≤i∧SS acc∧∀ x,x∈acc↔x∈l.take i)
  (by unfold LIM;omega) (by simp) ⟨[],0,by simp,by simp [J0b],by simp,by simp,by simp [SS],by simp⟩ ?_ ?_
 ·rintro i s h n R hi hg hk s4 hw ⟨acc,id,s3,eid,hidn,hai,hS,hmem⟩ hR _ _
  simp at hk
  simp [hk,s4,hi,hg]
  intro _
  refine Jjb (fun m s' h' n'=>∃ k:Nat,m=acc.length - k∧k≤acc.length∧s' 0 = .sl 1 (J0b l)∧s' 4 = .int .i64 i∧s' 3 = .ref id 0 acc.length∧s' 5 = .int .i64 k∧(∀ j,∀ hj:j<acc.length,j<k→bl acc[j] l[i]=true)∧h'=h∧n'=n) acc.length
   ⟨0,by simp,Nat.zero_le _,by simp [hk],by simp [s4],by simp [s3],by simp,fun j _ hj=>absurd hj (Nat.not_lt_zero _),rfl,rfl⟩ ?_
  rintro m s' h' n' R' ⟨k,rfl,hka,s0',s4',s3',s5',hlt,rfl,rfl⟩ hR' _ hX'
  have rest:∀ s'':Env,s'' 0 = .sl 1 (J0b l)→s'' 4 = .int .i64 i→s'' 3 = .ref id 0 acc.length→s'' 5 = .int .i64 k→(∀ hk:k<acc.length,bl acc[k] l[i]=false)→R' (.exit 2) s'' h' n':=by
   intro s2 t0 t4 t3 t5 hge
   refine hX' _ _ _ _ ?_
   obtain ⟨hS',hm'⟩:=Jn8 hS hka hlt hge
   have hmem':∀ x,x∈Jft acc l[i] k↔x∈l.take (i+1):=fun x=>by
    rw [hm',hmem,List.take_succ_eq_append_getElem hi,List.mem_append,List.mem_singleton]
    exact Or.comm
   have hll:(Jft acc l[i] k).length≤i+1:=by
    unfold Jft;split
    ·omega
    ·simp;omega
   by_cases he:acc[k]? = some l[i]
   ·have hk1:k<acc.length:=(List.getElem?_eq_some_iff.1 he).1
    have hek:acc[k]=l[i]:=by rw [List.getElem?_eq_getElem hk1] at he;exact Option.some.inj he
    have hia:Jft acc l[i] k=acc:=by unfold Jft;rw [if_pos he]
    rw [hia] at hS' hmem' hll
    simp [t0,t4,t3,t5,eid,hk1,hi,hek,hw]
    exact hR _ _ _ (by simp [t0,hk]) (by simp) ⟨acc,id,by simp [t3],eid,hidn,by omega,hS',hmem'⟩
   ·have hia:Jft acc l[i] k=acc.take k++l[i]::acc.drop k:=by unfold Jft;rw [if_neg he]
    have n0:¬id=n':=by omega
    have n1:¬id=n'+1:=by omega
    have n2:¬id=n'+1+1:=by omega
    have n3:¬n'=id:=by omega
    have n4:¬n'+1=id:=by omega
    have n5:¬n'+1+1=id:=by omega
    have n6:¬n'+1+1+1=id:=by omega
    have n7:¬id=n'+1+1+1:=by omega
    have q1:k+(acc.length - k)=acc.length:=by omega
    have q2:acc.length≤1048576:=by omega
    have q3:min k acc.length=k:=Nat.min_eq_left hka
    by_cases hk1:k<acc.length
    ·have hek:¬acc[k]=l[i]:=fun e=>he (by rw [List.getElem?_eq_getElem hk1,e])
     simp [t0,t4,t3,t5,eid,hk1,hi,hek,hw,J4d,asI,n0,n1,n2,n3,n4,n5,n6,n7,q1,q3,hka]
     have hlim:(acc.length - k)*16≤LIM∧(k+1)*16≤LIM∧(k+1+(acc.length - k))*16≤LIM:=by unfold LIM;omega
     refine ⟨hlim.1,hlim.2.1,hlim.2.2,?_⟩
     have hln:(acc.take k++l[i]::acc.drop k).length=k+1+(acc.length - k):=by simp;omega
     refine hR _ _ _ (by simp [t0,hk]) (by simp) ⟨acc.take k++l[i]::acc.drop k,n'+4,?_,?_,by omega,by rw [←hia];exact hll,by rw [←hia];exact hS',by rw [←hia];exact hmem'⟩
     ·rw [hln];simp
     ·simp [J0b,List.take_of_length_le]
      rw [List.take_of_length_le (by simp;omega)]
      simp
    ·simp [t0,t4,t3,t5,eid,hk1,hi,hw,J4d,asI,n0,n1,n2,n3,n4,n5,n6,n7,q1,q3,hka]
     have hlim:(acc.length - k)*16≤LIM∧(k+1)*16≤LIM∧(k+1+(acc.length - k))*16≤LIM:=by unfold LIM;omega
     refine ⟨hlim.1,hlim.2.1,hlim.2.2,?_⟩
     have hln:(acc.take k++l[i]::acc.drop k).length=k+1+(acc.length - k):=by simp;omega
     refine hR _ _ _ (by simp [t0,hk]) (by simp) ⟨acc.take k++l[i]::acc.drop k,n'+4,?_,?_,by omega,by rw [←hia];exact hll,by rw [←hia];exact hS',by rw [←hia];exact hmem'⟩
     ·rw [hln];simp
     ·simp [J0b,List.take_of_length_le]
      rw [List.take_of_length_le (by simp;omega)]
      simp
  by_cases hk1:k<acc.length
  ·simp [s0',s4',s3',s5',eid,hk1,hi]
   refine ⟨fun hb => ?_,fun hb => ?_⟩
   ·refine hR' (acc.length - (k+1)) _ _ _ (by omega) ⟨k+1,rfl,by omega,by simp [s0'],by simp [s4'],by simp [s3'],by simp;exact J1h (by omega),fun j hj hjk => ?_,rfl,rfl⟩
    by_cases hjk':j<k
    ·exact hlt j hj hjk'
    ·have:j=k:=by omega
     subst this;exact hb
   ·exact rest _ (by simp [s0']) (by simp [s4']) (by simp [s3']) (by simp [s5']) fun _=>hb
  ·simp [s0',s4',s3',s5',eid,hk1,hi]
   exact rest _ (by simp [s0']) (by simp [s4']) (by simp [s3']) (by simp [s5']) fun h=>absurd h hk1
 ·rintro s h n R hk s4 ⟨acc,id,s3,eid,hidn,hai,hS,hmem⟩ hret hX
  simp at hk
  rw [List.take_of_length_le (Nat.le_refl _)] at hmem
  have:=Jp7 hS hmem
  subst this
  simp [hk,s4]
  intro _
  refine hX _ _ _ _ ?_
  simp [s3,eid]
def a239:AFn:= ⟨20,[.t 2],(.seq (.reg [Zo 1 (.boxv (.t 0)),Zo 2 (.mv (.k (.nil 1)))]) (.seq (.reg [Zo 3 (.mv (.k (.nil 1)))]) (.seq (.seq (.reg [Zf 6 1 1,Zl 7 false 1 6,Zo 8 (.len false (.t 7)),Zo 9 (.mv (.k (.int .i64 0)))]) (.blk 0 (.loop (.seq (.reg [Zo 10 (.bin .lss (.t 9) (.t 8))]) (.seq (.cond (.t 10) .skip (.exit 0)) (.seq (.blk 1 (.seq (.reg [Zo 11 (.ixa 2 (.t 7) (.t 9)),Zl 12 true 2 11,Zo 5 (.box [(.int .i64 0),(.str [])]),⟨no,.st 2 (.t 5) (.t 12),no⟩]) (.reg [Zv 13 3,Zf 14 1 5,Zl 15 false 1 14,Zo 16 (.bsl 1 [.t 15]),Zo 17 (.app 16 1 (.t 13) (.t 16)),Zv 3 17]))) (.reg [Zo 18 (.bin .add (.t 9) (.k (.int .i64 1))),Zv 9 18]))))))) (.seq (.reg [Zv 19 3,Zv 2 19]) .ret))))⟩
theorem a239_ok:J09 Tryz.prog Tryz.f239=some a239:=by kernel_rfl
def a243:AFn:= ⟨28,[.t 2],(.seq (.reg [Zo 1 (.boxv (.t 0)),Zo 2 (.mv (.k (.nil 1)))]) (.seq (.reg [Zo 3 (.mv (.k (.nil 1)))]) (.seq (.seq (.reg [Zf 6 1 1,Zl 7 false 1 6,Zo 8 (.len false (.t 7)),Zo 9 (.mv (.k (.int .i64 0)))]) (.blk 0 (.loop (.seq (.reg [Zo 10 (.bin .lss (.t 9) (.t 8))]) (.seq (.cond (.t 10) .skip (.exit 0)) (.seq (.blk 1 (.seq (.reg [Zo 11 (.ixa 2 (.t 7) (.t 9)),Zl 12 true 2 11,Zo 5 (.box [(.int .i64 0),(.nil 2)]),⟨no,.st 2 (.t 5) (.t 12),no⟩]) (.reg [Zv 13 3,Zl 14 true 2 5,Zc 15 239 [.t 14],Zo 16 (.app 16 1 (.t 13) (.t 15)),Zv 3 16]))) (.reg [Zo 17 (.bin .add (.t 9) (.k (.int .i64 1))),Zv 9 17]))))))) (.seq (.seq (.reg [Zf 18 2 1,Zl 19 false 1 18,Zo 20 (.bin .neq (.t 19) (.k (.str [])))]) (.cond (.t 20) (.reg [Zv 21 3,Zf 22 2 1,Zl 23 false 1 22,Zo 24 (.bsl 1 [.t 23]),Zo 25 (.app 16 1 (.t 21) (.t 24)),Zv 3 25]) .skip)) (.seq (.reg [Zv 26 3,Zc 27 299 [.t 26],Zv 2 27]) .ret)))))⟩
theorem a243_ok:J09 Tryz.prog Tryz.f243=some a243:=by kernel_rfl
def a288:AFn:= ⟨48,[.t 2],(.seq (.reg [Zo 1 (.boxv (.t 0)),Zo 2 (.mv (.k (.nil 1)))]) (.seq (.reg [Zo 6 (.bsl 1 []),Zv 3 6]) (.seq (.seq (.reg [Zo 4 (.mv (.k (.int .i64 0)))]) (.blk 0 (.loop (.seq (.seq (.reg [Zv 7 4,Zf 8 1 1,Zl 9 false 1 8,Zo 10 (.len false (.t 9)),Zo 11 (.bin .lss (.t 7) (.t 10))]) (.cond (.t 11) .skip (.exit 0))) (.seq (.blk 1 (.seq (.reg [Zo 5 (.mv (.k (.int .i64 0)))]) (.blk 2 (.loop (.seq (.seq (.reg [Zv 14 5,Zf 15 1 1,Zl 16 false 1 15,Zv 17 4,Zo 18 (.ixa 2 (.t 16) (.t 17)),Zf 19 1 18,Zl 20 false 1 19,Zo 21 (.len false (.t 20)),Zo 22 (.bin .lss (.t 14) (.t 21))]) (.cond (.t 22) .skip (.exit 2))) (.seq (.blk 3 (.reg [Zv 25 3,Zf 26 1 1,Zl 27 false 1 26,Zv 28 4,Zo 29 (.ixa 2 (.t 27) (.t 28)),Zf 30 1 29,Zl 31 false 1 30,Zv 32 5,Zo 33 (.ixa 2 (.t 31) (.t 32)),Zf 34 1 33,Zl 35 false 1 34,Zo 36 (.bsl 1 [.t 35]),Zo 37 (.app 16 1 (.t 25) (.t 36)),Zv 3 37])) (.reg [Zv 23 5,Zo 24 (.bin .add (.t 23) (.k (.int .i64 1))),Zv 5 24]))))))) (.reg [Zv 12 4,Zo 13 (.bin .add (.t 12) (.k (.int .i64 1))),Zv 4 13])))))) (.seq (.seq (.reg [Zf 38 2 1,Zl 39 false 1 38,Zo 40 (.bin .neq (.t 39) (.k (.str [])))]) (.cond (.t 40) (.reg [Zv 41 3,Zf 42 2 1,Zl 43 false 1 42,Zo 44 (.bsl 1 [.t 43]),Zo 45 (.app 16 1 (.t 41) (.t 44)),Zv 3 45]) .skip)) (.seq (.reg [Zv 46 3,Zc 47 319 [.t 46],Zv 2 47]) .ret)))))⟩
theorem a288_ok:J09 Tryz.prog Tryz.f288=some a288:=by kernel_rfl
def J6n (s:DSum):List Str:=s.Terms.map (·.Name)
def Ja2:List DSum→List Str
 | []=>[]
 | s::l=>J6n s++Ja2 l
def J6x (a:DArg):List Str:=Ja2 a.Heads++if a.Base=[] then [] else [a.Base]
theorem Jbv:∀ l:List DSum,(Ja2 l).length≤wL Jc8 l
 | []=>Nat.zero_le _
 | s::l=>by
  have h1:=Jbv l
  have h2:=J2c J7k s.Terms
  unfold wL at h1 ⊢
  simp only [Ja2,J6n,List.length_append,List.length_map,List.length_cons,List.map_cons,List.sum_cons]
  rw [show Jc8 s=wL J7k s.Terms from rfl]
  omega
theorem Jei (a:DArg) (hw:Jb1 a≤1048576):(J6x a).length≤1048576:=by
 have h1:=Jbv a.Heads
 unfold Jb1 J6i at hw
 unfold J6x
 rw [List.length_append]
 split
 ·simp;omega
 ·rename_i hb
  have:0<a.Base.length:=List.length_pos_iff.2 hb
  simp;omega
theorem J57 (x:DSum) (hw:x.Terms.length≤1048576):Holds Tryz.prog 239 [.agg (J1k x)] (fun r=>r = .us 1 (J0b (J6n x))):=by
 refine J03 Tryz.func239 a239_ok rfl (by simp [a239]) ?_
 simp [a239,J1k]
 intro _
 refine J0n [7,8] 9 x.Terms.length (fun i s h n=>(i=0∧s 3 = .nil 1)∨∃ id,id<n∧s 3 = .ref id 0 i∧h id=some ⟨false,1,(J0b (J6n x)).take i⟩) (by unfold LIM;omega) (by simp) (by simp) ?_ ?_
 ·rintro i s h n R hi hg hk s9 hw9 hJ hR _ _
  simp at hk
  have htk:(J0b (J6n x)).take (i+1)=(J0b (J6n x)).take i++[[.str (x.Terms[i]).Name]]:=by
   rw [List.take_succ_eq_append_getElem (by simpa [J6n] using hi)];simp [J0b,J6n]
  rcases hJ with ⟨rfl,s3⟩|⟨id,hid,s3,eid⟩
  ·simp [hk,s9,hi,hw9,s3,J16]
   refine ⟨by unfold LIM;omega,?_⟩
   exact hR _ _ _ (by simp [hk]) (by simp;exact J1h (by omega)) (.inr ⟨n+2,by omega,by simp,by simp [htk]⟩)
  ·have n0:¬id=n:=by omega
   have n1:¬id=n+1:=by omega
   have n3:¬n+1=id:=by omega
   have n4:¬n=id:=by omega
   simp [hk,s9,hi,hw9,s3,J16,eid,n0,n1,n3,n4]
   refine ⟨by simp [J6n];omega,by unfold LIM;omega,?_⟩
   exact hR _ _ _ (by simp [hk]) (by simp) (.inr ⟨n+2,by omega,by simp,by simp [htk,List.take_take]⟩)
 ·rintro s h n R hk s9 hJ hret hX
  simp at hk
  simp [hk,s9]
  refine hX _ _ _ _ ?_
  rcases hJ with ⟨h0,s3⟩|⟨id,hid,s3,eid⟩
  ·have:x.Terms=[]:=List.eq_nil_of_length_eq_zero h0
   simp [s3,J6n,this,J0b]
  ·have hl:(J6n x).length=x.Terms.length:=by simp [J6n]
   have ht:List.take x.Terms.length (J0b (J6n x))=J0b (J6n x):=List.take_of_length_le (by simp [hl])
   simp [s3,eid,hl,ht]
set_option maxHeartbeats 1000000 in
theorem J7p (a:DArg) (hw:Jb1 a≤1048576):Holds Tryz.prog 243 [.agg (J13 a)] (fun r=>r = .us 1 (J0b (J4w (J6x a)))):=by
 have hw':=hw
 unfold Jb1 J6i at hw'
 have hsl:=Jbv a.Heads
 have hll:=J2c Jc8 a.Heads
 refine J03 Tryz.func243 a243_ok rfl (by simp [a243]) ?_
 simp [a243,J13]
 intro _
 generalize hT:Ja2 a.Heads=T at *
 have hTl:T.length≤1048576:=by omega
 refine J0n [1,7,8] 9 a.Heads.length (fun i s h n=>h 0=some ⟨true,3,[[.bool a.Lst,.sl 2 (a.Heads.map J1k),.str a.Base]]⟩∧0<n∧∃ acc:List Str,acc++Ja2 (a.Heads.drop i)=T∧((acc=[]∧s 3 = .nil 1)∨∃ id,0<id∧id<n∧s 3 = .ref id 0 acc.length∧h id=some ⟨false,1,J0b acc⟩))
  (by unfold LIM;omega) (by simp) ⟨by simp,by simp,[],by simpa using hT,.inl ⟨rfl,by simp⟩⟩ ?_ ?_
 ·rintro i s h n R hi hg hk s9 hw9 ⟨e0,hn,acc,hJ,hJ2⟩ hR _ _
  simp at hk
  rw [List.drop_eq_getElem_cons hi] at hJ
  simp only [Ja2] at hJ
  have hal:=congrArg List.length hJ
  simp only [List.length_append] at hal
  have hwt:(a.Heads[i]).Terms.length≤1048576:=by
   have:=J3p (w:=Jc8) (List.getElem_mem hi)
   rw [show Jc8 a.Heads[i]=wL J7k (a.Heads[i]).Terms from rfl] at this
   have:=J2c J7k (a.Heads[i]).Terms
   omega
  have z0:¬0=n:=by omega
  have z1:¬0=n+1:=by omega
  have z2:¬0=n+1+1:=by omega
  have z3:¬n=0:=by omega
  rcases hJ2 with ⟨rfl,s3⟩|⟨id,hid0,hid,s3,eid⟩
  ·simp [hk,s9,hi,hw9,s3,J1k]
   first|refine J01 (J57 (a.Heads[i]'hi) hwt) (by first|simp [J1k];done|rfl) ?_|refine J02 (J57 (a.Heads[i]'hi) hwt) (by first|simp [J1k];done|rfl) ?_
   rintro r rfl
   simp [hk,s9,hi,hw9,s3]
   refine ⟨by unfold LIM;omega,?_⟩
   exact hR _ _ _ (by simp [hk]) (by simp) ⟨by simp [e0,z0,z1,z2,z3],by omega,J6n a.Heads[i],by simpa using hJ,.inr ⟨n+2,by omega,by omega,by simp,by simp⟩⟩
  ·have n0:¬id=n:=by omega
   have n1:¬id=n+1:=by omega
   have n2:¬id=n+1+1:=by omega
   have n3:¬n+1=id:=by omega
   have n4:¬n=id:=by omega
   have n5:¬0=id:=by omega
   have n6:¬id=0:=by omega
   simp [hk,s9,hi,hw9,s3,J1k,eid,n0]
   first|refine J01 (J57 (a.Heads[i]'hi) hwt) (by first|simp [J1k];done|rfl) ?_|refine J02 (J57 (a.Heads[i]'hi) hwt) (by first|simp [J1k];done|rfl) ?_
   rintro r rfl
   simp [hk,s9,hi,hw9,s3,eid,n0,n1,n2,n3,n4,n5,n6]
   refine ⟨by unfold LIM;omega,?_⟩
   exact hR _ _ _ (by simp [hk]) (by simp) ⟨by simp [e0,z0,z1,z2,z3,n5],by omega,acc++J6n a.Heads[i],by rw [List.append_assoc];exact hJ,.inr ⟨n+2,by omega,by omega,by simp,by simp [J0b]⟩⟩
 ·rintro s h n R hk s9 ⟨e0,hn,acc,hJ,hJ2⟩ hret hX
  simp at hk
  rw [List.drop_eq_nil_of_le (by omega)] at hJ
  simp only [Ja2,List.append_nil] at hJ
  subst hJ
  simp [hk,s9]
  refine hX _ _ _ _ ?_
  have hA:J6x a=acc++if a.Base=[] then [] else [a.Base]:=by unfold J6x;rw [hT]
  have hAl:(J6x a).length≤1048576:=Jei a hw
  rw [hA] at hAl ⊢
  clear hX hret
  by_cases hb:a.Base=[]
  ·simp only [hb,if_true,List.append_nil] at hAl ⊢
   rcases hJ2 with ⟨rfl,s3⟩|⟨id,hid0,hid,s3,eid⟩
   ·simp [hk,e0,hb,s3]
    first|refine J01 (J4f [] hAl) (by first|simp [J0b];done|rfl) ?_|refine J02 (J4f [] hAl) (by first|simp [J0b];done|rfl) ?_
    rintro r rfl
    simp
   ·simp [hk,e0,hb,s3]
    first|refine J01 (J4f acc hAl) (by first|simp [eid];done|rfl) ?_|refine J02 (J4f acc hAl) (by first|simp [eid];done|rfl) ?_
    rintro r rfl
    simp
  ·simp only [hb,if_false] at hAl ⊢
   have hlim:(acc.length+1)*16≤LIM:=by simp at hAl;unfold LIM;omega
   rcases hJ2 with ⟨rfl,s3⟩|⟨id,hid0,hid,s3,eid⟩
   ·have z0:¬0=n:=by omega
    simp [hk,e0,hb,s3]
    refine ⟨by unfold LIM;omega,?_⟩
    first|refine J01 (J4f ([]++[a.Base]) hAl) (by first|simp [J0b];done|rfl) ?_|refine J02 (J4f ([]++[a.Base]) hAl) (by first|simp [J0b];done|rfl) ?_
    rintro r rfl
    simp
   ·have n0:¬id=n:=by omega
    have n3:¬n=id:=by omega
    simp [hk,e0,hb,s3,eid,n0,n3]
    refine ⟨hlim,?_⟩
    have ht:List.take (acc.length+1) (J0b acc++[[AV.str a.Base]])=J0b (acc++[a.Base]):=by rw [List.take_of_length_le (by simp)];simp [J0b]
    first|refine J01 (J4f (acc++[a.Base]) hAl) (by first|simp [ht];done|rfl) ?_|refine J02 (J4f (acc++[a.Base]) hAl) (by first|simp [ht];done|rfl) ?_
    rintro r rfl
    simp
set_option maxHeartbeats 1000000 in
theorem Jgi (a:DArg) (hw:Jb1 a≤1048576):Holds Tryz.prog 288 [.agg (J13 a)] (fun r=>r = .us 1 (J0b (J4w (J6x a)))):=by
 have hw':=hw
 unfold Jb1 J6i at hw'
 have hsl:=Jbv a.Heads
 have hll:=J2c Jc8 a.Heads
 refine J03 Tryz.func288 a288_ok rfl (by simp [a288]) ?_
 simp [a288,J13]
 generalize hT:Ja2 a.Heads=T at *
 have hTl:T.length≤1048576:=by omega
 refine J0n [1] 4 a.Heads.length (fun i s h n=>h 0=some ⟨true,3,[[.bool a.Lst,.sl 2 (a.Heads.map J1k),.str a.Base]]⟩∧0<n∧∃ (acc:List Str) (id:Nat),acc++Ja2 (a.Heads.drop i)=T∧0<id∧id<n∧s 3 = .ref id 0 acc.length∧h id=some ⟨false,1,J0b acc⟩)
  (by unfold LIM;omega) (by simp) ⟨by simp,by simp,[],1,by simpa using hT,by omega,by omega,by simp,by simp [J0b]⟩ ?_ ?_
 ·rintro i s h n R hi hg hk s4 hw4 ⟨e0,hn,acc,id,hJ,hid0,hid,s3,eid⟩ hR _ _
  simp at hk
  rw [List.drop_eq_getElem_cons hi] at hJ
  simp only [Ja2] at hJ
  have hwt:(a.Heads[i]).Terms.length≤1048576:=by
   have:=J3p (w:=Jc8) (List.getElem_mem hi)
   rw [show Jc8 a.Heads[i]=wL J7k (a.Heads[i]).Terms from rfl] at this
   have:=J2c J7k (a.Heads[i]).Terms
   omega
  simp [hk,s4,hi,hg,e0]
  intro _
  refine J0n [1,4] 5 (a.Heads[i]).Terms.length (fun j s h n=>h 0=some ⟨true,3,[[.bool a.Lst,.sl 2 (a.Heads.map J1k),.str a.Base]]⟩∧0<n∧∃ (acc:List Str) (id:Nat),acc++((J6n a.Heads[i]).drop j++Ja2 (a.Heads.drop (i+1)))=T∧0<id∧id<n∧s 3 = .ref id 0 acc.length∧h id=some ⟨false,1,J0b acc⟩)
   (by unfold LIM;omega) (by simp) ⟨by simp [e0],hn,acc,id,by simpa using hJ,hid0,hid,by simp [s3],by simp [eid]⟩ ?_ ?_
  ·rintro j s2 h2 n2 R2 hj hgj hk2 s5 hw5 ⟨e02,hn2,acc2,id2,hJ2,hid02,hid2,s32,eid2⟩ hR2 _ _
   simp at hk2
   rw [List.drop_eq_getElem_cons (by simpa [J6n] using hj)] at hJ2
   have hal:=congrArg List.length hJ2
   simp at hal
   have n0:¬id2=n2:=by omega
   have n1:¬id2=n2+1:=by omega
   have n3:¬n2+1=id2:=by omega
   have n4:¬n2=id2:=by omega
   have n5:¬0=id2:=by omega
   have n6:¬id2=0:=by omega
   have z0:¬0=n2:=by omega
   have z1:¬0=n2+1:=by omega
   have z3:¬n2=0:=by omega
   simp [hk2,hk,s4,s5,hj,hgj,hw5,hi,e02,J1k,J16,s32,eid2,n0,n1,n3,n4,n5,n6,z0,z1,z3]
   intro _
   refine ⟨by unfold LIM;omega,?_⟩
   refine hR2 _ _ _ (by simp [hk2,hk,s4]) (by simp) ⟨by simp [e02,n5,z0,z1,z3],by omega,acc2++[(a.Heads[i]).Terms[j].Name],n2+1,?_,by omega,by omega,by simp,by simp [J0b]⟩
   rw [←hJ2]
   simp [J6n]
  ·rintro s2 h2 n2 R2 hk2 s5 ⟨e02,hn2,acc2,id2,hJ2,hid02,hid2,s32,eid2⟩ hret2 hX2
   simp at hk2
   rw [List.drop_eq_nil_of_le (by simp [J6n]),List.nil_append] at hJ2
   simp [hk2,hk,s4,s5,hi,e02,J1k]
   intro _
   refine hX2 _ _ _ _ ?_
   simp [hk2,hk,s4,hw4]
   exact hR _ _ _ (by simp [hk2,hk]) (by simp) ⟨e02,hn2,acc2,id2,hJ2,hid02,hid2,by simp [s32],eid2⟩
 ·rintro s h n R hk s4 ⟨e0,hn,acc,id,hJ,hid0,hid,s3,eid⟩ hret hX
  simp at hk
  rw [List.drop_eq_nil_of_le (by omega)] at hJ
  simp only [Ja2,List.append_nil] at hJ
  subst hJ
  simp [hk,s4,e0]
  intro _
  refine hX _ _ _ _ ?_
  have hA:J6x a=acc++if a.Base=[] then [] else [a.Base]:=by unfold J6x;rw [hT]
  have hAl:(J6x a).length≤1048576:=Jei a hw
  rw [hA] at hAl ⊢
  clear hX hret
  by_cases hb:a.Base=[]
  ·simp only [hb,if_true,List.append_nil] at hAl ⊢
   simp [hk,e0,hb,s3]
   first|refine J01 (J79 acc hAl) (by first|simp [eid];done|rfl) ?_|refine J02 (J79 acc hAl) (by first|simp [eid];done|rfl) ?_
   rintro r rfl
   simp
  ·simp only [hb,if_false] at hAl ⊢
   have hlim:(acc.length+1)*16≤LIM:=by simp at hAl;unfold LIM;omega
   have n0:¬id=n:=by omega
   have n3:¬n=id:=by omega
   simp [hk,e0,hb,s3,eid,n0,n3]
   refine ⟨hlim,?_⟩
   have ht:List.take (acc.length+1) (J0b acc++[[AV.str a.Base]])=J0b (acc++[a.Base]):=by rw [List.take_of_length_le (by simp)];simp [J0b]
   first|refine J01 (J79 (acc++[a.Base]) hAl) (by first|simp [ht];done|rfl) ?_|refine J02 (J79 (acc++[a.Base]) hAl) (by first|simp [ht];done|rfl) ?_
   rintro r rfl
   simp
theorem K24 {s:Env}{k:Nat}{v:AV} : J5q s (some k) v k=v:=by simp
theorem K09 {s:Env}{k j:Nat}{v:AV}(hj:¬j=k):J5q s (some k) v j=s j:=by simp [hj]
theorem K67 {α:Type}{f:Nat→α}{k:Nat}{v:α} : upd f k v k=v:=by simp
theorem Jkf {α:Type}{f:Nat→α}{k j:Nat}{v:α}(hj:¬j=k):upd f k v j=f j:=by simp [hj]
attribute [simp ↓ high] K24 K09 K67 Jkf
def Jyp (raw:Bool) (o:Option AV):Option AV:=if raw then o else o.map dr
@[simp ↓ high] theorem K9q (o:Option AV):Jyp true o=o:=by unfold Jyp;rw [if_pos (by simp)]
@[simp ↓ high] theorem Kad (o:Option AV):Jyp false o=o.map dr:=by unfold Jyp;rw [if_neg (by simp)]
def Jz1 (raw b:Bool) (l:List AV):Option AV:=if b then some (.agg (if raw then l else drl l)) else Option.none
@[simp ↓ high] theorem Kb0 (l:List AV):Jz1 true true l=some (.agg l):=by unfold Jz1;rw [if_pos (by simp),if_pos (by simp)]
@[simp ↓ high] theorem K9z (l:List AV):Jz1 false true l=some (.agg (drl l)):=by unfold Jz1;rw [if_pos (by simp),if_neg (by simp)]
@[simp ↓ high] theorem ldv_1 (raw:Bool) (row:List AV) (c:Nat):ldv raw false row c 1=Jyp raw (row[c]?):=by
 unfold ldv Jyp
 by_cases h:c<row.length
 ·rw [if_pos (by omega),if_neg (by simp),if_pos rfl,List.getElem?_eq_getElem h];cases raw <;> simp
 ·rw [if_neg (by omega),List.getElem?_eq_none (by omega)];cases raw <;> rfl
@[simp ↓ high] theorem ldv_G (raw:Bool) (row:List AV) (c sz:Nat):ldv raw true row c sz=Jz1 raw (decide (c+sz≤row.length)) ((row.drop c).take sz):=by
 unfold ldv Jz1
 by_cases h:c+sz≤row.length
 ·simp [h]
 ·simp [h]
def K5r (P:Program) (ks:List Kt) (Q:Fin) (keep:List Nat) (J:Env→Prop) (s0:Env) (h0:Heap) (n0:Nat):Fin:=fun e s h n=>match e with
 | .normal=>(∀ j∈keep,s j=s0 j)∧J s∧h=h0∧n=n0
 | e=>J2f P ks e s h n Q
section
variable {P:Program}{a b:AC}{ks:List Kt}{s:Env}{h:Heap}{n:Nat}{Q:Fin}
@[simp ↓] theorem Jwg {keep:List Nat}{J:Env→Prop}{s0 s':Env}{h0 h':Heap}{n0 n':Nat} : K5r P ks Q keep J s0 h0 n0 .normal s' h' n'=((∀ j∈keep,s' j=s0 j)∧J s'∧h'=h0∧n'=n0):=propext Iff.rfl
@[simp ↓] theorem K4l {keep:List Nat}{J:Env→Prop}{s0 s':Env}{h0 h':Heap}{n0 n':Nat} : K5r P ks Q keep J s0 h0 n0 .ret s' h' n'=J2f P ks .ret s' h' n' Q:=propext Iff.rfl
@[simp ↓] theorem K2f {keep:List Nat}{J:Env→Prop}{s0 s':Env}{h0 h':Heap}{n0 n' i:Nat} : K5r P ks Q keep J s0 h0 n0 (.exit i) s' h' n'=J2f P ks (.exit i) s' h' n' Q:=propext Iff.rfl
theorem J0i (keep:List Nat) (J:Env→Prop) (h1:rC P a [] s h n (K5r P (.seq b::ks) Q keep J s h n)) (h2:∀ s',(∀ j∈keep,s' j=s j)→J s'→rC P b ks s' h n Q):rC P (.seq a b) ks s h n Q:=by
 rw [Jje]
 unfold rC at h1 ⊢
 refine Jdk h1 ?_
 intro e s' h' n' hq
 cases e
 ·obtain ⟨g1,g2,rfl,rfl⟩:=hq
  exact h2 s' g1 g2
 ·exact hq
 ·exact hq
def K3d (P:Program) (ks:List Kt) (Q:Fin) (keep:List Nat) (J:Env→Heap→Nat→Prop) (s0:Env):Fin:=fun e s h n=>match e with
 | .normal=>(∀ j∈keep,s j=s0 j)∧J s h n
 | e=>J2f P ks e s h n Q
@[simp ↓] theorem Jvc {keep:List Nat}{J:Env→Heap→Nat→Prop}{s0 s':Env}{h':Heap}{n':Nat} : K3d P ks Q keep J s0 .normal s' h' n'=((∀ j∈keep,s' j=s0 j)∧J s' h' n'):=propext Iff.rfl
@[simp ↓] theorem K5s {keep:List Nat}{J:Env→Heap→Nat→Prop}{s0 s':Env}{h':Heap}{n':Nat} : K3d P ks Q keep J s0 .ret s' h' n'=J2f P ks .ret s' h' n' Q:=propext Iff.rfl
@[simp ↓] theorem K1i {keep:List Nat}{J:Env→Heap→Nat→Prop}{s0 s':Env}{h':Heap}{n' i:Nat} : K3d P ks Q keep J s0 (.exit i) s' h' n'=J2f P ks (.exit i) s' h' n' Q:=propext Iff.rfl
theorem J1e (keep:List Nat) (J:Env→Heap→Nat→Prop) (h1:rC P a [] s h n (K3d P (.seq b::ks) Q keep J s)) (h2:∀ s' h' n',(∀ j∈keep,s' j=s j)→J s' h' n'→rC P b ks s' h' n' Q):rC P (.seq a b) ks s h n Q:=by
 rw [Jje]
 unfold rC at h1 ⊢
 refine Jdk h1 ?_
 intro e s' h' n' hq
 cases e
 ·exact h2 s' h' n' hq.1 hq.2
 ·exact hq
 ·exact hq
theorem J3e {c:Nat}{e:AC}(hc:s c = .bool true) (h1:rC P b ks s h n Q):rC P (.seq (.cond (.t c) .skip e) b) ks s h n Q:=by
 rw [Jje,Jaq]
 have:ev s (.t c) = .bool true:=hc
 rw [this]
 simpa using h1
theorem J32 {c id:Nat}(hc:s c = .bool false) (h1:J2f P ks (.exit id) s h n Q):rC P (.seq (.cond (.t c) .skip (.exit id)) b) ks s h n Q:=by
 rw [Jje,Jaq]
 have:ev s (.t c) = .bool false:=hc
 rw [this]
 simpa using h1
theorem J1y {c:Nat}{e:AC}{ks:List Kt}(hc:s c = .bool true) (h1:J2f P ks .normal s h n Q):rC P (.cond (.t c) .skip e) ks s h n Q:=by
 rw [Jaq]
 have:ev s (.t c) = .bool true:=hc
 rw [this]
 simpa using h1
theorem J22 {c id:Nat}{ks:List Kt}(hc:s c = .bool false) (h1:J2f P ks (.exit id) s h n Q):rC P (.cond (.t c) .skip (.exit id)) ks s h n Q:=by
 rw [Jaq]
 have:ev s (.t c) = .bool false:=hc
 rw [this]
 simpa using h1
theorem J17 {id:Nat}(h1:rC P a (.blk id::ks) s h n Q):rC P (.blk id a) ks s h n Q:=by rw [K27];exact h1
theorem J0c (h1:rC P a (.seq b::ks) s h n Q):rC P (.seq a b) ks s h n Q:=by rw [Jje];exact h1
end
def Jhc (c:UInt8):Bool:=decide ((97:Int)≤c.toNat)&&decide ((c.toNat:Int)≤122)
def Jlh (c:UInt8):Bool:=decide ((48:Int)≤c.toNat)&&decide ((c.toNat:Int)≤57)
def J45:Nat→Str→Bool
 | _,[]=>true
 | i,c::l=>(Jhc c||(decide (i≠0)&&Jlh c))&&J45 (i+1) l
def J2l (l:List Str) (s:Str):Bool:=l.any fun x=>x==s
def Jfg:List Str:=[[102,117,110],[112,114,101],[114,117,108,101],[114,101,116,117,114,110],[110,105,108]]
def Jns (s:Str):Bool:=J2l Jfg s
def J3l (s:Str):Bool:=inR s.length 1 8 && !Jns s&&J45 0 s
def J0p (s:Str):Bool:=J3l s&&s.getD (s.length - 1) 0==115
def J2h (s:Str):Bool:=J3l s && !J0p s
def Jnt (n:Int):Bool:=inR n (-1000000) 1000000
theorem Jg9 {s:Str}(h:J3l s=true):1≤s.length∧s.length≤8:=by
 unfold J3l inR at h;simp at h;omega
def J6h:Option Str→List DTerm→Bool
 | _,[]=>true
 | pr,t::l=>(!(t.Coeff==0)&&Jnt t.Coeff&&J2h t.Name&&(match pr with|Option.none=>true|some q=>Op.bytesLess q t.Name))&&J6h (some t.Name) l
def J8v (s:DSum):Bool:=Jnt s.Const&&decide (s.Terms.length≤4)&&J6h Option.none s.Terms
def Jax (a:DArg):Bool:=a.Heads.all J8v&&(if a.Lst then decide (a.Heads.length≤3)&&(a.Base==[]||J0p a.Base) else decide (a.Heads.length=1)&&a.Base==[])
def Jnq (l:List Str) (scope:List Str):Bool:=l.all (J2l scope)
def J69 (a:DArg) (list:Bool) (scope:List Str):Bool:=Jax a&&(a.Lst==list)&&Jnq (J4w (J6x a)) scope
def J42 (scope:List Str) (g:DSum):Bool:=J8v g&&Jnq (J6n g) scope
def J3q (met:List Str):List Str→Bool
 | []=>true
 | s::l => !J2l met s&&J3q (met++[s]) l
def J7y (l:List Str):Bool:=J3q [] l
def Jup (params:List Str) (q:DPattern):Bool:=J2l params q.Lst&&J0p q.Lst&&(if q.Cons then J2h q.Head&&J0p q.Tail else q.Head==[]&&q.Tail==[])
def J3r (params:List Str) (met:List Str):List DPattern→Bool
 | []=>true
 | q::l=>(Jup params q && !J2l met q.Lst)&&J3r params (met++[q.Lst]) l
def J7v (scope:List Str):List DArg→List Str→Bool
 | a::l,s::m=>J69 a (J0p s) scope&&J7v scope l m
 | _,_=>true
def J90 (p:DProgram) (c:DCall) (scope:List Str):Bool:=
 (J18 p.Functions c.Func).isSome&&decide (c.Args.length=((J18 p.Functions c.Func).getD fn0).Params.length)&&(if ((J18 p.Functions c.Func).getD fn0).ListResult then J0p c.Bind else J2h c.Bind) &&
  J7v scope c.Args ((J18 p.Functions c.Func).getD fn0).Params
def J2g (p:DProgram) (r:DRule):Nat→List DCall→Bool
 | _,[]=>true
 | k,c::l=>J90 p c (J1n p r k)&&J2g p r (k+1) l
def J7d (p:DProgram) (r:DRule):Bool:=
 (J18 p.Functions r.Func).isSome&&J3r ((J18 p.Functions r.Func).getD fn0).Params [] r.Patterns&&decide (r.Guards.length≤2)&&r.Guards.all (J42 (J1n p r 0))&&decide (r.Calls.length≤2) &&
  J2g p r 0 r.Calls&&J69 r.Result ((J18 p.Functions r.Func).getD fn0).ListResult (J1n p r r.Calls.length)&&J7y (J1n p r r.Calls.length)
def Jlb (f:DFunction):Bool:=J2h f.Name&&decide (f.Params.length≤2)&&(f.Params.all J3l&&J7y f.Params)&&decide (f.Pre.length≤2)&&f.Pre.all fun l=>J1g l f.Params.length
def J8g (met:List Str):List DFunction→Bool
 | []=>true
 | f::l=>(Jlb f && !J2l met f.Name)&&J8g (met++[f.Name]) l
def J2e (p:DProgram):Bool:=inR p.Functions.length 1 3&&J8g [] p.Functions&&decide (p.Rules.length≤8)&&p.Rules.all (J7d p)
theorem J9o:∀ (l:List DFunction) (met:List Str),J8g met l=(l.all Jlb&&J3q met (l.map (·.Name)))
 | [],met=>rfl
 | f::l,met=>by
  simp only [J8g,J9o l,List.all_cons,List.map_cons,J3q]
  cases Jlb f <;> cases J2l met f.Name <;> simp
theorem Jy4 {α:Type}{p:α→Bool}{l m:List α}(h:∀ x,x∈l↔x∈m):l.all p=m.all p:=by
 rw [Bool.eq_iff_iff,List.all_eq_true,List.all_eq_true]
 exact ⟨fun g x hx=>g x ((h x).2 hx),fun g x hx=>g x ((h x).1 hx)⟩
theorem Jed (l scope:List Str):Jnq (J4w l) scope=Jnq l scope:=Jy4 (Jay l).2
theorem Jk8 (s:DSum):J6x ⟨false,[s],[]⟩=J6n s:=by simp [J6x,Ja2]
theorem Jlc (s:DSum):Jax ⟨false,[s],[]⟩=J8v s:=by simp [Jax]
def J6s (l scope:List Str):List Str:=l.filter fun s => !J2l scope s
theorem Jiw (l scope:List Str):decide ((J6s l scope).length=0)=Jnq l scope:=by
 unfold J6s Jnq
 induction l with
 | nil=>rfl
 | cons x l ih=>
  simp only [List.filter_cons,List.all_cons]
  cases hx:J2l scope x
  ·simp
  ·simp only [Bool.not_true,Bool.false_eq_true,if_false,Bool.true_and];exact ih
theorem Jpy {l:List DFunction}{i:Nat}(hi:i<l.length):decide (J0v (fun f=>f.Name==(l[i]).Name) l 0=(i:Int)) = !J2l ((l.take i).map (·.Name)) (l[i]).Name:=by
 have key:∀ (l:List DFunction) (i k:Nat) (hi:i<l.length) (nm:Str),(l[i]).Name=nm→(J0v (fun f=>f.Name==nm) l k=((k+i:Nat):Int)↔J2l ((l.take i).map (·.Name)) nm=false):=by
  intro l
  induction l with
  | nil=>intro i k hi;simp at hi
  | cons f l ih=>
   intro i k hi nm hnm
   cases i with
   | zero=>
    simp only [List.getElem_cons_zero] at hnm
    simp [J0v,hnm,J2l]
   | succ i=>
    simp only [List.getElem_cons_succ] at hnm
    simp only [J0v,List.take_succ_cons,List.map_cons,J2l,List.any_cons]
    by_cases hf:f.Name==nm
    ·simp [hf];omega
    ·have:=ih i (k+1) (by simpa using hi) nm hnm
     simp only [J2l] at this
     simp only [hf,Bool.false_eq_true,if_false,Bool.false_or]
     rw [←this]
     constructor <;> intro h <;> rw [h] <;> congr 1 <;> omega
 have:=key l i 0 hi _ rfl
 rw [Nat.zero_add] at this
 cases hb:J2l ((l.take i).map (·.Name)) (l[i]).Name
 ·simp [this.2 hb]
 ·simp only [Bool.not_true,decide_eq_false_iff_not]
  intro h
  rw [this.1 h] at hb;cases hb
abbrev SEnv:=List (Str×DLin)
def J2z (d:DLin) (E:SEnv) (x:Str):DLin:=((E.find? fun e=>e.1==x).map (·.2)).getD d
def Jmb:SEnv→Str→DLin→SEnv
 | [],x,l=>[(x,l)]
 | e::E,x,l=>if e.1=x then (x,l)::E else e::Jmb E x l
def J2w (i n:Int):DLin:=if inR n 0 8&&inR i 0 (n - 1) then ⟨0,(List.replicate n.toNat 0).set i.toNat 1⟩ else J0y
def J83 (a:DLin) (k:Int) (b:DLin):DLin:=(J0g a k b).getD J0y
def K9e:DSum:=⟨0,[]⟩
structure MS where
 E:SEnv
 nx:Nat
 rows:List DLin
 pars:List DLin
 args:List (List DLin)
def Jge (E:SEnv) (n:Nat) (s:DSum):DLin:=s.Terms.foldl (fun o t=>J83 o t.Coeff (J2z J0y E t.Name)) (J06 s.Const n)
def Jgn (E:SEnv) (n:Nat) (a:DArg):DLin:=
 if a.Lst then (if a.Base=[] then J06 a.Heads.length n else J83 (J06 a.Heads.length n) 1 (J2z J0y E a.Base)) else Jge E n (a.Heads.getD 0 K9e)
def Jb8 (n:Nat) (st:MS) (x:Str):MS:=
 ⟨Jmb st.E x (J2w st.nx n),st.nx+1,st.rows++(if J0p x then [J2w st.nx n] else []),st.pars++[J2w st.nx n],st.args⟩
def K1h (ps:List DLin) (n:Nat):List DLin→Option (List DLin)
 | []=>some []
 | l::ls=>match J0w l ps n with
  | Option.none=>Option.none
  | some x=>(K1h ps n ls).map (x :: ·)
def Jyd (n:Nat) (st:MS) (q:DPattern):SEnv:=Jmb st.E q.Head (J2w st.nx n)
def Jmw (n:Nat) (st:MS) (q:DPattern):DLin:=(J6o (J2z J0y (Jyd n st q) q.Lst) (-1)).getD J0y
def Jcd (n:Nat) (st:MS) (q:DPattern):MS:=
 if q.Cons then ⟨Jmb (Jyd n st q) q.Tail (Jmw n st q),st.nx+1,st.rows++[Jmw n st q],st.pars,st.args⟩
 else ⟨st.E,st.nx,st.rows++[J83 (J06 0 n) (-1) (J2z J0y st.E q.Lst)],st.pars,st.args⟩
def Jfs (p:DProgram) (n:Nat) (st:MS) (c:DCall):MS:=
 ⟨Jmb st.E c.Bind (J2w st.nx n),st.nx+1,st.rows++(if ((J18 p.Functions c.Func).getD fn0).ListResult then [J2w st.nx n] else []),st.pars,st.args++[c.Args.map (Jgn st.E n)]⟩
def J3j (l:List DPattern):Nat:=(l.filter (·.Cons)).length
def J19 (r:DRule) (f:DFunction):Nat:=f.Params.length+r.Calls.length+J3j r.Patterns
def st1 (r:DRule) (f:DFunction):MS:=f.Params.foldl (Jb8 (J19 r f)) ⟨[],0,[],[],[]⟩
def st3 (r:DRule) (f:DFunction) (pre:List DLin):MS:=
 r.Patterns.foldl (Jcd (J19 r f)) ⟨(st1 r f).E,(st1 r f).nx,(st1 r f).rows++pre,(st1 r f).pars,(st1 r f).args⟩
def J0x (s:MS) (l:List DLin):MS:=⟨s.E,s.nx,s.rows++l,s.pars,s.args⟩
def st5 (p:DProgram) (r:DRule) (f:DFunction) (pre:List DLin):MS:=
 r.Calls.foldl (Jfs p (J19 r f)) (J0x (st3 r f pre) (r.Guards.map (Jge (st3 r f pre).E (J19 r f))))
def Jzy (n:Nat) (s:MS) (res:DLin):DModel:=⟨⟨n,s.rows⟩,s.pars,s.args,res⟩
def Jlu (p:DProgram) (r:DRule) (f:DFunction):Option DModel:=
 match K1h (st1 r f).pars (J19 r f) f.Pre with
 | Option.none=>Option.none
 | some pre=>some (Jzy (J19 r f) (st5 p r f pre) (Jgn (st5 p r f pre).E (J19 r f) r.Result))
def goS (E:SEnv) (n:Nat):List DTerm→DLin→Option DLin
 | [],o=>some o
 | t::ts,o=>match J0g o t.Coeff (J2z (J06 0 n) E t.Name) with
  | Option.none=>Option.none
  | some o'=>goS E n ts o'
def Jtw (E:SEnv) (n:Nat) (s:DSum):Option DLin:=goS E n s.Terms (J06 s.Const n)
def Juy (E:SEnv) (n:Nat) (a:DArg):Option DLin:=
 if a.Lst then (if a.Base=[] then some (J06 a.Heads.length n) else J0g (J06 a.Heads.length n) 1 (J2z (J06 0 n) E a.Base)) else Jtw E n (a.Heads.getD 0 K9e)
def Jga (E:SEnv) (n:Nat) (a:DArg):DLin:=(Juy E n a).getD J0y
def Jdt (E:SEnv) (n:Nat) (s:DSum):DLin:=(Jtw E n s).getD J0y
def J4t (l:DLin) (k:Int):DLin:=⟨IntKind.i64.wrap (l.Const - k),l.Coeffs⟩
def J44 (n:Nat) (l:DLin):DLin:=⟨l.Const,l.Coeffs++List.replicate (n - l.Coeffs.length) 0⟩
def Jd9 (n:Nat):List Str→Nat→List DLin
 | [],_=>[]
 | x::xs,i=>(if J0p x then [J2w i n] else [])++Jd9 n xs (i+1)
def Jdv (f:DFunction) (n:Nat):List DLin:=Jd9 n f.Params 0++f.Pre.map (J44 n)
def J9b (n:Nat) (st:MS) (x:Str):MS:=⟨st.E++[(x,J2w st.nx n)],st.nx+1,st.rows,st.pars++[J2w st.nx n],st.args⟩
def Jjr (n:Nat) (st:MS) (q:DPattern):DLin:=J4t (J2z (J06 0 n) st.E q.Lst) 1
def J5p (n:Nat) (st:MS) (q:DPattern):MS:=
 if q.Cons then ⟨st.E++[(q.Head,J2w st.nx n),(q.Tail,Jjr n st q)],st.nx+1,st.rows++[Jjr n st q],st.pars,st.args⟩
 else ⟨st.E,st.nx,st.rows++[J83 (J06 0 n) (-1) (J2z (J06 0 n) st.E q.Lst)],st.pars,st.args⟩
def J5v (n:Nat) (st:MS) (c:DCall):MS:=
 ⟨st.E++[(c.Bind,J2w st.nx n)],st.nx+1,st.rows++(if J0p c.Bind then [J2w st.nx n] else []),st.pars,st.args++[c.Args.map (Jga st.E n)]⟩
def ss1 (r:DRule) (f:DFunction):MS:=f.Params.foldl (J9b (J19 r f)) ⟨[],0,Jdv f (J19 r f),[],[]⟩
def Jc7 (s:MS) (k:Nat):MS:=⟨s.E,k,s.rows,s.pars,s.args⟩
def ss3 (r:DRule) (f:DFunction):MS:=r.Patterns.foldl (J5p (J19 r f)) (Jc7 (ss1 r f) f.Params.length)
def ss5 (r:DRule) (f:DFunction):MS:=
 r.Calls.foldl (J5v (J19 r f)) (J0x (Jc7 (ss3 r f) (f.Params.length+J3j r.Patterns)) (r.Guards.map (Jdt (ss3 r f).E (J19 r f))))
def J5t (r:DRule) (f:DFunction):DModel:=Jzy (J19 r f) (ss5 r f) (Jga (ss5 r f).E (J19 r f) r.Result)
def J1c (E:SEnv):List Str:=E.map (·.1)
theorem Jb7 {x:Str}{l:DLin} : ∀ {E:SEnv},x∉J1c E→Jmb E x l=E++[(x,l)]
 | [],_=>rfl
 | e::E,h=>by
  simp only [J1c,List.map_cons,List.mem_cons,not_or] at h
  simp only [Jmb,List.cons_append]
  rw [if_neg (fun g=>h.1 g.symm),Jb7 (E:=E) h.2]
theorem Jti {E:SEnv}{x:Str}(h:x∈J1c E):∃ l,E.find? (fun e=>e.1==x)=some (x,l)∧(x,l)∈E:=by
 obtain ⟨e,he,rfl⟩:=List.mem_map.1 h
 have:(E.find? fun e'=>e'.1==e.1).isSome=true:=by rw [List.find?_isSome];exact ⟨e,he,by simp⟩
 obtain ⟨⟨y,l⟩,hy⟩:=Option.isSome_iff_exists.1 this
 have h1:=List.find?_some hy
 have h2:=List.mem_of_find?_eq_some hy
 simp only [beq_iff_eq] at h1
 subst h1
 exact ⟨l,hy,h2⟩
theorem Jf6 {E:SEnv}{x:Str}(d:DLin) (h:x∈J1c E):∃ l,(x,l)∈E∧∀ d F,J2z d (E++F) x=l:=by
 obtain ⟨l,h1,h2⟩:=Jti h
 exact ⟨l,h2,fun d F=>by unfold J2z;rw [List.find?_append,h1];rfl⟩
theorem Jm0 {E:SEnv}{x:Str}(d d':DLin) (h:x∈J1c E):J2z d E x=J2z d' E x:=by
 obtain ⟨l,_,h2⟩:=Jf6 d h
 rw [←List.append_nil E,h2,h2]
def Jma (n:Nat) (E:SEnv):Prop:=∀ e∈E,e.2.Coeffs.length=n∧n≠0
theorem Jma.get {n:Nat}{E:SEnv}{x:Str}(H:Jma n E) (d:DLin) (h:x∈J1c E):(J2z d E x).Coeffs.length=n:=by
 obtain ⟨l,h1,h2⟩:=Jf6 d h
 have:=h2 d []
 rw [List.append_nil] at this
 rw [this];exact (H _ h1).1
theorem Jfi {i n:Nat}(hn:n≤8) (hi:i<n):J2w i n=⟨0,(List.replicate n 0).set i 1⟩:=by
 unfold J2w
 rw [if_pos (by simp [inR];omega)];simp
theorem J9z {i n:Nat}(hn:n≤8) (hi:i<n):(J2w i n).Coeffs.length=n:=by rw [Jfi hn hi];simp
theorem Jsm {c:Int}{b:DLin}(h:b.Coeffs.length≠0):J83 J0y c b=J0y:=by
 unfold J83 J0g
 have:J1g b (J0y.Coeffs.length:Nat)=false:=by
  rw [Bool.eq_false_iff]
  intro g
  have:=J27 g
  simp [J0y] at this
  exact h (by simp [this])
 rw [this];simp
theorem Jlm {n:Nat}{E:SEnv}(H:Jma n E):∀ {ts:List DTerm},(∀ t∈ts,t.Name∈J1c E)→(ts≠[]→n≠0)→ts.foldl (fun o t=>J83 o t.Coeff (J2z J0y E t.Name)) J0y=J0y
 | [],_,_=>rfl
 | t::ts,h,hn=>by
  simp only [List.foldl_cons]
  rw [Jsm (by rw [H.get J0y (h t List.mem_cons_self)];exact hn (by simp))]
  exact Jlm H (fun u hu=>h u (List.mem_cons_of_mem _ hu)) (fun _=>hn (by simp))
theorem Jm6 {n:Nat}{E:SEnv}(H:Jma n E):∀ {ts:List DTerm}{o:DLin},(∀ t∈ts,t.Name∈J1c E)→(ts≠[]→n≠0)→ts.foldl (fun o t=>J83 o t.Coeff (J2z J0y E t.Name)) o=(goS E n ts o).getD J0y
 | [],_,_,_=>rfl
 | t::ts,o,h,hn=>by
  have h':∀ u∈ts,u.Name∈J1c E:=fun u hu=>h u (List.mem_cons_of_mem _ hu)
  have hn':ts≠[]→n≠0:=fun _=>hn (by simp)
  simp only [List.foldl_cons,goS]
  rw [Jm0 J0y (J06 0 n) (h t List.mem_cons_self)]
  cases ha:J0g o t.Coeff (J2z (J06 0 n) E t.Name) with
  | none=>
   have:J83 o t.Coeff (J2z (J06 0 n) E t.Name)=J0y:=by unfold J83;rw [ha];rfl
   rw [this]
   exact Jlm H h' hn'
  | some o'=>
   have:J83 o t.Coeff (J2z (J06 0 n) E t.Name)=o':=by unfold J83;rw [ha];rfl
   rw [this]
   exact Jm6 H h' hn'
theorem Jma.ne {n:Nat}{E:SEnv}(H:Jma n E) (h:E≠[]):n≠0:=by
 obtain ⟨e,l,rfl⟩:=List.exists_cons_of_ne_nil h
 exact (H e List.mem_cons_self).2
theorem Jus {n:Nat}{E:SEnv}(H:Jma n E) {s:DSum}(h:∀ t∈s.Terms,t.Name∈J1c E):Jge E n s=Jdt E n s:=by
 unfold Jge Jdt Jtw
 refine Jm6 H h fun ht=>H.ne ?_
 rintro rfl
 obtain ⟨t,ts,he⟩:=List.exists_cons_of_ne_nil ht
 have:=h t (by rw [he];exact List.mem_cons_self)
 simp [J1c] at this
def K7z (E:SEnv) (a:DArg):Prop:=(∀ s∈a.Heads,∀ t∈s.Terms,t.Name∈J1c E)∧(a.Base≠[]→a.Base∈J1c E)
theorem Juu {n:Nat}{E:SEnv}(H:Jma n E) {a:DArg}(h:K7z E a):Jgn E n a=Jga E n a:=by
 unfold Jgn Jga Juy
 cases a.Lst
 ·simp only [Bool.false_eq_true,if_false]
  refine Jus H ?_
  intro t ht
  cases hh:a.Heads with
  | nil=>rw [hh] at ht;simp [K9e] at ht
  | cons s l=>rw [hh] at ht;simp at ht;exact h.1 s (by rw [hh];exact List.mem_cons_self) t ht
 ·simp only [if_true]
  by_cases hb:a.Base=[]
  ·rw [if_pos hb,if_pos hb];rfl
  ·rw [if_neg hb,if_neg hb,Jm0 J0y (J06 0 n) (h.2 hb)];rfl
theorem Jjc {x k:Int}(hx:okC x=true) (hk:okC k=true):J23 x k 0=some x:=by
 have h0:okC 0=true:=by decide
 unfold J23 Jcg Jdr
 simp [hx,hk,h0]
theorem Jqp {k:Int}(hk:okC k=true):J23 0 k 1=some k:=by
 have h0:okC 0=true:=by decide
 have h1:okC 1=true:=by decide
 unfold J23 Jcg Jdr
 simp [hk,h0,h1]
theorem Jkq {xs:List Int}{c k:Int}{i n:Nat}(hn:n≤8) (hi:i<n) (hx:xs.length=n) (hok:xs.all okC=true) (hc:okC c=true) (hk:okC k=true) (h0:xs[i]? = some 0) :
 J0g ⟨c,xs⟩ k (J2w i n)=some ⟨c,xs.set i k⟩:=by
 have hz0:okC 0=true:=by decide
 have hz1:okC 1=true:=by decide
 have hv:J1g (J2w i n) (xs.length:Nat)=true:=by
  rw [Jfi hn hi]
  unfold J1g
  simp only [Bool.and_eq_true,decide_eq_true_eq,List.all_eq_true]
  refine ⟨⟨⟨by simp [inR];omega,by simp [hx]⟩,hz0⟩,?_⟩
  intro y hy
  rcases List.mem_or_eq_of_mem_set hy with hy|rfl
  ·rw [(List.mem_replicate.1 hy).2];exact hz0
  ·exact hz1
 have ho:J1g ⟨c,xs⟩ (xs.length:Nat)=true:=by
  unfold J1g
  simp only [Bool.and_eq_true,decide_eq_true_eq]
  exact ⟨⟨⟨by simp [inR];omega,by simp⟩,hc⟩,hok⟩
 have hZ:J4l ⟨c,xs⟩ k (J2w i n)=(xs.set i k).map some:=by
  rw [Jfi hn hi]
  unfold J4l
  refine List.ext_getElem (by simp [hx]) fun j h1 h2 => ?_
  have hj:j<xs.length:=by simp at h2;exact h2
  simp only [List.getElem_zipWith,List.getElem_map]
  by_cases he:i=j
  ·subst he
   have:xs[i]=0:=by rw [List.getElem?_eq_getElem hj] at h0;exact Option.some.inj h0
   simp [this,Jqp hk]
  ·rw [List.getElem_set_ne he,List.getElem_set_ne he,List.getElem_replicate]
   exact Jjc (List.all_eq_true.1 hok _ (List.getElem_mem hj)) hk
 have hcc:J23 c k (J2w i n).Const=some c:=by rw [Jfi hn hi];exact Jjc hc hk
 unfold J0g Ja5
 simp only [hv,ho,hk,hcc,hZ,Bool.and_self,Bool.true_and,Option.isSome_some]
 have hA:((xs.set i k).map some).all Option.isSome=true:=by rw [List.all_eq_true];intro x hx;obtain ⟨y,_,rfl⟩:=List.mem_map.1 hx;rfl
 rw [if_pos hA]
 simp [List.map_map,Function.comp_def]
theorem Jpb {n:Nat} : (List.replicate n (0:Int)).all okC=true:=by
 rw [List.all_eq_true];intro x hx;rw [(List.mem_replicate.1 hx).2];decide
theorem Jq2 {l:DLin}{n:Int}(h:J1g l n=true):∀ x∈l.Coeffs,okC x=true:=by
 unfold J1g at h;simp only [Bool.and_eq_true,List.all_eq_true] at h;exact h.2
theorem Jjf {l:DLin}{m n:Nat}(hm:m≤2) (hmn:m≤n) (hn:n≤8) (hl:J1g l m=true):J0w l ((List.range m).map fun i:Nat=>J2w i n) n=some (J44 n l):=by
 have hc:=Jif hl
 have hlen:l.Coeffs.length=m:=by have:=(J27 hl).1;omega
 have hall:=Jq2 hl
 obtain ⟨c0,h1⟩:=J6z (n:=n) hc (by omega)
 unfold J0w
 match m,hm,hlen with
 | 0,_,hlen=>
  have he:l.Coeffs=[]:=List.eq_nil_of_length_eq_zero hlen
  have hl':J1g l 0=true:=hl
  rw [if_neg (by simp),if_pos (by rw [hl'];simp [inR];omega),c0]
  simp [J44,he]
 | 1,_,hlen=>
  obtain ⟨a,ha⟩:=List.length_eq_one_iff.1 hlen
  have hl':J1g l 1=true:=hl
  have hka:=hall a (by rw [ha];simp)
  have hz0:(List.replicate n (0:Int))[0]? = some 0:=by rw [List.getElem?_replicate,if_pos (by omega)]
  rw [if_pos (by simp)]
  unfold J40
  have hN:Ji2 ((List.range 1).map fun i:Nat=>J2w i n)=n:=by simp [Ji2,List.range_succ];exact J9z (i:=0) hn (by omega)
  rw [hN,h1,c0]
  simp only [List.length_map,List.length_range]
  rw [if_pos (by simp [hl']),ha]
  simp only [List.range_succ,List.range_zero,List.nil_append,List.map_cons,List.map_nil,List.zip_cons_cons,List.zip_nil_right,J5s]
  rw [Jkq (i:=0) hn (by omega) (by simp) Jpb hc hka hz0]
  simp only [J44,ha]
  obtain ⟨k,rfl⟩:∃ k,n=k+1:=⟨n - 1,by omega⟩
  simp [List.replicate_succ]
 | 2,_,hlen=>
  obtain ⟨a,b,hab⟩:∃ a b,l.Coeffs=[a,b]:=by
   match hh:l.Coeffs,hlen with
   | [a,b],_=>exact ⟨a,b,rfl⟩
  have hl':J1g l 2=true:=hl
  have hka:=hall a (by rw [hab];simp)
  have hkb:=hall b (by rw [hab];simp)
  have hz0:(List.replicate n (0:Int))[0]? = some 0:=by rw [List.getElem?_replicate,if_pos (by omega)]
  rw [if_pos (by simp)]
  unfold J40
  have hN:Ji2 ((List.range 2).map fun i:Nat=>J2w i n)=n:=by simp [Ji2,List.range_succ];exact J9z (i:=0) hn (by omega)
  rw [hN,h1,c0]
  simp only [List.length_map,List.length_range]
  rw [if_pos (by simp [hl']),hab]
  simp only [List.range_succ,List.range_zero,List.nil_append,List.map_cons,List.map_nil,List.zip_cons_cons,List.zip_nil_right,List.cons_append,J5s]
  rw [Jkq (i:=0) hn (by omega) (by simp) Jpb hc hka hz0]
  obtain ⟨k,rfl⟩:∃ k,n=k+2:=⟨n - 2,by omega⟩
  simp only
  rw [Jkq (i:=1) hn (by omega) (by simp) (by
   rw [List.all_eq_true];intro x hx
   rcases List.mem_or_eq_of_mem_set hx with hx|rfl
   ·rw [(List.mem_replicate.1 hx).2];decide
   ·exact hka) hc hkb (by simp [List.replicate_succ])]
  simp [J44,hab,List.replicate_succ]
theorem Jk3 {ps:List DLin}{n:Nat} : ∀ {ls:List DLin},(∀ l∈ls,J0w l ps n=some (J44 n l))→K1h ps n ls=some (ls.map (J44 n))
 | [],_=>rfl
 | l::ls,h=>by
  simp only [K1h]
  rw [h l List.mem_cons_self,Jk3 fun x hx=>h x (List.mem_cons_of_mem _ hx)];rfl
def a203:AFn:= ⟨24,[(.c 4 true 2)],(.seq (.reg [Zo 4 (.box [(.int .i64 0),(.nil 1)])]) (.seq (.seq (.reg [Zv 6 1,Zc 7 102 [.t 6,(.k (.int .i64 0)),(.k (.int .i64 8))],Zo 8 (.un .not (.t 7)),Zv 9 8,⟨some 10,.mv (.t 0),(some (9,false))⟩,⟨some 11,.mv (.t 1),(some (9,false))⟩,⟨some 12,.bin .sub (.t 11) (.k (.int .i64 1)),(some (9,false))⟩,⟨some 13,.call (.k (.fn (.func 102) [] [])) [.t 10,(.k (.int .i64 0)),.t 12],(some (9,false))⟩,⟨some 14,.un .not (.t 13),(some (9,false))⟩,Zo 15 (.pick (.t 9) (.k (.bool true)) (.t 14))]) (.cond (.t 15) (.seq (.reg [Zo 16 (.build [(.int .i64 0),(.nil 1)] []),⟨no,.st 2 (.t 4) (.t 16),no⟩]) .ret) .skip)) (.seq (.reg [Zv 17 1,Zc 18 178 [(.k (.int .i64 0)),.t 17],Zo 5 (.box [(.int .i64 0),(.nil 1)]),⟨no,.st 2 (.t 5) (.t 18),no⟩]) (.seq (.reg [Zf 19 1 5,Zl 20 false 1 19,Zv 21 0,Zo 22 (.ixa 1 (.t 20) (.t 21)),⟨no,.st 1 (.t 22) (.k (.int .i64 1)),no⟩]) (.seq (.reg [Zl 23 true 2 5,⟨no,.st 2 (.t 4) (.t 23),no⟩]) .ret)))))⟩
theorem a203_ok:J09 Tryz.prog Tryz.f203=some a203:=by kernel_rfl
def a261:AFn:= ⟨25,[(.c 4 true 2)],(.seq (.reg [Zo 4 (.box [(.int .i64 0),(.nil 1)])]) (.seq (.seq (.reg [Zv 6 1,Zc 7 183 [.t 6,(.k (.int .i64 0)),(.k (.int .i64 8))],Zo 8 (.un .not (.t 7)),Zv 9 8,⟨some 10,.mv (.t 0),(some (9,false))⟩,⟨some 11,.mv (.t 1),(some (9,false))⟩,⟨some 12,.bin .sub (.t 11) (.k (.int .i64 1)),(some (9,false))⟩,⟨some 13,.call (.k (.fn (.func 183) [] [])) [.t 10,(.k (.int .i64 0)),.t 12],(some (9,false))⟩,⟨some 14,.un .not (.t 13),(some (9,false))⟩,Zo 15 (.pick (.t 9) (.k (.bool true)) (.t 14))]) (.cond (.t 15) (.seq (.reg [Zo 16 (.build [(.int .i64 0),(.nil 1)] []),⟨no,.st 2 (.t 4) (.t 16),no⟩]) .ret) .skip)) (.seq (.reg [Zv 17 1,Zo 18 (.mks 8 [(.int .i64 0)] (.t 17) (.t 17)),Zo 19 (.build [(.int .i64 0),(.nil 1)] [(1,(1,(.t 18)))]),Zo 5 (.box [(.int .i64 0),(.nil 1)]),⟨no,.st 2 (.t 5) (.t 19),no⟩]) (.seq (.reg [Zf 20 1 5,Zl 21 false 1 20,Zv 22 0,Zo 23 (.ixa 1 (.t 21) (.t 22)),⟨no,.st 1 (.t 23) (.k (.int .i64 1)),no⟩]) (.seq (.reg [Zl 24 true 2 5,⟨no,.st 2 (.t 4) (.t 24),no⟩]) .ret)))))⟩
theorem a261_ok:J09 Tryz.prog Tryz.f261=some a261:=by kernel_rfl
def a306:AFn:= ⟨14,[(.c 4 true 2)],(.seq (.reg [Zo 2 (.boxv (.t 0)),Zo 4 (.box [(.int .i64 0),(.nil 1)])]) (.seq (.reg [Zl 6 true 2 2,Zc 7 82 [.t 6],Zo 5 (.box [(.int .i64 0),(.nil 1)]),⟨no,.st 2 (.t 5) (.t 7),no⟩]) (.seq (.reg [Zf 8 0 5,Zl 9 false 1 8,Zv 10 1,Zo 11 (.bin .sub (.t 9) (.t 10)),Zf 12 0 5,⟨no,.st 1 (.t 12) (.t 11),no⟩]) (.seq (.reg [Zl 13 true 2 5,⟨no,.st 2 (.t 4) (.t 13),no⟩]) .ret))))⟩
theorem a306_ok:J09 Tryz.prog Tryz.f306=some a306:=by kernel_rfl
def a262:AFn:= ⟨29,[(.c 4 true 2)],(.seq (.reg [Zo 2 (.boxv (.t 0)),Zo 4 (.box [(.int .i64 0),(.nil 1)])]) (.seq (.draw (.op (Zf 7 0 2) (.op (Zl 8 false 1 7) (.op (Zv 9 1) (.both (.op (Zo 10 (.mks 8 [(.int .i64 0)] (.t 9) (.t 9))) (.op (Zo 11 (.build [(.int .i64 0),(.nil 1)] [(0,(1,(.t 8))),(1,(1,(.t 10)))])) (.op (Zo 5 (.box [(.int .i64 0),(.nil 1)])) (.hop ⟨no,.st 2 (.t 5) (.t 11),no⟩ [] .fin)))) (.op (Zo 5 (.box [(.int .i64 0),(.nil 1)])) (.op (Zo 10 (.mks 8 [(.int .i64 0)] (.t 9) (.t 9))) (.op (Zo 11 (.build [(.int .i64 0),(.nil 1)] [(0,(1,(.t 8))),(1,(1,(.t 10)))])) (.hop ⟨no,.st 2 (.t 5) (.t 11),no⟩ [] .fin))))))))) (.seq (.seq (.reg [Zo 6 (.mv (.k (.int .i64 0)))]) (.blk 0 (.loop (.seq (.seq (.reg [Zv 12 6,Zf 13 1 2,Zl 14 false 1 13,Zo 15 (.len false (.t 14)),Zo 16 (.bin .lss (.t 12) (.t 15))]) (.cond (.t 16) .skip (.exit 0))) (.seq (.blk 1 (.draw (.op (Zf 19 1 5) (.op (Zl 20 false 1 19) (.op (Zv 21 6) (.op (Zf 22 1 2) (.op (Zl 23 false 1 22) (.op (Zv 24 6) (.op (Zo 25 (.ixa 1 (.t 23) (.t 24))) (.op (Zl 26 false 1 25) (.op (Zo 27 (.ixa 1 (.t 20) (.t 21))) (.hop ⟨no,.st 1 (.t 27) (.t 26),no⟩ [] .fin)))))))))))) (.reg [Zv 17 6,Zo 18 (.bin .add (.t 17) (.k (.int .i64 1))),Zv 6 18])))))) (.seq (.reg [Zl 28 true 2 5,⟨no,.st 2 (.t 4) (.t 28),no⟩]) .ret))))⟩
theorem a262_ok:J09 Tryz.prog Tryz.f262=some a262:=by kernel_rfl
theorem Jme (i n:Int):Holds Tryz.prog 203 [i64 i,i64 n] (fun r=>r = .agg (J07 (J2w i n))):=by
 refine J03 Tryz.func203 a203_ok rfl (by simp [a203]) ?_
 simp [a203]
 first|refine J01 (J1v n 0 8) (by first|simp;done|rfl) ?_|refine J02 (J1v n 0 8) (by first|simp;done|rfl) ?_
 rintro r rfl
 unfold J2w
 cases h1:inR n 0 8
 ·simp [J07,J0l,J0y]
 have hn:0≤n∧n≤8:=by simpa [inR] using h1
 have hw:IntKind.i64.wrap (n - 1)=n - 1:=J1h (by omega)
 simp [hw]
 first|refine J01 (J1v i 0 (n - 1)) (by first|simp;done|rfl) ?_|refine J02 (J1v i 0 (n - 1)) (by first|simp;done|rfl) ?_
 rintro r rfl
 cases h2:inR i 0 (n - 1)
 ·simp [J07,J0l,J0y]
 have hi:0≤i∧i≤n - 1:=by simpa [inR] using h2
 obtain ⟨m,rfl⟩:∃ m:Nat,n=m:=⟨n.toNat,by omega⟩
 obtain ⟨j,rfl⟩:∃ j:Nat,i=j:=⟨i.toNat,by omega⟩
 have hj:j<m:=by omega
 have hc:J06 0 m=⟨0,List.replicate m 0⟩:=(J6z (by decide) (by omega)).1
 simp
 first|refine J01 (J1w 0 m) (by first|simp;done|rfl) ?_|refine J02 (J1w 0 m) (by first|simp;done|rfl) ?_
 rintro r rfl
 simp [hc,J07,hj]
 have e:(List.replicate m [AV.int .i64 0]).set j [AV.int .i64 1]=J0l ((List.replicate m 0).set j 1):=by rw [←Jf2,Jjd]
 rw [e,List.take_of_length_le (by simp)]
 simp
theorem J71 (i n:Int):Holds Tryz.prog 261 [i64 i,i64 n] (fun r=>r = .agg (J07 (J2w i n))):=by
 refine J03 Tryz.func261 a261_ok rfl (by simp [a261]) ?_
 simp [a261]
 first|refine J01 (J3y n 0 8) (by first|simp;done|rfl) ?_|refine J02 (J3y n 0 8) (by first|simp;done|rfl) ?_
 rintro r rfl
 unfold J2w
 cases h1:inR n 0 8
 ·simp [J07,J0l,J0y]
 have hn:0≤n∧n≤8:=by simpa [inR] using h1
 have hw:IntKind.i64.wrap (n - 1)=n - 1:=J1h (by omega)
 simp [hw]
 first|refine J01 (J3y i 0 (n - 1)) (by first|simp;done|rfl) ?_|refine J02 (J3y i 0 (n - 1)) (by first|simp;done|rfl) ?_
 rintro r rfl
 cases h2:inR i 0 (n - 1)
 ·simp [J07,J0l,J0y]
 have hi:0≤i∧i≤n - 1:=by simpa [inR] using h2
 obtain ⟨m,rfl⟩:∃ m:Nat,n=m:=⟨n.toNat,by omega⟩
 obtain ⟨j,rfl⟩:∃ j:Nat,i=j:=⟨i.toNat,by omega⟩
 have hj:j<m:=by omega
 have hm:(m:Int)*8≤LIM:=by unfold LIM;omega
 simp [hj,hm,J07]
 have e:(List.replicate m [AV.int .i64 0]).set j [AV.int .i64 1]=J0l ((List.replicate m 0).set j 1):=by rw [←Jf2,Jjd]
 rw [e,List.take_of_length_le (by simp)]
 simp
theorem Jav (x:DLin) (k:Int) (hl:x.Coeffs.length≤1048576):Holds Tryz.prog 306 [.agg (J05 x),i64 k] (fun r=>r = .agg (J07 (J4t x k))):=by
 refine J03 Tryz.func306 a306_ok rfl (by simp [a306]) ?_
 simp [a306,J05]
 first|refine J01 (J2p x hl) (by first|simp [J05];done|rfl) ?_|refine J02 (J2p x hl) (by first|simp [J05];done|rfl) ?_
 rintro r rfl
 simp [J07,J4t]
def Jr0 (l:List Int) (n i:Nat):List Int:=l.take i++List.replicate (n - i) 0
theorem Jmi {l:List Int}{n i:Nat}(hi:i<l.length) (hn:l.length≤n):(Jr0 l n i).set i l[i]=Jr0 l n (i+1):=by
 unfold Jr0
 rw [List.set_append_right i l[i] (by simp;omega)]
 have h1:i - (l.take i).length=0:=by simp;omega
 obtain ⟨k,hk⟩:∃ k,n - i=k+1:=⟨n - i - 1,by omega⟩
 rw [h1,hk,List.take_succ_eq_append_getElem hi,List.append_assoc]
 have:n - (i+1)=k:=by omega
 rw [this];simp [List.replicate_succ]
theorem Jt9 {l:List Int}{n i:Nat}(hi:i≤l.length) (hn:l.length≤n):(Jr0 l n i).length=n:=by unfold Jr0;simp;omega
theorem J8h (x:DLin) (n:Nat) (hxn:x.Coeffs.length≤n) (hn:n≤1048576):Holds Tryz.prog 262 [.agg (J05 x),i64 n] (fun r=>r = .agg (J07 (J44 n x))):=by
 have hm:(n:Int)*8≤LIM:=by unfold LIM;omega
 refine J03 Tryz.func262 a262_ok rfl (by simp [a262]) ?_
 simp [a262,J05,hm]
 refine ⟨?_,?_⟩
 all_goals
  refine J0n [1,2,4] 6 x.Coeffs.length (fun i s h m=>∃ a b,((a=2∧b=3)∨(a=3∧b=2))∧3<m∧s 5 = .ptr b 0 0∧h 0=some ⟨true,2,[[.int .i64 x.Const,.sl 1 (J0l x.Coeffs)]]⟩∧h 1=some ⟨true,2,[[.int .i64 0,.nil 1]]⟩∧h b=some ⟨true,2,[[.int .i64 x.Const,.ref a 0 n]]⟩∧h a=some ⟨false,1,J0l (Jr0 x.Coeffs n i)⟩) (by unfold LIM;omega) (by simp) ?_ ?_ ?_
  ·first
   | (refine ⟨2,3,.inl ⟨rfl,rfl⟩,?_⟩;simp [Jr0];done)
   | (refine ⟨3,2,.inr ⟨rfl,rfl⟩,?_⟩;simp [Jr0];done)
  ·rintro i s h m R hi hg hk s6 hw ⟨a,b,hab,hm3,s5,e0,e1,eb,ea⟩ hR _ _
   simp at hk
   have hpl:=Jt9 (l:=x.Coeffs) (n:=n) (Nat.le_of_lt hi) hxn
   have hin:i<n:=by omega
   rcases hab with ⟨rfl,rfl⟩|⟨rfl,rfl⟩
   ·simp [hk,s6,s5,hi,e0,e1,eb,ea,hin,hw,hpl]
    intro _
    refine hR _ _ _ (by simp [hk]) (by simp) ⟨2,3,.inl ⟨rfl,rfl⟩,by omega,by simp [hk,s5],by simp [e0],by simp [e1],by simp [eb],?_⟩
    simp [←Jmi hi hxn]
   ·simp [hk,s6,s5,hi,e0,e1,eb,ea,hin,hw,hpl]
    intro _
    refine hR _ _ _ (by simp [hk]) (by simp) ⟨3,2,.inr ⟨rfl,rfl⟩,by omega,by simp [hk,s5],by simp [e0],by simp [e1],by simp [eb],?_⟩
    simp [←Jmi hi hxn]
  ·rintro s h m R hk s6 ⟨a,b,hab,hm3,s5,e0,e1,eb,ea⟩ _ hX
   simp at hk
   have hpe:Jr0 x.Coeffs n x.Coeffs.length=(J44 n x).Coeffs:=by simp [Jr0,J44]
   have hwl:(J44 n x).Coeffs.length=n:=by simp [J44];omega
   have hwc:(J44 n x).Const=x.Const:=rfl
   rw [hpe] at ea
   rcases hab with ⟨rfl,rfl⟩|⟨rfl,rfl⟩
   ·simp [hk,s6,s5,e0,e1,eb,ea]
    intro _
    refine hX _ _ _ _ ?_
    simp [hk,s5,e1,eb,ea,J07,hwl,hwc,List.take_of_length_le]
   ·simp [hk,s6,s5,e0,e1,eb,ea]
    intro _
    refine hX _ _ _ _ ?_
    simp [hk,s5,e1,eb,ea,J07,hwl,hwc,List.take_of_length_le]
def J31 (b z:Nat) (rows:List (List AV)) (v:AV) (h:Heap) (n:Nat):Prop:=(rows=[]∧v = .nil z)∨∃ id,b<id∧id<n∧v = .ref id 0 rows.length∧h id=some ⟨false,z,rows⟩
theorem J31.keep {b z:Nat}{rows:List (List AV)}{v:AV}{h h':Heap}{n n':Nat}(x:J31 b z rows v h n) (hn:n≤n') (hh:∀ id,b<id→id<n→v = .ref id 0 rows.length→h' id=h id):J31 b z rows v h' n':=
 x.imp (fun y=>y) fun ⟨i,h1,h2,h3,h4⟩=>⟨i,h1,by omega,h3,by rw [hh i h1 h2 h3];exact h4⟩
theorem J31.dt {b z:Nat}{rows:List (List AV)}{v:AV}{h:Heap}{n:Nat}(x:J31 b z rows v h n):∃ h',Go.Proofs.YtoclolkigjbcgaaGreat.dt v h=some (.us z rows,h')∧∀ id,(∀ l,v ≠ .ref id 0 l)→h' id=h id:=by
 rcases x with ⟨rfl,rfl⟩|⟨i,_,_,rfl,hb⟩
 ·exact ⟨h,by simp,fun _ _=>rfl⟩
 ·refine ⟨upd h i Option.none,by simp [hb],fun id hid => ?_⟩
  have:¬id=i:=fun e=>hid rows.length (by rw [e])
  simp [this]
theorem J31.cell {b z:Nat}{rows:List (List AV)}{v:AV}{h:Heap}{n:Nat}(x:J31 b z rows v h n):J1d v=true:=by
 rcases x with ⟨_,rfl⟩|⟨i,_,_,rfl,_⟩ <;> rfl
theorem J31.ne_sz {b z z':Nat}{rows rows':List (List AV)}{v v':AV}{h:Heap}{n id l l':Nat}(x:J31 b z rows v h n) (y:J31 b z' rows' v' h n) (hz:z≠z') (e:v = .ref id 0 l) (e':v' = .ref id 0 l'):False:=by
 rcases x with ⟨_,rfl⟩|⟨i,_,_,rfl,hi⟩
 ·cases e
 rcases y with ⟨_,rfl⟩|⟨j,_,_,rfl,hj⟩
 ·cases e'
 simp only [AV.ref.injEq] at e e'
 rw [e.1] at hi
 rw [e'.1,hi] at hj
 simp at hj
 exact hz hj.1
theorem J31.ne_ge {b z:Nat}{rows:List (List AV)}{v:AV}{h:Heap}{n q l:Nat}(x:J31 b z rows v h n) (hq:n≤q) (e:v = .ref q 0 l):False:=by
 rcases x with ⟨_,rfl⟩|⟨i,_,hi,rfl,_⟩
 ·cases e
 ·simp only [AV.ref.injEq] at e;omega
theorem Jce {k:IntKind}{n:Int} : J1d (.int k n)=true:=rfl
theorem Jh2 {i o l:Nat} : J1d (.ref i o l)=true:=rfl
inductive RT (E:List (Str×Str)):Str→Str→Prop
 | refl (a:Str):RT E a a
 | step {a b c:Str} : RT E a b→(b,c)∈E→RT E a c
theorem RT.closed {E:List (Str×Str)}{S:Str→Prop}{a b:Str}(h:RT E a b) (ha:S a) (hc:∀ x y,(x,y)∈E→S x→S y):S b:=by
 induction h with
 | refl=>exact ha
 | step _ he ih=>exact hc _ _ he ih
theorem J33 {l:List Str}{s:Str} : J2l l s=true↔s∈l:=by simp [J2l]
theorem Jbb {l:List Str}{s:Str} : J2l l s=false↔s∉l:=by rw [←Bool.not_eq_true,J33]
def Jh8 (S:List Str) (e:Str×Str):List Str:=if J2l S e.1 then (if J2l S e.2 then S else S++[e.2]) else S
def Jix (E:List (Str×Str)) (S:List Str):List Str:=E.foldl Jh8 S
def Jmz (E:List (Str×Str)):Nat→List Str→List Str
 | 0,S=>S
 | n+1,S=>Jmz E n (Jix E S)
theorem Jt5 {S:List Str}{e:Str×Str}{x:Str}(h:x∈S):x∈Jh8 S e:=by
 unfold Jh8;split
 ·split
  ·exact h
  ·exact List.mem_append_left _ h
 ·exact h
theorem Jsx {E:List (Str×Str)} : ∀ {S:List Str}{x:Str},x∈S→x∈Jix E S:=by
 unfold Jix
 induction E with
 | nil=>intro S x h;exact h
 | cons e E ih=>intro S x h;exact ih (Jt5 h)
theorem Jms {E:List (Str×Str)} : ∀ {n:Nat}{S:List Str}{x:Str},x∈S→x∈Jmz E n S
 | 0,_,_,h=>h
 | n+1,_,_,h=>Jms (n:=n) (Jsx h)
theorem Jna {S:List Str}{e:Str×Str}(h:S.Nodup):(Jh8 S e).Nodup:=by
 unfold Jh8;split
 ·split
  ·exact h
  ·rename_i h2
   rw [Bool.not_eq_true,Jbb] at h2
   rw [List.nodup_append]
   exact ⟨h,by simp,fun a ha b hb hab=>h2 (by rw [←List.mem_singleton.1 hb,←hab];exact ha)⟩
 ·exact h
theorem Jgc {E:List (Str×Str)} : ∀ {S:List Str},S.Nodup→(Jix E S).Nodup:=by
 unfold Jix
 induction E with
 | nil=>intro S h;exact h
 | cons e E ih=>intro S h;exact ih (Jna h)
theorem Jmd {S:List Str}{e:Str×Str} : S.length≤(Jh8 S e).length:=by
 unfold Jh8;split
 ·split <;> simp
 ·simp
theorem Ji0 {E:List (Str×Str)} : ∀ {S:List Str},S.length≤(Jix E S).length:=by
 unfold Jix
 induction E with
 | nil=>intro S;exact Nat.le_refl _
 | cons e E ih=>intro S;exact Nat.le_trans Jmd ih
theorem Jex {E:List (Str×Str)} : ∀ {S:List Str},(Jix E S).length=S.length→Jix E S=S∧∀ x y,(x,y)∈E→x∈S→y∈S:=by
 unfold Jix
 induction E with
 | nil=>intro S _;exact ⟨rfl,fun _ _ h=>by cases h⟩
 | cons e E ih=>
  intro S h
  simp only [List.foldl_cons] at h ⊢
  have h1:=Jmd (S:=S) (e:=e)
  have h2:(Jh8 S e).length≤(List.foldl Jh8 (Jh8 S e) E).length:=Ji0 (E:=E)
  have h3:Jh8 S e=S:=by
   unfold Jh8 at h1 h2 h ⊢
   split at h1 <;> rename_i g1
   ·split at h1 <;> rename_i g2
    ·simp [g1,g2]
    ·exfalso;simp only [g1,g2,if_true,if_false] at h h2;simp at h h2;omega
   ·simp [g1]
  rw [h3] at h ⊢
  obtain ⟨k1,k2⟩:=ih h
  refine ⟨k1,fun x y hxy hx => ?_⟩
  rcases List.mem_cons.1 hxy with rfl|hxy
  ·unfold Jh8 at h3
   rw [if_pos (J33.2 hx)] at h3
   split at h3
   ·rename_i g;exact J33.1 g
   ·have:=congrArg List.length h3;simp at this
  ·exact k2 x y hxy hx
theorem Jxv {E:List (Str×Str)}{S:List Str}{e:Str×Str}{a:Str}(he:e∈E) (h:∀ x∈S,RT E a x):∀ x∈Jh8 S e,RT E a x:=by
 unfold Jh8;split
 ·rename_i g
  split
  ·exact h
  ·intro x hx
   rcases List.mem_append.1 hx with hx|hx
   ·exact h x hx
   ·rw [List.mem_singleton.1 hx];exact (h _ (J33.1 g)).step he
 ·exact h
theorem Jxy {E:List (Str×Str)}{a:Str} : ∀ {S:List Str},(∀ x∈S,RT E a x)→∀ x∈Jix E S,RT E a x:=by
 have key:∀ (E':List (Str×Str)),(∀ e∈E',e∈E)→∀ (S:List Str),(∀ x∈S,RT E a x)→∀ x∈E'.foldl Jh8 S,RT E a x:=by
  intro E'
  induction E' with
  | nil=>intro _ S h;exact h
  | cons e E' ih=>intro hE S h;exact ih (fun e he=>hE e (List.mem_cons_of_mem _ he)) _ (Jxv (hE e (List.mem_cons_self ..)) h)
 intro S h
 exact key E (fun _ h=>h) S h
theorem Jpz {E:List (Str×Str)}{a:Str} : ∀ {n:Nat}{S:List Str},(∀ x∈S,RT E a x)→∀ x∈Jmz E n S,RT E a x
 | 0,_,h=>h
 | n+1,_,h=>Jpz (n:=n) (Jxy h)
theorem Jgv {E:List (Str×Str)}{N:List Str}(hE:∀ e∈E,e.2∈N):∀ {S:List Str},(∀ x∈S,x∈N)→∀ x∈Jix E S,x∈N:=by
 unfold Jix
 induction E with
 | nil=>intro S h;exact h
 | cons e E ih=>
  intro S h
  refine ih (fun e he=>hE e (List.mem_cons_of_mem _ he)) ?_
  intro x hx
  unfold Jh8 at hx
  split at hx
  ·split at hx
   ·exact h x hx
   ·rcases List.mem_append.1 hx with hx|hx
    ·exact h x hx
    ·rw [List.mem_singleton.1 hx];exact hE e (List.mem_cons_self ..)
  ·exact h x hx
theorem Jfk {N:List Str} : ∀ {S:List Str},S.Nodup→(∀ x∈S,x∈N)→S.length≤N.length:=by
 induction N with
 | nil=>
  intro S _ h
  cases S with
  | nil=>exact Nat.le_refl _
  | cons x S=>have:=h x (List.mem_cons_self ..);cases this
 | cons y N ih=>
  intro S hS h
  have:=ih (S:=S.filter (· != y)) (hS.sublist List.filter_sublist) (fun x hx=>by
   rw [List.mem_filter] at hx
   rcases List.mem_cons.1 (h x hx.1) with rfl|h'
   ·simp at hx
   ·exact h')
  have hc:S.length≤(S.filter (· != y)).length+1:=by
   clear this ih h
   induction S with
   | nil=>simp
   | cons x S ih=>
    rw [List.nodup_cons] at hS
    by_cases hx:x=y
    ·subst hx
     have hf:S.filter (· != x)=S:=List.filter_eq_self.2 fun z hz=>by simp;rintro rfl;exact hS.1 hz
     simp [hf]
    ·have hx':(x != y)=true:=by simpa using hx
     simp only [List.filter_cons,hx',if_true,List.length_cons]
     have:=ih hS.2
     omega
  simp only [List.length_cons];omega
theorem Jfe {E:List (Str×Str)}{N:List Str}(hE:∀ e∈E,e.2∈N):∀ (n:Nat) {S:List Str},S.Nodup→(∀ x∈S,x∈N)→N.length≤n+S.length→∀ x y,(x,y)∈E→x∈Jmz E n S→y∈Jmz E n S
 | 0,S,hS,hN,hn,x,y,hxy,hx=>by
  have h1:=Jfk (Jgc (E:=E) hS) (Jgv hE hN)
  have h2:=Ji0 (E:=E) (S:=S)
  exact (Jex (E:=E) (S:=S) (by omega)).2 x y hxy hx
 | n+1,S,hS,hN,hn,x,y,hxy,hx=>by
  by_cases hst:(Jix E S).length=S.length
  ·obtain ⟨k1,k2⟩:=Jex hst
   have hall:∀ m,Jmz E m S=S:=by
    intro m
    induction m with
    | zero=>rfl
    | succ m ih=>simp only [Jmz,k1];exact ih
   rw [hall] at hx ⊢
   exact k2 x y hxy hx
  ·have h2:=Ji0 (E:=E) (S:=S)
   exact Jfe hE n (Jgc hS) (Jgv hE hN) (by omega) x y hxy hx
theorem Jlk {E:List (Str×Str)}{N:List Str}{a:Str}(hE:∀ e∈E,e.2∈N) (ha:a∈N) {n:Nat}(hn:N.length≤n+1) (x:Str):x∈Jmz E n [a]↔RT E a x:=by
 constructor
 ·exact Jpz (fun x hx=>by rw [List.mem_singleton.1 hx];exact .refl _) x
 ·intro h
  exact h.closed (Jms (by simp)) (Jfe hE n (by simp) (fun x hx=>by rw [List.mem_singleton.1 hx];exact ha) (by simpa using hn))
def J76 (E:List (Str×Str)) (N:List Str) (a:Str):List Str:=N.filter (J2l (Jmz E N.length [a]))
theorem Ja1 {E:List (Str×Str)}{N:List Str}{a:Str}(hE:∀ e∈E,e.2∈N) (ha:a∈N) (x:Str):x∈J76 E N a↔x∈N∧RT E a x:=by
 unfold J76
 rw [List.mem_filter,J33,Jlk hE ha (by omega)]
theorem Jph {E:List (Str×Str)}{N:List Str}{a:Str}{M:List Str}(hE:∀ e∈E,e.2∈N) (ha:a∈N) (hM:∀ x,x∈M↔RT E a x):N.filter (J2l M)=J76 E N a:=by
 unfold J76
 refine List.filter_congr fun x _ => ?_
 rw [Bool.eq_iff_iff,J33,J33,hM,Jlk hE ha (by omega)]
def Jt3 (E:List (Str×Str)) (N:List Str) (a:Str):List Str:=(J76 E N a).filter fun g=>J2l (J76 E N g) a
theorem Jpd {E:List (Str×Str)}{N:List Str}{a:Str}(hE:∀ e∈E,e.2∈N) (ha:a∈N) (x:Str):x∈Jt3 E N a↔x∈N∧RT E a x∧RT E x a:=by
 unfold Jt3
 rw [List.mem_filter,J33,Ja1 hE ha]
 constructor
 ·rintro ⟨⟨h1,h2⟩,h3⟩
  exact ⟨h1,h2,((Ja1 hE h1 a).1 h3).2⟩
 ·rintro ⟨h1,h2,h3⟩
  exact ⟨⟨h1,h2⟩,(Ja1 hE h1 a).2 ⟨ha,h3⟩⟩
end Go.Proofs.YtoclolkigjbcgaaGreat
