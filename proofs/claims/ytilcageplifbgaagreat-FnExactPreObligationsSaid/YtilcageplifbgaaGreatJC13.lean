/- Contracts: names in order; the names of an argument. -/
import Derived.Test.YtilcageplifbgaaGreatJR44
import Derived.Test.YtilcageplifbgaaGreatJSh
import Derived.Test.YtilcageplifbgaaGreatJC11
import Derived.Test.YtilcageplifbgaaGreatJC1
namespace Go.Proofs.YtilcageplifbgaaGreat
set_option linter.all false
open Go Go.RowKit Go.Proofs
def a282:AFn:=
⟨10,[.t 2],(.seq
 (.reg [⟨some 2,.mv (.k (.nil 1)),no⟩]) (.seq
 (.reg [⟨some 4,.mv (.t 0),no⟩,⟨some 5,.call (.k (.fn (.func 218) [] [])) [.t 4],no⟩,⟨some 3,.mv (.t 5),no⟩]) (.seq
 (.reg [⟨some 6,.mv (.t 3),no⟩,⟨some 7,.call (.k (.fn (.func 300) [] [])) [.t 6],no⟩]) (.seq
 (.reg [⟨some 8,.mv (.t 3),no⟩,⟨some 9,.call (.k (.fn (.func 301) [] [])) [.t 8],no⟩,⟨some 2,.mv (.t 9),no⟩]) .ret))))⟩
theorem a282_ok:compFn Tryz.prog Tryz.f282=some a282:=by kernel_rfl
def a294:AFn:=
⟨63,[.t 2],(.seq
 (.reg [⟨some 2,.mv (.k (.nil 1)),no⟩]) (.seq
 (.reg [⟨some 7,.bsl 1 [],no⟩,⟨some 3,.mv (.t 7),no⟩]) (.seq (.seq
 (.reg [⟨some 4,.mv (.k (.int .i64 0)),no⟩]) (.blk 0 (.loop (.seq (.seq
 (.reg [⟨some 8,.mv (.t 4),no⟩,⟨some 9,.mv (.t 0),no⟩,⟨some 10,.len false (.t 9),no⟩,⟨some 11,.bin .lss (.t 8) (.t 10),no⟩]) (.cond (.t 11) .skip (.exit 0))) (.seq (.blk 1 (.seq
 (.reg [⟨some 5,.mv (.k (.int .i64 0)),no⟩]) (.seq (.blk 2 (.loop (.seq (.seq (.draw (.op ⟨some 14,.mv (.t 5),no⟩ (.op ⟨some 15,.mv (.t 3),no⟩ (.op ⟨some 16,.len false (.t 15),no⟩ (.op ⟨some 17,.bin .lss (.t 14) (.t 16),no⟩ (.op ⟨some 18,.mv (.t 17),no⟩ (.op ⟨some 19,.mv (.t 3),(some (18,true))⟩ (.op ⟨some 20,.mv (.t 5),(some (18,true))⟩ (.op ⟨some 21,.ixa 1 (.t 19) (.t 20),(some (18,true))⟩ (.op ⟨some 22,.ld false 1 (.t 21),(some (18,true))⟩ (.op ⟨some 23,.mv (.t 0),(some (18,true))⟩ (.op ⟨some 24,.mv (.t 4),(some (18,true))⟩ (.op ⟨some 25,.ixa 1 (.t 23) (.t 24),(some (18,true))⟩ (.op ⟨some 26,.ld false 1 (.t 25),(some (18,true))⟩ (.op ⟨some 27,.bin .lss (.t 22) (.t 26),(some (18,true))⟩ (.op ⟨some 28,.pick (.t 18) (.t 27) (.k (.bool false)),no⟩ .fin)))))))))))))))) (.cond (.t 28) .skip (.exit 2))) (.blk 3
 (.reg [⟨some 29,.mv (.t 5),no⟩,⟨some 30,.bin .add (.t 29) (.k (.int .i64 1)),no⟩,⟨some 5,.mv (.t 30),no⟩]))))) (.seq (.seq (.draw (.op ⟨some 31,.mv (.t 5),no⟩ (.op ⟨some 32,.mv (.t 3),no⟩ (.op ⟨some 33,.len false (.t 32),no⟩ (.op ⟨some 34,.bin .lss (.t 31) (.t 33),no⟩ (.op ⟨some 35,.mv (.t 34),no⟩ (.op ⟨some 36,.mv (.t 3),(some (35,true))⟩ (.op ⟨some 37,.mv (.t 5),(some (35,true))⟩ (.op ⟨some 38,.ixa 1 (.t 36) (.t 37),(some (35,true))⟩ (.op ⟨some 39,.ld false 1 (.t 38),(some (35,true))⟩ (.op ⟨some 40,.mv (.t 0),(some (35,true))⟩ (.op ⟨some 41,.mv (.t 4),(some (35,true))⟩ (.op ⟨some 42,.ixa 1 (.t 40) (.t 41),(some (35,true))⟩ (.op ⟨some 43,.ld false 1 (.t 42),(some (35,true))⟩ (.op ⟨some 44,.bin .eql (.t 39) (.t 43),(some (35,true))⟩ (.op ⟨some 45,.pick (.t 35) (.t 44) (.k (.bool false)),no⟩ .fin)))))))))))))))) (.cond (.t 45) (.exit 1) .skip)) (.seq
 (.reg [⟨some 46,.bsl 1 [],no⟩,⟨some 47,.mv (.t 3),no⟩,⟨some 48,.mv (.t 5),no⟩,⟨some 49,.slc false 1 (.t 47) (some (.t 48)) Option.none,no⟩,⟨some 50,.app 16 1 (.t 46) (.t 49),no⟩,⟨some 6,.mv (.t 50),no⟩]) (.draw (.op ⟨some 51,.mv (.t 3),no⟩ (.op ⟨some 52,.mv (.t 5),no⟩ (.op ⟨some 53,.slc false 1 (.t 51) Option.none (some (.t 52)),no⟩ (.op ⟨some 54,.mv (.t 0),no⟩ (.op ⟨some 55,.mv (.t 4),no⟩ (.op ⟨some 56,.ixa 1 (.t 54) (.t 55),no⟩ (.op ⟨some 57,.ld false 1 (.t 56),no⟩ (.op ⟨some 60,.mv (.t 6),no⟩ (.hop ⟨some 58,.bsl 1 [.t 57],no⟩ [(.slc false 1 (.t 51) Option.none (some (.t 52)))] (.hop ⟨some 59,.app 16 1 (.t 53) (.t 58),no⟩ [] (.hop ⟨some 61,.app 16 1 (.t 59) (.t 60),no⟩ [] (.hop ⟨some 3,.mv (.t 61),no⟩ [] .fin))))))))))))))))))
 (.reg [⟨some 12,.mv (.t 4),no⟩,⟨some 13,.bin .add (.t 12) (.k (.int .i64 1)),no⟩,⟨some 4,.mv (.t 13),no⟩])))))) (.seq
 (.reg [⟨some 62,.mv (.t 3),no⟩,⟨some 2,.mv (.t 62),no⟩]) .ret))))⟩
theorem a294_ok:compFn Tryz.prog Tryz.f294=some a294:=by kernel_rfl
theorem a_sort {h:Heap} {n id:Nat} {l:List Str} {K:AV→Heap→Nat→Prop} (hB:h id=some ⟨false,1,strsR l⟩) (hK:K (.tup []) (upd h id (some ⟨false,1,strsR (sortS l)⟩)) n):ACall Tryz.prog 300 [.ref id 0 l.length] h n K:=by
 refine acall_inplace (l2:=sortS l) (r := .tup []) (by unfold callable; rw [Tryz.func300]; rfl) hB (sortS_len l) (fun s hs => .inl (sortS_mem.1 hs)) (.inl ⟨rfl,fun _ _ _=>trivial⟩) ?_ ?_ hK
 · intro b cap w hH hb _ hlim
   unfold LIM at hlim
   refine (Tryz.slices_Sort_string b 0 cap l w hH hb (by omega)).mono ?_
   rintro e w' ⟨rfl,q,os,rfl⟩
   exact ⟨⟨_,rfl,fun _=>rfl,fun m h=>by cases h⟩,q,os,rfl⟩
 · intro _ w
   refine (Tryz.slices_Sort_string_none Option.none 0 w).mono ?_
   rintro e w' ⟨rfl,rfl⟩
   exact ⟨⟨_,rfl,fun _=>rfl,fun m h=>by cases h⟩,rfl⟩
theorem a_compact {h:Heap} {n id:Nat} {l:List Str} {K:AV→Heap→Nat→Prop} (hB:h id=some ⟨false,1,strsR l⟩)
   (hK:K (.ref id 0 (Go.Lib.compact l).length) (upd h id (some ⟨false,1,strsR (Go.Lib.compact l++List.replicate (l.length - (Go.Lib.compact l).length) [])⟩)) n):ACall Tryz.prog 301 [.ref id 0 l.length] h n K:=by
 have hl:=compact_len l
 refine acall_inplace (l2:=Go.Lib.compact l++List.replicate (l.length - (Go.Lib.compact l).length) []) (r := .ref id 0 (Go.Lib.compact l).length) (by unfold callable; rw [Tryz.func301]; rfl) hB (by simp; omega) ?_ (.inr ⟨_,hl,rfl⟩) ?_ ?_ hK
 · intro s hs
   rcases List.mem_append.1 hs with hs | hs
   · left
     unfold Go.Lib.compact Go.Lib.compactUpTo at hs
     obtain ⟨j,hj,rfl⟩:=List.mem_map.1 hs
     have hj:=List.mem_range.1 (List.mem_filter.1 hj).1
     simp [hj]
   · right; exact (List.mem_replicate.1 hs).2
 · intro b cap w hH hb hcap hlim
   unfold LIM at hlim
   refine (Tryz.slices_Compact_string b 0 cap l w hH (by omega) hcap).mono ?_
   rintro e w' ⟨rfl,q,rfl⟩
   exact ⟨⟨_,rfl,fun h=>by (cases h),fun m h=>by (cases h; rfl)⟩,q,#[],by unfold rowOfS; rw [Go.Sort.grow_empty]⟩
 · intro hl0 w
   subst hl0
   refine (Tryz.slices_Compact_string_empty Option.none 0 w).mono ?_
   rintro e w' ⟨rfl,rfl⟩
   exact ⟨⟨_,rfl,fun h=>by (cases h),fun m h=>rfl⟩,rfl⟩
theorem k_SortNames (l:List Str) (hl:l.length≤1048576):Holds Tryz.prog 282 [.sl 1 (strsR l)] (fun r=>r = .us 1 (strsR (snames l))):=by
 refine holds_of_run Tryz.func282 a282_ok rfl (by simp [a282]) ?_
 simp [a282]
 first|refine callD_of (k_CloneStr l hl) (by first|(simp;done)|rfl) ?_|refine call_of (k_CloneStr l hl) (by first|(simp;done)|rfl) ?_
 rintro r rfl
 simp
 refine a_sort (l:=l) (by simp) ?_
 simp
 rw [←sortS_len l]
 refine a_compact (l:=sortS l) (by simp) ?_
 have h:=compact_len (sortS l)
 have h2:List.take (Go.Lib.compact (sortS l)).length (strsR (Go.Lib.compact (sortS l)++List.replicate ((sortS l).length - (Go.Lib.compact (sortS l)).length) []))=strsR (snames l):=by
   unfold strsR; rw [List.map_append,List.take_left' (by simp)]; rfl
 simp [h2]
set_option maxRecDepth 20000 in
set_option maxHeartbeats 1000000 in
theorem ks_SortNames (l:List Str) (hl:l.length≤1048576):Holds Tryz.prog 294 [.sl 1 (strsR l)] (fun r=>r = .us 1 (strsR (snames l))):=by
 refine holds_of_run Tryz.func294 a294_ok rfl (by simp [a294]) ?_
 simp [a294]
 refine rL_forO [0] 4 l.length (fun i s h n=>∃ (acc:List Str) (id:Nat),s 3 = .ref id 0 acc.length∧h id=some ⟨false,1,strsR acc⟩∧id<n∧acc.length≤i∧SS acc∧∀ x,x∈acc↔x∈l.take i)
   (by unfold LIM; omega) (by simp) ⟨[],0,by simp,by simp [strsR],by simp,by simp,by simp [SS],by simp⟩ ?_ ?_
 · rintro i s h n R hi hg hk s4 hw ⟨acc,id,s3,eid,hidn,hai,hS,hmem⟩ hR _ _
   simp at hk
   simp [hk,s4,hi,hg]
   intro _
   refine rL_whileO (fun m s' h' n'=>∃ k:Nat,m=acc.length - k∧k≤acc.length∧s' 0 = .sl 1 (strsR l)∧s' 4 = .int .i64 i∧s' 3 = .ref id 0 acc.length∧s' 5 = .int .i64 k∧(∀ j,∀ hj:j<acc.length,j<k→bl acc[j] l[i]=true)∧h'=h∧n'=n) acc.length
     ⟨0,by simp,Nat.zero_le _,by simp [hk],by simp [s4],by simp [s3],by simp,fun j _ hj=>absurd hj (Nat.not_lt_zero _),rfl,rfl⟩ ?_
   rintro m s' h' n' R' ⟨k,rfl,hka,s0',s4',s3',s5',hlt,rfl,rfl⟩ hR' _ hX'
   have rest:∀ s'':Env,s'' 0 = .sl 1 (strsR l)→s'' 4 = .int .i64 i→s'' 3 = .ref id 0 acc.length→s'' 5 = .int .i64 k→(∀ hk:k<acc.length,bl acc[k] l[i]=false)→R' (.exit 2) s'' h' n':=by
     intro s2 t0 t4 t3 t5 hge
     refine hX' _ _ _ _ ?_
     obtain ⟨hS',hm'⟩:=insAt_spec hS hka hlt hge
     have hmem':∀ x,x∈insAt acc l[i] k↔x∈l.take (i+1):=fun x=>by
       rw [hm',hmem,List.take_succ_eq_append_getElem hi,List.mem_append,List.mem_singleton]
       exact Or.comm
     have hll:(insAt acc l[i] k).length≤i+1:=by
       unfold insAt; split
       · omega
       · simp; omega
     by_cases he:acc[k]? = some l[i]
     · have hk1:k<acc.length:=(List.getElem?_eq_some_iff.1 he).1
       have hek:acc[k]=l[i]:=by rw [List.getElem?_eq_getElem hk1] at he; exact Option.some.inj he
       have hia:insAt acc l[i] k=acc:=by unfold insAt; rw [if_pos he]
       rw [hia] at hS' hmem' hll
       simp [t0,t4,t3,t5,eid,hk1,hi,hek,hw]
       exact hR _ _ _ (by simp [t0,hk]) (by simp) ⟨acc,id,by simp [t3],eid,hidn,by omega,hS',hmem'⟩
     · have hia:insAt acc l[i] k=acc.take k++l[i]::acc.drop k:=by unfold insAt; rw [if_neg he]
       have n0:¬id=n':=by omega
       have n1:¬id=n'+1:=by omega
       have n2:¬id=n'+1+1:=by omega
       have n3:¬n'=id:=by omega
       have n4:¬n'+1=id:=by omega
       have n5:¬n'+1+1=id:=by omega
       have n6:¬n'+1+1+1=id:=by omega
       have n7:¬id=n'+1+1+1:=by omega
       have q1:k+(acc.length - k)=acc.length:=by omega
       have q2:acc.length≤1048576:=by omega
       have q3:min k acc.length=k:=Nat.min_eq_left hka
       by_cases hk1:k<acc.length
       · have hek:¬acc[k]=l[i]:=fun e=>he (by rw [List.getElem?_eq_getElem hk1,e])
         simp [t0,t4,t3,t5,eid,hk1,hi,hek,hw,lowOf,asI,n0,n1,n2,n3,n4,n5,n6,n7,q1,q3,hka]
         have hlim:(acc.length - k)*16≤LIM∧(k+1)*16≤LIM∧(k+1+(acc.length - k))*16≤LIM:=by unfold LIM; omega
         refine ⟨hlim.1,hlim.2.1,hlim.2.2,?_⟩
         have hln:(acc.take k++l[i]::acc.drop k).length=k+1+(acc.length - k):=by simp; omega
         refine hR _ _ _ (by simp [t0,hk]) (by simp) ⟨acc.take k++l[i]::acc.drop k,n'+4,?_,?_,by omega,by rw [←hia]; exact hll,by rw [←hia]; exact hS',by rw [←hia]; exact hmem'⟩
         · rw [hln]; simp
         · simp [strsR,List.take_of_length_le]
           rw [List.take_of_length_le (by simp; omega)]
           simp
       · simp [t0,t4,t3,t5,eid,hk1,hi,hw,lowOf,asI,n0,n1,n2,n3,n4,n5,n6,n7,q1,q3,hka]
         have hlim:(acc.length - k)*16≤LIM∧(k+1)*16≤LIM∧(k+1+(acc.length - k))*16≤LIM:=by unfold LIM; omega
         refine ⟨hlim.1,hlim.2.1,hlim.2.2,?_⟩
         have hln:(acc.take k++l[i]::acc.drop k).length=k+1+(acc.length - k):=by simp; omega
         refine hR _ _ _ (by simp [t0,hk]) (by simp) ⟨acc.take k++l[i]::acc.drop k,n'+4,?_,?_,by omega,by rw [←hia]; exact hll,by rw [←hia]; exact hS',by rw [←hia]; exact hmem'⟩
         · rw [hln]; simp
         · simp [strsR,List.take_of_length_le]
           rw [List.take_of_length_le (by simp; omega)]
           simp
   by_cases hk1:k<acc.length
   · simp [s0',s4',s3',s5',eid,hk1,hi]
     refine ⟨fun hb => ?_,fun hb => ?_⟩
     · refine hR' (acc.length - (k+1)) _ _ _ (by omega) ⟨k+1,rfl,by omega,by simp [s0'],by simp [s4'],by simp [s3'],by simp; exact wrap64 (by omega),fun j hj hjk => ?_,rfl,rfl⟩
       by_cases hjk':j<k
       · exact hlt j hj hjk'
       · have:j=k:=by omega
         subst this; exact hb
     · exact rest _ (by simp [s0']) (by simp [s4']) (by simp [s3']) (by simp [s5']) fun _=>hb
   · simp [s0',s4',s3',s5',eid,hk1,hi]
     exact rest _ (by simp [s0']) (by simp [s4']) (by simp [s3']) (by simp [s5']) fun h=>absurd h hk1
 · rintro s h n R hk s4 ⟨acc,id,s3,eid,hidn,hai,hS,hmem⟩ hret hX
   simp at hk
   rw [List.take_of_length_le (Nat.le_refl _)] at hmem
   have:=snames_eq hS hmem
   subst this
   simp [hk,s4]
   intro _
   refine hX _ _ _ _ ?_
   simp [s3,eid]
end Go.Proofs.YtilcageplifbgaaGreat

namespace Go.Proofs.YtilcageplifbgaaGreat
set_option linter.all false
open Go Go.RowKit Go.Proofs
def a227:AFn:=
⟨20,[.t 2],(.seq
 (.reg [⟨some 1,.boxv (.t 0),no⟩,⟨some 2,.mv (.k (.nil 1)),no⟩]) (.seq
 (.reg [⟨some 3,.mv (.k (.nil 1)),no⟩]) (.seq (.seq
 (.reg [⟨some 6,.fld 1 (.t 1),no⟩,⟨some 7,.ld false 1 (.t 6),no⟩,⟨some 8,.len false (.t 7),no⟩,⟨some 9,.mv (.k (.int .i64 0)),no⟩]) (.blk 0 (.loop (.seq
 (.reg [⟨some 10,.bin .lss (.t 9) (.t 8),no⟩]) (.seq (.cond (.t 10) .skip (.exit 0)) (.seq (.blk 1 (.seq
 (.reg [⟨some 11,.ixa 2 (.t 7) (.t 9),no⟩,⟨some 12,.ld true 2 (.t 11),no⟩,⟨some 5,.box [(.int .i64 0),(.str [])],no⟩,⟨no,.st 2 (.t 5) (.t 12),no⟩])
 (.reg [⟨some 13,.mv (.t 3),no⟩,⟨some 14,.fld 1 (.t 5),no⟩,⟨some 15,.ld false 1 (.t 14),no⟩,⟨some 16,.bsl 1 [.t 15],no⟩,⟨some 17,.app 16 1 (.t 13) (.t 16),no⟩,⟨some 3,.mv (.t 17),no⟩])))
 (.reg [⟨some 18,.bin .add (.t 9) (.k (.int .i64 1)),no⟩,⟨some 9,.mv (.t 18),no⟩]))))))) (.seq
 (.reg [⟨some 19,.mv (.t 3),no⟩,⟨some 2,.mv (.t 19),no⟩]) .ret))))⟩
theorem a227_ok:compFn Tryz.prog Tryz.f227=some a227:=by kernel_rfl
def a231:AFn:=
⟨28,[.t 2],(.seq
 (.reg [⟨some 1,.boxv (.t 0),no⟩,⟨some 2,.mv (.k (.nil 1)),no⟩]) (.seq
 (.reg [⟨some 3,.mv (.k (.nil 1)),no⟩]) (.seq (.seq
 (.reg [⟨some 6,.fld 1 (.t 1),no⟩,⟨some 7,.ld false 1 (.t 6),no⟩,⟨some 8,.len false (.t 7),no⟩,⟨some 9,.mv (.k (.int .i64 0)),no⟩]) (.blk 0 (.loop (.seq
 (.reg [⟨some 10,.bin .lss (.t 9) (.t 8),no⟩]) (.seq (.cond (.t 10) .skip (.exit 0)) (.seq (.blk 1 (.seq
 (.reg [⟨some 11,.ixa 2 (.t 7) (.t 9),no⟩,⟨some 12,.ld true 2 (.t 11),no⟩,⟨some 5,.box [(.int .i64 0),(.nil 2)],no⟩,⟨no,.st 2 (.t 5) (.t 12),no⟩])
 (.reg [⟨some 13,.mv (.t 3),no⟩,⟨some 14,.ld true 2 (.t 5),no⟩,⟨some 15,.call (.k (.fn (.func 227) [] [])) [.t 14],no⟩,⟨some 16,.app 16 1 (.t 13) (.t 15),no⟩,⟨some 3,.mv (.t 16),no⟩])))
 (.reg [⟨some 17,.bin .add (.t 9) (.k (.int .i64 1)),no⟩,⟨some 9,.mv (.t 17),no⟩]))))))) (.seq (.seq
 (.reg [⟨some 18,.fld 2 (.t 1),no⟩,⟨some 19,.ld false 1 (.t 18),no⟩,⟨some 20,.bin .neq (.t 19) (.k (.str [])),no⟩]) (.cond (.t 20)
 (.reg [⟨some 21,.mv (.t 3),no⟩,⟨some 22,.fld 2 (.t 1),no⟩,⟨some 23,.ld false 1 (.t 22),no⟩,⟨some 24,.bsl 1 [.t 23],no⟩,⟨some 25,.app 16 1 (.t 21) (.t 24),no⟩,⟨some 3,.mv (.t 25),no⟩]) .skip)) (.seq
 (.reg [⟨some 26,.mv (.t 3),no⟩,⟨some 27,.call (.k (.fn (.func 282) [] [])) [.t 26],no⟩,⟨some 2,.mv (.t 27),no⟩]) .ret)))))⟩
theorem a231_ok:compFn Tryz.prog Tryz.f231=some a231:=by kernel_rfl
def a269:AFn:=
⟨48,[.t 2],(.seq
 (.reg [⟨some 1,.boxv (.t 0),no⟩,⟨some 2,.mv (.k (.nil 1)),no⟩]) (.seq
 (.reg [⟨some 6,.bsl 1 [],no⟩,⟨some 3,.mv (.t 6),no⟩]) (.seq (.seq
 (.reg [⟨some 4,.mv (.k (.int .i64 0)),no⟩]) (.blk 0 (.loop (.seq (.seq
 (.reg [⟨some 7,.mv (.t 4),no⟩,⟨some 8,.fld 1 (.t 1),no⟩,⟨some 9,.ld false 1 (.t 8),no⟩,⟨some 10,.len false (.t 9),no⟩,⟨some 11,.bin .lss (.t 7) (.t 10),no⟩]) (.cond (.t 11) .skip (.exit 0))) (.seq (.blk 1 (.seq
 (.reg [⟨some 5,.mv (.k (.int .i64 0)),no⟩]) (.blk 2 (.loop (.seq (.seq
 (.reg [⟨some 14,.mv (.t 5),no⟩,⟨some 15,.fld 1 (.t 1),no⟩,⟨some 16,.ld false 1 (.t 15),no⟩,⟨some 17,.mv (.t 4),no⟩,⟨some 18,.ixa 2 (.t 16) (.t 17),no⟩,⟨some 19,.fld 1 (.t 18),no⟩,⟨some 20,.ld false 1 (.t 19),no⟩,⟨some 21,.len false (.t 20),no⟩,⟨some 22,.bin .lss (.t 14) (.t 21),no⟩]) (.cond (.t 22) .skip (.exit 2))) (.seq (.blk 3
 (.reg [⟨some 25,.mv (.t 3),no⟩,⟨some 26,.fld 1 (.t 1),no⟩,⟨some 27,.ld false 1 (.t 26),no⟩,⟨some 28,.mv (.t 4),no⟩,⟨some 29,.ixa 2 (.t 27) (.t 28),no⟩,⟨some 30,.fld 1 (.t 29),no⟩,⟨some 31,.ld false 1 (.t 30),no⟩,⟨some 32,.mv (.t 5),no⟩,⟨some 33,.ixa 2 (.t 31) (.t 32),no⟩,⟨some 34,.fld 1 (.t 33),no⟩,⟨some 35,.ld false 1 (.t 34),no⟩,⟨some 36,.bsl 1 [.t 35],no⟩,⟨some 37,.app 16 1 (.t 25) (.t 36),no⟩,⟨some 3,.mv (.t 37),no⟩]))
 (.reg [⟨some 23,.mv (.t 5),no⟩,⟨some 24,.bin .add (.t 23) (.k (.int .i64 1)),no⟩,⟨some 5,.mv (.t 24),no⟩])))))))
 (.reg [⟨some 12,.mv (.t 4),no⟩,⟨some 13,.bin .add (.t 12) (.k (.int .i64 1)),no⟩,⟨some 4,.mv (.t 13),no⟩])))))) (.seq (.seq
 (.reg [⟨some 38,.fld 2 (.t 1),no⟩,⟨some 39,.ld false 1 (.t 38),no⟩,⟨some 40,.bin .neq (.t 39) (.k (.str [])),no⟩]) (.cond (.t 40)
 (.reg [⟨some 41,.mv (.t 3),no⟩,⟨some 42,.fld 2 (.t 1),no⟩,⟨some 43,.ld false 1 (.t 42),no⟩,⟨some 44,.bsl 1 [.t 43],no⟩,⟨some 45,.app 16 1 (.t 41) (.t 44),no⟩,⟨some 3,.mv (.t 45),no⟩]) .skip)) (.seq
 (.reg [⟨some 46,.mv (.t 3),no⟩,⟨some 47,.call (.k (.fn (.func 294) [] [])) [.t 46],no⟩,⟨some 2,.mv (.t 47),no⟩]) .ret)))))⟩
theorem a269_ok:compFn Tryz.prog Tryz.f269=some a269:=by kernel_rfl
def termN (s:DSum):List Str:=s.Terms.map (·.Name)
def sumsN:List DSum→List Str
 | []=>[]
 | s::l=>termN s++sumsN l
def argN0 (a:DArg):List Str:=sumsN a.Heads++if a.Base=[] then [] else [a.Base]
theorem sumsN_len:∀ l:List DSum,(sumsN l).length≤wL wSum l
 | []=>Nat.zero_le _
 | s::l=>by
   have h1:=sumsN_len l
   have h2:=wL_len wTerm s.Terms
   unfold wL at h1 ⊢
   simp only [sumsN,termN,List.length_append,List.length_map,List.length_cons,List.map_cons,List.sum_cons]
   rw [show wSum s=wL wTerm s.Terms from rfl]
   omega
theorem argN0_len (a:DArg) (hw:wArg a≤1048576):(argN0 a).length≤1048576:=by
 have h1:=sumsN_len a.Heads
 unfold wArg wSumS at hw
 unfold argN0
 rw [List.length_append]
 split
 · simp; omega
 · rename_i hb
   have:0<a.Base.length:=List.length_pos_iff.2 hb
   simp; omega
set_option maxRecDepth 20000 in
theorem k_sumNames (x:DSum) (hw:x.Terms.length≤1048576):Holds Tryz.prog 227 [.agg (rASum x)] (fun r=>r = .us 1 (strsR (termN x))):=by
 refine holds_of_run Tryz.func227 a227_ok rfl (by simp [a227]) ?_
 simp [a227,rASum]
 intro _
 refine rL_forO [7,8] 9 x.Terms.length (fun i s h n=>(i=0∧s 3 = .nil 1)∨∃ id,id<n∧s 3 = .ref id 0 i∧h id=some ⟨false,1,(strsR (termN x)).take i⟩) (by unfold LIM; omega) (by simp) (by simp) ?_ ?_
 · rintro i s h n R hi hg hk s9 hw9 hJ hR _ _
   simp at hk
   have htk:(strsR (termN x)).take (i+1)=(strsR (termN x)).take i++[[.str (x.Terms[i]).Name]]:=by
     rw [List.take_succ_eq_append_getElem (by simpa [termN] using hi)]; simp [strsR,termN]
   rcases hJ with ⟨rfl,s3⟩ | ⟨id,hid,s3,eid⟩
   · simp [hk,s9,hi,hw9,s3,rATerm]
     refine ⟨by unfold LIM; omega,?_⟩
     exact hR _ _ _ (by simp [hk]) (by simp; exact wrap64 (by omega)) (.inr ⟨n+2,by omega,by simp,by simp [htk]⟩)
   · have n0:¬id=n:=by omega
     have n1:¬id=n+1:=by omega
     have n3:¬n+1=id:=by omega
     have n4:¬n=id:=by omega
     simp [hk,s9,hi,hw9,s3,rATerm,eid,n0,n1,n3,n4]
     refine ⟨by simp [termN]; omega,by unfold LIM; omega,?_⟩
     exact hR _ _ _ (by simp [hk]) (by simp) (.inr ⟨n+2,by omega,by simp,by simp [htk,List.take_take]⟩)
 · rintro s h n R hk s9 hJ hret hX
   simp at hk
   simp [hk,s9]
   refine hX _ _ _ _ ?_
   rcases hJ with ⟨h0,s3⟩ | ⟨id,hid,s3,eid⟩
   · have:x.Terms=[]:=List.eq_nil_of_length_eq_zero h0
     simp [s3,termN,this,strsR]
   · have hl:(termN x).length=x.Terms.length:=by simp [termN]
     have ht:List.take x.Terms.length (strsR (termN x))=strsR (termN x):=List.take_of_length_le (by simp [hl])
     simp [s3,eid,hl,ht]
set_option maxRecDepth 20000 in
set_option maxHeartbeats 1000000 in
theorem k_NamesOf (a:DArg) (hw:wArg a≤1048576):Holds Tryz.prog 231 [.agg (rAArg a)] (fun r=>r = .us 1 (strsR (snames (argN0 a)))):=by
 have hw':=hw
 unfold wArg wSumS at hw'
 have hsl:=sumsN_len a.Heads
 have hll:=wL_len wSum a.Heads
 refine holds_of_run Tryz.func231 a231_ok rfl (by simp [a231]) ?_
 simp [a231,rAArg]
 intro _
 generalize hT:sumsN a.Heads=T at *
 have hTl:T.length≤1048576:=by omega
 refine rL_forO [1,7,8] 9 a.Heads.length (fun i s h n=>h 0=some ⟨true,3,[[.bool a.Lst,.sl 2 (a.Heads.map rASum),.str a.Base]]⟩∧0<n∧∃ acc:List Str,acc++sumsN (a.Heads.drop i)=T∧((acc=[]∧s 3 = .nil 1)∨∃ id,0<id∧id<n∧s 3 = .ref id 0 acc.length∧h id=some ⟨false,1,strsR acc⟩))
   (by unfold LIM; omega) (by simp) ⟨by simp,by simp,[],by simpa using hT,.inl ⟨rfl,by simp⟩⟩ ?_ ?_
 · rintro i s h n R hi hg hk s9 hw9 ⟨e0,hn,acc,hJ,hJ2⟩ hR _ _
   simp at hk
   rw [List.drop_eq_getElem_cons hi] at hJ
   simp only [sumsN] at hJ
   have hal:=congrArg List.length hJ
   simp only [List.length_append] at hal
   have hwt:(a.Heads[i]).Terms.length≤1048576:=by
     have:=wL_mem (w:=wSum) (List.getElem_mem hi)
     rw [show wSum a.Heads[i]=wL wTerm (a.Heads[i]).Terms from rfl] at this
     have:=wL_len wTerm (a.Heads[i]).Terms
     omega
   have z0:¬0=n:=by omega
   have z1:¬0=n+1:=by omega
   have z2:¬0=n+1+1:=by omega
   have z3:¬n=0:=by omega
   rcases hJ2 with ⟨rfl,s3⟩ | ⟨id,hid0,hid,s3,eid⟩
   · simp [hk,s9,hi,hw9,s3,rASum]
     first|refine callD_of (k_sumNames (a.Heads[i]'hi) hwt) (by first|(simp [rASum];done)|rfl) ?_|refine call_of (k_sumNames (a.Heads[i]'hi) hwt) (by first|(simp [rASum];done)|rfl) ?_
     rintro r rfl
     simp [hk,s9,hi,hw9,s3]
     refine ⟨by unfold LIM; omega,?_⟩
     exact hR _ _ _ (by simp [hk]) (by simp) ⟨by simp [e0,z0,z1,z2,z3],by omega,termN a.Heads[i],by simpa using hJ,.inr ⟨n+2,by omega,by omega,by simp,by simp⟩⟩
   · have n0:¬id=n:=by omega
     have n1:¬id=n+1:=by omega
     have n2:¬id=n+1+1:=by omega
     have n3:¬n+1=id:=by omega
     have n4:¬n=id:=by omega
     have n5:¬0=id:=by omega
     have n6:¬id=0:=by omega
     simp [hk,s9,hi,hw9,s3,rASum,eid,n0]
     first|refine callD_of (k_sumNames (a.Heads[i]'hi) hwt) (by first|(simp [rASum];done)|rfl) ?_|refine call_of (k_sumNames (a.Heads[i]'hi) hwt) (by first|(simp [rASum];done)|rfl) ?_
     rintro r rfl
     simp [hk,s9,hi,hw9,s3,eid,n0,n1,n2,n3,n4,n5,n6]
     refine ⟨by unfold LIM; omega,?_⟩
     exact hR _ _ _ (by simp [hk]) (by simp) ⟨by simp [e0,z0,z1,z2,z3,n5],by omega,acc++termN a.Heads[i],by rw [List.append_assoc]; exact hJ,.inr ⟨n+2,by omega,by omega,by simp,by simp [strsR]⟩⟩
 · rintro s h n R hk s9 ⟨e0,hn,acc,hJ,hJ2⟩ hret hX
   simp at hk
   rw [List.drop_eq_nil_of_le (by omega)] at hJ
   simp only [sumsN,List.append_nil] at hJ
   subst hJ
   simp [hk,s9]
   refine hX _ _ _ _ ?_
   have hA:argN0 a=acc++if a.Base=[] then [] else [a.Base]:=by unfold argN0; rw [hT]
   have hAl:(argN0 a).length≤1048576:=argN0_len a hw
   rw [hA] at hAl ⊢
   clear hX hret
   by_cases hb:a.Base=[]
   · simp only [hb,if_true,List.append_nil] at hAl ⊢
     rcases hJ2 with ⟨rfl,s3⟩ | ⟨id,hid0,hid,s3,eid⟩
     · simp [hk,e0,hb,s3]
       first|refine callD_of (k_SortNames [] hAl) (by first|(simp [strsR];done)|rfl) ?_|refine call_of (k_SortNames [] hAl) (by first|(simp [strsR];done)|rfl) ?_
       rintro r rfl
       simp
     · simp [hk,e0,hb,s3]
       first|refine callD_of (k_SortNames acc hAl) (by first|(simp [eid];done)|rfl) ?_|refine call_of (k_SortNames acc hAl) (by first|(simp [eid];done)|rfl) ?_
       rintro r rfl
       simp
   · simp only [hb,if_false] at hAl ⊢
     have hlim:(acc.length+1)*16≤LIM:=by simp at hAl; unfold LIM; omega
     rcases hJ2 with ⟨rfl,s3⟩ | ⟨id,hid0,hid,s3,eid⟩
     · have z0:¬0=n:=by omega
       simp [hk,e0,hb,s3]
       refine ⟨by unfold LIM; omega,?_⟩
       first|refine callD_of (k_SortNames ([]++[a.Base]) hAl) (by first|(simp [strsR];done)|rfl) ?_|refine call_of (k_SortNames ([]++[a.Base]) hAl) (by first|(simp [strsR];done)|rfl) ?_
       rintro r rfl
       simp
     · have n0:¬id=n:=by omega
       have n3:¬n=id:=by omega
       simp [hk,e0,hb,s3,eid,n0,n3]
       refine ⟨hlim,?_⟩
       have ht:List.take (acc.length+1) (strsR acc++[[AV.str a.Base]])=strsR (acc++[a.Base]):=by rw [List.take_of_length_le (by simp)]; simp [strsR]
       first|refine callD_of (k_SortNames (acc++[a.Base]) hAl) (by first|(simp [ht];done)|rfl) ?_|refine call_of (k_SortNames (acc++[a.Base]) hAl) (by first|(simp [ht];done)|rfl) ?_
       rintro r rfl
       simp
set_option maxRecDepth 20000 in
set_option maxHeartbeats 1000000 in
theorem ks_NamesOf (a:DArg) (hw:wArg a≤1048576):Holds Tryz.prog 269 [.agg (rAArg a)] (fun r=>r = .us 1 (strsR (snames (argN0 a)))):=by
 have hw':=hw
 unfold wArg wSumS at hw'
 have hsl:=sumsN_len a.Heads
 have hll:=wL_len wSum a.Heads
 refine holds_of_run Tryz.func269 a269_ok rfl (by simp [a269]) ?_
 simp [a269,rAArg]
 generalize hT:sumsN a.Heads=T at *
 have hTl:T.length≤1048576:=by omega
 refine rL_forO [1] 4 a.Heads.length (fun i s h n=>h 0=some ⟨true,3,[[.bool a.Lst,.sl 2 (a.Heads.map rASum),.str a.Base]]⟩∧0<n∧∃ (acc:List Str) (id:Nat),acc++sumsN (a.Heads.drop i)=T∧0<id∧id<n∧s 3 = .ref id 0 acc.length∧h id=some ⟨false,1,strsR acc⟩)
   (by unfold LIM; omega) (by simp) ⟨by simp,by simp,[],1,by simpa using hT,by omega,by omega,by simp,by simp [strsR]⟩ ?_ ?_
 · rintro i s h n R hi hg hk s4 hw4 ⟨e0,hn,acc,id,hJ,hid0,hid,s3,eid⟩ hR _ _
   simp at hk
   rw [List.drop_eq_getElem_cons hi] at hJ
   simp only [sumsN] at hJ
   have hwt:(a.Heads[i]).Terms.length≤1048576:=by
     have:=wL_mem (w:=wSum) (List.getElem_mem hi)
     rw [show wSum a.Heads[i]=wL wTerm (a.Heads[i]).Terms from rfl] at this
     have:=wL_len wTerm (a.Heads[i]).Terms
     omega
   simp [hk,s4,hi,hg,e0]
   intro _
   refine rL_forO [1,4] 5 (a.Heads[i]).Terms.length (fun j s h n=>h 0=some ⟨true,3,[[.bool a.Lst,.sl 2 (a.Heads.map rASum),.str a.Base]]⟩∧0<n∧∃ (acc:List Str) (id:Nat),acc++((termN a.Heads[i]).drop j++sumsN (a.Heads.drop (i+1)))=T∧0<id∧id<n∧s 3 = .ref id 0 acc.length∧h id=some ⟨false,1,strsR acc⟩)
     (by unfold LIM; omega) (by simp) ⟨by simp [e0],hn,acc,id,by simpa using hJ,hid0,hid,by simp [s3],by simp [eid]⟩ ?_ ?_
   · rintro j s2 h2 n2 R2 hj hgj hk2 s5 hw5 ⟨e02,hn2,acc2,id2,hJ2,hid02,hid2,s32,eid2⟩ hR2 _ _
     simp at hk2
     rw [List.drop_eq_getElem_cons (by simpa [termN] using hj)] at hJ2
     have hal:=congrArg List.length hJ2
     simp at hal
     have n0:¬id2=n2:=by omega
     have n1:¬id2=n2+1:=by omega
     have n3:¬n2+1=id2:=by omega
     have n4:¬n2=id2:=by omega
     have n5:¬0=id2:=by omega
     have n6:¬id2=0:=by omega
     have z0:¬0=n2:=by omega
     have z1:¬0=n2+1:=by omega
     have z3:¬n2=0:=by omega
     simp [hk2,hk,s4,s5,hj,hgj,hw5,hi,e02,rASum,rATerm,s32,eid2,n0,n1,n3,n4,n5,n6,z0,z1,z3]
     intro _
     refine ⟨by unfold LIM; omega,?_⟩
     refine hR2 _ _ _ (by simp [hk2,hk,s4]) (by simp) ⟨by simp [e02,n5,z0,z1,z3],by omega,acc2++[(a.Heads[i]).Terms[j].Name],n2+1,?_,by omega,by omega,by simp,by simp [strsR]⟩
     rw [←hJ2]
     simp [termN]
   · rintro s2 h2 n2 R2 hk2 s5 ⟨e02,hn2,acc2,id2,hJ2,hid02,hid2,s32,eid2⟩ hret2 hX2
     simp at hk2
     rw [List.drop_eq_nil_of_le (by simp [termN]),List.nil_append] at hJ2
     simp [hk2,hk,s4,s5,hi,e02,rASum]
     intro _
     refine hX2 _ _ _ _ ?_
     simp [hk2,hk,s4,hw4]
     exact hR _ _ _ (by simp [hk2,hk]) (by simp) ⟨e02,hn2,acc2,id2,hJ2,hid02,hid2,by simp [s32],eid2⟩
 · rintro s h n R hk s4 ⟨e0,hn,acc,id,hJ,hid0,hid,s3,eid⟩ hret hX
   simp at hk
   rw [List.drop_eq_nil_of_le (by omega)] at hJ
   simp only [sumsN,List.append_nil] at hJ
   subst hJ
   simp [hk,s4,e0]
   intro _
   refine hX _ _ _ _ ?_
   have hA:argN0 a=acc++if a.Base=[] then [] else [a.Base]:=by unfold argN0; rw [hT]
   have hAl:(argN0 a).length≤1048576:=argN0_len a hw
   rw [hA] at hAl ⊢
   clear hX hret
   by_cases hb:a.Base=[]
   · simp only [hb,if_true,List.append_nil] at hAl ⊢
     simp [hk,e0,hb,s3]
     first|refine callD_of (ks_SortNames acc hAl) (by first|(simp [eid];done)|rfl) ?_|refine call_of (ks_SortNames acc hAl) (by first|(simp [eid];done)|rfl) ?_
     rintro r rfl
     simp
   · simp only [hb,if_false] at hAl ⊢
     have hlim:(acc.length+1)*16≤LIM:=by simp at hAl; unfold LIM; omega
     have n0:¬id=n:=by omega
     have n3:¬n=id:=by omega
     simp [hk,e0,hb,s3,eid,n0,n3]
     refine ⟨hlim,?_⟩
     have ht:List.take (acc.length+1) (strsR acc++[[AV.str a.Base]])=strsR (acc++[a.Base]):=by rw [List.take_of_length_le (by simp)]; simp [strsR]
     first|refine callD_of (ks_SortNames (acc++[a.Base]) hAl) (by first|(simp [ht];done)|rfl) ?_|refine call_of (ks_SortNames (acc++[a.Base]) hAl) (by first|(simp [ht];done)|rfl) ?_
     rintro r rfl
     simp
end Go.Proofs.YtilcageplifbgaaGreat

namespace Go.Proofs.YtilcageplifbgaaGreat
set_option linter.all false
open Go Go.RowKit Go.Proofs
theorem setO_s {s:Env} {k:Nat} {v:AV} : setO s (some k) v k=v:=by simp
theorem setO_n {s:Env} {k j:Nat} {v:AV} (hj:¬j=k):setO s (some k) v j=s j:=by simp [hj]
theorem upd_s {α:Type} {f:Nat→α} {k:Nat} {v:α} : upd f k v k=v:=by simp
theorem upd_n {α:Type} {f:Nat→α} {k j:Nat} {v:α} (hj:¬j=k):upd f k v j=f j:=by simp [hj]
attribute [simp ↓ high] setO_s setO_n upd_s upd_n
def ldv1 (raw:Bool) (o:Option AV):Option AV:=if raw then o else o.map dr
@[simp ↓ high] theorem ldv1_t (o:Option AV):ldv1 true o=o:=by unfold ldv1; rw [if_pos (by simp)]
@[simp ↓ high] theorem ldv1_f (o:Option AV):ldv1 false o=o.map dr:=by unfold ldv1; rw [if_neg (by simp)]
def ldvG (raw b:Bool) (l:List AV):Option AV:=if b then some (.agg (if raw then l else drl l)) else Option.none
@[simp ↓ high] theorem ldvG_t (l:List AV):ldvG true true l=some (.agg l):=by unfold ldvG; rw [if_pos (by simp),if_pos (by simp)]
@[simp ↓ high] theorem ldvG_f (l:List AV):ldvG false true l=some (.agg (drl l)):=by unfold ldvG; rw [if_pos (by simp),if_neg (by simp)]
@[simp ↓ high] theorem ldv_1 (raw:Bool) (row:List AV) (c:Nat):ldv raw false row c 1=ldv1 raw (row[c]?):=by
 unfold ldv ldv1
 by_cases h:c<row.length
 · rw [if_pos (by omega),if_neg (by simp),if_pos rfl,List.getElem?_eq_getElem h]; cases raw <;> simp
 · rw [if_neg (by omega),List.getElem?_eq_none (by omega)]; cases raw <;> rfl
@[simp ↓ high] theorem ldv_G (raw:Bool) (row:List AV) (c sz:Nat):ldv raw true row c sz=ldvG raw (decide (c+sz≤row.length)) ((row.drop c).take sz):=by
 unfold ldv ldvG
 by_cases h:c+sz≤row.length
 · simp [h]
 · simp [h]
def cutK (P:Program) (ks:List Kt) (Q:Fin) (keep:List Nat) (J:Env→Prop) (s0:Env) (h0:Heap) (n0:Nat):Fin:=fun e s h n=>match e with
 | .normal=>(∀ j∈keep,s j=s0 j)∧J s∧h=h0∧n=n0
 | e=>kont P ks e s h n Q
section
variable {P:Program} {a b:AC} {ks:List Kt} {s:Env} {h:Heap} {n:Nat} {Q:Fin}
@[simp ↓] theorem cutK_normal {keep:List Nat} {J:Env→Prop} {s0 s':Env} {h0 h':Heap} {n0 n':Nat} : cutK P ks Q keep J s0 h0 n0 .normal s' h' n'=((∀ j∈keep,s' j=s0 j)∧J s'∧h'=h0∧n'=n0):=propext Iff.rfl
@[simp ↓] theorem cutK_ret {keep:List Nat} {J:Env→Prop} {s0 s':Env} {h0 h':Heap} {n0 n':Nat} : cutK P ks Q keep J s0 h0 n0 .ret s' h' n'=kont P ks .ret s' h' n' Q:=propext Iff.rfl
@[simp ↓] theorem cutK_exit {keep:List Nat} {J:Env→Prop} {s0 s':Env} {h0 h':Heap} {n0 n' i:Nat} : cutK P ks Q keep J s0 h0 n0 (.exit i) s' h' n'=kont P ks (.exit i) s' h' n' Q:=propext Iff.rfl
theorem rC_cut (keep:List Nat) (J:Env→Prop) (h1:rC P a [] s h n (cutK P (.seq b::ks) Q keep J s h n)) (h2:∀ s',(∀ j∈keep,s' j=s j)→J s'→rC P b ks s' h n Q):rC P (.seq a b) ks s h n Q:=by
 rw [rC_seq]
 unfold rC at h1 ⊢
 refine awp_mono h1 ?_
 intro e s' h' n' hq
 cases e
 · obtain ⟨g1,g2,rfl,rfl⟩:=hq
   exact h2 s' g1 g2
 · exact hq
 · exact hq
def cutH (P:Program) (ks:List Kt) (Q:Fin) (keep:List Nat) (J:Env→Heap→Nat→Prop) (s0:Env):Fin:=fun e s h n=>match e with
 | .normal=>(∀ j∈keep,s j=s0 j)∧J s h n
 | e=>kont P ks e s h n Q
@[simp ↓] theorem cutH_normal {keep:List Nat} {J:Env→Heap→Nat→Prop} {s0 s':Env} {h':Heap} {n':Nat} : cutH P ks Q keep J s0 .normal s' h' n'=((∀ j∈keep,s' j=s0 j)∧J s' h' n'):=propext Iff.rfl
@[simp ↓] theorem cutH_ret {keep:List Nat} {J:Env→Heap→Nat→Prop} {s0 s':Env} {h':Heap} {n':Nat} : cutH P ks Q keep J s0 .ret s' h' n'=kont P ks .ret s' h' n' Q:=propext Iff.rfl
@[simp ↓] theorem cutH_exit {keep:List Nat} {J:Env→Heap→Nat→Prop} {s0 s':Env} {h':Heap} {n' i:Nat} : cutH P ks Q keep J s0 (.exit i) s' h' n'=kont P ks (.exit i) s' h' n' Q:=propext Iff.rfl
theorem rC_cutH (keep:List Nat) (J:Env→Heap→Nat→Prop) (h1:rC P a [] s h n (cutH P (.seq b::ks) Q keep J s)) (h2:∀ s' h' n',(∀ j∈keep,s' j=s j)→J s' h' n'→rC P b ks s' h' n' Q):rC P (.seq a b) ks s h n Q:=by
 rw [rC_seq]
 unfold rC at h1 ⊢
 refine awp_mono h1 ?_
 intro e s' h' n' hq
 cases e
 · exact h2 s' h' n' hq.1 hq.2
 · exact hq
 · exact hq
theorem rC_pass {c:Nat} {e:AC} (hc:s c = .bool true) (h1:rC P b ks s h n Q):rC P (.seq (.cond (.t c) .skip e) b) ks s h n Q:=by
 rw [rC_seq,rC_cond]
 have:ev s (.t c) = .bool true:=hc
 rw [this]
 simpa using h1
theorem rC_stop {c id:Nat} (hc:s c = .bool false) (h1:kont P ks (.exit id) s h n Q):rC P (.seq (.cond (.t c) .skip (.exit id)) b) ks s h n Q:=by
 rw [rC_seq,rC_cond]
 have:ev s (.t c) = .bool false:=hc
 rw [this]
 simpa using h1
theorem rC_pass1 {c:Nat} {e:AC} {ks:List Kt} (hc:s c = .bool true) (h1:kont P ks .normal s h n Q):rC P (.cond (.t c) .skip e) ks s h n Q:=by
 rw [rC_cond]
 have:ev s (.t c) = .bool true:=hc
 rw [this]
 simpa using h1
theorem rC_stop1 {c id:Nat} {ks:List Kt} (hc:s c = .bool false) (h1:kont P ks (.exit id) s h n Q):rC P (.cond (.t c) .skip (.exit id)) ks s h n Q:=by
 rw [rC_cond]
 have:ev s (.t c) = .bool false:=hc
 rw [this]
 simpa using h1
theorem rC_blkI {id:Nat} (h1:rC P a (.blk id::ks) s h n Q):rC P (.blk id a) ks s h n Q:=by rw [rC_blk]; exact h1
theorem rC_seqI (h1:rC P a (.seq b::ks) s h n Q):rC P (.seq a b) ks s h n Q:=by rw [rC_seq]; exact h1
end
def letterB (c:UInt8):Bool:=decide ((97:Int)≤c.toNat)&&decide ((c.toNat:Int)≤122)
def digitB (c:UInt8):Bool:=decide ((48:Int)≤c.toNat)&&decide ((c.toNat:Int)≤57)
def shapeFrom:Nat→Str→Bool
 | _,[]=>true
 | i,c::l=>(letterB c||(decide (i≠0)&&digitB c))&&shapeFrom (i+1) l
def hasS (l:List Str) (s:Str):Bool:=l.any fun x=>x==s
def resvL:List Str:=[[102,117,110],[112,114,101],[114,117,108,101],[114,101,116,117,114,110],[110,105,108]]
def resv (s:Str):Bool:=hasS resvL s
def okName (s:Str):Bool:=inR s.length 1 8 && !resv s&&shapeFrom 0 s
def listName (s:Str):Bool:=okName s&&s.getD (s.length - 1) 0==115
def intName (s:Str):Bool:=okName s && !listName s
def fits (n:Int):Bool:=inR n (-1000000) 1000000
theorem okName_len {s:Str} (h:okName s=true):1≤s.length∧s.length≤8:=by
 unfold okName inR at h; simp at h; omega
def termsOk:Option Str→List DTerm→Bool
 | _,[]=>true
 | pr,t::l=>(!(t.Coeff==0)&&fits t.Coeff&&intName t.Name&&(match pr with | Option.none=>true | some q=>Op.bytesLess q t.Name))&&termsOk (some t.Name) l
def okSum (s:DSum):Bool:=fits s.Const&&decide (s.Terms.length≤4)&&termsOk Option.none s.Terms
def okArg (a:DArg):Bool:=a.Heads.all okSum&&(if a.Lst then decide (a.Heads.length≤3)&&(a.Base==[]||listName a.Base) else decide (a.Heads.length=1)&&a.Base==[])
def allS (l:List Str) (scope:List Str):Bool:=l.all (hasS scope)
def argOk (a:DArg) (list:Bool) (scope:List Str):Bool:=okArg a&&(a.Lst==list)&&allS (snames (argN0 a)) scope
def guardOk (scope:List Str) (g:DSum):Bool:=okSum g&&allS (termN g) scope
def distFrom (met:List Str):List Str→Bool
 | []=>true
 | s::l => !hasS met s&&distFrom (met++[s]) l
def distB (l:List Str):Bool:=distFrom [] l
def patB (params:List Str) (q:DPattern):Bool:=hasS params q.Lst&&listName q.Lst&&(if q.Cons then intName q.Head&&listName q.Tail else q.Head==[]&&q.Tail==[])
def patsFrom (params:List Str) (met:List Str):List DPattern→Bool
 | []=>true
 | q::l=>(patB params q && !hasS met q.Lst)&&patsFrom params (met++[q.Lst]) l
def argsOk (scope:List Str):List DArg→List Str→Bool
 | a::l,s::m=>argOk a (listName s) scope&&argsOk scope l m
 | _,_=>true
def callB (p:DProgram) (c:DCall) (scope:List Str):Bool:=
 (findFn p.Functions c.Func).isSome&&decide (c.Args.length=((findFn p.Functions c.Func).getD fn0).Params.length)&&(if ((findFn p.Functions c.Func).getD fn0).ListResult then listName c.Bind else intName c.Bind) &&
   argsOk scope c.Args ((findFn p.Functions c.Func).getD fn0).Params
def callsFrom (p:DProgram) (r:DRule):Nat→List DCall→Bool
 | _,[]=>true
 | k,c::l=>callB p c (scopeOf p r k)&&callsFrom p r (k+1) l
def ruleOk (p:DProgram) (r:DRule):Bool:=
 (findFn p.Functions r.Func).isSome&&patsFrom ((findFn p.Functions r.Func).getD fn0).Params [] r.Patterns&&decide (r.Guards.length≤2)&&r.Guards.all (guardOk (scopeOf p r 0))&&decide (r.Calls.length≤2) &&
   callsFrom p r 0 r.Calls&&argOk r.Result ((findFn p.Functions r.Func).getD fn0).ListResult (scopeOf p r r.Calls.length)&&distB (scopeOf p r r.Calls.length)
def fnOk (f:DFunction):Bool:=intName f.Name&&decide (f.Params.length≤2)&&(f.Params.all okName&&distB f.Params)&&decide (f.Pre.length≤2)&&f.Pre.all fun l=>okLin l f.Params.length
def fnsFrom (met:List Str):List DFunction→Bool
 | []=>true
 | f::l=>(fnOk f && !hasS met f.Name)&&fnsFrom (met++[f.Name]) l
def progOk (p:DProgram):Bool:=inR p.Functions.length 1 3&&fnsFrom [] p.Functions&&decide (p.Rules.length≤8)&&p.Rules.all (ruleOk p)
theorem fnsFrom_eq:∀ (l:List DFunction) (met:List Str),fnsFrom met l=(l.all fnOk&&distFrom met (l.map (·.Name)))
 | [],met=>rfl
 | f::l,met=>by
   simp only [fnsFrom,fnsFrom_eq l,List.all_cons,List.map_cons,distFrom]
   cases fnOk f <;> cases hasS met f.Name <;> simp
theorem all_mem {α:Type} {p:α→Bool} {l m:List α} (h:∀ x,x∈l↔x∈m):l.all p=m.all p:=by
 rw [Bool.eq_iff_iff,List.all_eq_true,List.all_eq_true]
 exact ⟨fun g x hx=>g x ((h x).2 hx),fun g x hx=>g x ((h x).1 hx)⟩
theorem allS_snames (l scope:List Str):allS (snames l) scope=allS l scope:=all_mem (snames_spec l).2
theorem argN0_guard (s:DSum):argN0 ⟨false,[s],[]⟩=termN s:=by simp [argN0,sumsN]
theorem okArg_guard (s:DSum):okArg ⟨false,[s],[]⟩=okSum s:=by simp [okArg]
def withoutL (l scope:List Str):List Str:=l.filter fun s => !hasS scope s
theorem withoutL_nil (l scope:List Str):decide ((withoutL l scope).length=0)=allS l scope:=by
 unfold withoutL allS
 induction l with
 | nil=>rfl
 | cons x l ih=>
   simp only [List.filter_cons,List.all_cons]
   cases hx:hasS scope x
   · simp
   · simp only [Bool.not_true,Bool.false_eq_true,if_false,Bool.true_and]; exact ih
theorem idx_first {l:List DFunction} {i:Nat} (hi:i<l.length):decide (idxFrom (fun f=>f.Name==(l[i]).Name) l 0=(i:Int)) = !hasS ((l.take i).map (·.Name)) (l[i]).Name:=by
 have key:∀ (l:List DFunction) (i k:Nat) (hi:i<l.length) (nm:Str),(l[i]).Name=nm→(idxFrom (fun f=>f.Name==nm) l k=((k+i:Nat):Int)↔hasS ((l.take i).map (·.Name)) nm=false):=by
   intro l
   induction l with
   | nil=>intro i k hi; simp at hi
   | cons f l ih=>
     intro i k hi nm hnm
     cases i with
     | zero=>
       simp only [List.getElem_cons_zero] at hnm
       simp [idxFrom,hnm,hasS]
     | succ i=>
       simp only [List.getElem_cons_succ] at hnm
       simp only [idxFrom,List.take_succ_cons,List.map_cons,hasS,List.any_cons]
       by_cases hf:f.Name==nm
       · simp [hf]; omega
       · have:=ih i (k+1) (by simpa using hi) nm hnm
         simp only [hasS] at this
         simp only [hf,Bool.false_eq_true,if_false,Bool.false_or]
         rw [←this]
         constructor <;> intro h <;> rw [h] <;> congr 1 <;> omega
 have:=key l i 0 hi _ rfl
 rw [Nat.zero_add] at this
 cases hb:hasS ((l.take i).map (·.Name)) (l[i]).Name
 · simp [this.2 hb]
 · simp only [Bool.not_true,decide_eq_false_iff_not]
   intro h
   rw [this.1 h] at hb; cases hb
end Go.Proofs.YtilcageplifbgaaGreat

namespace Go.Proofs.YtilcageplifbgaaGreat
set_option linter.all false
open Go Go.RowKit Go.Proofs
abbrev SEnv:=List (Str×DLin)
def eget (d:DLin) (E:SEnv) (x:Str):DLin:=((E.find? fun e=>e.1==x).map (·.2)).getD d
def eset:SEnv→Str→DLin→SEnv
 | [],x,l=>[(x,l)]
 | e::E,x,l=>if e.1=x then (x,l)::E else e::eset E x l
def varL (i n:Int):DLin:=if inR n 0 8&&inR i 0 (n - 1) then ⟨0,(List.replicate n.toNat 0).set i.toNat 1⟩ else lin0
def addS (a:DLin) (k:Int) (b:DLin):DLin:=(addScaled a k b).getD lin0
def sum0:DSum:=⟨0,[]⟩
structure MS where
 E:SEnv
 nx:Nat
 rows:List DLin
 pars:List DLin
 args:List (List DLin)
def sumI (E:SEnv) (n:Nat) (s:DSum):DLin:=s.Terms.foldl (fun o t=>addS o t.Coeff (eget lin0 E t.Name)) (constLin s.Const n)
def argI (E:SEnv) (n:Nat) (a:DArg):DLin:=
 if a.Lst then (if a.Base=[] then constLin a.Heads.length n else addS (constLin a.Heads.length n) 1 (eget lin0 E a.Base)) else sumI E n (a.Heads.getD 0 sum0)
def iPar (n:Nat) (st:MS) (x:Str):MS:=
 ⟨eset st.E x (varL st.nx n),st.nx+1,st.rows++(if listName x then [varL st.nx n] else []),st.pars++[varL st.nx n],st.args⟩
def preI (ps:List DLin) (n:Nat):List DLin→Option (List DLin)
 | []=>some []
 | l::ls=>match placeLin l ps n with
   | Option.none=>Option.none
   | some x=>(preI ps n ls).map (x :: ·)
def patE (n:Nat) (st:MS) (q:DPattern):SEnv:=eset st.E q.Head (varL st.nx n)
def patL (n:Nat) (st:MS) (q:DPattern):DLin:=(plusL (eget lin0 (patE n st q) q.Lst) (-1)).getD lin0
def iPat (n:Nat) (st:MS) (q:DPattern):MS:=
 if q.Cons then ⟨eset (patE n st q) q.Tail (patL n st q),st.nx+1,st.rows++[patL n st q],st.pars,st.args⟩
 else ⟨st.E,st.nx,st.rows++[addS (constLin 0 n) (-1) (eget lin0 st.E q.Lst)],st.pars,st.args⟩
def iCall (p:DProgram) (n:Nat) (st:MS) (c:DCall):MS:=
 ⟨eset st.E c.Bind (varL st.nx n),st.nx+1,st.rows++(if ((findFn p.Functions c.Func).getD fn0).ListResult then [varL st.nx n] else []),st.pars,st.args++[c.Args.map (argI st.E n)]⟩
def consN (l:List DPattern):Nat:=(l.filter (·.Cons)).length
def sizeN (r:DRule) (f:DFunction):Nat:=f.Params.length+r.Calls.length+consN r.Patterns
def st1 (r:DRule) (f:DFunction):MS:=f.Params.foldl (iPar (sizeN r f)) ⟨[],0,[],[],[]⟩
def st3 (r:DRule) (f:DFunction) (pre:List DLin):MS:=
 r.Patterns.foldl (iPat (sizeN r f)) ⟨(st1 r f).E,(st1 r f).nx,(st1 r f).rows++pre,(st1 r f).pars,(st1 r f).args⟩
def withRows (s:MS) (l:List DLin):MS:=⟨s.E,s.nx,s.rows++l,s.pars,s.args⟩
def st5 (p:DProgram) (r:DRule) (f:DFunction) (pre:List DLin):MS:=
 r.Calls.foldl (iCall p (sizeN r f)) (withRows (st3 r f pre) (r.Guards.map (sumI (st3 r f pre).E (sizeN r f))))
def endM (n:Nat) (s:MS) (res:DLin):DModel:=⟨⟨n,s.rows⟩,s.pars,s.args,res⟩
def modelI (p:DProgram) (r:DRule) (f:DFunction):Option DModel:=
 match preI (st1 r f).pars (sizeN r f) f.Pre with
 | Option.none=>Option.none
 | some pre=>some (endM (sizeN r f) (st5 p r f pre) (argI (st5 p r f pre).E (sizeN r f) r.Result))
def goS (E:SEnv) (n:Nat):List DTerm→DLin→Option DLin
 | [],o=>some o
 | t::ts,o=>match addScaled o t.Coeff (eget (constLin 0 n) E t.Name) with
   | Option.none=>Option.none
   | some o'=>goS E n ts o'
def sumO (E:SEnv) (n:Nat) (s:DSum):Option DLin:=goS E n s.Terms (constLin s.Const n)
def argO (E:SEnv) (n:Nat) (a:DArg):Option DLin:=
 if a.Lst then (if a.Base=[] then some (constLin a.Heads.length n) else addScaled (constLin a.Heads.length n) 1 (eget (constLin 0 n) E a.Base)) else sumO E n (a.Heads.getD 0 sum0)
def argS (E:SEnv) (n:Nat) (a:DArg):DLin:=(argO E n a).getD lin0
def sumS (E:SEnv) (n:Nat) (s:DSum):DLin:=(sumO E n s).getD lin0
def minusL (l:DLin) (k:Int):DLin:=⟨IntKind.i64.wrap (l.Const - k),l.Coeffs⟩
def widen (n:Nat) (l:DLin):DLin:=⟨l.Const,l.Coeffs++List.replicate (n - l.Coeffs.length) 0⟩
def lrows (n:Nat):List Str→Nat→List DLin
 | [],_=>[]
 | x::xs,i=>(if listName x then [varL i n] else [])++lrows n xs (i+1)
def domL (f:DFunction) (n:Nat):List DLin:=lrows n f.Params 0++f.Pre.map (widen n)
def sPar (n:Nat) (st:MS) (x:Str):MS:=⟨st.E++[(x,varL st.nx n)],st.nx+1,st.rows,st.pars++[varL st.nx n],st.args⟩
def sPatL (n:Nat) (st:MS) (q:DPattern):DLin:=minusL (eget (constLin 0 n) st.E q.Lst) 1
def sPat (n:Nat) (st:MS) (q:DPattern):MS:=
 if q.Cons then ⟨st.E++[(q.Head,varL st.nx n),(q.Tail,sPatL n st q)],st.nx+1,st.rows++[sPatL n st q],st.pars,st.args⟩
 else ⟨st.E,st.nx,st.rows++[addS (constLin 0 n) (-1) (eget (constLin 0 n) st.E q.Lst)],st.pars,st.args⟩
def sCall (n:Nat) (st:MS) (c:DCall):MS:=
 ⟨st.E++[(c.Bind,varL st.nx n)],st.nx+1,st.rows++(if listName c.Bind then [varL st.nx n] else []),st.pars,st.args++[c.Args.map (argS st.E n)]⟩
def ss1 (r:DRule) (f:DFunction):MS:=f.Params.foldl (sPar (sizeN r f)) ⟨[],0,domL f (sizeN r f),[],[]⟩
def atNx (s:MS) (k:Nat):MS:=⟨s.E,k,s.rows,s.pars,s.args⟩
def ss3 (r:DRule) (f:DFunction):MS:=r.Patterns.foldl (sPat (sizeN r f)) (atNx (ss1 r f) f.Params.length)
def ss5 (r:DRule) (f:DFunction):MS:=
 r.Calls.foldl (sCall (sizeN r f)) (withRows (atNx (ss3 r f) (f.Params.length+consN r.Patterns)) (r.Guards.map (sumS (ss3 r f).E (sizeN r f))))
def modelS (r:DRule) (f:DFunction):DModel:=endM (sizeN r f) (ss5 r f) (argS (ss5 r f).E (sizeN r f) r.Result)
def keysE (E:SEnv):List Str:=E.map (·.1)
theorem eset_new {x:Str} {l:DLin} : ∀ {E:SEnv},x∉keysE E→eset E x l=E++[(x,l)]
 | [],_=>rfl
 | e::E,h=>by
   simp only [keysE,List.map_cons,List.mem_cons,not_or] at h
   simp only [eset,List.cons_append]
   rw [if_neg (fun g=>h.1 g.symm),eset_new (E:=E) h.2]
theorem find_key {E:SEnv} {x:Str} (h:x∈keysE E):∃ l,E.find? (fun e=>e.1==x)=some (x,l)∧(x,l)∈E:=by
 obtain ⟨e,he,rfl⟩:=List.mem_map.1 h
 have:(E.find? fun e'=>e'.1==e.1).isSome=true:=by rw [List.find?_isSome]; exact ⟨e,he,by simp⟩
 obtain ⟨⟨y,l⟩,hy⟩:=Option.isSome_iff_exists.1 this
 have h1:=List.find?_some hy
 have h2:=List.mem_of_find?_eq_some hy
 simp only [beq_iff_eq] at h1
 subst h1
 exact ⟨l,hy,h2⟩
theorem eget_in {E:SEnv} {x:Str} (d:DLin) (h:x∈keysE E):∃ l,(x,l)∈E∧∀ d F,eget d (E++F) x=l:=by
 obtain ⟨l,h1,h2⟩:=find_key h
 exact ⟨l,h2,fun d F=>by unfold eget; rw [List.find?_append,h1]; rfl⟩
theorem eget_any {E:SEnv} {x:Str} (d d':DLin) (h:x∈keysE E):eget d E x=eget d' E x:=by
 obtain ⟨l,_,h2⟩:=eget_in d h
 rw [←List.append_nil E,h2,h2]
def EnvN (n:Nat) (E:SEnv):Prop:=∀ e∈E,e.2.Coeffs.length=n∧n≠0
theorem EnvN.get {n:Nat} {E:SEnv} {x:Str} (H:EnvN n E) (d:DLin) (h:x∈keysE E):(eget d E x).Coeffs.length=n:=by
 obtain ⟨l,h1,h2⟩:=eget_in d h
 have:=h2 d []
 rw [List.append_nil] at this
 rw [this]; exact (H _ h1).1
theorem varL_eq {i n:Nat} (hn:n≤8) (hi:i<n):varL i n=⟨0,(List.replicate n 0).set i 1⟩:=by
 unfold varL
 rw [if_pos (by simp [inR]; omega)]; simp
theorem varL_len {i n:Nat} (hn:n≤8) (hi:i<n):(varL i n).Coeffs.length=n:=by rw [varL_eq hn hi]; simp
theorem addS_bad {c:Int} {b:DLin} (h:b.Coeffs.length≠0):addS lin0 c b=lin0:=by
 unfold addS addScaled
 have:okLin b (lin0.Coeffs.length:Nat)=false:=by
   rw [Bool.eq_false_iff]
   intro g
   have:=okLin_len g
   simp [lin0] at this
   exact h (by simp [this])
 rw [this]; simp
theorem fold_bad {n:Nat} {E:SEnv} (H:EnvN n E):∀ {ts:List DTerm},(∀ t∈ts,t.Name∈keysE E)→(ts≠[]→n≠0)→ts.foldl (fun o t=>addS o t.Coeff (eget lin0 E t.Name)) lin0=lin0
 | [],_,_=>rfl
 | t::ts,h,hn=>by
   simp only [List.foldl_cons]
   rw [addS_bad (by rw [H.get lin0 (h t List.mem_cons_self)]; exact hn (by simp))]
   exact fold_bad H (fun u hu=>h u (List.mem_cons_of_mem _ hu)) (fun _=>hn (by simp))
theorem fold_goS {n:Nat} {E:SEnv} (H:EnvN n E):∀ {ts:List DTerm} {o:DLin},(∀ t∈ts,t.Name∈keysE E)→(ts≠[]→n≠0)→ts.foldl (fun o t=>addS o t.Coeff (eget lin0 E t.Name)) o=(goS E n ts o).getD lin0
 | [],_,_,_=>rfl
 | t::ts,o,h,hn=>by
   have h':∀ u∈ts,u.Name∈keysE E:=fun u hu=>h u (List.mem_cons_of_mem _ hu)
   have hn':ts≠[]→n≠0:=fun _=>hn (by simp)
   simp only [List.foldl_cons,goS]
   rw [eget_any lin0 (constLin 0 n) (h t List.mem_cons_self)]
   cases ha:addScaled o t.Coeff (eget (constLin 0 n) E t.Name) with
   | none=>
     have:addS o t.Coeff (eget (constLin 0 n) E t.Name)=lin0:=by unfold addS; rw [ha]; rfl
     rw [this]
     exact fold_bad H h' hn'
   | some o'=>
     have:addS o t.Coeff (eget (constLin 0 n) E t.Name)=o':=by unfold addS; rw [ha]; rfl
     rw [this]
     exact fold_goS H h' hn'
theorem EnvN.ne {n:Nat} {E:SEnv} (H:EnvN n E) (h:E≠[]):n≠0:=by
 obtain ⟨e,l,rfl⟩:=List.exists_cons_of_ne_nil h
 exact (H e List.mem_cons_self).2
theorem sum_eq {n:Nat} {E:SEnv} (H:EnvN n E) {s:DSum} (h:∀ t∈s.Terms,t.Name∈keysE E):sumI E n s=sumS E n s:=by
 unfold sumI sumS sumO
 refine fold_goS H h fun ht=>H.ne ?_
 rintro rfl
 obtain ⟨t,ts,he⟩:=List.exists_cons_of_ne_nil ht
 have:=h t (by rw [he]; exact List.mem_cons_self)
 simp [keysE] at this
def argIn (E:SEnv) (a:DArg):Prop:=(∀ s∈a.Heads,∀ t∈s.Terms,t.Name∈keysE E)∧(a.Base≠[]→a.Base∈keysE E)
theorem arg_eq {n:Nat} {E:SEnv} (H:EnvN n E) {a:DArg} (h:argIn E a):argI E n a=argS E n a:=by
 unfold argI argS argO
 cases a.Lst
 · simp only [Bool.false_eq_true,if_false]
   refine sum_eq H ?_
   intro t ht
   cases hh:a.Heads with
   | nil=>rw [hh] at ht; simp [sum0] at ht
   | cons s l=>rw [hh] at ht; simp at ht; exact h.1 s (by rw [hh]; exact List.mem_cons_self) t ht
 · simp only [if_true]
   by_cases hb:a.Base=[]
   · rw [if_pos hb,if_pos hb]; rfl
   · rw [if_neg hb,if_neg hb,eget_any lin0 (constLin 0 n) (h.2 hb)]; rfl
theorem scaledO_0 {x k:Int} (hx:okC x=true) (hk:okC k=true):scaledO x k 0=some x:=by
 have h0:okC 0=true:=by decide
 unfold scaledO mulL addL
 simp [hx,hk,h0]
theorem scaledO_1 {k:Int} (hk:okC k=true):scaledO 0 k 1=some k:=by
 have h0:okC 0=true:=by decide
 have h1:okC 1=true:=by decide
 unfold scaledO mulL addL
 simp [hk,h0,h1]
theorem add_var {xs:List Int} {c k:Int} {i n:Nat} (hn:n≤8) (hi:i<n) (hx:xs.length=n) (hok:xs.all okC=true) (hc:okC c=true) (hk:okC k=true) (h0:xs[i]? = some 0) :
   addScaled ⟨c,xs⟩ k (varL i n)=some ⟨c,xs.set i k⟩:=by
 have hz0:okC 0=true:=by decide
 have hz1:okC 1=true:=by decide
 have hv:okLin (varL i n) (xs.length:Nat)=true:=by
   rw [varL_eq hn hi]
   unfold okLin
   simp only [Bool.and_eq_true,decide_eq_true_eq,List.all_eq_true]
   refine ⟨⟨⟨by simp [inR]; omega,by simp [hx]⟩,hz0⟩,?_⟩
   intro y hy
   rcases List.mem_or_eq_of_mem_set hy with hy | rfl
   · rw [(List.mem_replicate.1 hy).2]; exact hz0
   · exact hz1
 have ho:okLin ⟨c,xs⟩ (xs.length:Nat)=true:=by
   unfold okLin
   simp only [Bool.and_eq_true,decide_eq_true_eq]
   exact ⟨⟨⟨by simp [inR]; omega,by simp⟩,hc⟩,hok⟩
 have hZ:combZ ⟨c,xs⟩ k (varL i n)=(xs.set i k).map some:=by
   rw [varL_eq hn hi]
   unfold combZ
   refine List.ext_getElem (by simp [hx]) fun j h1 h2 => ?_
   have hj:j<xs.length:=by simp at h2; exact h2
   simp only [List.getElem_zipWith,List.getElem_map]
   by_cases he:i=j
   · subst he
     have:xs[i]=0:=by rw [List.getElem?_eq_getElem hj] at h0; exact Option.some.inj h0
     simp [this,scaledO_1 hk]
   · rw [List.getElem_set_ne he,List.getElem_set_ne he,List.getElem_replicate]
     exact scaledO_0 (List.all_eq_true.1 hok _ (List.getElem_mem hj)) hk
 have hcc:scaledO c k (varL i n).Const=some c:=by rw [varL_eq hn hi]; exact scaledO_0 hc hk
 unfold addScaled combOk
 simp only [hv,ho,hk,hcc,hZ,Bool.and_self,Bool.true_and,Option.isSome_some]
 have hA:((xs.set i k).map some).all Option.isSome=true:=by rw [List.all_eq_true]; intro x hx; obtain ⟨y,_,rfl⟩:=List.mem_map.1 hx; rfl
 rw [if_pos hA]
 simp [List.map_map,Function.comp_def]
theorem okC_rep {n:Nat} : (List.replicate n (0:Int)).all okC=true:=by
 rw [List.all_eq_true]; intro x hx; rw [(List.mem_replicate.1 hx).2]; decide
theorem okLin_all {l:DLin} {n:Int} (h:okLin l n=true):∀ x∈l.Coeffs,okC x=true:=by
 unfold okLin at h; simp only [Bool.and_eq_true,List.all_eq_true] at h; exact h.2
theorem place_var {l:DLin} {m n:Nat} (hm:m≤2) (hmn:m≤n) (hn:n≤8) (hl:okLin l m=true):placeLin l ((List.range m).map fun i:Nat=>varL i n) n=some (widen n l):=by
 have hc:=okLin_c hl
 have hlen:l.Coeffs.length=m:=by have:=(okLin_len hl).1; omega
 have hall:=okLin_all hl
 obtain ⟨c0,h1⟩:=constLin_ok (n:=n) hc (by omega)
 unfold placeLin
 match m,hm,hlen with
 | 0,_,hlen=>
   have he:l.Coeffs=[]:=List.eq_nil_of_length_eq_zero hlen
   have hl':okLin l 0=true:=hl
   rw [if_neg (by simp),if_pos (by rw [hl']; simp [inR]; omega),c0]
   simp [widen,he]
 | 1,_,hlen=>
   obtain ⟨a,ha⟩:=List.length_eq_one_iff.1 hlen
   have hl':okLin l 1=true:=hl
   have hka:=hall a (by rw [ha]; simp)
   have hz0:(List.replicate n (0:Int))[0]? = some 0:=by rw [List.getElem?_replicate,if_pos (by omega)]
   rw [if_pos (by simp)]
   unfold instLin
   have hN:argN ((List.range 1).map fun i:Nat=>varL i n)=n:=by simp [argN,List.range_succ]; exact varL_len (i:=0) hn (by omega)
   rw [hN,h1,c0]
   simp only [List.length_map,List.length_range]
   rw [if_pos (by simp [hl']),ha]
   simp only [List.range_succ,List.range_zero,List.nil_append,List.map_cons,List.map_nil,List.zip_cons_cons,List.zip_nil_right,goInst]
   rw [add_var (i:=0) hn (by omega) (by simp) okC_rep hc hka hz0]
   simp only [widen,ha]
   obtain ⟨k,rfl⟩:∃ k,n=k+1:=⟨n - 1,by omega⟩
   simp [List.replicate_succ]
 | 2,_,hlen=>
   obtain ⟨a,b,hab⟩:∃ a b,l.Coeffs=[a,b]:=by
     match hh:l.Coeffs,hlen with
     | [a,b],_=>exact ⟨a,b,rfl⟩
   have hl':okLin l 2=true:=hl
   have hka:=hall a (by rw [hab]; simp)
   have hkb:=hall b (by rw [hab]; simp)
   have hz0:(List.replicate n (0:Int))[0]? = some 0:=by rw [List.getElem?_replicate,if_pos (by omega)]
   rw [if_pos (by simp)]
   unfold instLin
   have hN:argN ((List.range 2).map fun i:Nat=>varL i n)=n:=by simp [argN,List.range_succ]; exact varL_len (i:=0) hn (by omega)
   rw [hN,h1,c0]
   simp only [List.length_map,List.length_range]
   rw [if_pos (by simp [hl']),hab]
   simp only [List.range_succ,List.range_zero,List.nil_append,List.map_cons,List.map_nil,List.zip_cons_cons,List.zip_nil_right,List.cons_append,goInst]
   rw [add_var (i:=0) hn (by omega) (by simp) okC_rep hc hka hz0]
   obtain ⟨k,rfl⟩:∃ k,n=k+2:=⟨n - 2,by omega⟩
   simp only
   rw [add_var (i:=1) hn (by omega) (by simp) (by
     rw [List.all_eq_true]; intro x hx
     rcases List.mem_or_eq_of_mem_set hx with hx | rfl
     · rw [(List.mem_replicate.1 hx).2]; decide
     · exact hka) hc hkb (by simp [List.replicate_succ])]
   simp [widen,hab,List.replicate_succ]
theorem preI_eq {ps:List DLin} {n:Nat} : ∀ {ls:List DLin},(∀ l∈ls,placeLin l ps n=some (widen n l))→preI ps n ls=some (ls.map (widen n))
 | [],_=>rfl
 | l::ls,h=>by
   simp only [preI]
   rw [h l List.mem_cons_self,preI_eq fun x hx=>h x (List.mem_cons_of_mem _ hx)]; rfl
end Go.Proofs.YtilcageplifbgaaGreat

namespace Go.Proofs.YtilcageplifbgaaGreat
set_option linter.all false
open Go Go.RowKit Go.Proofs
def a65:AFn:=
⟨24,[(.c 4 true 2)],(.seq
 (.reg [⟨some 4,.box [(.int .i64 0),(.nil 1)],no⟩]) (.seq (.seq
 (.reg [⟨some 6,.mv (.t 1),no⟩,⟨some 7,.call (.k (.fn (.func 98) [] [])) [.t 6,(.k (.int .i64 0)),(.k (.int .i64 8))],no⟩,⟨some 8,.un .not (.t 7),no⟩,⟨some 9,.mv (.t 8),no⟩,⟨some 10,.mv (.t 0),(some (9,false))⟩,⟨some 11,.mv (.t 1),(some (9,false))⟩,⟨some 12,.bin .sub (.t 11) (.k (.int .i64 1)),(some (9,false))⟩,⟨some 13,.call (.k (.fn (.func 98) [] [])) [.t 10,(.k (.int .i64 0)),.t 12],(some (9,false))⟩,⟨some 14,.un .not (.t 13),(some (9,false))⟩,⟨some 15,.pick (.t 9) (.k (.bool true)) (.t 14),no⟩]) (.cond (.t 15) (.seq
 (.reg [⟨some 16,.build [(.int .i64 0),(.nil 1)] [],no⟩,⟨no,.st 2 (.t 4) (.t 16),no⟩]) .ret) .skip)) (.seq
 (.reg [⟨some 17,.mv (.t 1),no⟩,⟨some 18,.call (.k (.fn (.func 103) [] [])) [(.k (.int .i64 0)),.t 17],no⟩,⟨some 5,.box [(.int .i64 0),(.nil 1)],no⟩,⟨no,.st 2 (.t 5) (.t 18),no⟩]) (.seq
 (.reg [⟨some 19,.fld 1 (.t 5),no⟩,⟨some 20,.ld false 1 (.t 19),no⟩,⟨some 21,.mv (.t 0),no⟩,⟨some 22,.ixa 1 (.t 20) (.t 21),no⟩,⟨no,.st 1 (.t 22) (.k (.int .i64 1)),no⟩]) (.seq
 (.reg [⟨some 23,.ld true 2 (.t 5),no⟩,⟨no,.st 2 (.t 4) (.t 23),no⟩]) .ret)))))⟩
theorem a65_ok:compFn Tryz.prog Tryz.f65=some a65:=by kernel_rfl
def a144:AFn:=
⟨25,[(.c 4 true 2)],(.seq
 (.reg [⟨some 4,.box [(.int .i64 0),(.nil 1)],no⟩]) (.seq (.seq
 (.reg [⟨some 6,.mv (.t 1),no⟩,⟨some 7,.call (.k (.fn (.func 96) [] [])) [.t 6,(.k (.int .i64 0)),(.k (.int .i64 8))],no⟩,⟨some 8,.un .not (.t 7),no⟩,⟨some 9,.mv (.t 8),no⟩,⟨some 10,.mv (.t 0),(some (9,false))⟩,⟨some 11,.mv (.t 1),(some (9,false))⟩,⟨some 12,.bin .sub (.t 11) (.k (.int .i64 1)),(some (9,false))⟩,⟨some 13,.call (.k (.fn (.func 96) [] [])) [.t 10,(.k (.int .i64 0)),.t 12],(some (9,false))⟩,⟨some 14,.un .not (.t 13),(some (9,false))⟩,⟨some 15,.pick (.t 9) (.k (.bool true)) (.t 14),no⟩]) (.cond (.t 15) (.seq
 (.reg [⟨some 16,.build [(.int .i64 0),(.nil 1)] [],no⟩,⟨no,.st 2 (.t 4) (.t 16),no⟩]) .ret) .skip)) (.seq
 (.reg [⟨some 17,.mv (.t 1),no⟩,⟨some 18,.mks 8 [(.int .i64 0)] (.t 17) (.t 17),no⟩,⟨some 19,.build [(.int .i64 0),(.nil 1)] [(1,(1,(.t 18)))],no⟩,⟨some 5,.box [(.int .i64 0),(.nil 1)],no⟩,⟨no,.st 2 (.t 5) (.t 19),no⟩]) (.seq
 (.reg [⟨some 20,.fld 1 (.t 5),no⟩,⟨some 21,.ld false 1 (.t 20),no⟩,⟨some 22,.mv (.t 0),no⟩,⟨some 23,.ixa 1 (.t 21) (.t 22),no⟩,⟨no,.st 1 (.t 23) (.k (.int .i64 1)),no⟩]) (.seq
 (.reg [⟨some 24,.ld true 2 (.t 5),no⟩,⟨no,.st 2 (.t 4) (.t 24),no⟩]) .ret)))))⟩
theorem a144_ok:compFn Tryz.prog Tryz.f144=some a144:=by kernel_rfl
def a248:AFn:=
⟨14,[(.c 4 true 2)],(.seq
 (.reg [⟨some 2,.boxv (.t 0),no⟩,⟨some 4,.box [(.int .i64 0),(.nil 1)],no⟩]) (.seq
 (.reg [⟨some 6,.ld true 2 (.t 2),no⟩,⟨some 7,.call (.k (.fn (.func 87) [] [])) [.t 6],no⟩,⟨some 5,.box [(.int .i64 0),(.nil 1)],no⟩,⟨no,.st 2 (.t 5) (.t 7),no⟩]) (.seq
 (.reg [⟨some 8,.fld 0 (.t 5),no⟩,⟨some 9,.ld false 1 (.t 8),no⟩,⟨some 10,.mv (.t 1),no⟩,⟨some 11,.bin .sub (.t 9) (.t 10),no⟩,⟨some 12,.fld 0 (.t 5),no⟩,⟨no,.st 1 (.t 12) (.t 11),no⟩]) (.seq
 (.reg [⟨some 13,.ld true 2 (.t 5),no⟩,⟨no,.st 2 (.t 4) (.t 13),no⟩]) .ret))))⟩
theorem a248_ok:compFn Tryz.prog Tryz.f248=some a248:=by kernel_rfl
def a145:AFn:=
⟨29,[(.c 4 true 2)],(.seq
 (.reg [⟨some 2,.boxv (.t 0),no⟩,⟨some 4,.box [(.int .i64 0),(.nil 1)],no⟩]) (.seq (.draw (.op ⟨some 7,.fld 0 (.t 2),no⟩ (.op ⟨some 8,.ld false 1 (.t 7),no⟩ (.op ⟨some 9,.mv (.t 1),no⟩ (.both (.op ⟨some 10,.mks 8 [(.int .i64 0)] (.t 9) (.t 9),no⟩ (.op ⟨some 11,.build [(.int .i64 0),(.nil 1)] [(0,(1,(.t 8))),(1,(1,(.t 10)))],no⟩ (.op ⟨some 5,.box [(.int .i64 0),(.nil 1)],no⟩ (.hop ⟨no,.st 2 (.t 5) (.t 11),no⟩ [] .fin)))) (.op ⟨some 5,.box [(.int .i64 0),(.nil 1)],no⟩ (.op ⟨some 10,.mks 8 [(.int .i64 0)] (.t 9) (.t 9),no⟩ (.op ⟨some 11,.build [(.int .i64 0),(.nil 1)] [(0,(1,(.t 8))),(1,(1,(.t 10)))],no⟩ (.hop ⟨no,.st 2 (.t 5) (.t 11),no⟩ [] .fin))))))))) (.seq (.seq
 (.reg [⟨some 6,.mv (.k (.int .i64 0)),no⟩]) (.blk 0 (.loop (.seq (.seq
 (.reg [⟨some 12,.mv (.t 6),no⟩,⟨some 13,.fld 1 (.t 2),no⟩,⟨some 14,.ld false 1 (.t 13),no⟩,⟨some 15,.len false (.t 14),no⟩,⟨some 16,.bin .lss (.t 12) (.t 15),no⟩]) (.cond (.t 16) .skip (.exit 0))) (.seq (.blk 1 (.draw (.op ⟨some 19,.fld 1 (.t 5),no⟩ (.op ⟨some 20,.ld false 1 (.t 19),no⟩ (.op ⟨some 21,.mv (.t 6),no⟩ (.op ⟨some 22,.fld 1 (.t 2),no⟩ (.op ⟨some 23,.ld false 1 (.t 22),no⟩ (.op ⟨some 24,.mv (.t 6),no⟩ (.op ⟨some 25,.ixa 1 (.t 23) (.t 24),no⟩ (.op ⟨some 26,.ld false 1 (.t 25),no⟩ (.op ⟨some 27,.ixa 1 (.t 20) (.t 21),no⟩ (.hop ⟨no,.st 1 (.t 27) (.t 26),no⟩ [] .fin))))))))))))
 (.reg [⟨some 17,.mv (.t 6),no⟩,⟨some 18,.bin .add (.t 17) (.k (.int .i64 1)),no⟩,⟨some 6,.mv (.t 18),no⟩])))))) (.seq
 (.reg [⟨some 28,.ld true 2 (.t 5),no⟩,⟨no,.st 2 (.t 4) (.t 28),no⟩]) .ret))))⟩
theorem a145_ok:compFn Tryz.prog Tryz.f145=some a145:=by kernel_rfl
theorem k_VarLin (i n:Int):Holds Tryz.prog 65 [i64 i,i64 n] (fun r=>r = .agg (rULin (varL i n))):=by
 refine holds_of_run Tryz.func65 a65_ok rfl (by simp [a65]) ?_
 simp [a65]
 first|refine callD_of (k_within n 0 8) (by first|(simp;done)|rfl) ?_|refine call_of (k_within n 0 8) (by first|(simp;done)|rfl) ?_
 rintro r rfl
 unfold varL
 cases h1:inR n 0 8
 · simp [rULin,intsR,lin0]
 have hn:0≤n∧n≤8:=by simpa [inR] using h1
 have hw:IntKind.i64.wrap (n - 1)=n - 1:=wrap64 (by omega)
 simp [hw]
 first|refine callD_of (k_within i 0 (n - 1)) (by first|(simp;done)|rfl) ?_|refine call_of (k_within i 0 (n - 1)) (by first|(simp;done)|rfl) ?_
 rintro r rfl
 cases h2:inR i 0 (n - 1)
 · simp [rULin,intsR,lin0]
 have hi:0≤i∧i≤n - 1:=by simpa [inR] using h2
 obtain ⟨m,rfl⟩:∃ m:Nat,n=m:=⟨n.toNat,by omega⟩
 obtain ⟨j,rfl⟩:∃ j:Nat,i=j:=⟨i.toNat,by omega⟩
 have hj:j<m:=by omega
 have hc:constLin 0 m=⟨0,List.replicate m 0⟩:=(constLin_ok (by decide) (by omega)).1
 simp
 first|refine callD_of (k_ConstLin 0 m) (by first|(simp;done)|rfl) ?_|refine call_of (k_ConstLin 0 m) (by first|(simp;done)|rfl) ?_
 rintro r rfl
 simp [hc,rULin,hj]
 have e:(List.replicate m [AV.int .i64 0]).set j [AV.int .i64 1]=intsR ((List.replicate m 0).set j 1):=by rw [←intsR_rep,intsR_set]
 rw [e,List.take_of_length_le (by simp)]
 simp
theorem ks_VarLin (i n:Int):Holds Tryz.prog 144 [i64 i,i64 n] (fun r=>r = .agg (rULin (varL i n))):=by
 refine holds_of_run Tryz.func144 a144_ok rfl (by simp [a144]) ?_
 simp [a144]
 first|refine callD_of (k_l1In n 0 8) (by first|(simp;done)|rfl) ?_|refine call_of (k_l1In n 0 8) (by first|(simp;done)|rfl) ?_
 rintro r rfl
 unfold varL
 cases h1:inR n 0 8
 · simp [rULin,intsR,lin0]
 have hn:0≤n∧n≤8:=by simpa [inR] using h1
 have hw:IntKind.i64.wrap (n - 1)=n - 1:=wrap64 (by omega)
 simp [hw]
 first|refine callD_of (k_l1In i 0 (n - 1)) (by first|(simp;done)|rfl) ?_|refine call_of (k_l1In i 0 (n - 1)) (by first|(simp;done)|rfl) ?_
 rintro r rfl
 cases h2:inR i 0 (n - 1)
 · simp [rULin,intsR,lin0]
 have hi:0≤i∧i≤n - 1:=by simpa [inR] using h2
 obtain ⟨m,rfl⟩:∃ m:Nat,n=m:=⟨n.toNat,by omega⟩
 obtain ⟨j,rfl⟩:∃ j:Nat,i=j:=⟨i.toNat,by omega⟩
 have hj:j<m:=by omega
 have hm:(m:Int)*8≤LIM:=by unfold LIM; omega
 simp [hj,hm,rULin]
 have e:(List.replicate m [AV.int .i64 0]).set j [AV.int .i64 1]=intsR ((List.replicate m 0).set j 1):=by rw [←intsR_rep,intsR_set]
 rw [e,List.take_of_length_le (by simp)]
 simp
theorem ks_l14Minus (x:DLin) (k:Int) (hl:x.Coeffs.length≤1048576):Holds Tryz.prog 248 [.agg (rALin x),i64 k] (fun r=>r = .agg (rULin (minusL x k))):=by
 refine holds_of_run Tryz.func248 a248_ok rfl (by simp [a248]) ?_
 simp [a248,rALin]
 first|refine callD_of (ks_l4Copy x hl) (by first|(simp [rALin];done)|rfl) ?_|refine call_of (ks_l4Copy x hl) (by first|(simp [rALin];done)|rfl) ?_
 rintro r rfl
 simp [rULin,minusL]
def padI (l:List Int) (n i:Nat):List Int:=l.take i++List.replicate (n - i) 0
theorem padI_set {l:List Int} {n i:Nat} (hi:i<l.length) (hn:l.length≤n):(padI l n i).set i l[i]=padI l n (i+1):=by
 unfold padI
 rw [List.set_append_right i l[i] (by simp; omega)]
 have h1:i - (l.take i).length=0:=by simp; omega
 obtain ⟨k,hk⟩:∃ k,n - i=k+1:=⟨n - i - 1,by omega⟩
 rw [h1,hk,List.take_succ_eq_append_getElem hi,List.append_assoc]
 have:n - (i+1)=k:=by omega
 rw [this]; simp [List.replicate_succ]
theorem padI_len {l:List Int} {n i:Nat} (hi:i≤l.length) (hn:l.length≤n):(padI l n i).length=n:=by unfold padI; simp; omega
theorem ks_l14Widen (x:DLin) (n:Nat) (hxn:x.Coeffs.length≤n) (hn:n≤1048576):Holds Tryz.prog 145 [.agg (rALin x),i64 n] (fun r=>r = .agg (rULin (widen n x))):=by
 have hm:(n:Int)*8≤LIM:=by unfold LIM; omega
 refine holds_of_run Tryz.func145 a145_ok rfl (by simp [a145]) ?_
 simp [a145,rALin,hm]
 refine ⟨?_,?_⟩
 all_goals
   refine rL_forO [1,2,4] 6 x.Coeffs.length (fun i s h m=>∃ a b,((a=2∧b=3)∨(a=3∧b=2))∧3<m∧s 5 = .ptr b 0 0∧h 0=some ⟨true,2,[[.int .i64 x.Const,.sl 1 (intsR x.Coeffs)]]⟩∧h 1=some ⟨true,2,[[.int .i64 0,.nil 1]]⟩∧h b=some ⟨true,2,[[.int .i64 x.Const,.ref a 0 n]]⟩∧h a=some ⟨false,1,intsR (padI x.Coeffs n i)⟩) (by unfold LIM; omega) (by simp) ?_ ?_ ?_
   · first
     | (refine ⟨2,3,.inl ⟨rfl,rfl⟩,?_⟩; simp [padI]; done)
     | (refine ⟨3,2,.inr ⟨rfl,rfl⟩,?_⟩; simp [padI]; done)
   · rintro i s h m R hi hg hk s6 hw ⟨a,b,hab,hm3,s5,e0,e1,eb,ea⟩ hR _ _
     simp at hk
     have hpl:=padI_len (l:=x.Coeffs) (n:=n) (Nat.le_of_lt hi) hxn
     have hin:i<n:=by omega
     rcases hab with ⟨rfl,rfl⟩ | ⟨rfl,rfl⟩
     · simp [hk,s6,s5,hi,e0,e1,eb,ea,hin,hw,hpl]
       intro _
       refine hR _ _ _ (by simp [hk]) (by simp) ⟨2,3,.inl ⟨rfl,rfl⟩,by omega,by simp [hk,s5],by simp [e0],by simp [e1],by simp [eb],?_⟩
       simp [←padI_set hi hxn]
     · simp [hk,s6,s5,hi,e0,e1,eb,ea,hin,hw,hpl]
       intro _
       refine hR _ _ _ (by simp [hk]) (by simp) ⟨3,2,.inr ⟨rfl,rfl⟩,by omega,by simp [hk,s5],by simp [e0],by simp [e1],by simp [eb],?_⟩
       simp [←padI_set hi hxn]
   · rintro s h m R hk s6 ⟨a,b,hab,hm3,s5,e0,e1,eb,ea⟩ _ hX
     simp at hk
     have hpe:padI x.Coeffs n x.Coeffs.length=(widen n x).Coeffs:=by simp [padI,widen]
     have hwl:(widen n x).Coeffs.length=n:=by simp [widen]; omega
     have hwc:(widen n x).Const=x.Const:=rfl
     rw [hpe] at ea
     rcases hab with ⟨rfl,rfl⟩ | ⟨rfl,rfl⟩
     · simp [hk,s6,s5,e0,e1,eb,ea]
       intro _
       refine hX _ _ _ _ ?_
       simp [hk,s5,e1,eb,ea,rULin,hwl,hwc,List.take_of_length_le]
     · simp [hk,s6,s5,e0,e1,eb,ea]
       intro _
       refine hX _ _ _ _ ?_
       simp [hk,s5,e1,eb,ea,rULin,hwl,hwc,List.take_of_length_le]
def AccV (b z:Nat) (rows:List (List AV)) (v:AV) (h:Heap) (n:Nat):Prop:=(rows=[]∧v = .nil z)∨∃ id,b<id∧id<n∧v = .ref id 0 rows.length∧h id=some ⟨false,z,rows⟩
theorem AccV.keep {b z:Nat} {rows:List (List AV)} {v:AV} {h h':Heap} {n n':Nat} (x:AccV b z rows v h n) (hn:n≤n') (hh:∀ id,b<id→id<n→v = .ref id 0 rows.length→h' id=h id):AccV b z rows v h' n':=
 x.imp (fun y=>y) fun ⟨i,h1,h2,h3,h4⟩=>⟨i,h1,by omega,h3,by rw [hh i h1 h2 h3]; exact h4⟩
theorem AccV.dt {b z:Nat} {rows:List (List AV)} {v:AV} {h:Heap} {n:Nat} (x:AccV b z rows v h n):∃ h',Go.Proofs.YtilcageplifbgaaGreat.dt v h=some (.us z rows,h')∧∀ id,(∀ l,v ≠ .ref id 0 l)→h' id=h id:=by
 rcases x with ⟨rfl,rfl⟩ | ⟨i,_,_,rfl,hb⟩
 · exact ⟨h,by simp,fun _ _=>rfl⟩
 · refine ⟨upd h i Option.none,by simp [hb],fun id hid => ?_⟩
   have:¬id=i:=fun e=>hid rows.length (by rw [e])
   simp [this]
theorem AccV.cell {b z:Nat} {rows:List (List AV)} {v:AV} {h:Heap} {n:Nat} (x:AccV b z rows v h n):isCell v=true:=by
 rcases x with ⟨_,rfl⟩ | ⟨i,_,_,rfl,_⟩ <;> rfl
theorem AccV.ne_sz {b z z':Nat} {rows rows':List (List AV)} {v v':AV} {h:Heap} {n id l l':Nat} (x:AccV b z rows v h n) (y:AccV b z' rows' v' h n) (hz:z≠z') (e:v = .ref id 0 l) (e':v' = .ref id 0 l'):False:=by
 rcases x with ⟨_,rfl⟩ | ⟨i,_,_,rfl,hi⟩
 · cases e
 rcases y with ⟨_,rfl⟩ | ⟨j,_,_,rfl,hj⟩
 · cases e'
 simp only [AV.ref.injEq] at e e'
 rw [e.1] at hi
 rw [e'.1,hi] at hj
 simp at hj
 exact hz hj.1
theorem AccV.ne_ge {b z:Nat} {rows:List (List AV)} {v:AV} {h:Heap} {n q l:Nat} (x:AccV b z rows v h n) (hq:n≤q) (e:v = .ref q 0 l):False:=by
 rcases x with ⟨_,rfl⟩ | ⟨i,_,hi,rfl,_⟩
 · cases e
 · simp only [AV.ref.injEq] at e; omega
theorem isCell_int {k:IntKind} {n:Int} : isCell (.int k n)=true:=rfl
theorem isCell_ref {i o l:Nat} : isCell (.ref i o l)=true:=rfl
end Go.Proofs.YtilcageplifbgaaGreat

namespace Go.Proofs.YtilcageplifbgaaGreat
set_option linter.all false
open Go Go.RowKit Go.Proofs
theorem hasS_iff {l:List Str} {s:Str} : hasS l s=true↔s∈l:=by simp [hasS]
theorem hasS_not {l:List Str} {s:Str} : hasS l s=false↔s∉l:=by rw [←Bool.not_eq_true,hasS_iff]
theorem nodup_len {N:List Str} : ∀ {S:List Str},S.Nodup→(∀ x∈S,x∈N)→S.length≤N.length:=by
 induction N with
 | nil=>
   intro S _ h
   cases S with
   | nil=>exact Nat.le_refl _
   | cons x S=>have:=h x (List.mem_cons_self ..); cases this
 | cons y N ih=>
   intro S hS h
   have:=ih (S:=S.filter (· != y)) (hS.sublist List.filter_sublist) (fun x hx=>by
     rw [List.mem_filter] at hx
     rcases List.mem_cons.1 (h x hx.1) with rfl | h'
     · simp at hx
     · exact h')
   have hc:S.length≤(S.filter (· != y)).length+1:=by
     clear this ih h
     induction S with
     | nil=>simp
     | cons x S ih=>
       rw [List.nodup_cons] at hS
       by_cases hx:x=y
       · subst hx
         have hf:S.filter (· != x)=S:=List.filter_eq_self.2 fun z hz=>by simp; rintro rfl; exact hS.1 hz
         simp [hf]
       · have hx':(x != y)=true:=by simpa using hx
         simp only [List.filter_cons,hx',if_true,List.length_cons]
         have:=ih hS.2
         omega
   simp only [List.length_cons]; omega
end Go.Proofs.YtilcageplifbgaaGreat

namespace Go.Proofs.YtilcageplifbgaaGreat
set_option linter.all false
open Go Go.RowKit Go.Proofs
theorem nd_dist:∀ {l met:List Str},distFrom met l=true→l.Nodup∧∀ x∈l,x∉met
 | [],_,_=>⟨List.nodup_nil,fun _ h=>by cases h⟩
 | s::l,met,h=>by
   simp only [distFrom,Bool.and_eq_true,Bool.not_eq_true'] at h
   obtain ⟨h1,h2⟩:=nd_dist h.2
   have h3:=hasS_not.1 h.1
   refine ⟨List.nodup_cons.2 ⟨fun hs=>h2 s hs (by simp),h1⟩,?_⟩
   intro x hx
   rcases List.mem_cons.1 hx with rfl | hx
   · exact h3
   · exact fun hm=>h2 x hx (List.mem_append_left _ hm)
def parE (n:Nat):List Str→Nat→SEnv
 | [],_=>[]
 | x::xs,i=>(x,varL i n)::parE n xs (i+1)
def parL (n:Nat):List Str→Nat→List DLin
 | [],_=>[]
 | _::xs,i=>varL i n::parL n xs (i+1)
theorem keys_parE {n:Nat} : ∀ {xs:List Str} {i:Nat},keysE (parE n xs i)=xs
 | [],_=>rfl
 | x::xs,i=>by
   have:=keys_parE (n:=n) (xs:=xs) (i:=i+1)
   unfold keysE at this ⊢
   simp [parE,this]
theorem mem_parE {n:Nat} : ∀ {xs:List Str} {i:Nat} {e:Str×DLin},e∈parE n xs i→∃ j,i≤j∧j<i+xs.length∧e.2=varL j n
 | [],_,_,h=>by cases h
 | x::xs,i,e,h=>by
   rcases List.mem_cons.1 h with rfl | h
   · exact ⟨i,Nat.le_refl _,by simp,rfl⟩
   · obtain ⟨j,h1,h2,h3⟩:=mem_parE h
     exact ⟨j,by omega,by simp; omega,h3⟩
theorem envN_parE {n:Nat} (hn:n≤8) {xs:List Str} (h:xs.length≤n):EnvN n (parE n xs 0):=by
 intro e he
 obtain ⟨j,_,h2,h3⟩:=mem_parE he
 rw [h3]
 exact ⟨varL_len hn (by omega),by omega⟩
theorem parL_eq {n:Nat} {xs:List Str} (h:xs.length≤2):parL n xs 0=(List.range xs.length).map fun i:Nat=>varL i n:=by
 match xs,h with
 | [],_=>rfl
 | [_],_=>simp [parL,List.range_succ]
 | [_,_],_=>simp [parL,List.range_succ]
theorem keys_app (E:SEnv) (x:Str) (l:DLin):keysE (E++[(x,l)])=keysE E++[x]:=by simp [keysE]
theorem par_fold {n:Nat} : ∀ {xs:List Str} {a b:MS},a.E=b.E→a.nx=b.nx→a.pars=b.pars→a.args=b.args→xs.Nodup→(∀ x∈xs,x∉keysE a.E) →
   (xs.foldl (iPar n) a).E=a.E++parE n xs a.nx∧(xs.foldl (sPar n) b).E=a.E++parE n xs a.nx∧(xs.foldl (iPar n) a).nx=a.nx+xs.length∧(xs.foldl (iPar n) a).pars=a.pars++parL n xs a.nx∧(xs.foldl (sPar n) b).pars=a.pars++parL n xs a.nx ∧
   (xs.foldl (iPar n) a).args=a.args∧(xs.foldl (sPar n) b).args=a.args∧(xs.foldl (iPar n) a).rows=a.rows++lrows n xs a.nx∧(xs.foldl (sPar n) b).rows=b.rows
 | [],a,b,h1,h2,h3,h4,_,_=>by simp [parE,parL,lrows,h1,h3,h4]
 | x::xs,a,b,h1,h2,h3,h4,hd,hk=>by
   obtain ⟨hx,hd'⟩:=List.nodup_cons.1 hd
   have he:=eset_new (l:=varL a.nx n) (hk x List.mem_cons_self)
   simp only [List.foldl_cons]
   have ih:=par_fold (n:=n) (xs:=xs) (a:=iPar n a x) (b:=sPar n b x) (by show eset a.E x (varL a.nx n)=b.E++[(x,varL b.nx n)]; rw [he,h1,h2]) (by simp [iPar,sPar,h2]) (by simp [iPar,sPar,h2,h3]) (by simp [iPar,sPar,h4]) hd' (by
     intro y hy
     have:(iPar n a x).E=a.E++[(x,varL a.nx n)]:=he
     rw [this,keys_app]
     intro hm
     rcases List.mem_append.1 hm with hm | hm
     · exact hk y (List.mem_cons_of_mem _ hy) hm
     · simp at hm; subst hm; exact hx hy)
   obtain ⟨g1,g2,g3,g4,g5,g6,g7,g8,g9⟩:=ih
   refine ⟨?_,?_,?_,?_,?_,?_,?_,?_,?_⟩
   · rw [g1]; simp [iPar,he,parE]
   · rw [g2]; simp [iPar,he,parE]
   · rw [g3]; simp [iPar]; omega
   · rw [g4]; simp [iPar,parL]
   · rw [g5]; simp [iPar,parL]
   · rw [g6]; rfl
   · rw [g7]; rfl
   · rw [g8]; simp [iPar,lrows]
   · rw [g9]; rfl
theorem minus_var {n j:Nat} (hn:n≤8) (hj:j<n):(plusL (varL j n) (-1)).getD lin0=minusL (varL j n) 1:=by
 rw [varL_eq hn hj]
 have h1:okLin ⟨0,(List.replicate n 0).set j 1⟩ (((List.replicate n (0:Int)).set j 1).length:Nat)=true:=by
   unfold okLin
   simp only [Bool.and_eq_true,decide_eq_true_eq,List.all_eq_true]
   refine ⟨⟨⟨by simp [inR]; omega,by simp⟩,by decide⟩,?_⟩
   intro y hy
   rcases List.mem_or_eq_of_mem_set hy with hy | rfl
   · rw [(List.mem_replicate.1 hy).2]; decide
   · decide
 unfold plusL minusL
 simp only [h1]
 have h2:addL 0 (-1)=(-1,true):=by decide
 have h3:IntKind.i64.wrap (0 - 1) = -1:=by decide
 simp only [h2,h3]
 simp
theorem pat_fold {n:Nat} (hn:n≤8) {ps:List Str} (hps:ps.length≤n):∀ {qs:List DPattern} {a:MS} {F:SEnv},a.E=parE n ps 0++F→(∀ q∈qs,q.Lst∈ps)→(patN qs).Nodup→(∀ x∈patN qs,x∉keysE a.E)→a.nx+consN qs≤n→EnvN n a.E →
   qs.foldl (iPat n) a=qs.foldl (sPat n) a∧keysE (qs.foldl (sPat n) a).E=keysE a.E++patN qs∧(qs.foldl (sPat n) a).nx=a.nx+consN qs∧EnvN n (qs.foldl (sPat n) a).E
 | [],a,F,_,_,_,_,_,hE=>by simp [patN,consN,hE]
 | q::qs,a,F,hF,hl,hd,hk,hx,hE=>by
   have hq:q.Lst∈keysE (parE n ps 0):=by rw [keys_parE]; exact hl q List.mem_cons_self
   obtain ⟨l,hm,hg⟩:=eget_in lin0 hq
   obtain ⟨j,_,hj,hl2⟩:=mem_parE hm
   simp only at hl2
   have hj':j<n:=by omega
   have hget:∀ d F,eget d (parE n ps 0++F) q.Lst=varL j n:=fun d F=>by rw [hg,hl2]
   simp only [List.foldl_cons]
   cases hc:q.Cons
   · have hpn:patN (q::qs)=patN qs:=by simp [patN,hc]
     have hcn:consN (q::qs)=consN qs:=by simp [consN,hc]
     rw [hpn] at hd hk ⊢
     rw [hcn] at hx ⊢
     have he:iPat n a q=sPat n a q:=by
       unfold iPat sPat
       rw [hc,hF,hget,hget]; rfl
     have hsE:(sPat n a q).E=a.E:=by unfold sPat; rw [hc]; rfl
     have hsx:(sPat n a q).nx=a.nx:=by unfold sPat; rw [hc]; rfl
     rw [he]
     have ih:=pat_fold hn hps (qs:=qs) (a:=sPat n a q) (F:=F) (by rw [hsE,hF]) (fun r hr=>hl r (List.mem_cons_of_mem _ hr)) hd (by rw [hsE]; exact hk) (by rw [hsx]; exact hx) (by rw [hsE]; exact hE)
     rw [hsE,hsx] at ih
     exact ih
   · have hpn:patN (q::qs)=q.Head::q.Tail::patN qs:=by simp [patN,hc]
     have hcn:consN (q::qs)=consN qs+1:=by simp [consN,hc]
     rw [hpn] at hd hk ⊢
     rw [hcn] at hx ⊢
     obtain ⟨d1,hd⟩:=List.nodup_cons.1 hd
     obtain ⟨d2,hd⟩:=List.nodup_cons.1 hd
     simp only [List.mem_cons,not_or] at d1
     have hEh:patE n a q=a.E++[(q.Head,varL a.nx n)]:=eset_new (hk _ List.mem_cons_self)
     have hLI:patL n a q=minusL (varL j n) 1:=by
       unfold patL
       rw [hEh,hF,List.append_assoc,hget]
       exact minus_var hn hj'
     have hLS:sPatL n a q=minusL (varL j n) 1:=by unfold sPatL; rw [hF,hget]
     have hE2:eset (a.E++[(q.Head,varL a.nx n)]) q.Tail (minusL (varL j n) 1)=a.E++[(q.Head,varL a.nx n),(q.Tail,minusL (varL j n) 1)]:=by
       rw [eset_new,List.append_assoc]
       · rfl
       · rw [keys_app]
         intro hm
         rcases List.mem_append.1 hm with hm | hm
         · exact hk q.Tail (by simp) hm
         · simp at hm; exact d1.1 hm.symm
     have he:iPat n a q=sPat n a q:=by
       unfold iPat sPat
       rw [hc,hLI,hLS,hEh,hE2]; rfl
     have hsE:(sPat n a q).E=a.E++[(q.Head,varL a.nx n),(q.Tail,minusL (varL j n) 1)]:=by unfold sPat; rw [hc,hLS]; rfl
     have hsx:(sPat n a q).nx=a.nx+1:=by unfold sPat; rw [hc]; rfl
     have hsk:keysE (sPat n a q).E=keysE a.E++[q.Head,q.Tail]:=by rw [hsE]; simp [keysE]
     rw [he]
     have ih:=pat_fold hn hps (qs:=qs) (a:=sPat n a q) (F:=F++[(q.Head,varL a.nx n),(q.Tail,minusL (varL j n) 1)]) (by rw [hsE,hF,List.append_assoc]) (fun r hr=>hl r (List.mem_cons_of_mem _ hr)) hd (by
       intro x hxm
       rw [hsk]
       intro hm
       rcases List.mem_append.1 hm with hm | hm
       · exact hk x (by simp [hxm]) hm
       · simp at hm
         rcases hm with rfl | rfl
         · exact d1.2 hxm
         · exact d2 hxm) (by rw [hsx]; omega) (by
       rw [hsE]
       intro e he
       rcases List.mem_append.1 he with he | he
       · exact hE e he
       · simp at he
         rcases he with rfl | rfl
         · exact ⟨varL_len hn (by omega),by omega⟩
         · exact ⟨varL_len (i:=j) hn hj',by omega⟩)
     obtain ⟨g1,g2,g3,g4⟩:=ih
     refine ⟨g1,?_,?_,g4⟩
     · rw [g2,hsk,List.append_assoc]; rfl
     · rw [g3,hsx]; omega
def argInK (K:List Str) (a:DArg):Prop:=(∀ s∈a.Heads,∀ t∈s.Terms,t.Name∈K)∧(a.Base≠[]→a.Base∈K)
def callsIn (p:DProgram) (K:List Str):List DCall→Prop
 | []=>True
 | c::cs=>(∀ a∈c.Args,argInK K a)∧((findFn p.Functions c.Func).getD fn0).ListResult=listName c.Bind∧c.Bind∉K∧callsIn p (K++[c.Bind]) cs
theorem call_fold {p:DProgram} {n:Nat} (hn:n≤8):∀ {cs:List DCall} {a:MS},callsIn p (keysE a.E) cs→a.nx+cs.length≤n→EnvN n a.E →
   cs.foldl (iCall p n) a=cs.foldl (sCall n) a∧keysE (cs.foldl (sCall n) a).E=keysE a.E++cs.map (·.Bind)∧EnvN n (cs.foldl (sCall n) a).E
 | [],a,_,_,hE=>by simp [hE]
 | c::cs,a,h,hx,hE=>by
   obtain ⟨h1,h2,h3,h4⟩:=h
   simp only [List.length_cons] at hx
   simp only [List.foldl_cons]
   have hb:eset a.E c.Bind (varL a.nx n)=a.E++[(c.Bind,varL a.nx n)]:=eset_new h3
   have ha:c.Args.map (argI a.E n)=c.Args.map (argS a.E n):=List.map_congr_left fun x hx=>arg_eq hE (h1 x hx)
   have he:iCall p n a c=sCall n a c:=by
     unfold iCall sCall
     rw [hb,ha,h2]
   have hsE:(sCall n a c).E=a.E++[(c.Bind,varL a.nx n)]:=rfl
   rw [he]
   have ih:=call_fold (p:=p) hn (cs:=cs) (a:=sCall n a c) (by rw [hsE,keys_app]; exact h4) (by show a.nx+1+_≤_; omega) (by
     rw [hsE]
     intro e he
     rcases List.mem_append.1 he with he | he
     · exact hE e he
     · simp at he; subst he; exact ⟨varL_len hn (by omega),by omega⟩)
   obtain ⟨g1,g2,g3⟩:=ih
   refine ⟨g1,?_,g3⟩
   rw [g2,hsE,keys_app]; simp
theorem argOk_in {a:DArg} {b:Bool} {K:List Str} (h:argOk a b K=true):argInK K a:=by
 unfold argOk at h
 simp only [Bool.and_eq_true] at h
 have h2:=h.2
 rw [allS_snames] at h2
 unfold allS at h2
 rw [List.all_eq_true] at h2
 have hs:∀ (l:List DSum) (s:DSum),s∈l→∀ t∈s.Terms,t.Name∈sumsN l:=by
   intro l
   induction l with
   | nil=>intro s hs; cases hs
   | cons x l ih=>
     intro s hs t ht
     simp only [sumsN]
     rcases List.mem_cons.1 hs with rfl | hs
     · exact List.mem_append_left _ (List.mem_map.2 ⟨t,ht,rfl⟩)
     · exact List.mem_append_right _ (ih s hs t ht)
 refine ⟨fun s hs' t ht=>hasS_iff.1 (h2 _ ?_),fun hb=>hasS_iff.1 (h2 _ ?_)⟩
 · exact List.mem_append_left _ (hs _ s hs' t ht)
 · refine List.mem_append_right _ ?_
   rw [if_neg hb]; exact List.mem_cons_self
theorem argsOk_all {K:List Str} : ∀ {l:List DArg} {m:List Str},argsOk K l m=true→l.length=m.length→∀ a∈l,∃ b,argOk a b K=true
 | [],_,_,_,_,h=>by cases h
 | a::l,[],_,hl,_,_=>by simp at hl
 | a::l,s::m,h,hl,x,hx=>by
   simp only [argsOk,Bool.and_eq_true] at h
   rcases List.mem_cons.1 hx with rfl | hx
   · exact ⟨_,h.1⟩
   · exact argsOk_all h.2 (by simpa using hl) x hx
theorem callB_in {p:DProgram} {c:DCall} {K:List Str} (h:callB p c K=true):(∀ a∈c.Args,∃ b,argOk a b K=true)∧((findFn p.Functions c.Func).getD fn0).ListResult=listName c.Bind:=by
 unfold callB at h
 simp only [Bool.and_eq_true,decide_eq_true_eq] at h
 obtain ⟨⟨⟨_,h1⟩,h2⟩,h3⟩:=h
 refine ⟨argsOk_all h3 h1,?_⟩
 cases hr:((findFn p.Functions c.Func).getD fn0).ListResult
 · rw [hr] at h2
   simp only [Bool.false_eq_true,if_false,intName,Bool.and_eq_true,Bool.not_eq_true'] at h2
   exact h2.2.symm
 · rw [hr] at h2
   simp only [if_true] at h2
   exact h2.symm
theorem scope_at {p:DProgram} {r:DRule} {f:DFunction} (hf:findFn p.Functions r.Func=some f) {k:Nat} (hk:k≤r.Calls.length):scopeOf p r k=f.Params++patN r.Patterns++(r.Calls.take k).map (·.Bind):=by
 unfold scopeOf
 rw [hf]
 rw [if_pos (by simp [inR]; omega)]; simp
theorem callsFrom_in {p:DProgram} {r:DRule} {f:DFunction} (hf:findFn p.Functions r.Func=some f) (hd:(f.Params++patN r.Patterns++r.Calls.map (·.Bind)).Nodup) :
   ∀ {m k:Nat},k+m=r.Calls.length→callsFrom p r k (r.Calls.drop k)=true→callsIn p (scopeOf p r k) (r.Calls.drop k)
 | 0,k,hm,_=>by rw [List.drop_eq_nil_of_le (by omega)]; trivial
 | m+1,k,hm,h=>by
   have hk:k<r.Calls.length:=by omega
   have hsk:scopeOf p r (k+1:Nat)=scopeOf p r k++[(r.Calls[k]).Bind]:=by
     rw [scope_at hf (by omega),scope_at hf (by omega),List.take_succ_eq_append_getElem hk,List.map_append,←List.append_assoc]; rfl
   rw [List.drop_eq_getElem_cons hk] at h ⊢
   simp only [callsFrom,Bool.and_eq_true] at h
   obtain ⟨g1,g2⟩:=callB_in h.1
   refine ⟨fun a ha => ?_,g2,?_,?_⟩
   · obtain ⟨b,hb⟩:=g1 a ha
     exact argOk_in hb
   · rw [scope_at hf (by omega)]
     intro hmem
     have hsub:(f.Params++patN r.Patterns++(r.Calls.take k).map (·.Bind)++[(r.Calls[k]).Bind]).Nodup:=by
       refine hd.sublist ?_
       rw [List.append_assoc]
       refine List.Sublist.append_left ?_ _
       have:(r.Calls.take k).map (·.Bind)++[(r.Calls[k]).Bind]=(r.Calls.take (k+1)).map (·.Bind):=by rw [List.take_succ_eq_append_getElem hk,List.map_append]; rfl
       rw [this]
       exact (List.take_sublist _ _).map _
     rw [List.nodup_append] at hsub
     exact hsub.2.2 _ hmem _ (by simp) rfl
   · rw [←hsk]
     exact callsFrom_in hf hd (m:=m) (by omega) h.2
theorem pats_in {ps:List Str} : ∀ {qs:List DPattern} {met:List Str},patsFrom ps met qs=true→(∀ q∈qs,q.Lst∈ps)∧(qs.map (·.Lst)).Nodup∧∀ q∈qs,q.Lst∉met
 | [],_,_=>by simp
 | q::qs,met,h=>by
   simp only [patsFrom,Bool.and_eq_true,Bool.not_eq_true'] at h
   obtain ⟨⟨h1,h2⟩,h3⟩:=h
   obtain ⟨g1,g2,g3⟩:=pats_in h3
   unfold patB at h1
   simp only [Bool.and_eq_true] at h1
   have h1':=hasS_iff.1 h1.1.1
   have h2':=hasS_not.1 h2
   refine ⟨?_,?_,?_⟩
   · intro x hx
     rcases List.mem_cons.1 hx with rfl | hx
     · exact h1'
     · exact g1 x hx
   · rw [List.map_cons,List.nodup_cons]
     refine ⟨?_,g2⟩
     intro hm
     obtain ⟨y,hy,he⟩:=List.mem_map.1 hm
     exact g3 y hy (by rw [he]; simp)
   · intro x hx
     rcases List.mem_cons.1 hx with rfl | hx
     · exact h2'
     · exact fun hm=>g3 x hx (List.mem_append_left _ hm)
theorem fn_in {p:DProgram} {name:Str} {f:DFunction} (hp:progOk p=true) (hf:findFn p.Functions name=some f):f.Params.length≤2∧f.Params.Nodup∧(∀ l∈f.Pre,okLin l f.Params.length=true)∧f.Pre.length≤2:=by
 unfold progOk at hp
 simp only [Bool.and_eq_true,fnsFrom_eq,List.all_eq_true] at hp
 have:=hp.1.1.2.1 f (List.mem_of_find?_eq_some hf)
 unfold fnOk distB at this
 simp only [Bool.and_eq_true,decide_eq_true_eq,List.all_eq_true] at this
 obtain ⟨⟨⟨⟨_,h2⟩,_,h3⟩,h4⟩,h5⟩:=this
 exact ⟨h2,(nd_dist h3).1,h5,h4⟩
structure RuleIn (p:DProgram) (r:DRule) (f:DFunction):Prop where
 par:f.Params.length≤2
 pre:∀ l∈f.Pre,okLin l f.Params.length=true
 npre:f.Pre.length≤2
 pats:∀ q∈r.Patterns,q.Lst∈f.Params
 npats:r.Patterns.length≤f.Params.length
 nd:(f.Params++patN r.Patterns++r.Calls.map (·.Bind)).Nodup
 ncalls:r.Calls.length≤2
 nguards:r.Guards.length≤2
 guards:∀ g∈r.Guards,guardOk (f.Params++patN r.Patterns) g=true
 calls:callsFrom p r 0 r.Calls=true
 res:argOk r.Result f.ListResult (f.Params++patN r.Patterns++r.Calls.map (·.Bind))=true
theorem rule_in {p:DProgram} {r:DRule} (hp:progOk p=true) (hr:r∈p.Rules):∃ f,findFn p.Functions r.Func=some f∧RuleIn p r f:=by
 have hp':=hp
 unfold progOk at hp'
 simp only [Bool.and_eq_true,List.all_eq_true] at hp'
 have h:=hp'.2 r hr
 unfold ruleOk at h
 simp only [Bool.and_eq_true,decide_eq_true_eq] at h
 obtain ⟨⟨⟨⟨⟨⟨⟨g1,g2⟩,g3⟩,g4⟩,g5⟩,g6⟩,g7⟩,g8⟩:=h
 obtain ⟨f,hf⟩:=Option.isSome_iff_exists.1 g1
 rw [hf] at g2 g7
 simp only [Option.getD_some] at g2 g7
 obtain ⟨k1,k2,k3,k4⟩:=fn_in hp hf
 obtain ⟨q1,q2,_⟩:=pats_in g2
 have hs0:=scope_at (p:=p) (r:=r) hf (k:=0) (Nat.zero_le _)
 have hsa:=scope_at (p:=p) (r:=r) hf (k:=r.Calls.length) (Nat.le_refl _)
 rw [List.take_length] at hsa
 simp only [List.take_zero,List.map_nil,List.append_nil] at hs0
 rw [hsa] at g7 g8
 rw [show ((0:Nat):Int)=0 from rfl] at hs0
 rw [hs0,List.all_eq_true] at g4
 refine ⟨f,hf,k1,k3,k4,q1,?_,(nd_dist g8).1,g5,g3,g4,g6,g7⟩
 have:=nodup_len q2 (N:=f.Params) (by
   intro x hx
   obtain ⟨q,hq,rfl⟩:=List.mem_map.1 hx
   exact q1 q hq)
 simpa using this
theorem consN_le (l:List DPattern):consN l≤l.length:=List.length_filter_le _ _
theorem RuleIn.size {p:DProgram} {r:DRule} {f:DFunction} (R:RuleIn p r f):sizeN r f≤6:=by
 have:=consN_le r.Patterns
 have:=R.par; have:=R.npats; have:=R.ncalls
 unfold sizeN; omega
theorem model_eq {p:DProgram} {r:DRule} {f:DFunction} (hf:findFn p.Functions r.Func=some f) (R:RuleIn p r f):modelI p r f=some (modelS r f):=by
 have h6:=R.size
 have hn:sizeN r f≤8:=by omega
 have hpn:f.Params.length≤sizeN r f:=by unfold sizeN; omega
 have hd:=R.nd
 rw [List.append_assoc,List.nodup_append] at hd
 obtain ⟨hd1,hd2,hd3⟩:=hd
 rw [List.nodup_append] at hd2
 obtain ⟨hd4,hd5,hd6⟩:=hd2
 obtain ⟨a1,a2,a3,a4,a5,a6,a7,a8,a9⟩:=par_fold (n:=sizeN r f) (xs:=f.Params) (a:=⟨[],0,[],[],[]⟩) (b:=⟨[],0,domL f (sizeN r f),[],[]⟩) rfl rfl rfl rfl hd1 (by simp [keysE])
 simp only [List.nil_append,Nat.zero_add] at a1 a2 a3 a4 a5 a6 a7 a8 a9
 have hpre:preI (st1 r f).pars (sizeN r f) f.Pre=some (f.Pre.map (widen (sizeN r f))):=by
   refine preI_eq fun l hl => ?_
   unfold st1
   rw [a4,parL_eq R.par]
   exact place_var R.par hpn hn (R.pre l hl)
 unfold modelI modelS
 rw [hpre]
 simp only
 have e1:(⟨(st1 r f).E,(st1 r f).nx,(st1 r f).rows++f.Pre.map (widen (sizeN r f)),(st1 r f).pars,(st1 r f).args⟩:MS)=atNx (ss1 r f) f.Params.length:=by
   unfold st1 ss1 atNx
   rw [a1,a2,a3,a4,a5,a6,a7,a8,a9]; rfl
 have b0:(atNx (ss1 r f) f.Params.length).E=parE (sizeN r f) f.Params 0++[]:=by rw [List.append_nil]; exact a2
 have b1:keysE (atNx (ss1 r f) f.Params.length).E=f.Params:=by rw [b0,List.append_nil,keys_parE]
 have b2:EnvN (sizeN r f) (atNx (ss1 r f) f.Params.length).E:=by rw [b0,List.append_nil]; exact envN_parE hn hpn
 obtain ⟨c1,c2,c3,c4⟩:=pat_fold hn hpn (qs:=r.Patterns) (a:=atNx (ss1 r f) f.Params.length) b0 R.pats hd4 (by
   rw [b1]; intro x hx hm; exact hd3 x hm x (List.mem_append_left _ hx) rfl) (by show f.Params.length+consN r.Patterns≤sizeN r f; unfold sizeN; omega) b2
 rw [b1] at c2
 have e3:st3 r f (f.Pre.map (widen (sizeN r f)))=ss3 r f:=by unfold st3 ss3; rw [e1,c1]
 have hg:r.Guards.map (sumI (ss3 r f).E (sizeN r f))=r.Guards.map (sumS (ss3 r f).E (sizeN r f)):=by
   refine List.map_congr_left fun g hg=>sum_eq c4 fun t ht => ?_
   have:=R.guards g hg
   unfold guardOk allS at this
   simp only [Bool.and_eq_true,List.all_eq_true] at this
   have:=hasS_iff.1 (this.2 t.Name (List.mem_map.2 ⟨t,ht,rfl⟩))
   show t.Name∈keysE (ss3 r f).E
   unfold ss3; rw [c2]; exact this
 have e4:withRows (ss3 r f) (r.Guards.map (sumI (ss3 r f).E (sizeN r f)))=withRows (atNx (ss3 r f) (f.Params.length+consN r.Patterns)) (r.Guards.map (sumS (ss3 r f).E (sizeN r f))):=by
   rw [hg]
   unfold withRows atNx
   have:(ss3 r f).nx=f.Params.length+consN r.Patterns:=c3
   rw [this]
 have hk0:keysE (withRows (atNx (ss3 r f) (f.Params.length+consN r.Patterns)) (r.Guards.map (sumS (ss3 r f).E (sizeN r f)))).E=f.Params++patN r.Patterns:=c2
 have hci:=callsFrom_in (p:=p) (r:=r) hf R.nd (m:=r.Calls.length) (k:=0) (by omega) R.calls
 have hs0:=scope_at (p:=p) (r:=r) hf (k:=0) (Nat.zero_le _)
 simp only [List.take_zero,List.map_nil,List.append_nil] at hs0
 rw [hs0,List.drop_zero] at hci
 obtain ⟨d1,d2,d3⟩:=call_fold (p:=p) hn (cs:=r.Calls) (a:=withRows (atNx (ss3 r f) (f.Params.length+consN r.Patterns)) (r.Guards.map (sumS (ss3 r f).E (sizeN r f)))) (by rw [hk0]; exact hci) (by
   show f.Params.length+consN r.Patterns+r.Calls.length≤sizeN r f; unfold sizeN; omega) c4
 have e5:st5 p r f (f.Pre.map (widen (sizeN r f)))=ss5 r f:=by unfold st5 ss5; rw [e3,e4,d1]
 rw [e5]
 have er:argI (ss5 r f).E (sizeN r f) r.Result=argS (ss5 r f).E (sizeN r f) r.Result:=by
   refine arg_eq d3 ?_
   have h1:=argOk_in R.res
   have h2:keysE (ss5 r f).E=f.Params++patN r.Patterns++r.Calls.map (·.Bind):=by unfold ss5; rw [d2,hk0]
   rw [←h2] at h1
   exact h1
 rw [er]
end Go.Proofs.YtilcageplifbgaaGreat
