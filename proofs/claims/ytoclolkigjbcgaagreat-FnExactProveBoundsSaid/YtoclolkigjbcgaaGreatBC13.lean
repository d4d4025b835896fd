/- Contracts: names in order; the names of an argument. -/
import Derived.Test.YtoclolkigjbcgaaGreatBR44
import Derived.Test.YtoclolkigjbcgaaGreatBSh
import Derived.Test.YtoclolkigjbcgaaGreatBFF0
namespace Go.Proofs.YtoclolkigjbcgaaGreat
open Tryz(prog)
open List(take_of_length_le length_append map_cons append_nil all_cons)
set_option maxRecDepth 40000
set_option maxHeartbeats 4000000
open Go Go.RowKit Go.Proofs
set_option linter.all false
def a299:Jk:= ⟨10,[.t 2],(Zq [Zo 2 (.mv (.k (.nil 1)))] (Zq [Zv 4 0,Zc 5 252 [.t 4],Zv 3 5] (Zq [Zv 6 3,Zc 7 324 [.t 6]] (Zq [Zv 8 3,Zc 9 325 [.t 8],Zv 2 9] .ret))))⟩
theorem a299_ok:Jf prog Tryz.f299=some a299:=by kernel_rfl
def a319:Jk:= ⟨63,[.t 2],(Zq [Zo 2 (.mv (.k (.nil 1)))] (Zq [Zo 7 (.bsl 1 []),Zv 3 7] (.seq (Zq [Zi 4 0] (.blk 0 (.loop (.seq (Zq [Zv 8 4,Zv 9 0,Zn 10 9,Zb 11 .lss 8 10] (Zw 11 0)) (.seq (.blk 1 (Zq [Zi 5 0] (.seq (.blk 2 (.loop (.seq (.seq (.draw (.op (Zv 14 5) (.op (Zv 15 3) (.op (Zn 16 15) (.op (Zb 17 .lss 14 16) (.op (Zv 18 17) (.op (Zg 19 18 true (.mv (.t 3))) (.op (Zg 20 18 true (.mv (.t 5))) (.op (Zg 21 18 true (.ixa 1 (.t 19) (.t 20))) (.op (Zg 22 18 true (.ld false 1 (.t 21))) (.op (Zg 23 18 true (.mv (.t 0))) (.op (Zg 24 18 true (.mv (.t 4))) (.op (Zg 25 18 true (.ixa 1 (.t 23) (.t 24))) (.op (Zg 26 18 true (.ld false 1 (.t 25))) (.op (Zg 27 18 true (.bin .lss (.t 22) (.t 26))) (.op (ZQ 28 18 27) .fin)))))))))))))))) (Zw 28 2)) (.blk 3 (.reg [Zv 29 5,Zk 30 .add 29 1,Zv 5 30]))))) (.seq (.seq (.draw (.op (Zv 31 5) (.op (Zv 32 3) (.op (Zn 33 32) (.op (Zb 34 .lss 31 33) (.op (Zv 35 34) (.op (Zg 36 35 true (.mv (.t 3))) (.op (Zg 37 35 true (.mv (.t 5))) (.op (Zg 38 35 true (.ixa 1 (.t 36) (.t 37))) (.op (Zg 39 35 true (.ld false 1 (.t 38))) (.op (Zg 40 35 true (.mv (.t 0))) (.op (Zg 41 35 true (.mv (.t 4))) (.op (Zg 42 35 true (.ixa 1 (.t 40) (.t 41))) (.op (Zg 43 35 true (.ld false 1 (.t 42))) (.op (Zg 44 35 true (.bin .eql (.t 39) (.t 43))) (.op (ZQ 45 35 44) .fin)))))))))))))))) (.cond (.t 45) (.exit 1) .skip)) (Zq [Zo 46 (.bsl 1 []),Zv 47 3,Zv 48 5,Zo 49 (.slc false 1 (.t 47) (some (.t 48)) Option.none),ZA 50 16 1 46 49,Zv 6 50] (.draw (.op (Zv 51 3) (.op (Zv 52 5) (.op (Zo 53 (.slc false 1 (.t 51) Option.none (some (.t 52)))) (.op (Zv 54 0) (.op (Zv 55 4) (.op (Zx 56 1 54 55) (.op (Zl 57 false 1 56) (.op (Zv 60 6) (.hop (Zo 58 (.bsl 1 [.t 57])) [(.slc false 1 (.t 51) Option.none (some (.t 52)))] (.hop (ZA 59 16 1 53 58) [] (.hop (ZA 61 16 1 59 60) [] (.hop (Zv 3 61) [] .fin)))))))))))))))))) (.reg [Zv 12 4,Zk 13 .add 12 1,Zv 4 13])))))) (Zq [Zv 62 3,Zv 2 62] .ret))))⟩
theorem a319_ok:Jf prog Tryz.f319=some a319:=by kernel_rfl
theorem Jqz{h:J8}{n id:Nat}{l:List Je}{K:AV->J8->Nat->Prop}(hB:h id=some ⟨false,1,Ji l⟩)(hK:K (.tup []) (upd h id (some ⟨false,1,Ji (Iy l)⟩)) n):X7 prog 324 [.ref id 0 l.length] h n K:=by
 refine J1e (l2:=Iy l) (r := .tup []) (by unfold Dn;rw[Tryz.func324];rfl) hB (J2l l) (λs hs=>.inl (J65.1 hs)) (.inl ⟨rfl,λ_ _ _=>trivial⟩) ?_ ?_ hK
 ·intro b cap w hH hb _ hlim;unfold Jb at hlim;refine(Tryz.slices_Sort_string b 0 cap l w hH hb (by omega)).mono ?_;rintro e w' ⟨rfl,q,os,rfl⟩;exact⟨⟨_,rfl,λ_=>rfl,λm h=>by cases h⟩,q,os,rfl⟩
 ·intro _ w;refine(Tryz.slices_Sort_string_none Option.none 0 w).mono ?_;rintro e w' ⟨rfl,rfl⟩;exact⟨⟨_,rfl,λ_=>rfl,λm h=>by cases h⟩,rfl⟩
theorem Jdw{h:J8}{n id:Nat}{l:List Je}{K:AV->J8->Nat->Prop}(hB:h id=some ⟨false,1,Ji l⟩)
 (hK:K (.ref id 0 (Go.Lib.compact l).length) (upd h id (some ⟨false,1,Ji (Go.Lib.compact l++List.replicate (l.length - (Go.Lib.compact l).length) [])⟩)) n):X7 prog 325 [.ref id 0 l.length] h n K:=by
 have hl:=J0p l;refine J1e (l2:=Go.Lib.compact l++List.replicate (l.length - (Go.Lib.compact l).length) []) (r := .ref id 0 (Go.Lib.compact l).length) (by unfold Dn;rw[Tryz.func325];rfl) hB (by simp;omega) ?_ (.inr ⟨_,hl,rfl⟩) ?_ ?_ hK
 ·intro s hs;rcases List.mem_append.1 hs with hs|hs
  ·left;unfold Go.Lib.compact Go.Lib.compactUpTo at hs;obtain⟨j,hj,rfl⟩:=List.mem_map.1 hs;have hj:=List.mem_range.1 (List.mem_filter.1 hj).1;simp[hj]
  ·right;exact(List.mem_replicate.1 hs).2
 ·intro b cap w hH hb hcap hlim;unfold Jb at hlim;refine(Tryz.slices_Compact_string b 0 cap l w hH (by omega) hcap).mono ?_;rintro e w' ⟨rfl,q,rfl⟩;exact⟨⟨_,rfl,λh=>by(cases h),λm h=>by(cases h;rfl)⟩,q,#[],by unfold Gj;rw[Go.Sort.grow_empty]⟩
 ·intro hl0 w;subst hl0;refine(Tryz.slices_Compact_string_empty Option.none 0 w).mono ?_;rintro e w' ⟨rfl,rfl⟩;exact⟨⟨_,rfl,λh=>by(cases h),λm h=>rfl⟩,rfl⟩
theorem R3(l:List Je)(hl:l.length<=1048576):Holds prog 299 [.sl 1 (Ji l)] (λr=>r = .us 1 (Ji (Ib l))):=by
 refine Jp Tryz.func299 a299_ok rfl (by simp[a299]) ?_;simp[a299];refine Jd (J50 l hl) (by simp) ?_;rintro r rfl;simp;refine Jqz (l:=l) (by simp) ?_;simp;rw[<-J2l l];refine Jdw (l:=Iy l) (by simp) ?_;have h:=J0p (Iy l)
 have h2:List.take (Go.Lib.compact (Iy l)).length (Ji (Go.Lib.compact (Iy l)++List.replicate ((Iy l).length - (Go.Lib.compact (Iy l)).length) []))=Ji (Ib l):=by unfold Ji;rw[List.map_append,List.take_left' (by simp)];rfl
 simp[h2]
set_option maxHeartbeats 1000000 in
theorem J2b(l:List Je)(hl:l.length<=1048576):Holds prog 319 [.sl 1 (Ji l)] (λr=>r = .us 1 (Ji (Ib l))):=by
 refine Jp Tryz.func319 a319_ok rfl (by simp[a319]) ?_;simp[a319]
 refine Ki [0] 4 l.length (λi s h n=>∃(acc:List Je) (id:Nat),s 3 = .ref id 0 acc.length/\h id=some ⟨false,1,Ji acc⟩/\id<n/\acc.length<=i/\SS acc/\∀x,x∈acc↔x∈l.take i)
  (by unfold Jb;omega) (by simp) ⟨[],0,by simp,by simp[Ji],by simp,by simp,by simp[SS],by simp⟩ ?_ ?_
 ·rintro i s h n R hi hg hk s4 hw ⟨acc,id,s3,eid,hidn,hai,hS,hmem⟩ hR _ _;simp at hk;simp[hk,s4,hi];intro _
  refine Jej (λm s' h' n'=>∃k:Nat,m=acc.length - k/\k<=acc.length/\s' 0 = .sl 1 (Ji l)/\s' 4 = .int .i64 i/\s' 3 = .ref id 0 acc.length/\s' 5 = .int .i64 k/\(∀j,∀hj:j<acc.length,j<k->bl acc[j] l[i]=true)/\h'=h/\n'=n) acc.length
   ⟨0,by simp,Nat.zero_le _,by simp[hk],by simp[s4],by simp[s3],by simp,λj _ hj=>absurd hj (Nat.not_lt_zero _),rfl,rfl⟩ ?_
  rintro m s' h' n' R' ⟨k,rfl,hka,s0',s4',s3',s5',hlt,rfl,rfl⟩ hR' _ hX'
  have rest:∀s'':Jm,s'' 0 = .sl 1 (Ji l)->s'' 4 = .int .i64 i->s'' 3 = .ref id 0 acc.length->s'' 5 = .int .i64 k->(∀hk:k<acc.length,bl acc[k] l[i]=false)->R' (.exit 2) s'' h' n':=by
   intro s2 t0 t4 t3 t5 hge;refine hX' _ _ _ _ ?_;obtain⟨hS',hm'⟩:=Jas hS hka hlt hge
   have hmem':∀x,x∈D1 acc l[i] k↔x∈l.take (i+1):=λx=>by rw[hm',hmem,List.take_succ_eq_append_getElem hi,List.mem_append,List.mem_singleton];exact Or.comm
   have hll:(D1 acc l[i] k).length<=i+1:=by
    unfold D1;split
    ·omega
    ·simp;omega
   by_cases he:acc[k]? = some l[i]
   ·have hk1:k<acc.length:=(List.getElem?_eq_some_iff.1 he).1;have hek:acc[k]=l[i]:=by rw[List.getElem?_eq_getElem hk1]at he;exact Option.some.inj he
    have hia:D1 acc l[i] k=acc:=by unfold D1;rw[if_pos he]
    rw[hia]at hS' hmem' hll;simp[t0,t4,t3,t5,eid,hk1,hi,hek,hw];exact hR _ _ _ (by simp[t0]) (by simp) ⟨acc,id,by simp[t3],eid,hidn,by omega,hS',hmem'⟩
   ·have hia:D1 acc l[i] k=acc.take k++l[i]::acc.drop k:=by unfold D1;rw[if_neg he]
    have n0:¬id=n':=by omega
    have n1:¬id=n'+1:=by omega
    have n2:¬id=n'+1+1:=by omega
    have n3:¬n'=id:=by omega
    have n4:¬n'+1=id:=by omega
    have n5:¬n'+1+1=id:=by omega
    have n6:¬n'+1+1+1=id:=by omega
    have n7:¬id=n'+1+1+1:=by omega
    have q1:k+(acc.length - k)=acc.length:=by omega
    have q2:acc.length<=1048576:=by omega
    have q3:min k acc.length=k:=Nat.min_eq_left hka;by_cases hk1:k<acc.length
    ·have hek:¬acc[k]=l[i]:=λe=>he (by rw[List.getElem?_eq_getElem hk1,e])
     simp[t0,t4,t3,t5,eid,hk1,hi,hek,hw,Yx,Vz,n0,n1,n2,n4,n5,q1,q3,hka];have hlim:(acc.length - k)*16<=Jb/\(k+1)*16<=Jb/\(k+1+(acc.length - k))*16<=Jb:=by unfold Jb;omega
     refine⟨hlim.1,hlim.2.1,hlim.2.2,?_⟩;have hln:(acc.take k++l[i]::acc.drop k).length=k+1+(acc.length - k):=by simp;omega
     refine hR _ _ _ (by simp[t0]) (by simp) ⟨acc.take k++l[i]::acc.drop k,n'+4,?_,?_,by omega,by rw[<-hia];exact hll,by rw[<-hia];exact hS',by rw[<-hia];exact hmem'⟩
     ·rw[hln];simp
     ·simp[Ji,take_of_length_le];rw[take_of_length_le (by simp;omega)];simp
    ·simp[t0,t4,t3,t5,eid,hk1,hi,hw,Yx,Vz,n0,n1,n2,n4,n5,q1,q3,hka];have hlim:(acc.length - k)*16<=Jb/\(k+1)*16<=Jb/\(k+1+(acc.length - k))*16<=Jb:=by unfold Jb;omega
     refine⟨hlim.1,hlim.2.1,hlim.2.2,?_⟩;have hln:(acc.take k++l[i]::acc.drop k).length=k+1+(acc.length - k):=by simp;omega
     refine hR _ _ _ (by simp[t0]) (by simp) ⟨acc.take k++l[i]::acc.drop k,n'+4,?_,?_,by omega,by rw[<-hia];exact hll,by rw[<-hia];exact hS',by rw[<-hia];exact hmem'⟩
     ·rw[hln];simp
     ·simp[Ji,take_of_length_le];rw[take_of_length_le (by simp;omega)];simp
  by_cases hk1:k<acc.length
  ·simp[s0',s4',s3',s5',eid,hk1,hi];refine⟨λhb=>?_,λhb=>?_⟩
   ·refine hR' (acc.length - (k+1)) _ _ _ (by omega) ⟨k+1,rfl,by omega,by simp[s0'],by simp[s4'],by simp[s3'],by simp;exact Kk (by omega),λj hj hjk=>?_,rfl,rfl⟩;by_cases hjk':j<k
    ·exact hlt j hj hjk'
    ·have:j=k:=by omega
     subst this;exact hb
   ·exact rest _ (by simp[s0']) (by simp[s4']) (by simp[s3']) (by simp[s5']) λ_=>hb
  ·simp[s0',s4',s3',s5',eid,hk1,hi];exact rest _ (by simp[s0']) (by simp[s4']) (by simp[s3']) (by simp[s5']) λh=>absurd h hk1
 ·rintro s h n R hk s4 ⟨acc,id,s3,eid,hidn,hai,hS,hmem⟩ hret hX;simp at hk;rw[take_of_length_le (Nat.le_refl _)]at hmem;have:=Jdg hS hmem;subst this;simp[hk,s4];intro _;refine hX _ _ _ _ ?_;simp[s3,eid]
def a239:Jk:= ⟨20,[.t 2],(Zq [ZB 1 0,Zo 2 (.mv (.k (.nil 1)))] (Zq [Zo 3 (.mv (.k (.nil 1)))] (.seq (Zq [Zf 6 1 1,Zl 7 false 1 6,Zn 8 7,Zi 9 0] (.blk 0 (.loop (Zq [Zb 10 .lss 9 8] (.seq (Zw 10 0) (.seq (.blk 1 (Zq [Zx 11 2 7 9,Zl 12 true 2 11,Zo 5 (.box [(.int .i64 0),(.str [])]),⟨no,.st 2 (.t 5) (.t 12),no⟩] (.reg [Zv 13 3,Zf 14 1 5,Zl 15 false 1 14,Zo 16 (.bsl 1 [.t 15]),ZA 17 16 1 13 16,Zv 3 17]))) (.reg [Zk 18 .add 9 1,Zv 9 18]))))))) (Zq [Zv 19 3,Zv 2 19] .ret))))⟩
theorem a239_ok:Jf prog Tryz.f239=some a239:=by kernel_rfl
def a243:Jk:= ⟨28,[.t 2],(Zq [ZB 1 0,Zo 2 (.mv (.k (.nil 1)))] (Zq [Zo 3 (.mv (.k (.nil 1)))] (.seq (Zq [Zf 6 1 1,Zl 7 false 1 6,Zn 8 7,Zi 9 0] (.blk 0 (.loop (Zq [Zb 10 .lss 9 8] (.seq (Zw 10 0) (.seq (.blk 1 (Zq [Zx 11 2 7 9,Zl 12 true 2 11,Zo 5 (.box [(.int .i64 0),(.nil 2)]),⟨no,.st 2 (.t 5) (.t 12),no⟩] (.reg [Zv 13 3,Zl 14 true 2 5,Zc 15 239 [.t 14],ZA 16 16 1 13 15,Zv 3 16]))) (.reg [Zk 17 .add 9 1,Zv 9 17]))))))) (.seq (Zq [Zf 18 2 1,Zl 19 false 1 18,Zo 20 (.bin .neq (.t 19) (.k (.str [])))] (.cond (.t 20) (.reg [Zv 21 3,Zf 22 2 1,Zl 23 false 1 22,Zo 24 (.bsl 1 [.t 23]),ZA 25 16 1 21 24,Zv 3 25]) .skip)) (Zq [Zv 26 3,Zc 27 299 [.t 26],Zv 2 27] .ret)))))⟩
theorem a243_ok:Jf prog Tryz.f243=some a243:=by kernel_rfl
def a288:Jk:= ⟨48,[.t 2],(Zq [ZB 1 0,Zo 2 (.mv (.k (.nil 1)))] (Zq [Zo 6 (.bsl 1 []),Zv 3 6] (.seq (Zq [Zi 4 0] (.blk 0 (.loop (.seq (Zq [Zv 7 4,Zf 8 1 1,Zl 9 false 1 8,Zn 10 9,Zb 11 .lss 7 10] (Zw 11 0)) (.seq (.blk 1 (Zq [Zi 5 0] (.blk 2 (.loop (.seq (Zq [Zv 14 5,Zf 15 1 1,Zl 16 false 1 15,Zv 17 4,Zx 18 2 16 17,Zf 19 1 18,Zl 20 false 1 19,Zn 21 20,Zb 22 .lss 14 21] (Zw 22 2)) (.seq (.blk 3 (.reg [Zv 25 3,Zf 26 1 1,Zl 27 false 1 26,Zv 28 4,Zx 29 2 27 28,Zf 30 1 29,Zl 31 false 1 30,Zv 32 5,Zx 33 2 31 32,Zf 34 1 33,Zl 35 false 1 34,Zo 36 (.bsl 1 [.t 35]),ZA 37 16 1 25 36,Zv 3 37])) (.reg [Zv 23 5,Zk 24 .add 23 1,Zv 5 24]))))))) (.reg [Zv 12 4,Zk 13 .add 12 1,Zv 4 13])))))) (.seq (Zq [Zf 38 2 1,Zl 39 false 1 38,Zo 40 (.bin .neq (.t 39) (.k (.str [])))] (.cond (.t 40) (.reg [Zv 41 3,Zf 42 2 1,Zl 43 false 1 42,Zo 44 (.bsl 1 [.t 43]),ZA 45 16 1 41 44,Zv 3 45]) .skip)) (Zq [Zv 46 3,Zc 47 319 [.t 46],Zv 2 47] .ret)))))⟩
theorem a288_ok:Jf prog Tryz.f288=some a288:=by kernel_rfl
def Vi(s:Xb):List Je:=s.Terms.map (·.Name)
def It:List Xb->List Je
 | []=>[]
 |s::l=>Vi s++It l
def Qj(a:X8):List Je:=It a.Heads++if a.Base=[]then []else [a.Base]
theorem Sg:∀l:List Xb,(It l).length<=wL Uw l
 | []=>Nat.zero_le _
 |s::l=>by have h1:=Sg l;have h2:=Yk Vg s.Terms;unfold wL at h1⊢;simp only[It,Vi,length_append,List.length_map,List.length_cons,map_cons,List.sum_cons];rw[show Uw s=wL Vg s.Terms from rfl];omega
theorem J31(a:X8)(hw:Yz a<=1048576):(Qj a).length<=1048576:=by
 have h1:=Sg a.Heads;unfold Yz Wl at hw;unfold Qj;rw[length_append];split
 ·simp;omega
 ·rename_i hb;have:0<a.Base.length:=List.length_pos_iff.2 hb;simp;omega
theorem J1h(x:Xb)(hw:x.Terms.length<=1048576):Holds prog 239 [.agg (Kq x)] (λr=>r = .us 1 (Ji (Vi x))):=by
 refine Jp Tryz.func239 a239_ok rfl (by simp[a239]) ?_;simp[a239,Kq];intro _;refine Ki [7,8] 9 x.Terms.length (λi s h n=>(i=0/\s 3 = .nil 1)\/∃id,id<n/\s 3 = .ref id 0 i/\h id=some ⟨false,1,(Ji (Vi x)).take i⟩) (by unfold Jb;omega) (by simp) (by simp) ?_ ?_
 ·rintro i s h n R hi hg hk s9 hw9 hJ hR _ _;simp at hk
  have htk:(Ji (Vi x)).take (i+1)=(Ji (Vi x)).take i++[[.str (x.Terms[i]).Name]]:=by rw[List.take_succ_eq_append_getElem (by simpa[Vi]using hi)];simp[Ji,Vi]
  rcases hJ with ⟨rfl,s3⟩|⟨id,hid,s3,eid⟩
  ·simp[hk,s9,hi,s3,Xe];refine⟨by unfold Jb;omega,?_⟩;exact hR _ _ _ (by simp[hk]) (by simp;exact Kk (by omega)) (.inr ⟨n+2,by omega,by simp,by simp[htk]⟩)
  ·have n0:¬id=n:=by omega
   have n1:¬id=n+1:=by omega
   have n3:¬n+1=id:=by omega
   have n4:¬n=id:=by omega
   simp[hk,s9,hi,hw9,s3,Xe,eid,n0,n1,n3];refine⟨by simp[Vi];omega,by unfold Jb;omega,?_⟩;exact hR _ _ _ (by simp[hk]) (by simp) (.inr ⟨n+2,by omega,by simp,by simp[htk,List.take_take]⟩)
 ·rintro s h n R hk s9 hJ hret hX;simp at hk;simp[hk,s9];refine hX _ _ _ _ ?_;rcases hJ with ⟨h0,s3⟩|⟨id,hid,s3,eid⟩
  ·have:x.Terms=[]:=List.eq_nil_of_length_eq_zero h0;simp[s3,Vi,this,Ji]
  ·have hl:(Vi x).length=x.Terms.length:=by simp[Vi]
   have ht:List.take x.Terms.length (Ji (Vi x))=Ji (Vi x):=take_of_length_le (by simp[hl]);simp[s3,eid,hl,ht]
set_option maxHeartbeats 1000000 in
theorem J2z(a:X8)(hw:Yz a<=1048576):Holds prog 243 [.agg (Kf a)] (λr=>r = .us 1 (Ji (Ib (Qj a)))):=by
 have hw':=hw;unfold Yz Wl at hw';have hsl:=Sg a.Heads;have hll:=Yk Uw a.Heads;refine Jp Tryz.func243 a243_ok rfl (by simp[a243]) ?_;simp[a243,Kf];intro _;generalize hT:It a.Heads=T at *;have hTl:T.length<=1048576:=by omega
 refine Ki [1,7,8] 9 a.Heads.length (λi s h n=>h 0=some ⟨true,3,[[.bool a.Lst,.sl 2 (a.Heads.map Kq),.str a.Base]]⟩/\0<n/\∃acc:List Je,acc++It (a.Heads.drop i)=T/\((acc=[]/\s 3 = .nil 1)\/∃id,0<id/\id<n/\s 3 = .ref id 0 acc.length/\h id=some ⟨false,1,Ji acc⟩))
  (by unfold Jb;omega) (by simp) ⟨by simp,by simp,[],by simpa using hT,.inl ⟨rfl,by simp⟩⟩ ?_ ?_
 ·rintro i s h n R hi hg hk s9 hw9 ⟨e0,hn,acc,hJ,hJ2⟩ hR _ _;simp at hk;rw[List.drop_eq_getElem_cons hi]at hJ;simp only[It]at hJ;have hal:=congrArg List.length hJ;simp only[length_append]at hal
  have hwt:(a.Heads[i]).Terms.length<=1048576:=by have:=W6 (w:=Uw) (List.getElem_mem hi);rw[show Uw a.Heads[i]=wL Vg (a.Heads[i]).Terms from rfl]at this;have:=Yk Vg (a.Heads[i]).Terms;omega
  have z0:¬0=n:=by omega
  have z1:¬0=n+1:=by omega
  have z2:¬0=n+1+1:=by omega
  have z3:¬n=0:=by omega
  rcases hJ2 with ⟨rfl,s3⟩|⟨id,hid0,hid,s3,eid⟩
  ·simp[hk,s9,hi,s3,Kq];refine Jd (J1h (a.Heads[i]'hi) hwt) (by simp[Kq]) ?_;rintro r rfl;simp[s9,hw9];refine⟨by unfold Jb;omega,?_⟩;exact hR _ _ _ (by simp[hk]) (by simp) ⟨by simp[e0,z0,z3],by omega,Vi a.Heads[i],by simpa using hJ,.inr ⟨n+2,by omega,by omega,by simp,by simp⟩⟩
  ·have n0:¬id=n:=by omega
   have n1:¬id=n+1:=by omega
   have n2:¬id=n+1+1:=by omega
   have n3:¬n+1=id:=by omega
   have n4:¬n=id:=by omega
   have n5:¬0=id:=by omega
   have n6:¬id=0:=by omega
   simp[hk,s9,hi,s3,Kq];refine Jd (J1h (a.Heads[i]'hi) hwt) (by simp[Kq]) ?_;rintro r rfl;simp[s9,hw9,eid,n0,n1,n3];refine⟨by unfold Jb;omega,?_⟩;exact hR _ _ _ (by simp[hk]) (by simp) ⟨by simp[e0,z0,z3,n5],by omega,acc++Vi a.Heads[i],by rw[List.append_assoc];exact hJ,.inr ⟨n+2,by omega,by omega,by simp,by simp[Ji]⟩⟩
 ·rintro s h n R hk s9 ⟨e0,hn,acc,hJ,hJ2⟩ hret hX;simp at hk;rw[List.drop_eq_nil_of_le (by omega)]at hJ;simp only[It,append_nil]at hJ;subst hJ;simp[hk,s9];refine hX _ _ _ _ ?_;have hA:Qj a=acc++if a.Base=[]then []else [a.Base]:=by unfold Qj;rw[hT]
  have hAl:(Qj a).length<=1048576:=J31 a hw;rw[hA]at hAl⊢;clear hX hret;by_cases hb:a.Base=[]
  ·simp only[hb,if_true,append_nil]at hAl⊢;rcases hJ2 with ⟨rfl,s3⟩|⟨id,hid0,hid,s3,eid⟩
   ·simp[hk,e0,hb,s3];refine Jd (R3 [] hAl) (by simp[Ji]) ?_;rintro r rfl;simp
   ·simp[hk,e0,hb,s3];refine Jd (R3 acc hAl) (by simp[eid]) ?_;rintro r rfl;simp
  ·simp only[hb,if_false]at hAl⊢;have hlim:(acc.length+1)*16<=Jb:=by simp at hAl;unfold Jb;omega
   rcases hJ2 with ⟨rfl,s3⟩|⟨id,hid0,hid,s3,eid⟩
   ·have z0:¬0=n:=by omega
    simp[hk,e0,hb,s3];refine⟨by unfold Jb;omega,?_⟩;refine Jd (R3 ([]++[a.Base]) hAl) (by simp[Ji]) ?_;rintro r rfl;simp
   ·have n0:¬id=n:=by omega
    have n3:¬n=id:=by omega
    simp[hk,e0,hb,s3,eid,n0,n3];refine⟨hlim,?_⟩;have ht:List.take (acc.length+1) (Ji acc++[[AV.str a.Base]])=Ji (acc++[a.Base]):=by rw[take_of_length_le (by simp)];simp[Ji]
    refine Jd (R3 (acc++[a.Base]) hAl) (by simp[ht]) ?_;rintro r rfl;simp
set_option maxHeartbeats 1000000 in
theorem Jbo(a:X8)(hw:Yz a<=1048576):Holds prog 288 [.agg (Kf a)] (λr=>r = .us 1 (Ji (Ib (Qj a)))):=by
 have hw':=hw;unfold Yz Wl at hw';have hsl:=Sg a.Heads;have hll:=Yk Uw a.Heads;refine Jp Tryz.func288 a288_ok rfl (by simp[a288]) ?_;simp[a288,Kf];generalize hT:It a.Heads=T at *;have hTl:T.length<=1048576:=by omega
 refine Ki [1] 4 a.Heads.length (λi s h n=>h 0=some ⟨true,3,[[.bool a.Lst,.sl 2 (a.Heads.map Kq),.str a.Base]]⟩/\0<n/\∃(acc:List Je) (id:Nat),acc++It (a.Heads.drop i)=T/\0<id/\id<n/\s 3 = .ref id 0 acc.length/\h id=some ⟨false,1,Ji acc⟩)
  (by unfold Jb;omega) (by simp) ⟨by simp,by simp,[],1,by simpa using hT,by omega,by omega,by simp,by simp[Ji]⟩ ?_ ?_
 ·rintro i s h n R hi hg hk s4 hw4 ⟨e0,hn,acc,id,hJ,hid0,hid,s3,eid⟩ hR _ _;simp at hk;rw[List.drop_eq_getElem_cons hi]at hJ;simp only[It]at hJ
  have hwt:(a.Heads[i]).Terms.length<=1048576:=by have:=W6 (w:=Uw) (List.getElem_mem hi);rw[show Uw a.Heads[i]=wL Vg (a.Heads[i]).Terms from rfl]at this;have:=Yk Vg (a.Heads[i]).Terms;omega
  simp[hk,s4,hi,e0];intro _
  refine Ki [1,4] 5 (a.Heads[i]).Terms.length (λj s h n=>h 0=some ⟨true,3,[[.bool a.Lst,.sl 2 (a.Heads.map Kq),.str a.Base]]⟩/\0<n/\∃(acc:List Je) (id:Nat),acc++((Vi a.Heads[i]).drop j++It (a.Heads.drop (i+1)))=T/\0<id/\id<n/\s 3 = .ref id 0 acc.length/\h id=some ⟨false,1,Ji acc⟩)
   (by unfold Jb;omega) (by simp) ⟨by simp[e0],hn,acc,id,by simpa using hJ,hid0,hid,by simp[s3],by simp[eid]⟩ ?_ ?_
  ·rintro j s2 h2 n2 R2 hj hgj hk2 s5 hw5 ⟨e02,hn2,acc2,id2,hJ2,hid02,hid2,s32,eid2⟩ hR2 _ _;simp at hk2;rw[List.drop_eq_getElem_cons (by simpa[Vi]using hj)]at hJ2;have hal:=congrArg List.length hJ2;simp at hal;have n0:¬id2=n2:=by omega
   have n1:¬id2=n2+1:=by omega
   have n3:¬n2+1=id2:=by omega
   have n4:¬n2=id2:=by omega
   have n5:¬0=id2:=by omega
   have n6:¬id2=0:=by omega
   have z0:¬0=n2:=by omega
   have z1:¬0=n2+1:=by omega
   have z3:¬n2=0:=by omega
   simp[hk2,hk,s4,s5,hj,hw5,hi,e02,Kq,Xe,s32,eid2,n0,n4];intro _;refine⟨by unfold Jb;omega,?_⟩;refine hR2 _ _ _ (by simp[hk2,hk,s4]) (by simp) ⟨by simp[e02,n5,z0,z3],by omega,acc2++[(a.Heads[i]).Terms[j].Name],n2+1,?_,by omega,by omega,by simp,by simp[Ji]⟩;rw[<-hJ2];simp[Vi]
  ·rintro s2 h2 n2 R2 hk2 s5 ⟨e02,hn2,acc2,id2,hJ2,hid02,hid2,s32,eid2⟩ hret2 hX2;simp at hk2;rw[List.drop_eq_nil_of_le (by simp[Vi]),List.nil_append]at hJ2;simp[hk2,hk,s4,s5,hi,e02,Kq];intro _;refine hX2 _ _ _ _ ?_;simp[hk2,s4,hw4];exact hR _ _ _ (by simp[hk2,hk]) (by simp) ⟨e02,hn2,acc2,id2,hJ2,hid02,hid2,by simp[s32],eid2⟩
 ·rintro s h n R hk s4 ⟨e0,hn,acc,id,hJ,hid0,hid,s3,eid⟩ hret hX;simp at hk;rw[List.drop_eq_nil_of_le (by omega)]at hJ;simp only[It,append_nil]at hJ;subst hJ;simp[hk,s4,e0];intro _;refine hX _ _ _ _ ?_;have hA:Qj a=acc++if a.Base=[]then []else [a.Base]:=by unfold Qj;rw[hT]
  have hAl:(Qj a).length<=1048576:=J31 a hw;rw[hA]at hAl⊢;clear hX hret;by_cases hb:a.Base=[]
  ·simp only[hb,if_true,append_nil]at hAl⊢;simp[hk,e0,hb,s3];refine Jd (J2b acc hAl) (by simp[eid]) ?_;rintro r rfl;simp
  ·simp only[hb,if_false]at hAl⊢;have hlim:(acc.length+1)*16<=Jb:=by simp at hAl;unfold Jb;omega
   have n0:¬id=n:=by omega
   have n3:¬n=id:=by omega
   simp[hk,e0,hb,s3,eid,n0,n3];refine⟨hlim,?_⟩;have ht:List.take (acc.length+1) (Ji acc++[[AV.str a.Base]])=Ji (acc++[a.Base]):=by rw[take_of_length_le (by simp)];simp[Ji]
   refine Jd (J2b (acc++[a.Base]) hAl) (by simp[ht]) ?_;rintro r rfl;simp
theorem Jr2{s:Jm}{k:Nat}{v:AV} : Xq s (some k) v k=v:=by simp
theorem Jqg{s:Jm}{k j:Nat}{v:AV}(hj:¬j=k):Xq s (some k) v j=s j:=by simp[hj]
theorem Jwm{α:Type}{f:Nat->α}{k:Nat}{v:α} : upd f k v k=v:=by simp
theorem Cn{α:Type}{f:Nat->α}{k j:Nat}{v:α}(hj:¬j=k):upd f k v j=f j:=by simp[hj]
attribute [simp ↓ high] Jr2 Jqg Jwm Cn
def Cz(raw:Bool)(o:Option AV):Option AV:=if raw then o else o.map dr
@[simp ↓ high] theorem K0b(o:Option AV):Cz true o=o:=by unfold Cz;rw[if_pos (by simp)]
@[simp ↓ high] theorem K1h(o:Option AV):Cz false o=o.map dr:=by unfold Cz;rw[if_neg (by simp)]
def Cx(raw b:Bool)(l:List AV):Option AV:=if b then some (.agg (if raw then l else Yu l))else Option.none
@[simp ↓ high] theorem K0w(l:List AV):Cx true true l=some (.agg l):=by unfold Cx;rw[if_pos (by simp),if_pos (by simp)]
@[simp ↓ high] theorem K1g(l:List AV):Cx false true l=some (.agg (Yu l)):=by unfold Cx;rw[if_pos (by simp),if_neg (by simp)]
@[simp ↓ high] theorem K1z(raw:Bool)(row:List AV)(c:Nat):Un raw false row c 1=Cz raw (row[c]?):=by
 unfold Un Cz;by_cases h:c<row.length
 ·rw[if_pos (by omega),if_neg (by simp),if_pos rfl,List.getElem?_eq_getElem h];cases raw <;>simp
 ·rw[if_neg (by omega),List.getElem?_eq_none (by omega)];cases raw <;>rfl
@[simp ↓ high] theorem K1y(raw:Bool)(row:List AV)(c sz:Nat):Un raw true row c sz=Cx raw (decide (c+sz<=row.length)) ((row.drop c).take sz):=by
 unfold Un Cx;by_cases h:c+sz<=row.length
 ·simp[h]
 ·simp[h]
def R7(P:Program)(ks:List Kt)(Q:Xc)(keep:List Nat)(J:Jm->Prop)(s0:Jm)(h0:J8)(n0:Nat):Xc:=λe s h n=>match e with
 | .normal=>(∀j∈keep,s j=s0 j)/\J s/\h=h0/\n=n0
 |e=>Ju P ks e s h n Q
section
variable {P:Program}{a b:AC}{ks:List Kt}{s:Jm}{h:J8}{n:Nat}{Q:Xc}
@[simp ↓] theorem Jo7{keep:List Nat}{J:Jm->Prop}{s0 s':Jm}{h0 h':J8}{n0 n':Nat} : R7 P ks Q keep J s0 h0 n0 .normal s' h' n'=((∀j∈keep,s' j=s0 j)/\J s'/\h'=h0/\n'=n0):=propext Iff.rfl
@[simp ↓] theorem Ju4{keep:List Nat}{J:Jm->Prop}{s0 s':Jm}{h0 h':J8}{n0 n':Nat} : R7 P ks Q keep J s0 h0 n0 .ret s' h' n'=Ju P ks .ret s' h' n' Q:=propext Iff.rfl
@[simp ↓] theorem Jso{keep:List Nat}{J:Jm->Prop}{s0 s':Jm}{h0 h':J8}{n0 n' i:Nat} : R7 P ks Q keep J s0 h0 n0 (.exit i) s' h' n'=Ju P ks (.exit i) s' h' n' Q:=propext Iff.rfl
theorem Js(keep:List Nat)(J:Jm->Prop)(h1:rC P a [] s h n (R7 P (.seq b::ks) Q keep J s h n))(h2:∀s',(∀j∈keep,s' j=s j)->J s'->rC P b ks s' h n Q):rC P (.seq a b) ks s h n Q:=by
 rw[Gg];unfold rC at h1⊢;refine Ph h1 ?_;intro e s' h' n' hq;cases e
 ·obtain⟨g1,g2,rfl,rfl⟩:=hq;exact h2 s' g1 g2
 ·exact hq
 ·exact hq
def P3(P:Program)(ks:List Kt)(Q:Xc)(keep:List Nat)(J:Jm->J8->Nat->Prop)(s0:Jm):Xc:=λe s h n=>match e with
 | .normal=>(∀j∈keep,s j=s0 j)/\J s h n
 |e=>Ju P ks e s h n Q
@[simp ↓] theorem Jnr{keep:List Nat}{J:Jm->J8->Nat->Prop}{s0 s':Jm}{h':J8}{n':Nat} : P3 P ks Q keep J s0 .normal s' h' n'=((∀j∈keep,s' j=s0 j)/\J s' h' n'):=propext Iff.rfl
@[simp ↓] theorem Jul{keep:List Nat}{J:Jm->J8->Nat->Prop}{s0 s':Jm}{h':J8}{n':Nat} : P3 P ks Q keep J s0 .ret s' h' n'=Ju P ks .ret s' h' n' Q:=propext Iff.rfl
@[simp ↓] theorem Jsd{keep:List Nat}{J:Jm->J8->Nat->Prop}{s0 s':Jm}{h':J8}{n' i:Nat} : P3 P ks Q keep J s0 (.exit i) s' h' n'=Ju P ks (.exit i) s' h' n' Q:=propext Iff.rfl
theorem Xo(keep:List Nat)(J:Jm->J8->Nat->Prop)(h1:rC P a [] s h n (P3 P (.seq b::ks) Q keep J s))(h2:∀s' h' n',(∀j∈keep,s' j=s j)->J s' h' n'->rC P b ks s' h' n' Q):rC P (.seq a b) ks s h n Q:=by
 rw[Gg];unfold rC at h1⊢;refine Ph h1 ?_;intro e s' h' n' hq;cases e
 ·exact h2 s' h' n' hq.1 hq.2
 ·exact hq
 ·exact hq
theorem W9{c:Nat}{e:AC}(hc:s c = .bool true)(h1:rC P b ks s h n Q):rC P (.seq (.cond (.t c) .skip e) b) ks s h n Q:=by rw[Gg,C1];have:ev s (.t c) = .bool true:=hc;rw[this];simpa using h1
theorem Ut{c id:Nat}(hc:s c = .bool false)(h1:Ju P ks (.exit id) s h n Q):rC P (.seq (.cond (.t c) .skip (.exit id)) b) ks s h n Q:=by rw[Gg,C1];have:ev s (.t c) = .bool false:=hc;rw[this];simpa using h1
theorem Uh{c:Nat}{e:AC}{ks:List Kt}(hc:s c = .bool true)(h1:Ju P ks .normal s h n Q):rC P (.cond (.t c) .skip e) ks s h n Q:=by rw[C1];have:ev s (.t c) = .bool true:=hc;rw[this];simpa using h1
theorem U3{c id:Nat}{ks:List Kt}(hc:s c = .bool false)(h1:Ju P ks (.exit id) s h n Q):rC P (.cond (.t c) .skip (.exit id)) ks s h n Q:=by rw[C1];have:ev s (.t c) = .bool false:=hc;rw[this];simpa using h1
theorem Xg{id:Nat}(h1:rC P a (.blk id::ks) s h n Q):rC P (.blk id a) ks s h n Q:=by rw[Jqm];exact h1
theorem Jn(h1:rC P a (.seq b::ks) s h n Q):rC P (.seq a b) ks s h n Q:=by rw[Gg];exact h1
end
def P7(c:UInt8):Bool:=decide ((97:Int)<=c.toNat)&&decide ((c.toNat:Int)<=122)
def Pg(c:UInt8):Bool:=decide ((48:Int)<=c.toNat)&&decide ((c.toNat:Int)<=57)
def Hb:Nat->Je->Bool
 |_,[]=>true
 |i,c::l=>(P7 c||(decide (i≠0)&&Pg c))&&Hb (i+1) l
def X3(l:List Je)(s:Je):Bool:=l.any λx=>x==s
def Bs:List Je:=[[102,117,110],[112,114,101],[114,117,108,101],[114,101,116,117,114,110],[110,105,108]]
def Hm(s:Je):Bool:=X3 Bs s
def W8(s:Je):Bool:=K9 s.length 1 8 && !Hm s&&Hb 0 s
def Xh(s:Je):Bool:=W8 s&&s.getD (s.length - 1) 0==115
def W7(s:Je):Bool:=W8 s && !Xh s
def Gw(n:Int):Bool:=K9 n (-1000000) 1000000
theorem J4z{s:Je}(h:W8 s=true):1<=s.length/\s.length<=8:=by unfold W8 K9 at h;simp at h;omega
def Gy:Option Je->List Yb->Bool
 |_,[]=>true
 |pr,t::l=>(!(t.Coeff==0)&&Gw t.Coeff&&W7 t.Name&&(match pr with|Option.none=>true|some q=>Op.bytesLess q t.Name))&&Gy (some t.Name) l
def I6(s:Xb):Bool:=Gw s.Const&&decide (s.Terms.length<=4)&&Gy Option.none s.Terms
def Oo(a:X8):Bool:=a.Heads.all I6&&(if a.Lst then decide (a.Heads.length<=3)&&(a.Base==[]||Xh a.Base)else decide (a.Heads.length=1)&&a.Base==[])
def Hg(l:List Je)(scope:List Je):Bool:=l.all (X3 scope)
def Ws(a:X8)(list:Bool)(scope:List Je):Bool:=Oo a&&(a.Lst==list)&&Hg (Ib (Qj a)) scope
def Qt(scope:List Je)(g:Xb):Bool:=I6 g&&Hg (Vi g) scope
def O3(met:List Je):List Je->Bool
 | []=>true
 |s::l => !X3 met s&&O3 (met++[s]) l
def Q5(l:List Je):Bool:=O3 [] l
def Ew(params:List Je)(q:X2):Bool:=X3 params q.Lst&&Xh q.Lst&&(if q.Cons then W7 q.Head&&Xh q.Tail else q.Head==[]&&q.Tail==[])
def Iv(params:List Je)(met:List Je):List X2->Bool
 | []=>true
 |q::l=>(Ew params q && !X3 met q.Lst)&&Iv params (met++[q.Lst]) l
def Gi(scope:List Je):List X8->List Je->Bool
 |a::l,s::m=>Ws a (Xh s) scope&&Gi scope l m
 |_,_=>true
def If(p:Jq)(c:Xf)(scope:List Je):Bool:=
 (Kw p.Functions c.Func).isSome&&decide (c.Args.length=((Kw p.Functions c.Func).getD Yf).Params.length)&&(if ((Kw p.Functions c.Func).getD Yf).ListResult then Xh c.Bind else W7 c.Bind) &&
  Gi scope c.Args ((Kw p.Functions c.Func).getD Yf).Params
def Qy(p:Jq)(r:Jy):Nat->List Xf->Bool
 |_,[]=>true
 |k,c::l=>If p c (Uf p r k)&&Qy p r (k+1) l
def G0(p:Jq)(r:Jy):Bool:=
 (Kw p.Functions r.Func).isSome&&Iv ((Kw p.Functions r.Func).getD Yf).Params [] r.Patterns&&decide (r.Guards.length<=2)&&r.Guards.all (Qt (Uf p r 0))&&decide (r.Calls.length<=2) &&
  Qy p r 0 r.Calls&&Ws r.Result ((Kw p.Functions r.Func).getD Yf).ListResult (Uf p r r.Calls.length)&&Q5 (Uf p r r.Calls.length)
def Ok(f:K3):Bool:=W7 f.Name&&decide (f.Params.length<=2)&&(f.Params.all W8&&Q5 f.Params)&&decide (f.Pre.length<=2)&&f.Pre.all λl=>K4 l f.Params.length
def E4(met:List Je):List K3->Bool
 | []=>true
 |f::l=>(Ok f && !X3 met f.Name)&&E4 (met++[f.Name]) l
def Ym(p:Jq):Bool:=K9 p.Functions.length 1 3&&E4 [] p.Functions&&decide (p.Rules.length<=8)&&p.Rules.all (G0 p)
theorem Sh:∀(l:List K3) (met:List Je),E4 met l=(l.all Ok&&O3 met (l.map (·.Name)))
 | [],met=>rfl
 |f::l,met=>by simp only[E4,Sh l,all_cons,map_cons,O3];cases Ok f <;>cases X3 met f.Name <;>simp
theorem Jls{α:Type}{p:α->Bool}{l m:List α}(h:∀x,x∈l↔x∈m):l.all p=m.all p:=by rw[Bool.eq_iff_iff,List.all_eq_true,List.all_eq_true];exact⟨λg x hx=>g x ((h x).2 hx),λg x hx=>g x ((h x).1 hx)⟩
theorem J3k(l scope:List Je):Hg (Ib l) scope=Hg l scope:=Jls (J0t l).2
theorem J7z(s:Xb):Qj ⟨false,[s],[]⟩=Vi s:=by simp[Qj,It]
theorem J8o(s:Xb):Oo ⟨false,[s],[]⟩=I6 s:=by simp[Oo]
def E3(l scope:List Je):List Je:=l.filter λs => !X3 scope s
theorem J6x(l scope:List Je):decide ((E3 l scope).length=0)=Hg l scope:=by
 unfold E3 Hg
 induction l with
 |nil=>rfl
 |cons x l ih=>
  simp only[List.filter_cons,all_cons];cases hx:X3 scope x
  ·simp
  ·simp only[Bool.not_true,Bool.false_eq_true,if_false,Bool.true_and];exact ih
theorem Jek{l:List K3}{i:Nat}(hi:i<l.length):decide (Y6 (λf=>f.Name==(l[i]).Name) l 0=(i:Int)) = !X3 ((l.take i).map (·.Name)) (l[i]).Name:=by
 have key:∀(l:List K3) (i k:Nat) (hi:i<l.length) (nm:Je),(l[i]).Name=nm->(Y6 (λf=>f.Name==nm) l k=((k+i:Nat):Int)↔X3 ((l.take i).map (·.Name)) nm=false):=by
  intro l
  induction l with
  |nil=>intro i k hi;simp at hi
  |cons f l ih=>
   intro i k hi nm hnm
   cases i with
   |zero=>
    simp only[List.getElem_cons_zero]at hnm
    simp[Y6,hnm,X3]
   |succ i=>
    simp only[List.getElem_cons_succ]at hnm;simp only[Y6,List.take_succ_cons,map_cons,X3,List.any_cons];by_cases hf:f.Name==nm
    ·simp[hf];omega
    ·have:=ih i (k+1) (by simpa using hi) nm hnm;simp only[X3]at this;simp only[hf,Bool.false_eq_true,if_false,Bool.false_or];rw[<-this];constructor <;>intro h <;>rw[h] <;>congr 1 <;>omega
 have:=key l i 0 hi _ rfl;rw[Nat.zero_add]at this;cases hb:X3 ((l.take i).map (·.Name)) (l[i]).Name
 ·simp[this.2 hb]
 ·simp only[Bool.not_true,decide_eq_false_iff_not];intro h;rw[this.1 h]at hb;cases hb
def Vd(xs:List Int)(v:AV)(h:J8)(n:Nat):Prop:=(v = .nil 1/\xs=[])\/∃id,id<n/\v = .ref id 0 xs.length/\h id=some ⟨false,1,Jg xs⟩
def Wg(xs:List Int)(v:AV)(h:J8)(n:Nat):Prop:=v = .sl 1 (Jg xs)\/Vd xs v h n
def Ko(h h':J8)(n:Nat):Prop:=∀id z rows,id<n->h id=some ⟨false,z,rows⟩->h' id=some ⟨false,z,rows⟩
theorem Ko.of {h h':J8}{n:Nat}(hh:∀id,id<n->h' id=h id):Ko h h' n:=λid _ _ hid e=>by rw[hh id hid,e]
theorem Ko.trans {h h1 h2:J8}{n n1:Nat}(a:Ko h h1 n) (b:Ko h1 h2 n1) (hn:n<=n1):Ko h h2 n:=λid z rows hid e=>b id z rows (by omega) (a id z rows hid e)
theorem Vd.keep {xs:List Int}{v:AV}{h h':J8}{n n':Nat}(x:Vd xs v h n) (hn:n<=n') (k:Ko h h' n):Vd xs v h' n':=by
 rcases x with x|⟨id,h1,h2,h3⟩
 ·exact .inl x
 ·exact .inr ⟨id,by omega,h2,k id _ _ h1 h3⟩
theorem Wg.keep {xs:List Int}{v:AV}{h h':J8}{n n':Nat}(x:Wg xs v h n) (hn:n<=n') (k:Ko h h' n):Wg xs v h' n':=by
 rcases x with x|x
 ·exact .inl x
 ·exact .inr (x.keep hn k)
theorem Vd.cell {xs:List Int}{v:AV}{h:J8}{n:Nat}(x:Vd xs v h n):K8 v=true:=by rcases x with ⟨rfl,_⟩|⟨id,_,rfl,_⟩ <;>rfl
theorem Wg.cell {xs:List Int}{v:AV}{h:J8}{n:Nat}(x:Wg xs v h n):K8 v=true:=by
 rcases x with rfl|x
 ·rfl
 ·exact x.cell
theorem Vd.bw {xs:List Int}{v:AV}{h:J8}{n:Nat}(x:Vd xs v h n):Go.Proofs.YtoclolkigjbcgaaGreat.bw v h=some (.sl 1 (Jg xs)):=by
 rcases x with ⟨rfl,rfl⟩|⟨id,_,rfl,e⟩
 ·rfl
 ·simp[e]
theorem Wg.bw {xs:List Int}{v:AV}{h:J8}{n:Nat}(x:Wg xs v h n):Go.Proofs.YtoclolkigjbcgaaGreat.bw v h=some (.sl 1 (Jg xs)):=by
 rcases x with rfl|x
 ·rfl
 ·exact x.bw
theorem Wg.bwk {xs:List Int}{v:AV}{h h':J8}{n:Nat}(x:Wg xs v h n) (k:Ko h h' n):Go.Proofs.YtoclolkigjbcgaaGreat.bw v h'=some (.sl 1 (Jg xs)):=(x.keep (Nat.le_refl n) k).bw
def Kz(d:Kd)(r:List AV)(h:J8)(n:Nat):Prop:=∃vl vm,r=[.int .i64 d.l.Const,vl,vm,.int .i64 d.scale]/\Wg d.l.Coeffs vl h n/\Vd d.mult vm h n
def X6(d:Kd)(r:List AV)(h:J8)(n:Nat):Prop:=∃vl vm,r=[.int .i64 d.l.Const,vl,vm]/\Wg d.l.Coeffs vl h n/\Vd (d.mult++[d.scale]) vm h n
theorem Kz.keep {d:Kd}{r:List AV}{h h':J8}{n n':Nat}(x:Kz d r h n) (hn:n<=n') (k:Ko h h' n):Kz d r h' n':=by obtain⟨vl,vm,h1,h2,h3⟩:=x;exact⟨vl,vm,h1,h2.keep hn k,h3.keep hn k⟩
theorem X6.keep {d:Kd}{r:List AV}{h h':J8}{n n':Nat}(x:X6 d r h n) (hn:n<=n') (k:Ko h h' n):X6 d r h' n':=by obtain⟨vl,vm,h1,h2,h3⟩:=x;exact⟨vl,vm,h1,h2.keep hn k,h3.keep hn k⟩
def K6(R:Kd->List AV->J8->Nat->Prop)(z b:Nat)(ds:List Kd)(v:AV)(h:J8)(n:Nat):Prop:=
 (v = .nil z/\ds=[])\/∃id rows,b<=id/\id<n/\v = .ref id 0 ds.length/\h id=some ⟨true,z,rows⟩/\rows.length=ds.length/\∀(i:Nat) d,ds[i]? = some d->∃r,rows[i]? = some r/\R d r h n
section
variable {R:Kd->List AV->J8->Nat->Prop}{z b:Nat}{ds:List Kd}{v:AV}{h h':J8}{n n':Nat}
theorem K6.keep (hR:∀d r h h' n n',R d r h n->n<=n'->Ko h h' n->R d r h' n') (x:K6 R z b ds v h n) (hn:n<=n') (k:Ko h h' n) (hb:∀id rows,b<=id->id<n->v = .ref id 0 ds.length->h id=some ⟨true,z,rows⟩->h' id=some ⟨true,z,rows⟩):K6 R z b ds v h' n':=by
 rcases x with x|⟨id,rows,h0,h1,h2,h3,h4,h5⟩
 ·exact .inl x
 ·refine .inr ⟨id,rows,h0,by omega,h2,hb id rows h0 h1 h2 h3,h4,λi d hd=>?_⟩;obtain⟨r,g1,g2⟩:=h5 i d hd;exact⟨r,g1,hR _ _ _ _ _ _ g2 hn k⟩
theorem K6.low {b':Nat}(x:K6 R z b ds v h n) (hb:b'<=b):K6 R z b' ds v h n:=by
 rcases x with x|⟨id,rows,h0,h1⟩
 ·exact .inl x
 ·exact .inr ⟨id,rows,by omega,h1⟩
theorem K6.snoc (hR:∀d r h h' n n',R d r h n->n<=n'->Ko h h' n->R d r h' n') {d:Kd}{r:List AV}{id:Nat}{rows:List (List AV)}(hl:rows.length=ds.length) (hx:∀(i:Nat) d,ds[i]? = some d->∃r,rows[i]? = some r/\R d r h n) (hr:R d r h n) (hn:n<=n') (k:Ko h h' n)
 (hb:b<=id) (hid:id<n') (e:h' id=some ⟨true,z,rows++[r]⟩):K6 R z b (ds++[d]) (.ref id 0 (ds.length+1)) h' n':=by
 refine .inr ⟨id,rows++[r],hb,hid,by simp,e,by simp[hl],λi d' hd=>?_⟩;rcases Nat.lt_trichotomy i ds.length with hi|hi|hi
 ·rw[List.getElem?_append_left hi]at hd;obtain⟨r',g1,g2⟩:=hx i d' hd;exact⟨r',by rw[List.getElem?_append_left (by omega)];exact g1,hR _ _ _ _ _ _ g2 hn k⟩
 ·subst hi;simp at hd;subst hd;exact⟨r,by rw[<-hl];simp,hR _ _ _ _ _ _ hr hn k⟩
 ·rw[List.getElem?_eq_none (by simp;omega)]at hd;cases hd
end
theorem Fv{R:Kd->List AV->J8->Nat->Prop}{z b bytes:Nat}{ds:List Kd}{v y:AV}{h:J8}{n:Nat}{d:Kd}{r:List AV}{K:AV->J8->Nat->Prop}(hR:∀d r h h' n n',R d r h n->n<=n'->Ko h h' n->R d r h' n')(x:K6 R z b ds v h n)(hy:Iq h y=some (z,[r]))(hr:R d r h n)(hbn:b<=n)(hl:(ds.length+1)*bytes<=Jb)
 (hK:∀h',Ko h h' n->(∀id,id<n->(∀k,v ≠ .ref id 0 k)->h' id=h id)->K6 R z b (ds++[d]) (.ref n 0 (ds.length+1)) h' (n+1)->K (.ref n 0 (ds.length+1)) h' (n+1)):Pf bytes z v y h n K:=by
 rcases x with ⟨rfl,rfl⟩|⟨id,rows,h0,h1,rfl,h3,h4,h5⟩
 ·simp only[Jes,hy,Jt];have hk:Ko h (upd h n (some ⟨true,z,[r]⟩)) n:=Ko.of λid hid=>by rw[Ye];omega
  refine⟨trivial,by simpa using hl,hK _ hk (λid hid _=>by rw[Ye];omega) ?_⟩;exact K6.snoc (ds:=[]) (rows:=[]) hR rfl (by simp) hr (Nat.le_succ n) hk hbn (Nat.lt_succ_self n) (by simp)
 ·have ht:List.take ds.length rows=rows:=take_of_length_le (by omega);simp only[Jdh,hy,h3,Jt,ht]
  have hf:∀i,i<n->i≠id->upd (upd h id Option.none) n (some ⟨true,z,rows++[r]⟩) i=h i:=λi hi hne'=>by rw[Ye _ _ _ _ (by omega),Ye _ _ _ _ hne']
  have hk:Ko h (upd (upd h id Option.none) n (some ⟨true,z,rows++[r]⟩)) n:=λi z' rows' hi e=>by
   have hne':i≠id:=λe2=>by subst e2;rw[h3]at e;simp at e
   rw[hf i hi hne'];exact e
  refine⟨trivial,trivial,trivial,by omega,trivial,by simpa using hl,hK _ hk (λi hi hv=>hf i hi λe=>hv ds.length (by rw[e])) ?_⟩;exact K6.snoc hR h4 h5 hr (Nat.le_succ n) hk hbn (Nat.lt_succ_self n) (by simp)
section
variable {R:Kd->List AV->J8->Nat->Prop}{z b:Nat}{ds:List Kd}{v:AV}{h:J8}{n:Nat}{K:AV->J8->Nat->Prop}
theorem Gd(x:K6 R z b ds v h n)(hl:ds.length<=Jb)(hk:K (.int .i64 ds.length) h n):Fr false v h n K:=by
 rcases x with ⟨rfl,rfl⟩|⟨id,rows,_,_,rfl,e,_⟩
 ·simpa using hk
 ·simp only[Jga,e];exact⟨rfl,λ_=>hk⟩
theorem E1{i:Nat}(x:K6 R z b ds v h n)(hi:i<ds.length)(hk:∀id rows r,id<n->h id=some ⟨true,z,rows⟩->(hl:i<rows.length)->rows[i]'hl=r->R ds[i] r h n->K (.ptr id i 0) h n):N0 z v (some (i:Int)) h n K:=by
 rcases x with ⟨_,rfl⟩|⟨id,rows,_,hid,rfl,e,hl,hx⟩
 ·simp at hi
 ·obtain⟨r,g1,g2⟩:=hx i ds[i] (List.getElem?_eq_getElem hi);simp[hi,e];refine hk id rows r hid e (by omega) ?_ g2;rw[List.getElem?_eq_getElem (by omega)]at g1;exact Option.some.inj g1
end
theorem R5{P:Program}{f:FuncId}{xs:List AV}{h:J8}{n:Nat}{K:AV->J8->Nat->Prop}(hA:X7 P f xs h n λr h' n'=>(∀id,id<n->h' id=h id)/\K r h' n'):X7 P f xs h n (hK h K):=by
 refine⟨hA.1,λbase w0 w L F vs H hv=>?_⟩;refine(hA.2 base w0 w L F vs H hv).mono ?_;rintro e w' ⟨v,r,L',n',F',h',rfl,H',Xy,hr,hh,hk⟩;refine⟨v,r,L',n',F',h',rfl,H',Xy,hr,λid B hB=>?_,hk⟩
 have hlt:id<n:=by
  cases hl:L id with
  |none=>rw[H.mod id hl]at hB;cases hB
  |some l=>exact H.lt id l hl
 rw[hh id hlt];exact hB
section
variable {xs:List Int}{v:AV}{h:J8}{n:Nat}{K:AV->J8->Nat->Prop}
theorem J94(x:Wg xs v h n)(hk:K (.int .i64 xs.length) h n):Cg false v h n K:=by
 rcases x with rfl|⟨rfl,rfl⟩|⟨id,_,rfl,e⟩
 ·simpa using hk
 ·simpa using hk
 ·simpa[e]using hk
theorem Jh0(x:Wg xs v h n)(hk:xs.length<=Jb->K (.int .i64 xs.length) h n)(hl:xs.length<=Jb):Fr false v h n K:=by
 rcases x with rfl|⟨rfl,rfl⟩|⟨id,_,rfl,e⟩
 ·simpa using hk
 ·simpa using hk (by simp)
 ·simpa[e]using hk
theorem F5{i:Nat}(x:Wg xs v h n)(hi:i<xs.length)(hk:∀a,(∀K':AV->J8->Nat->Prop,K' (.int .i64 xs[i]) h n->Rn false 1 a h n K')->K a h n):N0 1 v (some (i:Int)) h n K:=by
 rcases x with rfl|⟨rfl,rfl⟩|⟨id,_,rfl,e⟩
 ·simp[hi];exact hk _ λK' h'=>by simpa[hi]using h'
 ·simp at hi
 ·simp[hi,e];exact hk _ λK' h'=>by simpa[e,hi]using h'
end
def a312:Jk:= ⟨23,[.t 4],(Zq [Zi 4 0] (.seq (Zq [Zv 5 0,Zc 6 232 [.t 5],ZN 7 6,Zv 8 7,Zg 9 8 false (.mv (.t 1)),Zg 10 8 false (.call (.k (.fn (.func 232) [] [])) [.t 9]),Zg 11 8 false (.un .not (.t 10)),ZP 12 8 11] (.cond (.t 12) (Zq [Zi 4 0] .ret) .skip)) (.seq (.blk 0 (.loop (.seq (Zq [Zv 13 1,Zk 14 .neq 13 0] (Zw 14 0)) (.blk 1 (.draw (.op (Zv 15 1) (.op (Zv 16 0) (.op (Zv 17 1) (.op (Zb 18 .rem 16 17) (.hop (Zv 0 15) [] (.hop (Zv 1 18) [] .fin))))))))))) (Zq [Zv 19 0,Zv 20 0,Zo 21 (.un .neg (.t 20)),Zo 22 (.mnx true (.t 19) (.t 21)),Zv 4 22] .ret))))⟩
theorem a312_ok:Jf prog Tryz.f312=some a312:=by kernel_rfl
def a338:Jk:= ⟨8,[.t 2],(Zq [Zi 2 0] (.seq (Zq [Zv 3 0,Zk 4 .lss 3 0] (.cond (.t 4) (Zq [Zv 5 0,Zo 6 (.bin .sub (.k (.int .i64 0)) (.t 5)),Zv 2 6] .ret) .skip)) (Zq [Zv 7 0,Zv 2 7] .ret)))⟩
theorem a338_ok:Jf prog Tryz.f338=some a338:=by kernel_rfl
def a329:Jk:= ⟨28,[.t 4],(Zq [Zi 4 0] (.seq (Zq [Zv 8 0,Zc 9 181 [.t 8],ZN 10 9,Zv 11 10,Zg 12 11 false (.mv (.t 1)),Zg 13 11 false (.call (.k (.fn (.func 181) [] [])) [.t 12]),Zg 14 11 false (.un .not (.t 13)),ZP 15 11 14] (.cond (.t 15) (Zq [Zi 4 0] .ret) .skip)) (Zq [Zv 16 0,Zc 17 338 [.t 16],Zv 5 17] (Zq [Zv 18 1,Zc 19 338 [.t 18],Zv 6 19] (.seq (.blk 0 (.loop (.seq (Zq [Zv 20 6,Zk 21 .gtr 20 0] (Zw 21 0)) (.blk 1 (Zq [Zv 22 5,Zv 23 6,Zb 24 .rem 22 23,Zv 7 24] (Zq [Zv 25 6,Zv 5 25] (.reg [Zv 26 7,Zv 6 26]))))))) (Zq [Zv 27 5,Zv 4 27] .ret))))))⟩
theorem a329_ok:Jf prog Tryz.f329=some a329:=by kernel_rfl
theorem Jzm{a b:Nat}(ha:a<=1000000000)(_hb:b<=1000000000):(a:Int).tmod (b:Int)=((a % b:Nat):Int):=by rw[Int.ofNat_tmod]
theorem Jq8(a b:Nat)(ha:a<=1000000000)(hb:b<=1000000000):Holds prog 312 [i64 a,i64 b] (λr=>r=i64 (Nat.gcd a b:Nat)):=by
 have oa:Ky (a:Int)=true:=by rw[Oi];omega
 have ob:Ky (b:Int)=true:=by rw[Oi];omega
 refine Jp Tryz.func312 a312_ok rfl (by simp[a312]) ?_;simp[a312];refine Jd (Hf (a:Int)) (by simp) ?_;rintro r rfl;simp[oa];refine Jd (Hf (b:Int)) (by simp) ?_;rintro r rfl;simp[ob];generalize hG:Nat.gcd a b=G;refine Oe (λk s h n=>∃x y:Nat,k=y/\s 0=i64 x/\s 1=i64 y/\x<=1000000000/\y<=1000000000/\Nat.gcd x y=G) b ⟨a,b,rfl,by simp,by simp,ha,hb,hG⟩ ?_;rintro k s h n ⟨x,y,hky,s0,s1,hx,hy,hg⟩;by_cases h0:y=0
 ·subst h0;simp at hg;subst hg;have hw:IntKind.i64.wrap (0 - (x:Int))=0 - (x:Int):=Kk (by omega);have hm:¬(0 - (x:Int))>x:=by omega
  simp[s0,s1];simp at hw hm;simp[hw];omega
 ·have hy0:¬(y:Int)=0:=by omega
  simp[s0,s1,Jzm hx hy,h0];exact⟨x % y,by rw[hky];exact Nat.mod_lt _ (by omega),y,rfl,by simp,hy,by have:=Nat.mod_lt x (show 0<y by omega);omega,by rw[<-hg,Nat.gcd_comm x y,Nat.gcd_rec y x,Nat.gcd_comm]⟩
theorem J6a(a:Nat)(ha:a<=1000000000):Holds prog 338 [i64 a] (λr=>r=i64 a):=by refine Jp Tryz.func338 a338_ok rfl (by simp[a338]) ?_;simp[a338];omega
theorem Jnb(a b:Nat)(ha:a<=1000000000)(hb:b<=1000000000):Holds prog 329 [i64 a,i64 b] (λr=>r=i64 (Nat.gcd a b:Nat)):=by
 have oa:Ky (a:Int)=true:=by rw[Oi];omega
 have ob:Ky (b:Int)=true:=by rw[Oi];omega
 refine Jp Tryz.func329 a329_ok rfl (by simp[a329]) ?_;simp[a329];refine Jd (Hi (a:Int)) (by simp) ?_;rintro r rfl;simp[oa];refine Jd (Hi (b:Int)) (by simp) ?_;rintro r rfl;simp[ob];refine Jd (J6a a ha) (by simp) ?_;rintro r rfl;simp;refine Jd (J6a b hb) (by simp) ?_;rintro r rfl;simp;generalize hG:Nat.gcd a b=G;refine Oe (λk s h n=>∃x y:Nat,k=y/\s 5=i64 x/\s 6=i64 y/\x<=1000000000/\y<=1000000000/\Nat.gcd x y=G) b ⟨a,b,rfl,by simp,by simp,ha,hb,hG⟩ ?_;rintro k s h n ⟨x,y,hky,s5,s6,hx,hy,hg⟩;by_cases h0:y=0
 ·subst h0;simp at hg;subst hg;simp[s5,s6]
 ·have hy0:¬(y:Int)=0:=by omega
  have hy1:(0:Int)<y:=by omega
  simp[s5,s6,Jzm hx hy,h0];have hpos:0<y:=by omega
  simp[hpos];exact⟨x % y,by rw[hky];exact Nat.mod_lt _ (by omega),y,rfl,by simp,hy,by have:=Nat.mod_lt x (show 0<y by omega);omega,by rw[<-hg,Nat.gcd_comm x y,Nat.gcd_rec y x,Nat.gcd_comm]⟩
def cm0:AC:=(.reg [Zi 6 0,Zt 7 false])
def cm1:AC:=(.reg [Zl 13 false 1 2,Zv 14 0,Zc 15 308 [.t 13,.t 14],Zv 12 15,Ze 16 12 0,Ze 17 12 1,Zv 8 16,Zv 9 17])
def cm2:AC:=(.reg [Zv 19 8,Zl 20 false 1 3,Zv 21 1,Zc 22 274 [.t 19,.t 20,.t 21],Zv 18 22,Ze 23 18 0,Ze 24 18 1,Zv 10 23,Zv 11 24])
def cm3:AC:=(.reg [Zv 25 10,Zv 26 9,Zv 27 26,Zg 28 27 true (.mv (.t 11)),ZQ 29 27 28,Zv 6 25,Zv 7 29])
def a331:Jk:=⟨30,[.t 6,.t 7],(.seq cm0 (.seq cm1 (.seq cm2 (.seq cm3 .ret))))⟩
theorem a331_ok:Gh true prog Tryz.f331=some a331:=by kernel_rfl
def cb0:AC:=(.reg [ZB 4 0,ZB 5 1,ZB 6 2,ZB 7 3,Zo 8 (.box [(.int .i64 0),(.nil 1),(.nil 1),(.int .i64 0)]),Zt 9 false])
def cb1:AC:=(.draw (.op (Zf 21 0 4) (.op (Zf 22 1 21) (.op (Zl 23 false 1 22) (.op (Zn 24 23) (.op (Zl 26 false 1 5) (.op (Zf 27 0 4) (.op (Zl 28 true 2 27) (.both (.op (Zc 25 178 [(.k (.int .i64 0)),.t 24]) (.both (.op (Zc 29 193 [.t 25,.t 26,.t 28]) (.op (Zv 20 29) (.op (Ze 30 20 0) (.op (Ze 31 20 1) (.op (Zo 10 (.box [(.int .i64 0),(.nil 1)])) (.hop ⟨no,.st 2 (.t 10) (.t 30),no⟩ [] (.op (Zv 11 31) .fin))))))) (.op (Zo 10 (.box [(.int .i64 0),(.nil 1)])) (.op (Zc 29 193 [.t 25,.t 26,.t 28]) (.op (Zv 20 29) (.op (Ze 30 20 0) (.op (Ze 31 20 1) (.hop ⟨no,.st 2 (.t 10) (.t 30),no⟩ [] (.op (Zv 11 31) .fin))))))))) (.op (Zo 10 (.box [(.int .i64 0),(.nil 1)])) (.op (Zc 25 178 [(.k (.int .i64 0)),.t 24]) (.op (Zc 29 193 [.t 25,.t 26,.t 28]) (.op (Zv 20 29) (.op (Ze 30 20 0) (.op (Ze 31 20 1) (.hop ⟨no,.st 2 (.t 10) (.t 30),no⟩ [] (.op (Zv 11 31) .fin)))))))))))))))))
def Tr:AC:=(.reg [Zl 33 true 2 10,Zl 34 false 1 7,Zf 35 0 6,Zl 36 true 2 35,Zc 37 193 [.t 33,.t 34,.t 36],Zv 32 37,Ze 38 32 0,Ze 39 32 1,⟨no,.st 2 (.t 10) (.t 38),no⟩,Zv 12 39])
def R9:AC:=(Zq [Zv 40 11,ZN 41 40,Zv 42 41,Zg 43 42 false (.mv (.t 12)),Zg 44 42 false (.un .not (.t 43)),ZP 45 42 44] (.cond (.t 45) (Zq [Zo 46 (.build [(.int .i64 0),(.nil 1),(.nil 1),(.int .i64 0)] []),⟨no,.st 4 (.t 8) (.t 46),no⟩,Zt 9 false] .ret) .skip))
def cb4:AC:=(.reg [Zo 47 (.mkf (.func 331) [] [.t 5,.t 7]),Zv 13 47])
def cb5:AC:=(.reg [Zl 48 true 2 10,Zo 49 (.build [(.int .i64 0),(.nil 1),(.nil 1),(.int .i64 0)] [(0,(2,(.t 48)))]),Zo 14 (.box [(.int .i64 0),(.nil 1),(.nil 1),(.int .i64 0)]),⟨no,.st 4 (.t 14) (.t 49),no⟩])
def cb6:AC:=(.reg [Zv 51 13,Zf 52 3 4,Zl 53 false 1 52,Zf 54 3 6,Zl 55 false 1 54,Zo 56 (.call (.t 51) [.t 53,.t 55]),Zv 50 56,Ze 57 50 0,Ze 58 50 1,Zv 15 57,Zv 16 58])
def cb7:AC:=(.reg [Zv 59 15,Zf 60 3 14,⟨no,.st 1 (.t 60) (.t 59),no⟩])
def Jzo:AC:=(.draw (.op (Zv 68 13) (.op (Zf 69 2 4) (.op (Zl 70 false 1 69) (.op (Zv 71 17) (.op (Zx 72 1 70 71) (.op (Zl 73 false 1 72) (.op (Zf 74 2 6) (.op (Zl 75 false 1 74) (.op (Zv 76 17) (.op (Zx 77 1 75 76) (.op (Zl 78 false 1 77) (.op (Zo 79 (.call (.t 68) [.t 73,.t 78])) (.op (Zv 67 79) (.op (Ze 80 67 0) (.op (Ze 81 67 1) (.op (Zv 18 80) (.op (Zv 19 81) .fin))))))))))))))))))
def Jzs:AC:=(.reg [Zf 82 2 14,Zl 83 false 1 82,Zv 84 18,Zo 85 (.bsl 1 [.t 84]),ZA 86 8 1 83 85,Zf 87 2 14,⟨no,.st 1 (.t 87) (.t 86),no⟩])
def Jvu:AC:=(.reg [Zv 88 16,Zv 89 88,Zg 90 89 true (.mv (.t 19)),ZQ 91 89 90,Zv 16 91])
def cb8:AC:=(Zq [Zf 61 2 4,Zl 62 false 1 61,Zn 63 62,Zi 64 0] (.blk 0 (.loop (Zq [Zb 65 .lss 64 63] (.seq (Zw 65 0) (.seq (.blk 1 (Zq [Zv 66 64,Zv 17 66] (.seq Jzo (.seq  Jzs  Jvu)))) (.reg [Zk 92 .add 64 1,Zv 64 92])))))))
def cb9:AC:=(.reg [Zl 93 true 4 14,Zv 94 16,⟨no,.st 4 (.t 8) (.t 93),no⟩,Zv 9 94])
def a313:Jk:=⟨95,[(.c 8 true 4),.t 9],(.seq cb0 (.seq cb1 (.seq Tr (.seq R9 (.seq cb4 (.seq cb5 (.seq cb6 (.seq cb7 (.seq cb8 (.seq cb9 .ret))))))))))⟩
theorem a313_ok:Gh true prog Tryz.f313=some a313:=by kernel_rfl
def Hp(l:Jc)(k q:Nat)(h:J8)(lo n:Nat):Prop:=lo<=k/\k<n/\lo<=q/\q<n/\¬k=q/\h k=some ⟨true,2,[[.int .i64 l.Const,.ref q 0 l.Coeffs.length]]⟩/\h q=some ⟨false,1,Jg l.Coeffs⟩
theorem J9r{h:J8}{n i5 i7:Nat}{j k x y:Int}(e5:h i5=some ⟨true,1,[[i64 j]]⟩)(e7:h i7=some ⟨true,1,[[i64 k]]⟩){K:AV->J8->Nat->Prop}(hK:K (Uy (Wx j x k y)) h n):X7 prog 331 [i64 x,i64 y,.ptr i5 0 0,.ptr i7 0 0] h n K:=by
 refine U8 Tryz.func331 a331_ok rfl (by simp[a331]) ?_;simp[a331,cm0,cm1,cm2,cm3,e5];refine Jd (J28 j x) (by simp) ?_;rintro r rfl;simp[Uy,e7];refine Jd (J55 (Xw j x).1 k y) (by simp) ?_;rintro r rfl;simp[Uy];unfold Uy Wx at hK;cases h1:(Xw j x).2
 ·rw[h1]at hK;simpa using hK
 ·rw[h1]at hK;simpa using hK
section
variable {ks:List Kt}{s:Jm}{h h':J8}{n:Nat}{Q:Xc}
theorem Jn9{a:Kd}{va ma:AV}{j:Int}{k4 k5:Nat}(s4:s 4 = .ptr k4 0 0)(s5:s 5 = .ptr k5 0 0)(e4:h k4=some ⟨true,4,[[.int .i64 a.l.Const,va,ma,.int .i64 a.scale]]⟩)(e5:h k5=some ⟨true,1,[[i64 j]]⟩)(A1:Wg a.l.Coeffs va h n)
 (hK:∀s' h' n' k q,(∀i∈[4,5,6,7,8],s' i=s i)->n<=n'->(∀id,id<n->h' id=h id)->s' 11 = .bool (Kg (Jo 0 a.l.Coeffs.length) j a.l).isSome->s' 10 = .ptr k 0 0->Hp ((Kg (Jo 0 a.l.Coeffs.length) j a.l).getD Jl) k q h' n n'->Ju prog ks .normal s' h' n' Q):rC prog cb1 ks s h n Q:=by
 have fr:∀id,id<n->¬id=n/\¬id=n+1/\¬id=n+2/\¬id=n+1+1:=by intro id _;omega
 have ne:¬n=n+1/\¬n+1=n/\¬n=n+1+1/\¬n+1+1=n/\¬n+1=n+1+1/\¬n+1+1=n+1:=by omega
 have hb1:∀y,bw va (upd h n y)=some (.sl 1 (Jg a.l.Coeffs)):=λy=>A1.bwk (Ko.of λid hid=>by simp[fr id hid])
 have hb2:∀y z,bw va (upd (upd h n y) (n+1) z)=some (.sl 1 (Jg a.l.Coeffs)):=λy z=>A1.bwk (Ko.of λid hid=>by simp[fr id hid])
 simp[cb1,s4,e4];refine J94 A1 ?_;simp[s4,s5,e4,e5];refine⟨?_,?_⟩
 ·skip;refine Jw (On 0 a.l.Coeffs.length) (by simp) ?_;rintro r rfl;simp[J9];refine⟨?_,?_⟩
  ·skip;refine Jw (Ih (Jo 0 a.l.Coeffs.length) j a.l) (by simp[Ja,hb1]) ?_;rintro r rfl;rw[Xd];generalize Kg (Jo 0 a.l.Coeffs.length) j a.l=T at *;simp[J9];exact hK _ _ _ (n+1+1) (n+1) (by simp) (by omega) (λid hid=>by simp[fr id hid]) (by simp) (by simp) ⟨by omega,by omega,by omega,by omega,by omega,by simp,by simp⟩
  ·skip;refine Jw (Ih (Jo 0 a.l.Coeffs.length) j a.l) (by simp[Ja,hb2]) ?_;rintro r rfl;rw[Xd];generalize Kg (Jo 0 a.l.Coeffs.length) j a.l=T at *;simp[J9];exact hK _ _ _ (n+1) (n+1+1) (by simp) (by omega) (λid hid=>by simp[fr id hid]) (by simp) (by simp) ⟨by omega,by omega,by omega,by omega,by omega,by simp,by simp⟩
 ·skip;refine Jw (On 0 a.l.Coeffs.length) (by simp) ?_;rintro r rfl;simp[J9];refine Jw (Ih (Jo 0 a.l.Coeffs.length) j a.l) (by simp[Ja,hb2]) ?_;rintro r rfl;rw[Xd];generalize Kg (Jo 0 a.l.Coeffs.length) j a.l=T at *;simp[J9,ne];exact hK _ _ _ n (n+1+1) (by simp) (by omega) (λid hid=>by simp[fr id hid]) (by simp) (by simp) ⟨by omega,by omega,by omega,by omega,by omega,by simp,by simp[ne]⟩
theorem Jn3{b:Kd}{l:Jc}{vb mb:AV}{k:Int}{k6 k7 k10 q10 lo:Nat}(s6:s 6 = .ptr k6 0 0)(s7:s 7 = .ptr k7 0 0)(s10:s 10 = .ptr k10 0 0)(e6:h k6=some ⟨true,4,[[.int .i64 b.l.Const,vb,mb,.int .i64 b.scale]]⟩)(e7:h k7=some ⟨true,1,[[i64 k]]⟩)(L:Hp l k10 q10 h lo n)(B1:Wg b.l.Coeffs vb h n)(hlo:lo<=n)
 (hK:∀s' h' n' q,(∀i∈[4,5,6,7,8,10,11],s' i=s i)->n<=n'->(∀id,id<lo->h' id=h id)->s' 12 = .bool (Kg l k b.l).isSome->Hp ((Kg l k b.l).getD Jl) k10 q h' lo n'->Ju prog ks .normal s' h' n' Q):rC prog Tr ks s h n Q:=by
 obtain⟨l1,l2,l3,l4,l5,l6,l7⟩:=L;have fr:∀id,id<n->¬id=n/\¬id=n+1/\¬id=n+2/\¬id=n+1+1:=by intro id _;omega
 have hb:=B1.bw;have ne:¬k10=n/\¬n=k10:=by omega
 simp[Tr,s6,s7,s10,e6,e7,l6];refine Jd (Ih l k b.l) (by simp[Ja,hb,l7]) ?_;rintro r rfl;rw[Xd];generalize Kg l k b.l=T at *;simp[J9,ne,s10,l6];refine hK _ _ _ n (by simp) (by omega) (λid hid=>by simp[show ¬id=n/\¬id=k10 by omega]) (by simp) ⟨by omega,by omega,by omega,by omega,by omega,by simp,by simp[ne]⟩
end
theorem Ji5{xs:List Int}{v:AV}{h:J8}{n k:Nat}{y:Int}{K:AV->J8->Nat->Prop}(x:Vd xs v h n)(hk:h k=some ⟨false,1,[[i64 y]]⟩)(hvk:∀l,v ≠ .ref k 0 l)(hkn:k<n)(hl:(xs.length+1)*8<=Jb)
 (hK:∀h',h' n=some ⟨false,1,Jg (xs++[y])⟩->(∀id,id≠n->id≠k->(∀l,v ≠ .ref id 0 l)->h' id=h id)->K (.ref n 0 (xs.length+1)) h' (n+1)):F3 8 1 v (.ref k 0 1) h n K:=by
 rcases x with ⟨rfl,rfl⟩|⟨id,h1,rfl,h3⟩
 ·simp[hk];refine⟨by simpa using hl,hK _ (by simp[Jg]) ?_⟩;intro id h1 h2 _;simp[h1,h2]
 ·have hne:¬id=k:=λe=>hvk xs.length (by rw[e])
  have hne':¬id=n:=by omega
  have hk':¬k=n:=by omega
  have hk2:¬k=id:=λe=>hne e.symm
  simp[hk,h3,hk2];refine⟨by simpa using hl,hK _ (by simp[Jg]) ?_⟩;intro i g1 g2 g3;have:¬i=id:=λe=>g3 xs.length (by rw[e])
  simp[g1,g2,this]
def Jzw:Kd:=⟨⟨0,[]⟩,[],0⟩
theorem Jqi{h:J8}{n:Nat} : Kz Jzw [.int .i64 0,.nil 1,.nil 1,.int .i64 0] h n:=⟨.nil 1,.nil 1,rfl,.inr (.inl ⟨rfl,rfl⟩),.inl ⟨rfl,rfl⟩⟩
theorem Jc5{a b:Kd}{j k:Int}(h:Kg (Jo 0 a.l.Coeffs.length) j a.l=Option.none):Qi a j b k=Option.none:=by unfold Qi;rw[h]
theorem Jcz{a b:Kd}{j k:Int}{l:Jc}(h:Kg (Jo 0 a.l.Coeffs.length) j a.l=some l)(h2:Kg l k b.l=Option.none):Qi a j b k=Option.none:=by unfold Qi;simp only[h,h2]
theorem J7o{a b:Kd}{j k:Int}{l l2:Jc}(h:Kg (Jo 0 a.l.Coeffs.length) j a.l=some l)(h2:Kg l k b.l=some l2):Qi a j b k=if (Wx j a.scale k b.scale).2&&(Yp j a.mult k b.mult).all (·.2)then some ⟨l2,(Yp j a.mult k b.mult).map (·.1),(Wx j a.scale k b.scale).1⟩else Option.none:=by unfold Qi;simp only[h,h2]
def O5(j:Int)(xs:List Int)(k:Int)(ys:List Int)(i:Nat):List Int:=((Yp j xs k ys).take i).map (·.1)
def Ia(j:Int)(xs:List Int)(k:Int)(ys:List Int)(i:Nat):Bool:=((Yp j xs k ys).take i).all (·.2)
theorem J9e{j k:Int}{xs ys:List Int}{i:Nat}(hi:i<xs.length)(hy:ys.length=xs.length):O5 j xs k ys (i+1)=O5 j xs k ys i++[(Wx j xs[i] k (ys[i]'(by omega))).1]/\Ia j xs k ys (i+1)=(Ia j xs k ys i&&(Wx j xs[i] k (ys[i]'(by omega))).2):=by
 have hl:i<(Yp j xs k ys).length:=by simp[Yp];omega
 have he:(Yp j xs k ys)[i]=Wx j xs[i] k (ys[i]'(by omega)):=by simp[Yp]
 unfold O5 Ia;rw[List.take_succ_eq_append_getElem hl];simp[he]
theorem Jcb{j k:Int}{xs ys:List Int}(hy:ys.length=xs.length):O5 j xs k ys xs.length=(Yp j xs k ys).map (·.1)/\Ia j xs k ys xs.length=(Yp j xs k ys).all (·.2):=by have:(Yp j xs k ys).take xs.length=Yp j xs k ys:=take_of_length_le (by simp[Yp];omega);unfold O5 Ia;rw[this];exact⟨rfl,rfl⟩
theorem J9j{j k:Int}{xs ys:List Int}{i:Nat} : (O5 j xs k ys i).length<=xs.length:=by simp[O5,Yp];omega
section
variable {ks:List Kt}{s:Jm}{h h':J8}{n:Nat}{Q:Xc}
structure Fh (n0:Nat) (h0:J8) (a b:Kd) (va ma vb mb:AV) (j k:Int) (k14 q:Nat) (l2:Jc) (xs:List Int) (sc:Int) (h:J8) (m:Nat):Prop where
 le:n0+5<=k14
 lt:k14<m
 q0:n0+5<=q
 qm:q<m
 fr:∀id,id<n0->h id=h0 id
 e4:h n0=some ⟨true,4,[[.int .i64 a.l.Const,va,ma,.int .i64 a.scale]]⟩
 e5:h (n0+1)=some ⟨true,1,[[i64 j]]⟩
 e6:h (n0+2)=some ⟨true,4,[[.int .i64 b.l.Const,vb,mb,.int .i64 b.scale]]⟩
 e7:h (n0+3)=some ⟨true,1,[[i64 k]]⟩
 e8:h (n0+4)=some ⟨true,4,[[.int .i64 0,.nil 1,.nil 1,.int .i64 0]]⟩
 eq:h q=some ⟨false,1,Jg l2.Coeffs⟩
 e14:∃vm,h k14=some ⟨true,4,[[.int .i64 l2.Const,.ref q 0 l2.Coeffs.length,vm,.int .i64 sc]]⟩/\Vd xs vm h m/\∀id l,vm = .ref id 0 l->n0+5<=id/\id≠q
theorem Fh.step {n0:Nat}{h0:J8}{a b:Kd}{va ma vb mb:AV}{j k:Int}{k14 q:Nat}{l2:Jc}{xs xs':List Int}{sc:Int}{h h':J8}{m m':Nat}{vm:AV}(S:Fh n0 h0 a b va ma vb mb j k k14 q l2 xs sc h m) (hm:m<=m') (hf:∀id,id<n0+5->h' id=h id) (hq:h' q=h q)
 (e:h' k14=some ⟨true,4,[[.int .i64 l2.Const,.ref q 0 l2.Coeffs.length,vm,.int .i64 sc]]⟩) (hx:Vd xs' vm h' m') (hv:∀id l,vm = .ref id 0 l->n0+5<=id/\id≠q):Fh n0 h0 a b va ma vb mb j k k14 q l2 xs' sc h' m':=by
 obtain⟨S1,S2,S3,S4,S5,S6,S7,S8,S9,S10,S11,_⟩:=S;exact⟨S1,by omega,S3,by omega,λid hid=>by rw[hf id (by omega)];exact S5 id hid,by rw[hf _ (by omega)];exact S6,by rw[hf _ (by omega)];exact S7,by rw[hf _ (by omega)];exact S8,by rw[hf _ (by omega)];exact S9,by rw[hf _ (by omega)];exact S10,by rw[hq];exact S11,vm,e,hx,hv⟩
theorem Jnc{n0:Nat}{h0:J8}{a b:Kd}{va ma vb mb:AV}{j k:Int}{k14:Nat}{sc:Int}{l2:Jc}{q:Nat}(hml:b.mult.length=a.mult.length)(hm20:a.mult.length<=20)(A2:Vd a.mult ma h0 n0)(B2:Vd b.mult mb h0 n0)(ok:Bool)
 (s4:s 4 = .ptr n0 0 0) (s6:s 6 = .ptr (n0+2) 0 0) (s13:s 13 = .fn (.func 331) [] [.ptr (n0+1) 0 0,.ptr (n0+3) 0 0]) (s14:s 14 = .ptr k14 0 0) (s16:s 16 = .bool ok)
 (S0:Fh n0 h0 a b va ma vb mb j k k14 q l2 [] sc h n)
 (hK:∀s' h' n',(∀i∈[8,14],s' i=s i)->s' 16 = .bool (ok&&(Yp j a.mult k b.mult).all (·.2))->n<=n'->Fh n0 h0 a b va ma vb mb j k k14 q l2 ((Yp j a.mult k b.mult).map (·.1)) sc h' n'->Ju prog ks .normal s' h' n' Q):rC prog cb8 ks s h n Q:=by
 have hA0:Wg a.mult ma h n := .inr (A2.keep (by have:=S0.le;have:=S0.lt;omega) (Ko.of S0.fr));simp[cb8,s4,S0.e4];refine Jh0 hA0 ?_ (by unfold Jb;omega);intro _;simp;refine Ki [4,6,8,13,14,63] 64 a.mult.length (λi s h m=>n<=m/\s 16 = .bool (ok&&Ia j a.mult k b.mult i)/\Fh n0 h0 a b va ma vb mb j k k14 q l2 (O5 j a.mult k b.mult i) sc h m) (by unfold Jb;omega) (by simp) ⟨Nat.le_refl _,by simp[Ia,s16],S0⟩ ?_ ?_
 ·rintro i st h m R hi hg hk s64 hw ⟨hnm,s16,S⟩ hR hret _;simp at hk;have hib:i<b.mult.length:=by omega
  obtain⟨g1,g2⟩:=J9e (j:=j) (k:=k) (xs:=a.mult) (ys:=b.mult) hi hml;have S':=S;obtain⟨S1,S2,Sq0,Sqm,S3,S4,S5,S6,S7,S8,Sq,vm,S9,S10,S11⟩:=S;have hA:Wg a.mult ma h m := .inr (A2.keep (by omega) (Ko.of S3));have hB:Wg b.mult mb h m := .inr (B2.keep (by omega) (Ko.of S3));refine Js [4,6,8,13,14,16,63,64] (λs=>s 65 = .bool true) (by simp[hk,s64,hi]) ?_;intro Jv hk1 s65;simp at hk1;refine W9 s65 (Jn (Xg ?_));refine Js [4,6,8,13,14,16,63,64] (λs=>s 17 = .int .i64 i) (by simp[hk1,s64]) ?_;intro st2 hk2 s17;simp at hk2;refine Js [4,6,8,13,14,16,63,64] (λs=>s 18 = .int .i64 (Wx j a.mult[i] k b.mult[i]).1/\s 19 = .bool (Wx j a.mult[i] k b.mult[i]).2) ?_ ?_
  ·simp[Jzo,hk2,hk1,hk,s4,s13,s17,S4];refine F5 hA hi ?_;intro w1 hw1;simp;refine hw1 _ ?_;simp[hk2,hk1,hk,s6,s17,S6];refine F5 hB hib ?_;intro w2 hw2;simp;refine hw2 _ ?_;simp;refine J9r S5 S7 ?_;simp[Uy]
  rintro Kl hk3 ⟨s18,s19⟩;simp at hk3;generalize(Wx j a.mult[i] k b.mult[i]).1=y at *;generalize(Wx j a.mult[i] k b.mult[i]).2=ob at *;have x1:¬k14=m:=by omega
  have x2:¬k14=m+1:=by omega
  have vne:∀id,(∃z rows,h id=some ⟨true,z,rows⟩)->∀l,vm ≠ .ref id 0 l:=λid he l e=>by
   obtain⟨z,rows,he⟩:=he;rcases S10 with ⟨rfl,_⟩|⟨id',q1,rfl,q3⟩
   ·cases e
   ·simp at e;rw[e.1,he]at q3;simp at q3
  have vlt:∀id,m<=id->∀l,vm ≠ .ref id 0 l:=λid he l e=>by
   rcases S10 with ⟨rfl,_⟩|⟨id',q1,rfl,q3⟩
   ·cases e
   ·simp at e;omega
  have vmx:Vd (O5 j a.mult k b.mult i) vm (upd h m (some ⟨false,1,[[i64 y]]⟩)) (m+1):=S10.keep (Nat.le_succ m) (Ko.of λid hid=>by rw[Ye];omega);have hl:=J9j (j:=j) (k:=k) (xs:=a.mult) (ys:=b.mult) (i:=i);refine Xo [4,6,8,13,14,16,19,63,64] (λs h' m'=>m<=m'/\Fh n0 h0 a b va ma vb mb j k k14 q l2 (O5 j a.mult k b.mult (i+1)) sc h' m') ?_ ?_
  ·simp[Jzs,hk3,hk2,hk1,hk,s14,s18,S9];refine Ji5 (y:=y) vmx (by simp) (vlt m (Nat.le_refl m)) (Nat.lt_succ_self m) (by unfold Jb;omega) ?_;intro h' f1 f2
   have old:∀id,id<m->(∀l,vm ≠ .ref id 0 l)->h' id=h id:=λid hid hv=>by rw[f2 id (by omega) (by omega) hv,Ye];omega
   have y14:=old k14 S2 (vne k14 ⟨_,_,S9⟩);rw[S9]at y14;simp[hk3,hk2,hk1,hk,s14,y14];refine⟨by omega,S'.step (vm := .ref (m+1) 0 ((O5 j a.mult k b.mult i).length+1)) (by omega) ?_ ?_ (by simp) ?_ ?_⟩
   ·intro id hid;have:¬id=k14:=by omega
    simp[this];refine old id (by omega) λl e=>?_
    have:=(S11 id l e).1;omega
   ·have:¬q=k14:=by rintro rfl;rw[S9]at Sq;simp at Sq
    simp[this];exact old q Sqm λl e=>(S11 q l e).2 rfl
   ·refine .inr ⟨m+1,by omega,by rw[g1];simp,?_⟩;have:¬m+1=k14:=by omega
    simp[this,f1,g1]
   ·intro id l e;simp at e;omega
  rintro st4 h4 m4 hk4 ⟨hm4,S4'⟩;simp at hk4;have g3:(ok&&Ia j a.mult k b.mult (i+1))=((ok&&Ia j a.mult k b.mult i)&&ob):=by rw[g2,Bool.and_assoc]
  generalize(ok&&Ia j a.mult k b.mult i)=bo at *;generalize(ok&&Ia j a.mult k b.mult (i+1))=bo2 at *;subst g3;cases bo
  ·simp[Jvu,hk4,hk3,hk2,hk1,s16,s64,hw];exact hR _ _ _ (by simp[hk4,hk3,hk2,hk1,hk]) (by simp) ⟨by omega,by simp,S4'⟩
  ·simp[Jvu,hk4,hk3,hk2,hk1,s16,s19,s64,hw];exact hR _ _ _ (by simp[hk4,hk3,hk2,hk1,hk]) (by simp) ⟨by omega,by simp,S4'⟩
 ·rintro st h m R hk s64 ⟨hnm,s16,S⟩ hret hX;simp at hk;obtain⟨g1,g2⟩:=Jcb (j:=j) (k:=k) (xs:=a.mult) (ys:=b.mult) hml;rw[g1]at S;rw[g2]at s16;refine Js [8,14,16] (λs=>s 65 = .bool false) (by simp[hk,s64]) ?_;intro Jv hk1 s65;simp at hk1;refine Ut s65 ?_;refine hX _ _ _ _ ?_;simp;exact hK _ _ _ (by simp[hk1,hk]) (by rw[hk1.2.2];exact s16) hnm S
end
def sc0:AC:=(.reg [Zo 8 (.mv (.k (.nil 1))),Zt 9 false])
def sc1:AC:=(.reg [Zo 18 (.bsl 1 []),Zv 10 18])
def sca:AC:=(.reg [Zv 26 0,Zv 27 11,Zx 28 1 26 27,Zl 29 false 1 28,Zv 30 1,Zc 31 263 [.t 29,.t 30],Zv 25 31,Ze 32 25 0,Ze 33 25 1,Zv 12 32,Zv 13 33])
def scb:AC:=(.reg [Zv 35 2,Zv 36 11,Zx 37 1 35 36,Zl 38 false 1 37,Zv 39 3,Zc 40 263 [.t 38,.t 39],Zv 34 40,Ze 41 34 0,Ze 42 34 1,Zv 14 41,Zv 15 42])
def scc:AC:=(.reg [Zv 44 12,Zv 45 14,Zc 46 264 [.t 44,.t 45],Zv 43 46,Ze 47 43 0,Ze 48 43 1,Zv 16 47,Zv 17 48])
def scd:AC:=(.reg [Zv 60 10,Zv 61 16,Zo 62 (.bsl 1 [.t 61]),ZA 63 8 1 60 62,Zv 10 63])
def sc2:AC:=(Zq [Zi 11 0] (.blk 0 (.loop (.seq (Zq [Zv 19 11,Zv 20 0,Zn 21 20,Zb 22 .lss 19 21] (Zw 22 0)) (.seq (.blk 1 (.seq  sca (.seq  scb (.seq  scc (.seq (Zq [Zv 49 13,ZN 50 49,Zv 51 50,Zg 52 51 false (.mv (.t 15)),Zg 53 51 false (.un .not (.t 52)),ZP 54 51 53,Zv 55 54,Zg 56 55 false (.mv (.t 17)),Zg 57 55 false (.un .not (.t 56)),ZP 58 55 57] (.cond (.t 58) (Zq [Zo 59 (.bsl 1 []),Zv 8 59,Zt 9 false] .ret) .skip))  scd))))) (.reg [Zv 23 11,Zk 24 .add 23 1,Zv 11 24]))))))
def sc3:AC:=(.reg [Zv 64 10,Zv 8 64,Zt 9 true])
def a330:Jk:=⟨65,[.t 8,.t 9],(.seq sc0 (.seq sc1 (.seq sc2 (.seq sc3 .ret))))⟩
theorem a330_ok:Gh true prog Tryz.f330=some a330:=by kernel_rfl
theorem Jb6{m:Nat} : List.replicate m [i64 0]=Jg (List.replicate m 0):=by unfold Jg;rw[List.map_replicate]
theorem J67(x y:Int):Xw x y=Xw y x:=by unfold Xw;rw[Int.mul_comm x y,Bool.and_comm (Ky x) (Ky y)]
def Fl(j:Int)(xs:List Int)(k:Int)(ys:List Int):List Int:=if (Yp j xs k ys).all (·.2)then(Yp j xs k ys).map (·.1)else []
theorem Jmi{j k:Int}{xs ys:List Int}{i:Nat}(h:Ia j xs k ys i=false):(Yp j xs k ys).all (·.2)=false:=by unfold Ia at h;rw[<-List.take_append_drop i (Yp j xs k ys),List.all_append,h];rfl
theorem J8a(xs ys:List Int)(j k:Int)(hy:ys.length=xs.length)(hl:xs.length<=100):Holds prog 330 [.sl 1 (Jg xs),i64 j,.sl 1 (Jg ys),i64 k] (λr=>r = .tup [.us 1 (Jg (Fl j xs k ys)),.bool ((Yp j xs k ys).all (·.2))]):=by
 refine Jp Tryz.func330 a330_ok rfl (by simp[a330]) ?_;simp[a330,sc0,sc1,sc2];refine Ki [0,1,2,3] 11 xs.length (λi s h m=>Ia j xs k ys i=true/\∃id,id<m/\s 10 = .ref id 0 (O5 j xs k ys i).length/\h id=some ⟨false,1,Jg (O5 j xs k ys i)⟩) (by unfold Jb;omega) (by simp) ⟨by simp[Ia],0,by simp,by simp[O5],by simp[O5,Jg]⟩ ?_ ?_
 ·rintro i st h m R hi hg hk s11 hw ⟨hb,id,hid,s10,eid⟩ hR hret _;simp at hk;have hib:i<ys.length:=by omega
  obtain⟨g1,g2⟩:=J9e (j:=j) (k:=k) (xs:=xs) (ys:=ys) hi hy;refine Jn (Js [0,1,2,3,10,11] (λs=>s 22 = .bool true) (by simp[hk,s11,hi]) ?_);intro Jv hk1 s22;simp at hk1;refine Uh s22 (Jn (Xg ?_));refine Js [0,1,2,3,10,11] (λs=>s 12 = .int .i64 (Xw j xs[i]).1/\s 13 = .bool (Xw j xs[i]).2) ?_ ?_
  ·simp[sca,hk1,hk,s11,hi];refine Jd (J04 (xs[i]'hi) j) (by simp) ?_;rintro r rfl;rw[J67];simp[Uy]
  rintro st2 hk2 ⟨s12,s13⟩;simp at hk2;refine Js [0,1,2,3,10,11,12,13] (λs=>s 14 = .int .i64 (Xw k ys[i]).1/\s 15 = .bool (Xw k ys[i]).2) ?_ ?_
  ·simp[scb,hk2,hk1,hk,s11,hib];refine Jd (J04 (ys[i]'hib) k) (by simp) ?_;rintro r rfl;rw[J67];simp[Uy]
  rintro Kl hk3 ⟨s14,s15⟩;simp at hk3;refine Js [0,1,2,3,10,11,13,15] (λs=>s 16 = .int .i64 (Wx j xs[i] k ys[i]).1/\s 17 = .bool (Uv (Xw j xs[i]).1 (Xw k ys[i]).1).2) ?_ ?_
  ·simp[scc,hk3,s12,s14];refine Jd (J19 (Xw j xs[i]).1 (Xw k ys[i]).1) (by simp) ?_;rintro r rfl;simp[Uy,Wx,Ol]
  rintro st4 hk4 ⟨s16,s17⟩;simp at hk4;have hok:(Wx j xs[i] k ys[i]).2=((Xw j xs[i]).2&&((Xw k ys[i]).2&&(Uv (Xw j xs[i]).1 (Xw k ys[i]).1).2)):=rfl;have x13:st4 13 = .bool (Xw j xs[i]).2:=by rw[hk4.2.2.2.2.2.2.1,hk3.2.2.2.2.2.2.2,s13]
  have x15:st4 15 = .bool (Xw k ys[i]).2:=by rw[hk4.2.2.2.2.2.2.2,s15]
  have x10:st4 10 = .ref id 0 (O5 j xs k ys i).length:=by rw[hk4.2.2.2.2.1,hk3.2.2.2.2.1,hk2.2.2.2.2.1,hk1.2.2.2.2.1,s10]
  have hbad:Ia j xs k ys (i+1)=false->Fl j xs k ys=[]/\(Yp j xs k ys).all (·.2)=false:=λh=>by have:=Jmi h;exact⟨by unfold Fl;rw[this];rfl,this⟩
  have hne:¬id=m:=by omega
  have hml:=J9j (j:=j) (k:=k) (xs:=xs) (ys:=ys) (i:=i);rw[hb,Bool.true_and,hok]at g2;cases c1:(Xw j xs[i]).2 <;>rw[c1]at x13 g2
  ·obtain⟨y1,y2⟩:=hbad (by rw[g2];rfl);simp[x13];refine hret _ _ _ ?_;simp[y1,y2,Jg]
  cases c2:(Xw k ys[i]).2 <;>rw[c2]at x15 g2
  ·obtain⟨y1,y2⟩:=hbad (by rw[g2];rfl);simp[x13,x15];refine hret _ _ _ ?_;simp[y1,y2,Jg]
  cases c3:(Uv (Xw j xs[i]).1 (Xw k ys[i]).1).2 <;>rw[c3]at s17 g2
  ·obtain⟨y1,y2⟩:=hbad (by rw[g2];rfl);simp[x13,x15,s17];refine hret _ _ _ ?_;simp[y1,y2,Jg]
  simp[x13,x15,s17,scd,x10,s16,eid,hne];refine⟨λe=>hne e.symm,by unfold Jb;omega,?_⟩;simp[hk4,hk3,hk2,hk1,s11,hw];have ht:Ia j xs k ys (i+1)=true:=by rw[g2];rfl
  refine hR _ _ _ (by simp[hk4,hk3,hk2,hk1,hk]) (by simp) ⟨ht,m+1,by omega,by rw[g1];simp,by rw[g1];simp[Jg]⟩
 ·rintro st h m R hk s11 ⟨hb,id,hid,s10,eid⟩ hret hX;simp at hk;obtain⟨g1,g2⟩:=Jcb (j:=j) (k:=k) (xs:=xs) (ys:=ys) hy;rw[g1]at s10 eid;rw[g2]at hb;have hv:Fl j xs k ys=(Yp j xs k ys).map (·.1):=by unfold Fl;rw[hb];rfl
  refine Jn (Js [10] (λs=>s 22 = .bool false) (by simp[hk,s11]) ?_);intro Jv hk1 s22;simp at hk1;refine U3 s22 ?_;refine hX _ _ _ _ ?_;rw[hv,hb];have ht:List.take (Yp j xs k ys).length (Jg ((Yp j xs k ys).map (·.1)))=Jg ((Yp j xs k ys).map (·.1)):=take_of_length_le (by simp);simp[sc3,hk1,s10,eid,ht]
def jn0:AC:=(.reg [ZB 3 0,ZB 4 1,Zo 6 (.box [(.int .i64 0),(.nil 1),(.nil 1)]),Zt 7 false])
def jn1:AC:=(.reg [Zf 17 0 3,Zf 18 1 17,Zl 19 false 1 18,Zv 20 2,Zx 21 1 19 20,Zl 22 false 1 21,Zv 8 22])
def jn2:AC:=(.reg [Zf 23 0 4,Zf 24 1 23,Zl 25 false 1 24,Zv 26 2,Zx 27 1 25 26,Zl 28 false 1 27,Zo 29 (.bin .sub (.k (.int .i64 0)) (.t 28)),Zv 9 29])
def jn3:AC:=(.reg [Zv 30 8,Zv 31 9,Zc 32 329 [.t 30,.t 31],Zc 33 270 [.t 32,(.k (.int .i64 1))],Zv 10 33])
def jn4:AC:=(.draw (.op (Zf 35 0 3) (.op (Zf 36 1 35) (.op (Zl 37 false 1 36) (.op (Zn 38 37) (.op (Zv 41 9) (.op (Zv 42 10) (.op (Zb 43 .quo 41 42) (.op (Zf 44 0 3) (.op (Zl 45 true 2 44) (.both (.op (Zo 39 (.mks 8 [(.int .i64 0)] (.t 38) (.t 38))) (.op (Zo 40 (.build [(.int .i64 0),(.nil 1)] [(1,(1,(.t 39)))])) (.both (.op (Zc 46 98 [.t 40,.t 43,.t 45]) (.op (Zv 34 46) (.op (Ze 47 34 0) (.op (Ze 48 34 1) (.op (Zo 11 (.box [(.int .i64 0),(.nil 1)])) (.hop ⟨no,.st 2 (.t 11) (.t 47),no⟩ [] (.op (Zv 12 48) .fin))))))) (.op (Zo 11 (.box [(.int .i64 0),(.nil 1)])) (.op (Zc 46 98 [.t 40,.t 43,.t 45]) (.op (Zv 34 46) (.op (Ze 47 34 0) (.op (Ze 48 34 1) (.hop ⟨no,.st 2 (.t 11) (.t 47),no⟩ [] (.op (Zv 12 48) .fin)))))))))) (.op (Zo 11 (.box [(.int .i64 0),(.nil 1)])) (.op (Zo 39 (.mks 8 [(.int .i64 0)] (.t 38) (.t 38))) (.op (Zo 40 (.build [(.int .i64 0),(.nil 1)] [(1,(1,(.t 39)))])) (.op (Zc 46 98 [.t 40,.t 43,.t 45]) (.op (Zv 34 46) (.op (Ze 47 34 0) (.op (Ze 48 34 1) (.hop ⟨no,.st 2 (.t 11) (.t 47),no⟩ [] (.op (Zv 12 48) .fin))))))))))))))))))))
def Tw:AC:=(.draw (.op (Zl 50 true 2 11) (.op (Zv 51 8) (.op (Zv 52 10) (.op (Zb 53 .quo 51 52) (.op (Zf 54 0 4) (.op (Zl 55 true 2 54) (.both (.op (Zc 56 98 [.t 50,.t 53,.t 55]) (.op (Zv 49 56) (.op (Ze 57 49 0) (.op (Ze 58 49 1) (.op (Zo 13 (.box [(.int .i64 0),(.nil 1)])) (.hop ⟨no,.st 2 (.t 13) (.t 57),no⟩ [] (.op (Zv 14 58) .fin))))))) (.op (Zo 13 (.box [(.int .i64 0),(.nil 1)])) (.op (Zc 56 98 [.t 50,.t 53,.t 55]) (.op (Zv 49 56) (.op (Ze 57 49 0) (.op (Ze 58 49 1) (.hop ⟨no,.st 2 (.t 13) (.t 57),no⟩ [] (.op (Zv 14 58) .fin)))))))))))))))
def jn6:AC:=(.draw (.op (Zf 60 2 3) (.op (Zl 61 false 1 60) (.op (Zv 62 9) (.op (Zv 63 10) (.op (Zb 64 .quo 62 63) (.op (Zf 65 2 4) (.op (Zl 66 false 1 65) (.op (Zv 67 8) (.op (Zv 68 10) (.op (Zb 69 .quo 67 68) (.op (Zc 70 330 [.t 61,.t 64,.t 66,.t 69]) (.op (Zv 59 70) (.op (Ze 71 59 0) (.op (Ze 72 59 1) (.op (Zv 15 71) (.op (Zv 16 72) .fin)))))))))))))))))
def jn7:AC:=(.reg [Zl 73 true 2 13,Zv 74 15,Zo 75 (.build [(.int .i64 0),(.nil 1),(.nil 1)] [(0,(2,(.t 73))),(2,(1,(.t 74)))]),Zv 76 12,Zv 77 76,Zg 78 77 true (.mv (.t 14)),ZQ 79 77 78,Zv 80 79,Zg 81 80 true (.mv (.t 16)),ZQ 82 80 81,⟨no,.st 3 (.t 6) (.t 75),no⟩,Zv 7 82])
def a304:Jk:=⟨83,[(.c 6 true 3),.t 7],(.seq jn0 (.seq jn1 (.seq jn2 (.seq jn3 (.seq jn4 (.seq Tw (.seq jn6 (.seq jn7 .ret))))))))⟩
theorem a304_ok:Gh true prog Tryz.f304=some a304:=by kernel_rfl
theorem J2y{j k s t:Int}{xs ys:List Int}(h:ys.length=xs.length):Yp j (xs++[s]) k (ys++[t])=Yp j xs k ys++[Wx j s k t]:=by unfold Yp;rw[List.zipWith_append h.symm];rfl
theorem bwA{c:Int}{l:List Int}{v:AV}{h:J8}(x:Go.Proofs.YtoclolkigjbcgaaGreat.bw v h=some (.sl 1 (Jg l))):Go.Proofs.YtoclolkigjbcgaaGreat.bw (.agg [.int .i64 c,v]) h=some (.agg (Ja ⟨c,l⟩)):=by simp only[Go.Proofs.YtoclolkigjbcgaaGreat.bw,U0,x];rfl
section
variable {ks:List Kt}{s:Jm}{h h':J8}{n:Nat}{Q:Xc}
theorem Jkw{a:Kd}{va ma:AV}{N m k3:Nat}{q g:Int}(ga:GD N m a)(hq:0<=q/\q<=1000000000)(hg0:0<g)(s3:s 3 = .ptr k3 0 0)(s9:s 9 = .int .i64 q)(s10:s 10 = .int .i64 g)(e3:h k3=some ⟨true,3,[[.int .i64 a.l.Const,va,ma]]⟩)(A1:Wg a.l.Coeffs va h n)
 (hK:∀s' h' n' k r,(∀i∈[3,4,6,8,9,10],s' i=s i)->n<=n'->(∀id,id<n->h' id=h id)->s' 12 = .bool (Kg (Jo 0 a.l.Coeffs.length) (q.tdiv g) a.l).isSome->s' 11 = .ptr k 0 0->Hp ((Kg (Jo 0 a.l.Coeffs.length) (q.tdiv g) a.l).getD Jl) k r h' n n'->Ju prog ks .normal s' h' n' Q):rC prog jn4 ks s h n Q:=by
 have fr:∀id,id<n->¬id=n/\¬id=n+1/\¬id=n+2/\¬id=n+1+1:=by intro id _;omega
 have ne:¬n=n+1/\¬n+1=n/\¬n=n+1+1/\¬n+1+1=n/\¬n+1=n+1+1/\¬n+1+1=n+1:=by omega
 have w1:=Cr (g:=g) hq.1 hq.2 (by omega);have v1:IntKind.i64.wrap (q.tdiv g)=q.tdiv g:=Kk (by omega);have hgn:¬g=0:=by omega
 have h8:=W0 ga.ok;have hcl:=ga.cl;have hc0:Jo 0 (a.l.Coeffs.length:Int)=⟨0,List.replicate a.l.Coeffs.length 0⟩:=(Eg (by decide) (by omega)).1;have hz:=Jb6 (m:=a.l.Coeffs.length);have hz0:=hz;simp only[i64]at hz0
 have hcall:∀{H:J8}{M z:Nat}{K:AV->J8->Nat->Prop},H z=some ⟨false,1,List.replicate a.l.Coeffs.length [.int .i64 0]⟩->Ko h H n->(∀T,T=Kg (Jo 0 a.l.Coeffs.length) (q.tdiv g) a.l->K (.tup [.agg [.int .i64 (T.getD Jl).Const,.ref M 0 (T.getD Jl).Coeffs.length],.bool T.isSome]) (upd H M (some ⟨false,1,Jg (T.getD Jl).Coeffs⟩)) (M+1))->X7 prog 98 [.agg [.int .i64 0,.ref z 0 a.l.Coeffs.length],i64 (q.tdiv g),.agg [.int .i64 a.l.Const,va]] H M (Go.Proofs.YtoclolkigjbcgaaGreat.hK H K):=by
  intro H M z K hH hkp hk;refine Jw (Ve (Jo 0 a.l.Coeffs.length) (q.tdiv g) a.l) ?_ ?_
  ·have hb:bw (.ref z 0 a.l.Coeffs.length) H=some (.sl 1 (Jg (List.replicate a.l.Coeffs.length 0))):=by
    simp[hH];rw[hz0];exact Jdd _
   rw[hc0];simp only[U0,bwA hb,bwA (A1.bwk hkp)];rfl
  ·rintro r rfl;rw[Xd];have:=hk _ rfl;simpa[J9]using this
 simp[jn4,s3,e3];refine J94 A1 ?_;simp[hgn,v1,s3,e3,s9,s10];have hkp1:∀y,Ko h (upd h n y) n:=λy=>Ko.of λid hid=>by simp[fr id hid]
 have hkp2:∀y z,Ko h (upd (upd h n y) (n+1) z) n:=λy z=>Ko.of λid hid=>by simp[fr id hid]
 refine⟨⟨by unfold Jb;omega,?_,?_⟩,by unfold Jb;omega,?_⟩
 ·refine hcall (z:=n) (by simp) (hkp1 _) ?_;intro T hT;simp;rw[<-hT]at hK;exact hK _ _ _ (n+1+1) (n+1) (by simp) (by omega) (λid hid=>by simp[fr id hid]) (by simp) (by simp) ⟨by omega,by omega,by omega,by omega,by omega,by simp,by simp⟩
 ·refine hcall (z:=n) (by simp) (hkp2 _ _) ?_;intro T hT;simp;rw[<-hT]at hK;exact hK _ _ _ (n+1) (n+1+1) (by simp) (by omega) (λid hid=>by simp[fr id hid]) (by simp) (by simp) ⟨by omega,by omega,by omega,by omega,by omega,by simp,by simp⟩
 ·refine hcall (z:=n+1) (by simp) (hkp2 _ _) ?_;intro T hT;simp[ne];rw[<-hT]at hK;exact hK _ _ _ n (n+1+1) (by simp) (by omega) (λid hid=>by simp[fr id hid]) (by simp) (by simp) ⟨by omega,by omega,by omega,by omega,by omega,by simp,by simp[ne]⟩
theorem Jmd{b:Kd}{vb mb:AV}{N m k4 k11 q11 lo:Nat}{p g:Int}{l:Jc}(hp:0<=p/\p<=1000000000)(hg0:0<g)(s4:s 4 = .ptr k4 0 0)(s8:s 8 = .int .i64 p)(s10:s 10 = .int .i64 g)(s11:s 11 = .ptr k11 0 0)(e4:h k4=some ⟨true,3,[[.int .i64 b.l.Const,vb,mb]]⟩)(L:Hp l k11 q11 h lo n)(B1:Wg b.l.Coeffs vb h n)
 (hK:∀s' h' n' k r,(∀i∈[3,4,6,8,9,10,12],s' i=s i)->n<=n'->(∀id,id<n->h' id=h id)->s' 14 = .bool (Kg l (p.tdiv g) b.l).isSome->s' 13 = .ptr k 0 0->Hp ((Kg l (p.tdiv g) b.l).getD Jl) k r h' n n'->Ju prog ks .normal s' h' n' Q):rC prog Tw ks s h n Q:=by
 obtain⟨l1,l2,l3,l4,l5,l6,l7⟩:=L;have fr:∀id,id<n->¬id=n/\¬id=n+1/\¬id=n+2/\¬id=n+1+1:=by intro id _;omega
 have ne:¬n=n+1/\¬n+1=n/\¬n=n+1+1/\¬n+1+1=n/\¬n+1=n+1+1/\¬n+1+1=n+1:=by omega
 have w1:=Cr (g:=g) hp.1 hp.2 (by omega);have v1:IntKind.i64.wrap (p.tdiv g)=p.tdiv g:=Kk (by omega);have hgn:¬g=0:=by omega
 have hcall:∀{H:J8}{M:Nat}{K:AV->J8->Nat->Prop},Ko h H n->(∀T,T=Kg l (p.tdiv g) b.l->K (.tup [.agg [.int .i64 (T.getD Jl).Const,.ref M 0 (T.getD Jl).Coeffs.length],.bool T.isSome]) (upd H M (some ⟨false,1,Jg (T.getD Jl).Coeffs⟩)) (M+1))->X7 prog 98 [.agg [.int .i64 l.Const,.ref q11 0 l.Coeffs.length],i64 (p.tdiv g),.agg [.int .i64 b.l.Const,vb]] H M (Go.Proofs.YtoclolkigjbcgaaGreat.hK H K):=by
  intro H M K hkp hk;refine Jw (Ve l (p.tdiv g) b.l) ?_ ?_
  ·have hb:bw (.ref q11 0 l.Coeffs.length) H=some (.sl 1 (Jg l.Coeffs)):=by
    have:=hkp q11 _ _ l4 l7;simp[this]
   simp only[U0,bwA hb,bwA (B1.bwk hkp)];rfl
  ·rintro r rfl;rw[Xd];have:=hk _ rfl;simpa[J9]using this
 simp[Tw,s4,s8,s10,s11,e4,l6,hgn,v1];refine⟨?_,?_⟩
 ·refine hcall (Ko.of λ_ _=>rfl) ?_;intro T hT;simp;rw[<-hT]at hK;exact hK _ _ _ (n+1) n (by simp) (by omega) (λid hid=>by simp[fr id hid]) (by simp) (by simp) ⟨by omega,by omega,by omega,by omega,by omega,by simp,by simp⟩
 ·refine hcall (Ko.of λid hid=>by simp[fr id hid]) ?_;intro T hT;simp;rw[<-hT]at hK;exact hK _ _ _ n (n+1) (by simp) (by omega) (λid hid=>by simp[fr id hid]) (by simp) (by simp) ⟨by omega,by omega,by omega,by omega,by omega,by simp,by simp⟩
end
end Go.Proofs.YtoclolkigjbcgaaGreat
