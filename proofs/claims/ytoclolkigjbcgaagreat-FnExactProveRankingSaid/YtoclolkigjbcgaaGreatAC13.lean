/- Contracts: names in order; the names of an argument. -/
import Derived.Test.YtoclolkigjbcgaaGreatAR44
import Derived.Test.YtoclolkigjbcgaaGreatASh
import Derived.Test.YtoclolkigjbcgaaGreatAC11
import Derived.Test.YtoclolkigjbcgaaGreatAC1
namespace Go.Proofs.YtoclolkigjbcgaaGreat
open Tryz
open Tryz(prog)
open List(mem_append mem_map mem_filter mem_replicate map_append mem_singleton take_of_length_le length_append length_map length_cons map_cons getElem_mem append_assoc drop_eq_nil_of_le append_nil nil_append all_cons all_eq_true mem_cons foldl_cons mem_cons_self mem_cons_of_mem range_succ map_nil replicate_succ mem_append_left nodup_append nodup_cons)
set_option maxRecDepth 40000
set_option maxHeartbeats 4000000
open Go Go.RowKit Go.Proofs
set_option linter.all false
def K4r:Jl:= ⟨10,[.t 2],(Zq [Zz 2 1] (Zq [Zv 4 0,Zc 5 252 [.t 4],Zv 3 5] (Zq [Zv 6 3,Zc 7 324 [.t 6]] (Zq [Zv 8 3,Zc 9 325 [.t 8],Zv 2 9] .ret))))⟩
theorem Js5:Jh prog f299=some K4r:=by kernel_rfl
def K4b:Jl:= ⟨63,[.t 2],(Zq [Zz 2 1] (Zq [Zo 7 (.bsl 1 []),Zv 3 7] (.seq (Zq [Zi 4 0] (.blk 0 (.loop (.seq (Zq [Zv 8 4,Zv 9 0,Zn 10 9,Zb 11 .lss 8 10] (Zw 11 0)) (.seq (.blk 1 (Zq [Zi 5 0] (.seq (.blk 2 (.loop (.seq (.seq (.draw (.op (Zv 14 5) (.op (Zv 15 3) (.op (Zn 16 15) (.op (Zb 17 .lss 14 16) (.op (Zv 18 17) (.op (Zg 19 18 true (.mv (.t 3))) (.op (Zg 20 18 true (.mv (.t 5))) (.op (Zg 21 18 true (.ixa 1 (.t 19) (.t 20))) (.op (Zg 22 18 true (.ld false 1 (.t 21))) (.op (Zg 23 18 true (.mv (.t 0))) (.op (Zg 24 18 true (.mv (.t 4))) (.op (Zg 25 18 true (.ixa 1 (.t 23) (.t 24))) (.op (Zg 26 18 true (.ld false 1 (.t 25))) (.op (Zg 27 18 true (.bin .lss (.t 22) (.t 26))) (.op (ZQ 28 18 27) .fin)))))))))))))))) (Zw 28 2)) (.blk 3 (.reg [Zv 29 5,Zk 30 .add 29 1,Zv 5 30]))))) (.seq (.seq (.draw (.op (Zv 31 5) (.op (Zv 32 3) (.op (Zn 33 32) (.op (Zb 34 .lss 31 33) (.op (Zv 35 34) (.op (Zg 36 35 true (.mv (.t 3))) (.op (Zg 37 35 true (.mv (.t 5))) (.op (Zg 38 35 true (.ixa 1 (.t 36) (.t 37))) (.op (Zg 39 35 true (.ld false 1 (.t 38))) (.op (Zg 40 35 true (.mv (.t 0))) (.op (Zg 41 35 true (.mv (.t 4))) (.op (Zg 42 35 true (.ixa 1 (.t 40) (.t 41))) (.op (Zg 43 35 true (.ld false 1 (.t 42))) (.op (Zg 44 35 true (.bin .eql (.t 39) (.t 43))) (.op (ZQ 45 35 44) .fin)))))))))))))))) (.cond (.t 45) (.exit 1) .skip)) (Zq [Zo 46 (.bsl 1 []),Zv 47 3,Zv 48 5,Zo 49 (.slc false 1 (.t 47) (some (.t 48)) Option.none),ZA 50 16 1 46 49,Zv 6 50] (.draw (.op (Zv 51 3) (.op (Zv 52 5) (.op (Zo 53 (.slc false 1 (.t 51) Option.none (some (.t 52)))) (.op (Zv 54 0) (.op (Zv 55 4) (.op (Zx 56 1 54 55) (.op (Zl 57 false 1 56) (.op (Zv 60 6) (.hop (ZS 58 1 57) [(.slc false 1 (.t 51) Option.none (some (.t 52)))] (.hop (ZA 59 16 1 53 58) [] (.hop (ZA 61 16 1 59 60) [] (.hop (Zv 3 61) [] .fin)))))))))))))))))) (.reg [Zv 12 4,Zk 13 .add 12 1,Zv 4 13])))))) (Zq [Zv 62 3,Zv 2 62] .ret))))⟩
theorem Jqu:Jh prog f319=some K4b:=by kernel_rfl
theorem Jz7{h:J8}{n id:Nat}{l:List J9}{K:AV->J8->Nat->Prop}(hB:h id=some ⟨false,1,Jf l⟩)(hK:K (.tup []) (upd h id (some ⟨false,1,Jf (O6 l)⟩)) n):X9 prog 324 [.ref id 0 l.length] h n K:=by
 refine J19 (l2:=O6 l) (r := .tup []) (by unfold Eg;rw[func324];rfl) hB (J32 l) (λs hs=>.inl (J7c.1 hs)) (.inl ⟨rfl,λ_ _ _=>trivial⟩) ?_ ?_ hK
 ·intro b cap w hH hb _ hlim;unfold Jd at hlim;refine(Tryz.slices_Sort_string b 0 cap l w hH hb (by omega)).mono ?_;rintro e w' ⟨rfl,q,os,rfl⟩;exact⟨⟨_,rfl,λ_=>rfl,λm h=>by cases h⟩,q,os,rfl⟩
 ·intro _ w;refine(Tryz.slices_Sort_string_none Option.none 0 w).mono ?_;rintro e w' ⟨rfl,rfl⟩;exact⟨⟨_,rfl,λ_=>rfl,λm h=>by cases h⟩,rfl⟩
theorem Jgf{h:J8}{n id:Nat}{l:List J9}{K:AV->J8->Nat->Prop}(hB:h id=some ⟨false,1,Jf l⟩)
 (hK:K (.ref id 0 (Go.Lib.compact l).length) (upd h id (some ⟨false,1,Jf (Go.Lib.compact l++List.replicate (l.length - (Go.Lib.compact l).length) [])⟩)) n):X9 prog 325 [.ref id 0 l.length] h n K:=by
 have hl:=J0t l;refine J19 (l2:=Go.Lib.compact l++List.replicate (l.length - (Go.Lib.compact l).length) []) (r := .ref id 0 (Go.Lib.compact l).length) (by unfold Eg;rw[func325];rfl) hB (by simp;omega) ?_ (.inr ⟨_,hl,rfl⟩) ?_ ?_ hK
 ·intro s hs;rcases mem_append.1 hs with hs|hs
  ·left;unfold Go.Lib.compact Go.Lib.compactUpTo at hs;obtain⟨j,hj,rfl⟩:=mem_map.1 hs;have hj:=List.mem_range.1 (mem_filter.1 hj).1;simp[hj]
  ·right;exact(mem_replicate.1 hs).2
 ·intro b cap w hH hb hcap hlim;unfold Jd at hlim;refine(Tryz.slices_Compact_string b 0 cap l w hH (by omega) hcap).mono ?_;rintro e w' ⟨rfl,q,rfl⟩;exact⟨⟨_,rfl,λh=>by(cases h),λm h=>by(cases h;rfl)⟩,q,#[],by unfold Gl;rw[Go.Sort.grow_empty]⟩
 ·intro hl0 w;subst hl0;refine(Tryz.slices_Compact_string_empty Option.none 0 w).mono ?_;rintro e w' ⟨rfl,rfl⟩;exact⟨⟨_,rfl,λh=>by(cases h),λm h=>rfl⟩,rfl⟩
theorem Sb(l:List J9)(hl:l.length<=1048576):Holds prog 299 [.sl 1 (Jf l)] (λr=>r = .us 1 (Jf (Im l))):=by
 refine Jp func299 Js5 rfl (by simp[K4r]) ?_;simp[K4r];refine Je (J56 l hl) (by simp) ?_;rintro r rfl;simp;refine Jz7 (l:=l) (by simp) ?_;simp;rw[<-J32 l];refine Jgf (l:=O6 l) (by simp) ?_;have h:=J0t (O6 l)
 have h2:List.take (Go.Lib.compact (O6 l)).length (Jf (Go.Lib.compact (O6 l)++List.replicate ((O6 l).length - (Go.Lib.compact (O6 l)).length) []))=Jf (Im l):=by unfold Jf;rw[map_append,List.take_left' (by simp)];rfl
 simp[h2]
set_option maxHeartbeats 1000000 in
theorem J2a(l:List J9)(hl:l.length<=1048576):Holds prog 319 [.sl 1 (Jf l)] (λr=>r = .us 1 (Jf (Im l))):=by
 refine Jp func319 Jqu rfl (by simp[K4b]) ?_;simp[K4b]
 refine Ka [0] 4 l.length (λi s h n=>∃(acc:List J9) (id:Nat),s 3 = .ref id 0 acc.length/\h id=some ⟨false,1,Jf acc⟩/\id<n/\acc.length<=i/\SS acc/\∀x,x∈acc↔x∈l.take i)
  (by unfold Jd;omega) (by simp) ⟨[],0,by simp,by simp[Jf],by simp,by simp,by simp[SS],by simp⟩ ?_ ?_
 ·rintro i s h n R hi hg hk s4 hw ⟨acc,id,s3,eid,hidn,hai,hS,hmem⟩ hR _ _;simp at hk;simp[hk,s4,hi];intro _
  refine J6x (λm s' h' n'=>∃k:Nat,m=acc.length - k/\k<=acc.length/\s' 0 = .sl 1 (Jf l)/\s' 4 = .int .i64 i/\s' 3 = .ref id 0 acc.length/\s' 5 = .int .i64 k/\(∀j,∀hj:j<acc.length,j<k->bl acc[j] l[i]=true)/\h'=h/\n'=n) acc.length
   ⟨0,by simp,Nat.zero_le _,by simp[hk],by simp[s4],by simp[s3],by simp,λj _ hj=>absurd hj (Nat.not_lt_zero _),rfl,rfl⟩ ?_
  rintro m s' h' n' R' ⟨k,rfl,hka,s0',s4',s3',s5',hlt,rfl,rfl⟩ hR' _ hX'
  have rest:∀s'':Jm,s'' 0 = .sl 1 (Jf l)->s'' 4 = .int .i64 i->s'' 3 = .ref id 0 acc.length->s'' 5 = .int .i64 k->(∀hk:k<acc.length,bl acc[k] l[i]=false)->R' (.exit 2) s'' h' n':=by
   intro s2 t0 t4 t3 t5 hge;refine hX' _ _ _ _ ?_;obtain⟨hS',hm'⟩:=Jc9 hS hka hlt hge
   have hmem':∀x,x∈D7 acc l[i] k↔x∈l.take (i+1):=λx=>by rw[hm',hmem,List.take_succ_eq_append_getElem hi,mem_append,mem_singleton];exact Or.comm
   have hll:(D7 acc l[i] k).length<=i+1:=by
    unfold D7;split
    ·omega
    ·simp;omega
   by_cases he:acc[k]? = some l[i]
   ·have hk1:k<acc.length:=(List.getElem?_eq_some_iff.1 he).1;have hek:acc[k]=l[i]:=by rw[List.getElem?_eq_getElem hk1]at he;exact Option.some.inj he
    have hia:D7 acc l[i] k=acc:=by unfold D7;rw[if_pos he]
    rw[hia]at hS' hmem' hll;simp[t0,t4,t3,t5,eid,hk1,hi,hek,hw];exact hR _ _ _ (by simp[t0]) (by simp) ⟨acc,id,by simp[t3],eid,hidn,by omega,hS',hmem'⟩
   ·have hia:D7 acc l[i] k=acc.take k++l[i]::acc.drop k:=by unfold D7;rw[if_neg he]
    have n0:¬id=n':=by omega
    have n1:¬id=n'+1:=by omega
    have n2:¬id=n'+1+1:=by omega
    have n3:¬n'=id:=by omega
    have n4:¬n'+1=id:=by omega
    have n5:¬n'+1+1=id:=by omega
    have n6:¬n'+1+1+1=id:=by omega
    have n7:¬id=n'+1+1+1:=by omega
    have q1:k+(acc.length - k)=acc.length:=by omega
    have q2:acc.length<=1048576:=by omega
    have q3:min k acc.length=k:=Nat.min_eq_left hka;by_cases hk1:k<acc.length
    ·have hek:¬acc[k]=l[i]:=λe=>he (by rw[List.getElem?_eq_getElem hk1,e])
     simp[t0,t4,t3,t5,eid,hk1,hi,hek,hw,U0,Vz,n0,n1,n2,n4,n5,q1,q3,hka];have hlim:(acc.length - k)*16<=Jd/\(k+1)*16<=Jd/\(k+1+(acc.length - k))*16<=Jd:=by unfold Jd;omega
     refine⟨hlim.1,hlim.2.1,hlim.2.2,?_⟩;have hln:(acc.take k++l[i]::acc.drop k).length=k+1+(acc.length - k):=by simp;omega
     refine hR _ _ _ (by simp[t0]) (by simp) ⟨acc.take k++l[i]::acc.drop k,n'+4,?_,?_,by omega,by rw[<-hia];exact hll,by rw[<-hia];exact hS',by rw[<-hia];exact hmem'⟩
     ·rw[hln];simp
     ·simp[Jf,take_of_length_le];rw[take_of_length_le (by simp;omega)];simp
    ·simp[t0,t4,t3,t5,eid,hk1,hi,hw,U0,Vz,n0,n1,n2,n4,n5,q1,q3,hka];have hlim:(acc.length - k)*16<=Jd/\(k+1)*16<=Jd/\(k+1+(acc.length - k))*16<=Jd:=by unfold Jd;omega
     refine⟨hlim.1,hlim.2.1,hlim.2.2,?_⟩;have hln:(acc.take k++l[i]::acc.drop k).length=k+1+(acc.length - k):=by simp;omega
     refine hR _ _ _ (by simp[t0]) (by simp) ⟨acc.take k++l[i]::acc.drop k,n'+4,?_,?_,by omega,by rw[<-hia];exact hll,by rw[<-hia];exact hS',by rw[<-hia];exact hmem'⟩
     ·rw[hln];simp
     ·simp[Jf,take_of_length_le];rw[take_of_length_le (by simp;omega)];simp
  by_cases hk1:k<acc.length
  ·simp[s0',s4',s3',s5',eid,hk1,hi];refine⟨λhb=>?_,λhb=>?_⟩
   ·refine hR' (acc.length - (k+1)) _ _ _ (by omega) ⟨k+1,rfl,by omega,by simp[s0'],by simp[s4'],by simp[s3'],by simp;exact Km (by omega),λj hj hjk=>?_,rfl,rfl⟩;by_cases hjk':j<k
    ·exact hlt j hj hjk'
    ·have:j=k:=by omega
     subst this;exact hb
   ·exact rest _ (by simp[s0']) (by simp[s4']) (by simp[s3']) (by simp[s5']) λ_=>hb
  ·simp[s0',s4',s3',s5',eid,hk1,hi];exact rest _ (by simp[s0']) (by simp[s4']) (by simp[s3']) (by simp[s5']) λh=>absurd h hk1
 ·rintro s h n R hk s4 ⟨acc,id,s3,eid,hidn,hai,hS,hmem⟩ hret hX;simp at hk;rw[take_of_length_le (Nat.le_refl _)]at hmem;have:=Jf7 hS hmem;subst this;simp[hk,s4];intro _;refine hX _ _ _ _ ?_;simp[s3,eid]
def K6a:Jl:= ⟨20,[.t 2],(Zq [ZB 1 0,Zz 2 1] (Zq [Zz 3 1] (.seq (Zq [Zf 6 1 1,Zl 7 false 1 6,Zn 8 7,Zi 9 0] (.blk 0 (.loop (Zq [Zb 10 .lss 9 8] (.seq (Zw 10 0) (.seq (.blk 1 (Zq [Zx 11 2 7 9,Zl 12 true 2 11,Zo 5 (.box [(.int .i64 0),(.str [])]),Zs 2 5 12] (.reg [Zv 13 3,Zf 14 1 5,Zl 15 false 1 14,ZS 16 1 15,ZA 17 16 1 13 16,Zv 3 17]))) (.reg [Zk 18 .add 9 1,Zv 9 18]))))))) (Zq [Zv 19 3,Zv 2 19] .ret))))⟩
theorem Jto:Jh prog f239=some K6a:=by kernel_rfl
def K7x:Jl:= ⟨28,[.t 2],(Zq [ZB 1 0,Zz 2 1] (Zq [Zz 3 1] (.seq (Zq [Zf 6 1 1,Zl 7 false 1 6,Zn 8 7,Zi 9 0] (.blk 0 (.loop (Zq [Zb 10 .lss 9 8] (.seq (Zw 10 0) (.seq (.blk 1 (Zq [Zx 11 2 7 9,Zl 12 true 2 11,Zo 5 (.box [(.int .i64 0),(.nil 2)]),Zs 2 5 12] (.reg [Zv 13 3,Zl 14 true 2 5,Zc 15 239 [.t 14],ZA 16 16 1 13 15,Zv 3 16]))) (.reg [Zk 17 .add 9 1,Zv 9 17]))))))) (.seq (Zq [Zf 18 2 1,Zl 19 false 1 18,Zo 20 (.bin .neq (.t 19) (.k (.str [])))] (.cond (.t 20) (.reg [Zv 21 3,Zf 22 2 1,Zl 23 false 1 22,ZS 24 1 23,ZA 25 16 1 21 24,Zv 3 25]) .skip)) (Zq [Zv 26 3,Zc 27 299 [.t 26],Zv 2 27] .ret)))))⟩
theorem Jqf:Jh prog f243=some K7x:=by kernel_rfl
def K8l:Jl:= ⟨48,[.t 2],(Zq [ZB 1 0,Zz 2 1] (Zq [Zo 6 (.bsl 1 []),Zv 3 6] (.seq (Zq [Zi 4 0] (.blk 0 (.loop (.seq (Zq [Zv 7 4,Zf 8 1 1,Zl 9 false 1 8,Zn 10 9,Zb 11 .lss 7 10] (Zw 11 0)) (.seq (.blk 1 (Zq [Zi 5 0] (.blk 2 (.loop (.seq (Zq [Zv 14 5,Zf 15 1 1,Zl 16 false 1 15,Zv 17 4,Zx 18 2 16 17,Zf 19 1 18,Zl 20 false 1 19,Zn 21 20,Zb 22 .lss 14 21] (Zw 22 2)) (.seq (.blk 3 (.reg [Zv 25 3,Zf 26 1 1,Zl 27 false 1 26,Zv 28 4,Zx 29 2 27 28,Zf 30 1 29,Zl 31 false 1 30,Zv 32 5,Zx 33 2 31 32,Zf 34 1 33,Zl 35 false 1 34,ZS 36 1 35,ZA 37 16 1 25 36,Zv 3 37])) (.reg [Zv 23 5,Zk 24 .add 23 1,Zv 5 24]))))))) (.reg [Zv 12 4,Zk 13 .add 12 1,Zv 4 13])))))) (.seq (Zq [Zf 38 2 1,Zl 39 false 1 38,Zo 40 (.bin .neq (.t 39) (.k (.str [])))] (.cond (.t 40) (.reg [Zv 41 3,Zf 42 2 1,Zl 43 false 1 42,ZS 44 1 43,ZA 45 16 1 41 44,Zv 3 45]) .skip)) (Zq [Zv 46 3,Zc 47 319 [.t 46],Zv 2 47] .ret)))))⟩
theorem Jqg:Jh prog f288=some K8l:=by kernel_rfl
def V8(s:Xg):List J9:=s.Terms.map (·.Name)
def Ir:List Xg->List J9
 | []=>[]
 |s::l=>V8 s++Ir l
def Qk(a:Xe):List J9:=Ir a.Heads++if a.Base=[]then []else [a.Base]
theorem Rz:∀l:List Xg,(Ir l).length<=wL W1 l
 | []=>Nat.zero_le _
 |s::l=>by have h1:=Rz l;have h2:=Yn Vi s.Terms;unfold wL at h1⊢;simp only[Ir,V8,length_append,length_map,length_cons,map_cons,List.sum_cons];rw[show W1 s=wL Vi s.Terms from rfl];omega
theorem J3b(a:Xe)(hw:Uh a<=1048576):(Qk a).length<=1048576:=by
 have h1:=Rz a.Heads;unfold Uh Wq at hw;unfold Qk;rw[length_append];split
 ·simp;omega
 ·rename_i hb;have:0<a.Base.length:=List.length_pos_iff.2 hb;simp;omega
theorem J1m(x:Xg)(hw:x.Terms.length<=1048576):Holds prog 239 [.agg (Ks x)] (λr=>r = .us 1 (Jf (V8 x))):=by
 refine Jp func239 Jto rfl (by simp[K6a]) ?_;simp[K6a,Ks];intro _;refine Ka [7,8] 9 x.Terms.length (λi s h n=>(i=0/\s 3 = .nil 1)\/∃id,id<n/\s 3 = .ref id 0 i/\h id=some ⟨false,1,(Jf (V8 x)).take i⟩) (by unfold Jd;omega) (by simp) (by simp) ?_ ?_
 ·rintro i s h n R hi hg hk s9 hw9 hJ hR _ _;simp at hk
  have htk:(Jf (V8 x)).take (i+1)=(Jf (V8 x)).take i++[[.str (x.Terms[i]).Name]]:=by rw[List.take_succ_eq_append_getElem (by simpa[V8]using hi)];simp[Jf,V8]
  rcases hJ with ⟨rfl,s3⟩|⟨id,hid,s3,eid⟩
  ·simp[hk,s9,hi,s3,Xh];refine⟨by unfold Jd;omega,?_⟩;exact hR _ _ _ (by simp[hk]) (by simp;exact Km (by omega)) (.inr ⟨n+2,by omega,by simp,by simp[htk]⟩)
  ·have n0:¬id=n:=by omega
   have n1:¬id=n+1:=by omega
   have n3:¬n+1=id:=by omega
   have n4:¬n=id:=by omega
   simp[hk,s9,hi,hw9,s3,Xh,eid,n0,n1,n3];refine⟨by simp[V8];omega,by unfold Jd;omega,?_⟩;exact hR _ _ _ (by simp[hk]) (by simp) (.inr ⟨n+2,by omega,by simp,by simp[htk,List.take_take]⟩)
 ·rintro s h n R hk s9 hJ hret hX;simp at hk;simp[hk,s9];refine hX _ _ _ _ ?_;rcases hJ with ⟨h0,s3⟩|⟨id,hid,s3,eid⟩
  ·have:x.Terms=[]:=List.eq_nil_of_length_eq_zero h0;simp[s3,V8,this,Jf]
  ·have hl:(V8 x).length=x.Terms.length:=by simp[V8]
   have ht:List.take x.Terms.length (Jf (V8 x))=Jf (V8 x):=take_of_length_le (by simp[hl]);simp[s3,eid,hl,ht]
set_option maxHeartbeats 1000000 in
theorem J34(a:Xe)(hw:Uh a<=1048576):Holds prog 243 [.agg (Kn a)] (λr=>r = .us 1 (Jf (Im (Qk a)))):=by
 have hw':=hw;unfold Uh Wq at hw';have hsl:=Rz a.Heads;have hll:=Yn W1 a.Heads;refine Jp func243 Jqf rfl (by simp[K7x]) ?_;simp[K7x,Kn];intro _;generalize hT:Ir a.Heads=T at *;have hTl:T.length<=1048576:=by omega
 refine Ka [1,7,8] 9 a.Heads.length (λi s h n=>h 0=some ⟨true,3,[[.bool a.Lst,.sl 2 (a.Heads.map Ks),.str a.Base]]⟩/\0<n/\∃acc:List J9,acc++Ir (a.Heads.drop i)=T/\((acc=[]/\s 3 = .nil 1)\/∃id,0<id/\id<n/\s 3 = .ref id 0 acc.length/\h id=some ⟨false,1,Jf acc⟩))
  (by unfold Jd;omega) (by simp) ⟨by simp,by simp,[],by simpa using hT,.inl ⟨rfl,by simp⟩⟩ ?_ ?_
 ·rintro i s h n R hi hg hk s9 hw9 ⟨e0,hn,acc,hJ,hJ2⟩ hR _ _;simp at hk;rw[List.drop_eq_getElem_cons hi]at hJ;simp only[Ir]at hJ;have hal:=congrArg List.length hJ;simp only[length_append]at hal
  have hwt:(a.Heads[i]).Terms.length<=1048576:=by have:=Wn (w:=W1) (getElem_mem hi);rw[show W1 a.Heads[i]=wL Vi (a.Heads[i]).Terms from rfl]at this;have:=Yn Vi (a.Heads[i]).Terms;omega
  have z0:¬0=n:=by omega
  have z1:¬0=n+1:=by omega
  have z2:¬0=n+1+1:=by omega
  have z3:¬n=0:=by omega
  rcases hJ2 with ⟨rfl,s3⟩|⟨id,hid0,hid,s3,eid⟩
  ·simp[hk,s9,hi,s3,Ks];refine Je (J1m (a.Heads[i]'hi) hwt) (by simp[Ks]) ?_;rintro r rfl;simp[s9,hw9];refine⟨by unfold Jd;omega,?_⟩;exact hR _ _ _ (by simp[hk]) (by simp) ⟨by simp[e0,z0,z3],by omega,V8 a.Heads[i],by simpa using hJ,.inr ⟨n+2,by omega,by omega,by simp,by simp⟩⟩
  ·have n0:¬id=n:=by omega
   have n1:¬id=n+1:=by omega
   have n2:¬id=n+1+1:=by omega
   have n3:¬n+1=id:=by omega
   have n4:¬n=id:=by omega
   have n5:¬0=id:=by omega
   have n6:¬id=0:=by omega
   simp[hk,s9,hi,s3,Ks];refine Je (J1m (a.Heads[i]'hi) hwt) (by simp[Ks]) ?_;rintro r rfl;simp[s9,hw9,eid,n0,n1,n3];refine⟨by unfold Jd;omega,?_⟩;exact hR _ _ _ (by simp[hk]) (by simp) ⟨by simp[e0,z0,z3,n5],by omega,acc++V8 a.Heads[i],by rw[append_assoc];exact hJ,.inr ⟨n+2,by omega,by omega,by simp,by simp[Jf]⟩⟩
 ·rintro s h n R hk s9 ⟨e0,hn,acc,hJ,hJ2⟩ hret hX;simp at hk;rw[drop_eq_nil_of_le (by omega)]at hJ;simp only[Ir,append_nil]at hJ;subst hJ;simp[hk,s9];refine hX _ _ _ _ ?_;have hA:Qk a=acc++if a.Base=[]then []else [a.Base]:=by unfold Qk;rw[hT]
  have hAl:(Qk a).length<=1048576:=J3b a hw;rw[hA]at hAl⊢;clear hX hret;by_cases hb:a.Base=[]
  ·simp only[hb,if_true,append_nil]at hAl⊢;rcases hJ2 with ⟨rfl,s3⟩|⟨id,hid0,hid,s3,eid⟩
   ·simp[hk,e0,hb,s3];refine Je (Sb [] hAl) (by simp[Jf]) ?_;rintro r rfl;simp
   ·simp[hk,e0,hb,s3];refine Je (Sb acc hAl) (by simp[eid]) ?_;rintro r rfl;simp
  ·simp only[hb,if_false]at hAl⊢;have hlim:(acc.length+1)*16<=Jd:=by simp at hAl;unfold Jd;omega
   rcases hJ2 with ⟨rfl,s3⟩|⟨id,hid0,hid,s3,eid⟩
   ·have z0:¬0=n:=by omega
    simp[hk,e0,hb,s3];refine⟨by unfold Jd;omega,?_⟩;refine Je (Sb ([]++[a.Base]) hAl) (by simp[Jf]) ?_;rintro r rfl;simp
   ·have n0:¬id=n:=by omega
    have n3:¬n=id:=by omega
    simp[hk,e0,hb,s3,eid,n0,n3];refine⟨hlim,?_⟩;have ht:List.take (acc.length+1) (Jf acc++[[AV.str a.Base]])=Jf (acc++[a.Base]):=by rw[take_of_length_le (by simp)];simp[Jf]
    refine Je (Sb (acc++[a.Base]) hAl) (by simp[ht]) ?_;rintro r rfl;simp
set_option maxHeartbeats 1000000 in
theorem Jca(a:Xe)(hw:Uh a<=1048576):Holds prog 288 [.agg (Kn a)] (λr=>r = .us 1 (Jf (Im (Qk a)))):=by
 have hw':=hw;unfold Uh Wq at hw';have hsl:=Rz a.Heads;have hll:=Yn W1 a.Heads;refine Jp func288 Jqg rfl (by simp[K8l]) ?_;simp[K8l,Kn];generalize hT:Ir a.Heads=T at *;have hTl:T.length<=1048576:=by omega
 refine Ka [1] 4 a.Heads.length (λi s h n=>h 0=some ⟨true,3,[[.bool a.Lst,.sl 2 (a.Heads.map Ks),.str a.Base]]⟩/\0<n/\∃(acc:List J9) (id:Nat),acc++Ir (a.Heads.drop i)=T/\0<id/\id<n/\s 3 = .ref id 0 acc.length/\h id=some ⟨false,1,Jf acc⟩)
  (by unfold Jd;omega) (by simp) ⟨by simp,by simp,[],1,by simpa using hT,by omega,by omega,by simp,by simp[Jf]⟩ ?_ ?_
 ·rintro i s h n R hi hg hk s4 hw4 ⟨e0,hn,acc,id,hJ,hid0,hid,s3,eid⟩ hR _ _;simp at hk;rw[List.drop_eq_getElem_cons hi]at hJ;simp only[Ir]at hJ
  have hwt:(a.Heads[i]).Terms.length<=1048576:=by have:=Wn (w:=W1) (getElem_mem hi);rw[show W1 a.Heads[i]=wL Vi (a.Heads[i]).Terms from rfl]at this;have:=Yn Vi (a.Heads[i]).Terms;omega
  simp[hk,s4,hi,e0];intro _
  refine Ka [1,4] 5 (a.Heads[i]).Terms.length (λj s h n=>h 0=some ⟨true,3,[[.bool a.Lst,.sl 2 (a.Heads.map Ks),.str a.Base]]⟩/\0<n/\∃(acc:List J9) (id:Nat),acc++((V8 a.Heads[i]).drop j++Ir (a.Heads.drop (i+1)))=T/\0<id/\id<n/\s 3 = .ref id 0 acc.length/\h id=some ⟨false,1,Jf acc⟩)
   (by unfold Jd;omega) (by simp) ⟨by simp[e0],hn,acc,id,by simpa using hJ,hid0,hid,by simp[s3],by simp[eid]⟩ ?_ ?_
  ·rintro j s2 h2 n2 R2 hj hgj hk2 s5 hw5 ⟨e02,hn2,acc2,id2,hJ2,hid02,hid2,s32,eid2⟩ hR2 _ _;simp at hk2;rw[List.drop_eq_getElem_cons (by simpa[V8]using hj)]at hJ2;have hal:=congrArg List.length hJ2;simp at hal;have n0:¬id2=n2:=by omega
   have n1:¬id2=n2+1:=by omega
   have n3:¬n2+1=id2:=by omega
   have n4:¬n2=id2:=by omega
   have n5:¬0=id2:=by omega
   have n6:¬id2=0:=by omega
   have z0:¬0=n2:=by omega
   have z1:¬0=n2+1:=by omega
   have z3:¬n2=0:=by omega
   simp[hk2,hk,s4,s5,hj,hw5,hi,e02,Ks,Xh,s32,eid2,n0,n4];intro _;refine⟨by unfold Jd;omega,?_⟩;refine hR2 _ _ _ (by simp[hk2,hk,s4]) (by simp) ⟨by simp[e02,n5,z0,z3],by omega,acc2++[(a.Heads[i]).Terms[j].Name],n2+1,?_,by omega,by omega,by simp,by simp[Jf]⟩;rw[<-hJ2];simp[V8]
  ·rintro s2 h2 n2 R2 hk2 s5 ⟨e02,hn2,acc2,id2,hJ2,hid02,hid2,s32,eid2⟩ hret2 hX2;simp at hk2;rw[drop_eq_nil_of_le (by simp[V8]),nil_append]at hJ2;simp[hk2,hk,s4,s5,hi,e02,Ks];intro _;refine hX2 _ _ _ _ ?_;simp[hk2,s4,hw4];exact hR _ _ _ (by simp[hk2,hk]) (by simp) ⟨e02,hn2,acc2,id2,hJ2,hid02,hid2,by simp[s32],eid2⟩
 ·rintro s h n R hk s4 ⟨e0,hn,acc,id,hJ,hid0,hid,s3,eid⟩ hret hX;simp at hk;rw[drop_eq_nil_of_le (by omega)]at hJ;simp only[Ir,append_nil]at hJ;subst hJ;simp[hk,s4,e0];intro _;refine hX _ _ _ _ ?_;have hA:Qk a=acc++if a.Base=[]then []else [a.Base]:=by unfold Qk;rw[hT]
  have hAl:(Qk a).length<=1048576:=J3b a hw;rw[hA]at hAl⊢;clear hX hret;by_cases hb:a.Base=[]
  ·simp only[hb,if_true,append_nil]at hAl⊢;simp[hk,e0,hb,s3];refine Je (J2a acc hAl) (by simp[eid]) ?_;rintro r rfl;simp
  ·simp only[hb,if_false]at hAl⊢;have hlim:(acc.length+1)*16<=Jd:=by simp at hAl;unfold Jd;omega
   have n0:¬id=n:=by omega
   have n3:¬n=id:=by omega
   simp[hk,e0,hb,s3,eid,n0,n3];refine⟨hlim,?_⟩;have ht:List.take (acc.length+1) (Jf acc++[[AV.str a.Base]])=Jf (acc++[a.Base]):=by rw[take_of_length_le (by simp)];simp[Jf]
   refine Je (J2a (acc++[a.Base]) hAl) (by simp[ht]) ?_;rintro r rfl;simp
theorem Jxj{s:Jm}{k:Nat}{v:AV} : Xt s (some k) v k=v:=by simp
theorem Jyj{s:Jm}{k j:Nat}{v:AV}(hj:¬j=k):Xt s (some k) v j=s j:=by simp[hj]
theorem K9a{α:Type}{f:Nat->α}{k:Nat}{v:α} : upd f k v k=v:=by simp
theorem Fh{α:Type}{f:Nat->α}{k j:Nat}{v:α}(hj:¬j=k):upd f k v j=f j:=by simp[hj]
attribute [simp ↓ high] Jxj Jyj K9a Fh
def Mh(raw:Bool)(o:Option AV):Option AV:=if raw then o else o.map dr
@[simp ↓ high] theorem Kcz(o:Option AV):Mh true o=o:=by unfold Mh;rw[if_pos (by simp)]
@[simp ↓ high] theorem Kcr(o:Option AV):Mh false o=o.map dr:=by unfold Mh;rw[if_neg (by simp)]
def Mk(raw b:Bool)(l:List AV):Option AV:=if b then some (.agg (if raw then l else Yw l))else Option.none
@[simp ↓ high] theorem Kcv(l:List AV):Mk true true l=some (.agg l):=by unfold Mk;rw[if_pos (by simp),if_pos (by simp)]
@[simp ↓ high] theorem Kcw(l:List AV):Mk false true l=some (.agg (Yw l)):=by unfold Mk;rw[if_pos (by simp),if_neg (by simp)]
@[simp ↓ high] theorem Keo(raw:Bool)(row:List AV)(c:Nat):Ud raw false row c 1=Mh raw (row[c]?):=by
 unfold Ud Mh;by_cases h:c<row.length
 ·rw[if_pos (by omega),if_neg (by simp),if_pos rfl,List.getElem?_eq_getElem h];cases raw <;>simp
 ·rw[if_neg (by omega),List.getElem?_eq_none (by omega)];cases raw <;>rfl
@[simp ↓ high] theorem Kek(raw:Bool)(row:List AV)(c sz:Nat):Ud raw true row c sz=Mk raw (decide (c+sz<=row.length)) ((row.drop c).take sz):=by
 unfold Ud Mk;by_cases h:c+sz<=row.length
 ·simp[h]
 ·simp[h]
def Se(P:Program)(ks:List Kt)(Q:Xb)(keep:List Nat)(J:Jm->Prop)(s0:Jm)(h0:J8)(n0:Nat):Xb:=λe s h n=>match e with
 | .normal=>(∀j∈keep,s j=s0 j)/\J s/\h=h0/\n=n0
 |e=>Jt P ks e s h n Q
section
variable {P:Program}{a b:AC}{ks:List Kt}{s:Jm}{h:J8}{n:Nat}{Q:Xb}
@[simp ↓] theorem Jum{keep:List Nat}{J:Jm->Prop}{s0 s':Jm}{h0 h':J8}{n0 n':Nat} : Se P ks Q keep J s0 h0 n0 .normal s' h' n'=((∀j∈keep,s' j=s0 j)/\J s'/\h'=h0/\n'=n0):=propext Iff.rfl
@[simp ↓] theorem K3g{keep:List Nat}{J:Jm->Prop}{s0 s':Jm}{h0 h':J8}{n0 n':Nat} : Se P ks Q keep J s0 h0 n0 .ret s' h' n'=Jt P ks .ret s' h' n' Q:=propext Iff.rfl
@[simp ↓] theorem K13{keep:List Nat}{J:Jm->Prop}{s0 s':Jm}{h0 h':J8}{n0 n' i:Nat} : Se P ks Q keep J s0 h0 n0 (.exit i) s' h' n'=Jt P ks (.exit i) s' h' n' Q:=propext Iff.rfl
theorem Jq(keep:List Nat)(J:Jm->Prop)(h1:rC P a [] s h n (Se P (.seq b::ks) Q keep J s h n))(h2:∀s',(∀j∈keep,s' j=s j)->J s'->rC P b ks s' h n Q):rC P (.seq a b) ks s h n Q:=by
 rw[Eo];unfold rC at h1⊢;refine Pj h1 ?_;intro e s' h' n' hq;cases e
 ·obtain⟨g1,g2,rfl,rfl⟩:=hq;exact h2 s' g1 g2
 ·exact hq
 ·exact hq
def Ru(P:Program)(ks:List Kt)(Q:Xb)(keep:List Nat)(J:Jm->J8->Nat->Prop)(s0:Jm):Xb:=λe s h n=>match e with
 | .normal=>(∀j∈keep,s j=s0 j)/\J s h n
 |e=>Jt P ks e s h n Q
@[simp ↓] theorem Jv6{keep:List Nat}{J:Jm->J8->Nat->Prop}{s0 s':Jm}{h':J8}{n':Nat} : Ru P ks Q keep J s0 .normal s' h' n'=((∀j∈keep,s' j=s0 j)/\J s' h' n'):=propext Iff.rfl
@[simp ↓] theorem K1f{keep:List Nat}{J:Jm->J8->Nat->Prop}{s0 s':Jm}{h':J8}{n':Nat} : Ru P ks Q keep J s0 .ret s' h' n'=Jt P ks .ret s' h' n' Q:=propext Iff.rfl
@[simp ↓] theorem K0d{keep:List Nat}{J:Jm->J8->Nat->Prop}{s0 s':Jm}{h':J8}{n' i:Nat} : Ru P ks Q keep J s0 (.exit i) s' h' n'=Jt P ks (.exit i) s' h' n' Q:=propext Iff.rfl
theorem Xu(keep:List Nat)(J:Jm->J8->Nat->Prop)(h1:rC P a [] s h n (Ru P (.seq b::ks) Q keep J s))(h2:∀s' h' n',(∀j∈keep,s' j=s j)->J s' h' n'->rC P b ks s' h' n' Q):rC P (.seq a b) ks s h n Q:=by
 rw[Eo];unfold rC at h1⊢;refine Pj h1 ?_;intro e s' h' n' hq;cases e
 ·exact h2 s' h' n' hq.1 hq.2
 ·exact hq
 ·exact hq
theorem W3{c:Nat}{e:AC}(hc:s c = .bool true)(h1:rC P b ks s h n Q):rC P (.seq (.cond (.t c) .skip e) b) ks s h n Q:=by rw[Eo,C5];have:ev s (.t c) = .bool true:=hc;rw[this];simpa using h1
theorem Uv{c id:Nat}(hc:s c = .bool false)(h1:Jt P ks (.exit id) s h n Q):rC P (.seq (.cond (.t c) .skip (.exit id)) b) ks s h n Q:=by rw[Eo,C5];have:ev s (.t c) = .bool false:=hc;rw[this];simpa using h1
theorem U2{c:Nat}{e:AC}{ks:List Kt}(hc:s c = .bool true)(h1:Jt P ks .normal s h n Q):rC P (.cond (.t c) .skip e) ks s h n Q:=by rw[C5];have:ev s (.t c) = .bool true:=hc;rw[this];simpa using h1
theorem U1{c id:Nat}{ks:List Kt}(hc:s c = .bool false)(h1:Jt P ks (.exit id) s h n Q):rC P (.cond (.t c) .skip (.exit id)) ks s h n Q:=by rw[C5];have:ev s (.t c) = .bool false:=hc;rw[this];simpa using h1
theorem Xd{id:Nat}(h1:rC P a (.blk id::ks) s h n Q):rC P (.blk id a) ks s h n Q:=by rw[Jxq];exact h1
theorem Jn(h1:rC P a (.seq b::ks) s h n Q):rC P (.seq a b) ks s h n Q:=by rw[Eo];exact h1
end
def St(c:UInt8):Bool:=decide ((97:Int)<=c.toNat)&&decide ((c.toNat:Int)<=122)
def T5(c:UInt8):Bool:=decide ((48:Int)<=c.toNat)&&decide ((c.toNat:Int)<=57)
def Hb:Nat->J9->Bool
 |_,[]=>true
 |i,c::l=>(St c||(decide (i≠0)&&T5 c))&&Hb (i+1) l
def K6(l:List J9)(s:J9):Bool:=l.any λx=>x==s
def D6:List J9:=[[102,117,110],[112,114,101],[114,117,108,101],[114,101,116,117,114,110],[110,105,108]]
def Hu(s:J9):Bool:=K6 D6 s
def W7(s:J9):Bool:=Kh s.length 1 8 && !Hu s&&Hb 0 s
def Xp(s:J9):Bool:=W7 s&&s.getD (s.length - 1) 0==115
def Wb(s:J9):Bool:=W7 s && !Xp s
def H8(n:Int):Bool:=Kh n (-1000000) 1000000
theorem J5e{s:J9}(h:W7 s=true):1<=s.length/\s.length<=8:=by unfold W7 Kh at h;simp at h;omega
def Hs:Option J9->List Yj->Bool
 |_,[]=>true
 |pr,t::l=>(!(t.Coeff==0)&&H8 t.Coeff&&Wb t.Name&&(match pr with|Option.none=>true|some q=>Op.bytesLess q t.Name))&&Hs (some t.Name) l
def I8(s:Xg):Bool:=H8 s.Const&&decide (s.Terms.length<=4)&&Hs Option.none s.Terms
def Oo(a:Xe):Bool:=a.Heads.all I8&&(if a.Lst then decide (a.Heads.length<=3)&&(a.Base==[]||Xp a.Base)else decide (a.Heads.length=1)&&a.Base==[])
def He(l:List J9)(scope:List J9):Bool:=l.all (K6 scope)
def Wu(a:Xe)(list:Bool)(scope:List J9):Bool:=Oo a&&(a.Lst==list)&&He (Im (Qk a)) scope
def Qo(scope:List J9)(g:Xg):Bool:=I8 g&&He (V8 g) scope
def O3(met:List J9):List J9->Bool
 | []=>true
 |s::l => !K6 met s&&O3 (met++[s]) l
def Q5(l:List J9):Bool:=O3 [] l
def Fd(params:List J9)(q:X4):Bool:=K6 params q.Lst&&Xp q.Lst&&(if q.Cons then Wb q.Head&&Xp q.Tail else q.Head==[]&&q.Tail==[])
def Oa(params:List J9)(met:List J9):List X4->Bool
 | []=>true
 |q::l=>(Fd params q && !K6 met q.Lst)&&Oa params (met++[q.Lst]) l
def Gn(scope:List J9):List Xe->List J9->Bool
 |a::l,s::m=>Wu a (Xp s) scope&&Gn scope l m
 |_,_=>true
def Ik(p:Jo)(c:Xq)(scope:List J9):Bool:=
 (Xc p.Functions c.Func).isSome&&decide (c.Args.length=((Xc p.Functions c.Func).getD Yt).Params.length)&&(if ((Xc p.Functions c.Func).getD Yt).ListResult then Xp c.Bind else Wb c.Bind) &&
  Gn scope c.Args ((Xc p.Functions c.Func).getD Yt).Params
def Qe(p:Jo)(r:K0):Nat->List Xq->Bool
 |_,[]=>true
 |k,c::l=>Ik p c (Ui p r k)&&Qe p r (k+1) l
def G8(p:Jo)(r:K0):Bool:=
 (Xc p.Functions r.Func).isSome&&Oa ((Xc p.Functions r.Func).getD Yt).Params [] r.Patterns&&decide (r.Guards.length<=2)&&r.Guards.all (Qo (Ui p r 0))&&decide (r.Calls.length<=2) &&
  Qe p r 0 r.Calls&&Wu r.Result ((Xc p.Functions r.Func).getD Yt).ListResult (Ui p r r.Calls.length)&&Q5 (Ui p r r.Calls.length)
def Od(f:K3):Bool:=Wb f.Name&&decide (f.Params.length<=2)&&(f.Params.all W7&&Q5 f.Params)&&decide (f.Pre.length<=2)&&f.Pre.all λl=>K8 l f.Params.length
def Eb(met:List J9):List K3->Bool
 | []=>true
 |f::l=>(Od f && !K6 met f.Name)&&Eb (met++[f.Name]) l
def Ym(p:Jo):Bool:=Kh p.Functions.length 1 3&&Eb [] p.Functions&&decide (p.Rules.length<=8)&&p.Rules.all (G8 p)
theorem Sh:∀(l:List K3) (met:List J9),Eb met l=(l.all Od&&O3 met (l.map (·.Name)))
 | [],met=>rfl
 |f::l,met=>by simp only[Eb,Sh l,all_cons,map_cons,O3];cases Od f <;>cases K6 met f.Name <;>simp
theorem Jnj{α:Type}{p:α->Bool}{l m:List α}(h:∀x,x∈l↔x∈m):l.all p=m.all p:=by rw[Bool.eq_iff_iff,all_eq_true,all_eq_true];exact⟨λg x hx=>g x ((h x).2 hx),λg x hx=>g x ((h x).1 hx)⟩
theorem J3j(l scope:List J9):He (Im l) scope=He l scope:=Jnj (J0z l).2
theorem J9t(s:Xg):Qk ⟨false,[s],[]⟩=V8 s:=by simp[Qk,Ir]
theorem J92(s:Xg):Oo ⟨false,[s],[]⟩=I8 s:=by simp[Oo]
def Ej(l scope:List J9):List J9:=l.filter λs => !K6 scope s
theorem J7o(l scope:List J9):decide ((Ej l scope).length=0)=He l scope:=by
 unfold Ej He
 induction l with
 |nil=>rfl
 |cons x l ih=>
  simp only[List.filter_cons,all_cons];cases hx:K6 scope x
  ·simp
  ·simp only[Bool.not_true,Bool.false_eq_true,if_false,Bool.true_and];exact ih
theorem Jfj{l:List K3}{i:Nat}(hi:i<l.length):decide (Xi (λf=>f.Name==(l[i]).Name) l 0=(i:Int)) = !K6 ((l.take i).map (·.Name)) (l[i]).Name:=by
 have key:∀(l:List K3) (i k:Nat) (hi:i<l.length) (nm:J9),(l[i]).Name=nm->(Xi (λf=>f.Name==nm) l k=((k+i:Nat):Int)↔K6 ((l.take i).map (·.Name)) nm=false):=by
  intro l
  induction l with
  |nil=>intro i k hi;simp at hi
  |cons f l ih=>
   intro i k hi nm hnm
   cases i with
   |zero=>
    simp only[List.getElem_cons_zero]at hnm
    simp[Xi,hnm,K6]
   |succ i=>
    simp only[List.getElem_cons_succ]at hnm;simp only[Xi,List.take_succ_cons,map_cons,K6,List.any_cons];by_cases hf:f.Name==nm
    ·simp[hf];omega
    ·have:=ih i (k+1) (by simpa using hi) nm hnm;simp only[K6]at this;simp only[hf,Bool.false_eq_true,if_false,Bool.false_or];rw[<-this];constructor <;>intro h <;>rw[h] <;>congr 1 <;>omega
 have:=key l i 0 hi _ rfl;rw[Nat.zero_add]at this;cases hb:K6 ((l.take i).map (·.Name)) (l[i]).Name
 ·simp[this.2 hb]
 ·simp only[Bool.not_true,decide_eq_false_iff_not];intro h;rw[this.1 h]at hb;cases hb
abbrev Xo:=List (J9×Jc)
def Kp(d:Jc)(E:Xo)(x:J9):Jc:=((E.find? λe=>e.1==x).map (·.2)).getD d
def G7:Xo->J9->Jc->Xo
 | [],x,l=>[(x,l)]
 |e::E,x,l=>if e.1=x then(x,l)::E else e::G7 E x l
def Ki(i n:Int):Jc:=if Kh n 0 8&&Kh i 0 (n - 1)then⟨0,(List.replicate n.toNat 0).set i.toNat 1⟩else Jj
def Ys(a:Jc)(k:Int)(b:Jc):Jc:=(K9 a k b).getD Jj
def K7r:Xg:=⟨0,[]⟩
structure MS where
 E:Xo
 nx:Nat
 rows:List Jc
 pars:List Jc
 args:List (List Jc)
def Q6(E:Xo)(n:Nat)(s:Xg):Jc:=s.Terms.foldl (λo t=>Ys o t.Coeff (Kp Jj E t.Name)) (Jr s.Const n)
def Qd(E:Xo)(n:Nat)(a:Xe):Jc:=
 if a.Lst then(if a.Base=[]then Jr a.Heads.length n else Ys (Jr a.Heads.length n) 1 (Kp Jj E a.Base))else Q6 E n (a.Heads.getD 0 K7r)
def W8(n:Nat)(st:MS)(x:J9):MS:=
 ⟨G7 st.E x (Ki st.nx n),st.nx+1,st.rows++(if Xp x then [Ki st.nx n]else []),st.pars++[Ki st.nx n],st.args⟩
def Pa(ps:List Jc)(n:Nat):List Jc->Option (List Jc)
 | []=>some []
 |l::ls=>match Yb l ps n with
  |Option.none=>Option.none
  |some x=>(Pa ps n ls).map (x :: ·)
def Cs(n:Nat)(st:MS)(q:X4):Xo:=G7 st.E q.Head (Ki st.nx n)
def Gt(n:Nat)(st:MS)(q:X4):Jc:=(Vs (Kp Jj (Cs n st q) q.Lst) (-1)).getD Jj
def Wp(n:Nat)(st:MS)(q:X4):MS:=
 if q.Cons then⟨G7 (Cs n st q) q.Tail (Gt n st q),st.nx+1,st.rows++[Gt n st q],st.pars,st.args⟩
 else⟨st.E,st.nx,st.rows++[Ys (Jr 0 n) (-1) (Kp Jj st.E q.Lst)],st.pars,st.args⟩
def De(p:Jo)(n:Nat)(st:MS)(c:Xq):MS:=
 ⟨G7 st.E c.Bind (Ki st.nx n),st.nx+1,st.rows++(if ((Xc p.Functions c.Func).getD Yt).ListResult then [Ki st.nx n]else []),st.pars,st.args++[c.Args.map (Qd st.E n)]⟩
def Yf(l:List X4):Nat:=(l.filter (·.Cons)).length
def Kc(r:K0)(f:K3):Nat:=f.Params.length+r.Calls.length+Yf r.Patterns
def Jv(r:K0)(f:K3):MS:=f.Params.foldl (W8 (Kc r f)) ⟨[],0,[],[],[]⟩
def Kq(r:K0)(f:K3)(pre:List Jc):MS:=
 r.Patterns.foldl (Wp (Kc r f)) ⟨(Jv r f).E,(Jv r f).nx,(Jv r f).rows++pre,(Jv r f).pars,(Jv r f).args⟩
def Yc(s:MS)(l:List Jc):MS:=⟨s.E,s.nx,s.rows++l,s.pars,s.args⟩
def Yz(p:Jo)(r:K0)(f:K3)(pre:List Jc):MS:=
 r.Calls.foldl (De p (Kc r f)) (Yc (Kq r f pre) (r.Guards.map (Q6 (Kq r f pre).E (Kc r f))))
def M0(n:Nat)(s:MS)(res:Jc):X5:=⟨⟨n,s.rows⟩,s.pars,s.args,res⟩
def Tl(p:Jo)(r:K0)(f:K3):Option X5:=
 match Pa (Jv r f).pars (Kc r f) f.Pre with
 |Option.none=>Option.none
 |some pre=>some (M0 (Kc r f) (Yz p r f pre) (Qd (Yz p r f pre).E (Kc r f) r.Result))
def Ba(E:Xo)(n:Nat):List Yj->Jc->Option Jc
 | [],o=>some o
 |t::ts,o=>match K9 o t.Coeff (Kp (Jr 0 n) E t.Name)with
  |Option.none=>Option.none
  |some o'=>Ba E n ts o'
def Er(E:Xo)(n:Nat)(s:Xg):Option Jc:=Ba E n s.Terms (Jr s.Const n)
def Fx(E:Xo)(n:Nat)(a:Xe):Option Jc:=
 if a.Lst then(if a.Base=[]then some (Jr a.Heads.length n)else K9 (Jr a.Heads.length n) 1 (Kp (Jr 0 n) E a.Base))else Er E n (a.Heads.getD 0 K7r)
def Q9(E:Xo)(n:Nat)(a:Xe):Jc:=(Fx E n a).getD Jj
def V5(E:Xo)(n:Nat)(s:Xg):Jc:=(Er E n s).getD Jj
def Vn(l:Jc)(k:Int):Jc:=⟨IntKind.i64.wrap (l.Const - k),l.Coeffs⟩
def Yv(n:Nat)(l:Jc):Jc:=⟨l.Const,l.Coeffs++List.replicate (n - l.Coeffs.length) 0⟩
def Ho(n:Nat):List J9->Nat->List Jc
 | [],_=>[]
 |x::xs,i=>(if Xp x then [Ki i n]else [])++Ho n xs (i+1)
def V1(f:K3)(n:Nat):List Jc:=Ho n f.Params 0++f.Pre.map (Yv n)
def U7(n:Nat)(st:MS)(x:J9):MS:=⟨st.E++[(x,Ki st.nx n)],st.nx+1,st.rows,st.pars++[Ki st.nx n],st.args⟩
def F6(n:Nat)(st:MS)(q:X4):Jc:=Vn (Kp (Jr 0 n) st.E q.Lst) 1
def Xs(n:Nat)(st:MS)(q:X4):MS:=
 if q.Cons then⟨st.E++[(q.Head,Ki st.nx n),(q.Tail,F6 n st q)],st.nx+1,st.rows++[F6 n st q],st.pars,st.args⟩
 else⟨st.E,st.nx,st.rows++[Ys (Jr 0 n) (-1) (Kp (Jr 0 n) st.E q.Lst)],st.pars,st.args⟩
def Wl(n:Nat)(st:MS)(c:Xq):MS:=
 ⟨st.E++[(c.Bind,Ki st.nx n)],st.nx+1,st.rows++(if Xp c.Bind then [Ki st.nx n]else []),st.pars,st.args++[c.Args.map (Q9 st.E n)]⟩
def W6(r:K0)(f:K3):MS:=f.Params.foldl (U7 (Kc r f)) ⟨[],0,V1 f (Kc r f),[],[]⟩
def We(s:MS)(k:Nat):MS:=⟨s.E,k,s.rows,s.pars,s.args⟩
def Yg(r:K0)(f:K3):MS:=r.Patterns.foldl (Xs (Kc r f)) (We (W6 r f) f.Params.length)
def Vy(r:K0)(f:K3):MS:=
 r.Calls.foldl (Wl (Kc r f)) (Yc (We (Yg r f) (f.Params.length+Yf r.Patterns)) (r.Guards.map (V5 (Yg r f).E (Kc r f))))
def Qj(r:K0)(f:K3):X5:=M0 (Kc r f) (Vy r f) (Q9 (Vy r f).E (Kc r f) r.Result)
def Kl(E:Xo):List J9:=E.map (·.1)
theorem Nz{x:J9}{l:Jc} : ∀{E:Xo},x∉Kl E->G7 E x l=E++[(x,l)]
 | [],_=>rfl
 |e::E,h=>by simp only[Kl,map_cons,mem_cons,not_or]at h;simp only[G7,List.cons_append];rw[if_neg (λg=>h.1 g.symm),Nz (E:=E) h.2]
theorem Jhw{E:Xo}{x:J9}(h:x∈Kl E):∃l,E.find? (λe=>e.1==x)=some (x,l)/\(x,l)∈E:=by
 obtain⟨e,he,rfl⟩:=mem_map.1 h;have:(E.find? λe'=>e'.1==e.1).isSome=true:=by rw[List.find?_isSome];exact⟨e,he,by simp⟩
 obtain⟨⟨y,l⟩,hy⟩:=Option.isSome_iff_exists.1 this;have h1:=List.find?_some hy;have h2:=List.mem_of_find?_eq_some hy;simp only[beq_iff_eq]at h1;subst h1;exact⟨l,hy,h2⟩
theorem Pb{E:Xo}{x:J9}(d:Jc)(h:x∈Kl E):∃l,(x,l)∈E/\∀d F,Kp d (E++F) x=l:=by obtain⟨l,h1,h2⟩:=Jhw h;exact⟨l,h2,λd F=>by unfold Kp;rw[List.find?_append,h1];rfl⟩
theorem Jaw{E:Xo}{x:J9}(d d':Jc)(h:x∈Kl E):Kp d E x=Kp d' E x:=by obtain⟨l,_,h2⟩:=Pb d h;rw[<-append_nil E,h2,h2]
def G3(n:Nat)(E:Xo):Prop:=∀e∈E,e.2.Coeffs.length=n/\n≠0
theorem G3.get {n:Nat}{E:Xo}{x:J9}(H:G3 n E) (d:Jc) (h:x∈Kl E):(Kp d E x).Coeffs.length=n:=by obtain⟨l,h1,h2⟩:=Pb d h;have:=h2 d [];rw[append_nil]at this;rw[this];exact(H _ h1).1
theorem N9{i n:Nat}(hn:n<=8)(hi:i<n):Ki i n=⟨0,(List.replicate n 0).set i 1⟩:=by unfold Ki;rw[if_pos (by simp[Kh];omega)];simp
theorem Cj{i n:Nat}(hn:n<=8)(hi:i<n):(Ki i n).Coeffs.length=n:=by rw[N9 hn hi];simp
theorem Jht{c:Int}{b:Jc}(h:b.Coeffs.length≠0):Ys Jj c b=Jj:=by
 unfold Ys K9
 have:K8 b (Jj.Coeffs.length:Nat)=false:=by rw[Bool.eq_false_iff];intro g;have:=Wj g;simp[Jj]at this;exact h (by simp[this])
 rw[this];simp
theorem Jac{n:Nat}{E:Xo}(H:G3 n E):∀{ts:List Yj},(∀t∈ts,t.Name∈Kl E)->(ts≠[]->n≠0)->ts.foldl (λo t=>Ys o t.Coeff (Kp Jj E t.Name)) Jj=Jj
 | [],_,_=>rfl
 |t::ts,h,hn=>by simp only[foldl_cons];rw[Jht (by rw[H.get Jj (h t mem_cons_self)];exact hn (by simp))];exact Jac H (λu hu=>h u (mem_cons_of_mem _ hu)) (λ_=>hn (by simp))
theorem Jaj{n:Nat}{E:Xo}(H:G3 n E):∀{ts:List Yj}{o:Jc},(∀t∈ts,t.Name∈Kl E)->(ts≠[]->n≠0)->ts.foldl (λo t=>Ys o t.Coeff (Kp Jj E t.Name)) o=(Ba E n ts o).getD Jj
 | [],_,_,_=>rfl
 |t::ts,o,h,hn=>by
  have h':∀u∈ts,u.Name∈Kl E:=λu hu=>h u (mem_cons_of_mem _ hu)
  have hn':ts≠[]->n≠0:=λ_=>hn (by simp)
  simp only[foldl_cons,Ba];rw[Jaw Jj (Jr 0 n) (h t mem_cons_self)]
  cases ha:K9 o t.Coeff (Kp (Jr 0 n) E t.Name)with
  |none=>
   have:Ys o t.Coeff (Kp (Jr 0 n) E t.Name)=Jj:=by unfold Ys;rw[ha];rfl
   rw[this]
   exact Jac H h' hn'
  |some o'=>
   have:Ys o t.Coeff (Kp (Jr 0 n) E t.Name)=o':=by unfold Ys;rw[ha];rfl
   rw[this];exact Jaj H h' hn'
theorem G3.ne {n:Nat}{E:Xo}(H:G3 n E) (h:E≠[]):n≠0:=by obtain⟨e,l,rfl⟩:=List.exists_cons_of_ne_nil h;exact(H e mem_cons_self).2
theorem Jko{n:Nat}{E:Xo}(H:G3 n E){s:Xg}(h:∀t∈s.Terms,t.Name∈Kl E):Q6 E n s=V5 E n s:=by
 unfold Q6 V5 Er;refine Jaj H h λht=>H.ne ?_
 rintro rfl;obtain⟨t,ts,he⟩:=List.exists_cons_of_ne_nil ht;have:=h t (by rw[he];exact mem_cons_self);simp[Kl]at this
def K94(E:Xo)(a:Xe):Prop:=(∀s∈a.Heads,∀t∈s.Terms,t.Name∈Kl E)/\(a.Base≠[]->a.Base∈Kl E)
theorem Jkv{n:Nat}{E:Xo}(H:G3 n E){a:Xe}(h:K94 E a):Qd E n a=Q9 E n a:=by
 unfold Qd Q9 Fx;cases a.Lst
 ·simp only[Bool.false_eq_true,if_false];refine Jko H ?_;intro t ht
  cases hh:a.Heads with
  |nil=>rw[hh]at ht;simp[K7r]at ht
  |cons s l=>rw[hh]at ht;simp at ht;exact h.1 s (by rw[hh];exact mem_cons_self) t ht
 ·simp only[if_true];by_cases hb:a.Base=[]
  ·rw[if_pos hb,if_pos hb];rfl
  ·rw[if_neg hb,if_neg hb,Jaw Jj (Jr 0 n) (h.2 hb)];rfl
theorem J74{x k:Int}(hx:Kx x=true)(hk:Kx k=true):U3 x k 0=some x:=by
 have h0:Kx 0=true:=by decide
 unfold U3 Y1 Uz;simp[hx,hk,h0]
theorem Jf5{k:Int}(hk:Kx k=true):U3 0 k 1=some k:=by
 have h0:Kx 0=true:=by decide
 have h1:Kx 1=true:=by decide
 unfold U3 Y1 Uz;simp[hk,h0,h1]
theorem J8k{xs:List Int}{c k:Int}{i n:Nat}(hn:n<=8)(hi:i<n)(hx:xs.length=n)(hok:xs.all Kx=true)(hc:Kx c=true)(hk:Kx k=true)(h0:xs[i]? = some 0) :
 K9 ⟨c,xs⟩ k (Ki i n)=some ⟨c,xs.set i k⟩:=by
 have hz0:Kx 0=true:=by decide
 have hz1:Kx 1=true:=by decide
 have hv:K8 (Ki i n) (xs.length:Nat)=true:=by
  rw[N9 hn hi];unfold K8;simp only[Bool.and_eq_true,decide_eq_true_eq,all_eq_true];refine⟨⟨⟨by simp[Kh];omega,by simp[hx]⟩,hz0⟩,?_⟩;intro y hy;rcases List.mem_or_eq_of_mem_set hy with hy|rfl
  ·rw[(mem_replicate.1 hy).2];exact hz0
  ·exact hz1
 have ho:K8 ⟨c,xs⟩ (xs.length:Nat)=true:=by unfold K8;simp only[Bool.and_eq_true,decide_eq_true_eq];exact⟨⟨⟨by simp[Kh];omega,by simp⟩,hc⟩,hok⟩
 have hZ:U4 ⟨c,xs⟩ k (Ki i n)=(xs.set i k).map some:=by
  rw[N9 hn hi];unfold U4;refine List.ext_getElem (by simp[hx]) λj h1 h2=>?_
  have hj:j<xs.length:=by simp at h2;exact h2
  simp only[List.getElem_zipWith,List.getElem_map];by_cases he:i=j
  ·subst he;have:xs[i]=0:=by rw[List.getElem?_eq_getElem hj]at h0;exact Option.some.inj h0
   simp[this,Jf5 hk]
  ·rw[List.getElem_set_ne he,List.getElem_set_ne he,List.getElem_replicate];exact J74 (all_eq_true.1 hok _ (getElem_mem hj)) hk
 have hcc:U3 c k (Ki i n).Const=some c:=by rw[N9 hn hi];exact J74 hc hk
 unfold K9 Dg;simp only[hv,ho,hk,hcc,hZ,Bool.and_self,Bool.true_and,Option.isSome_some];have hA:((xs.set i k).map some).all Option.isSome=true:=by rw[all_eq_true];intro x hx;obtain⟨y,_,rfl⟩:=mem_map.1 hx;rfl
 rw[if_pos hA];simp[List.map_map,Function.comp_def]
theorem Jdw{n:Nat} : (List.replicate n (0:Int)).all Kx=true:=by rw[all_eq_true];intro x hx;rw[(mem_replicate.1 hx).2];decide
theorem Jfl{l:Jc}{n:Int}(h:K8 l n=true):∀x∈l.Coeffs,Kx x=true:=by unfold K8 at h;simp only[Bool.and_eq_true,all_eq_true]at h;exact h.2
theorem J6p{l:Jc}{m n:Nat}(hm:m<=2)(hmn:m<=n)(hn:n<=8)(hl:K8 l m=true):Yb l ((List.range m).map λi:Nat=>Ki i n) n=some (Yv n l):=by
 have hc:=Th hl;have hlen:l.Coeffs.length=m:=by have:=(Wj hl).1;omega
 have hall:=Jfl hl;obtain⟨c0,h1⟩:=F3 (n:=n) hc (by omega);unfold Yb
 match m,hm,hlen with
 |0,_,hlen=>
  have he:l.Coeffs=[]:=List.eq_nil_of_length_eq_zero hlen;have hl':K8 l 0=true:=hl;rw[if_neg (by simp),if_pos (by rw[hl'];simp[Kh];omega),c0]
  simp[Yv,he]
 |1,_,hlen=>
  obtain⟨a,ha⟩:=List.length_eq_one_iff.1 hlen;have hl':K8 l 1=true:=hl;have hka:=hall a (by rw[ha];simp);have hz0:(List.replicate n (0:Int))[0]? = some 0:=by rw[List.getElem?_replicate,if_pos (by omega)]
  rw[if_pos (by simp)];unfold Vq;have hN:Ql ((List.range 1).map λi:Nat=>Ki i n)=n:=by simp[Ql,range_succ];exact Cj (i:=0) hn (by omega)
  rw[hN,h1,c0];simp only[length_map,List.length_range];rw[if_pos (by simp[hl']),ha];simp only[range_succ,List.range_zero,nil_append,map_cons,map_nil,List.zip_cons_cons,List.zip_nil_right,Q2];rw[J8k (i:=0) hn (by omega) (by simp) Jdw hc hka hz0];simp only[Yv,ha];obtain⟨k,rfl⟩:∃k,n=k+1:=⟨n - 1,by omega⟩
  simp[replicate_succ]
 |2,_,hlen=>
  obtain⟨a,b,hab⟩:∃a b,l.Coeffs=[a,b]:=by
   match hh:l.Coeffs,hlen with
   | [a,b],_=>exact⟨a,b,rfl⟩
  have hl':K8 l 2=true:=hl;have hka:=hall a (by rw[hab];simp);have hkb:=hall b (by rw[hab];simp);have hz0:(List.replicate n (0:Int))[0]? = some 0:=by rw[List.getElem?_replicate,if_pos (by omega)]
  rw[if_pos (by simp)];unfold Vq;have hN:Ql ((List.range 2).map λi:Nat=>Ki i n)=n:=by simp[Ql,range_succ];exact Cj (i:=0) hn (by omega)
  rw[hN,h1,c0];simp only[length_map,List.length_range];rw[if_pos (by simp[hl']),hab];simp only[range_succ,List.range_zero,nil_append,map_cons,map_nil,List.zip_cons_cons,List.zip_nil_right,List.cons_append,Q2];rw[J8k (i:=0) hn (by omega) (by simp) Jdw hc hka hz0];obtain⟨k,rfl⟩:∃k,n=k+2:=⟨n - 2,by omega⟩;simp only
  rw[J8k (i:=1) hn (by omega) (by simp) (by
   rw[all_eq_true];intro x hx;rcases List.mem_or_eq_of_mem_set hx with hx|rfl
   ·rw[(mem_replicate.1 hx).2];decide
   ·exact hka) hc hkb (by simp[replicate_succ])]
  simp[Yv,hab,replicate_succ]
theorem J8s{ps:List Jc}{n:Nat} : ∀{ls:List Jc},(∀l∈ls,Yb l ps n=some (Yv n l))->Pa ps n ls=some (ls.map (Yv n))
 | [],_=>rfl
 |l::ls,h=>by simp only[Pa];rw[h l mem_cons_self,J8s λx hx=>h x (mem_cons_of_mem _ hx)];rfl
def K7u:Jl:= ⟨24,[(.c 4 true 2)],(Zq [ZR 4] (.seq (Zq [Zv 6 1,Zc 7 102 [.t 6,(.k (.int .i64 0)),(.k (.int .i64 8))],ZN 8 7,Zv 9 8,Zg 10 9 false (.mv (.t 0)),Zg 11 9 false (.mv (.t 1)),Zg 12 9 false (.bin .sub (.t 11) (.k (.int .i64 1))),Zg 13 9 false (.call (.k (.fn (.func 102) [] [])) [.t 10,(.k (.int .i64 0)),.t 12]),Zg 14 9 false (.un .not (.t 13)),ZP 15 9 14] (.cond (.t 15) (Zq [Zo 16 (.build [(.int .i64 0),(.nil 1)] []),Zs 2 4 16] .ret) .skip)) (Zq [Zv 17 1,Zc 18 178 [(.k (.int .i64 0)),.t 17],ZR 5,Zs 2 5 18] (Zq [Zf 19 1 5,Zl 20 false 1 19,Zv 21 0,Zx 22 1 20 21,⟨no,.st 1 (.t 22) (.k (.int .i64 1)),no⟩] (Zq [Zl 23 true 2 5,Zs 2 4 23] .ret)))))⟩
theorem Jrx:Jh prog f203=some K7u:=by kernel_rfl
def K51:Jl:= ⟨25,[(.c 4 true 2)],(Zq [ZR 4] (.seq (Zq [Zv 6 1,Zc 7 183 [.t 6,(.k (.int .i64 0)),(.k (.int .i64 8))],ZN 8 7,Zv 9 8,Zg 10 9 false (.mv (.t 0)),Zg 11 9 false (.mv (.t 1)),Zg 12 9 false (.bin .sub (.t 11) (.k (.int .i64 1))),Zg 13 9 false (.call (.k (.fn (.func 183) [] [])) [.t 10,(.k (.int .i64 0)),.t 12]),Zg 14 9 false (.un .not (.t 13)),ZP 15 9 14] (.cond (.t 15) (Zq [Zo 16 (.build [(.int .i64 0),(.nil 1)] []),Zs 2 4 16] .ret) .skip)) (Zq [Zv 17 1,Zo 18 (.mks 8 [(.int .i64 0)] (.t 17) (.t 17)),Zo 19 (.build [(.int .i64 0),(.nil 1)] [(1,(1,(.t 18)))]),ZR 5,Zs 2 5 19] (Zq [Zf 20 1 5,Zl 21 false 1 20,Zv 22 0,Zx 23 1 21 22,⟨no,.st 1 (.t 23) (.k (.int .i64 1)),no⟩] (Zq [Zl 24 true 2 5,Zs 2 4 24] .ret)))))⟩
theorem Jq1:Jh prog f261=some K51:=by kernel_rfl
def K3z:Jl:= ⟨14,[(.c 4 true 2)],(Zq [ZB 2 0,ZR 4] (Zq [Zl 6 true 2 2,Zc 7 82 [.t 6],ZR 5,Zs 2 5 7] (Zq [Zf 8 0 5,Zl 9 false 1 8,Zv 10 1,Zb 11 .sub 9 10,Zf 12 0 5,Zs 1 12 11] (Zq [Zl 13 true 2 5,Zs 2 4 13] .ret))))⟩
theorem Jnu:Jh prog f306=some K3z:=by kernel_rfl
def K49:Jl:= ⟨29,[(.c 4 true 2)],(Zq [ZB 2 0,ZR 4] (.seq (.draw (.op (Zf 7 0 2) (.op (Zl 8 false 1 7) (.op (Zv 9 1) (.both (.op (Zo 10 (.mks 8 [(.int .i64 0)] (.t 9) (.t 9))) (.op (Zo 11 (.build [(.int .i64 0),(.nil 1)] [(0,(1,(.t 8))),(1,(1,(.t 10)))])) (.op (ZR 5) (.hop (Zs 2 5 11) [] .fin)))) (.op (ZR 5) (.op (Zo 10 (.mks 8 [(.int .i64 0)] (.t 9) (.t 9))) (.op (Zo 11 (.build [(.int .i64 0),(.nil 1)] [(0,(1,(.t 8))),(1,(1,(.t 10)))])) (.hop (Zs 2 5 11) [] .fin))))))))) (.seq (Zq [Zi 6 0] (.blk 0 (.loop (.seq (Zq [Zv 12 6,Zf 13 1 2,Zl 14 false 1 13,Zn 15 14,Zb 16 .lss 12 15] (Zw 16 0)) (.seq (.blk 1 (.draw (.op (Zf 19 1 5) (.op (Zl 20 false 1 19) (.op (Zv 21 6) (.op (Zf 22 1 2) (.op (Zl 23 false 1 22) (.op (Zv 24 6) (.op (Zx 25 1 23 24) (.op (Zl 26 false 1 25) (.op (Zx 27 1 20 21) (.hop (Zs 1 27 26) [] .fin)))))))))))) (.reg [Zv 17 6,Zk 18 .add 17 1,Zv 6 18])))))) (Zq [Zl 28 true 2 5,Zs 2 4 28] .ret))))⟩
theorem Jpy:Jh prog f262=some K49:=by kernel_rfl
theorem Jhg(i n:Int):Holds prog 203 [i64 i,i64 n] (λr=>r = .agg (Ja (Ki i n))):=by
 refine Jp func203 Jrx rfl (by simp[K7u]) ?_;simp[K7u];refine Je (O4 n 0 8) (by simp) ?_;rintro r rfl;unfold Ki;cases h1:Kh n 0 8
 ·simp[Ja,Ji,Jj]
 have hn:0<=n/\n<=8:=by simpa[Kh]using h1
 have hw:IntKind.i64.wrap (n - 1)=n - 1:=Km (by omega);simp[hw];refine Je (O4 i 0 (n - 1)) (by simp) ?_;rintro r rfl;cases h2:Kh i 0 (n - 1)
 ·simp[Ja,Ji,Jj]
 have hi:0<=i/\i<=n - 1:=by simpa[Kh]using h2
 obtain⟨m,rfl⟩:∃m:Nat,n=m:=⟨n.toNat,by omega⟩;obtain⟨j,rfl⟩:∃j:Nat,i=j:=⟨i.toNat,by omega⟩;have hj:j<m:=by omega
 have hc:Jr 0 m=⟨0,List.replicate m 0⟩:=(F3 (by decide) (by omega)).1;simp;refine Je (On 0 m) (by simp) ?_;rintro r rfl;simp[hc,Ja,hj];have e:(List.replicate m [AV.int .i64 0]).set j [AV.int .i64 1]=Ji ((List.replicate m 0).set j 1):=by rw[<-J3a,J71]
 rw[e,take_of_length_le (by simp)];simp
theorem P5(i n:Int):Holds prog 261 [i64 i,i64 n] (λr=>r = .agg (Ja (Ki i n))):=by
 refine Jp func261 Jq1 rfl (by simp[K51]) ?_;simp[K51];refine Je (Gb n 0 8) (by simp) ?_;rintro r rfl;unfold Ki;cases h1:Kh n 0 8
 ·simp[Ja,Ji,Jj]
 have hn:0<=n/\n<=8:=by simpa[Kh]using h1
 have hw:IntKind.i64.wrap (n - 1)=n - 1:=Km (by omega);simp[hw];refine Je (Gb i 0 (n - 1)) (by simp) ?_;rintro r rfl;cases h2:Kh i 0 (n - 1)
 ·simp[Ja,Ji,Jj]
 have hi:0<=i/\i<=n - 1:=by simpa[Kh]using h2
 obtain⟨m,rfl⟩:∃m:Nat,n=m:=⟨n.toNat,by omega⟩;obtain⟨j,rfl⟩:∃j:Nat,i=j:=⟨i.toNat,by omega⟩;have hj:j<m:=by omega
 have hm:(m:Int)*8<=Jd:=by unfold Jd;omega
 simp[hj,hm,Ja];have e:(List.replicate m [AV.int .i64 0]).set j [AV.int .i64 1]=Ji ((List.replicate m 0).set j 1):=by rw[<-J3a,J71]
 rw[e,take_of_length_le (by simp)];simp
theorem J3o(x:Jc)(k:Int)(hl:x.Coeffs.length<=1048576):Holds prog 306 [.agg (Jb x),i64 k] (λr=>r = .agg (Ja (Vn x k))):=by refine Jp func306 Jnu rfl (by simp[K3z]) ?_;simp[K3z,Jb];refine Je (Dw x hl) (by simp[Jb]) ?_;rintro r rfl;simp[Ja,Vn]
def D2(l:List Int)(n i:Nat):List Int:=l.take i++List.replicate (n - i) 0
theorem Jbc{l:List Int}{n i:Nat}(hi:i<l.length)(hn:l.length<=n):(D2 l n i).set i l[i]=D2 l n (i+1):=by
 unfold D2;rw[List.set_append_right i l[i] (by simp;omega)];have h1:i - (l.take i).length=0:=by simp;omega
 obtain⟨k,hk⟩:∃k,n - i=k+1:=⟨n - i - 1,by omega⟩;rw[h1,hk,List.take_succ_eq_append_getElem hi,append_assoc];have:n - (i+1)=k:=by omega
 rw[this];simp[replicate_succ]
theorem Jh6{l:List Int}{n i:Nat}(hi:i<=l.length)(hn:l.length<=n):(D2 l n i).length=n:=by unfold D2;simp;omega
theorem J8v(x:Jc)(n:Nat)(hxn:x.Coeffs.length<=n)(hn:n<=1048576):Holds prog 262 [.agg (Jb x),i64 n] (λr=>r = .agg (Ja (Yv n x))):=by
 have hm:(n:Int)*8<=Jd:=by unfold Jd;omega
 refine Jp func262 Jpy rfl (by simp[K49]) ?_;simp[K49,Jb,hm];refine⟨?_,?_⟩
 all_goals
  refine Ka [1,2,4] 6 x.Coeffs.length (λi s h m=>∃a b,((a=2/\b=3)\/(a=3/\b=2))/\3<m/\s 5 = .ptr b 0 0/\h 0=some ⟨true,2,[[.int .i64 x.Const,.sl 1 (Ji x.Coeffs)]]⟩/\h 1=some ⟨true,2,[[.int .i64 0,.nil 1]]⟩/\h b=some ⟨true,2,[[.int .i64 x.Const,.ref a 0 n]]⟩/\h a=some ⟨false,1,Ji (D2 x.Coeffs n i)⟩) (by unfold Jd;omega) (by simp) ?_ ?_ ?_
  ·first
   |(refine⟨2,3,.inl ⟨rfl,rfl⟩,?_⟩;simp[D2];done)
   |(refine⟨3,2,.inr ⟨rfl,rfl⟩,?_⟩;simp[D2];done)
  ·rintro i s h m R hi hg hk s6 hw ⟨a,b,hab,hm3,s5,e0,e1,eb,ea⟩ hR _ _;simp at hk;have hpl:=Jh6 (l:=x.Coeffs) (n:=n) (Nat.le_of_lt hi) hxn;have hin:i<n:=by omega
   rcases hab with ⟨rfl,rfl⟩|⟨rfl,rfl⟩
   ·simp[hk,s6,s5,hi,e0,eb,ea,hin,hw,hpl];intro _;refine hR _ _ _ (by simp[hk]) (by simp) ⟨2,3,.inl ⟨rfl,rfl⟩,by omega,by simp[s5],by simp[e0],by simp[e1],by simp[eb],?_⟩;simp[<-Jbc hi hxn]
   ·simp[hk,s6,s5,hi,e0,eb,ea,hin,hw,hpl];intro _;refine hR _ _ _ (by simp[hk]) (by simp) ⟨3,2,.inr ⟨rfl,rfl⟩,by omega,by simp[s5],by simp[e0],by simp[e1],by simp[eb],?_⟩;simp[<-Jbc hi hxn]
  ·rintro s h m R hk s6 ⟨a,b,hab,hm3,s5,e0,e1,eb,ea⟩ _ hX;simp at hk;have hpe:D2 x.Coeffs n x.Coeffs.length=(Yv n x).Coeffs:=by simp[D2,Yv]
   have hwl:(Yv n x).Coeffs.length=n:=by simp[Yv];omega
   have hwc:(Yv n x).Const=x.Const:=rfl;rw[hpe]at ea;rcases hab with ⟨rfl,rfl⟩|⟨rfl,rfl⟩
   ·simp[hk,s6,s5,e0,eb];intro _;refine hX _ _ _ _ ?_;simp[hk,s5,e1,eb,ea,Ja,hwl,hwc,take_of_length_le]
   ·simp[hk,s6,s5,e0,eb];intro _;refine hX _ _ _ _ ?_;simp[hk,s5,e1,eb,ea,Ja,hwl,hwc,take_of_length_le]
def Kj(b z:Nat)(rows:List (List AV))(v:AV)(h:J8)(n:Nat):Prop:=(rows=[]/\v = .nil z)\/∃id,b<id/\id<n/\v = .ref id 0 rows.length/\h id=some ⟨false,z,rows⟩
theorem Kj.keep {b z:Nat}{rows:List (List AV)}{v:AV}{h h':J8}{n n':Nat}(x:Kj b z rows v h n) (hn:n<=n') (hh:∀id,b<id->id<n->v = .ref id 0 rows.length->h' id=h id):Kj b z rows v h' n':=
 x.imp (λy=>y) λ⟨i,h1,h2,h3,h4⟩=>⟨i,h1,by omega,h3,by rw[hh i h1 h2 h3];exact h4⟩
theorem Kj.dt {b z:Nat}{rows:List (List AV)}{v:AV}{h:J8}{n:Nat}(x:Kj b z rows v h n):∃h',Go.Proofs.YtoclolkigjbcgaaGreat.dt v h=some (.us z rows,h')/\∀id,(∀l,v ≠ .ref id 0 l)->h' id=h id:=by
 rcases x with ⟨rfl,rfl⟩|⟨i,_,_,rfl,hb⟩
 ·exact⟨h,by simp,λ_ _=>rfl⟩
 ·refine⟨upd h i Option.none,by simp[hb],λid hid=>?_⟩;have:¬id=i:=λe=>hid rows.length (by rw[e])
  simp[this]
theorem Kj.cell {b z:Nat}{rows:List (List AV)}{v:AV}{h:J8}{n:Nat}(x:Kj b z rows v h n):Kb v=true:=by rcases x with ⟨_,rfl⟩|⟨i,_,_,rfl,_⟩ <;>rfl
theorem Kj.ne_sz {b z z':Nat}{rows rows':List (List AV)}{v v':AV}{h:J8}{n id l l':Nat}(x:Kj b z rows v h n) (y:Kj b z' rows' v' h n) (hz:z≠z') (e:v = .ref id 0 l) (e':v' = .ref id 0 l'):False:=by
 rcases x with ⟨_,rfl⟩|⟨i,_,_,rfl,hi⟩
 ·cases e
 rcases y with ⟨_,rfl⟩|⟨j,_,_,rfl,hj⟩
 ·cases e'
 simp only[AV.ref.injEq]at e e';rw[e.1]at hi;rw[e'.1,hi]at hj;simp at hj;exact hz hj.1
theorem Kj.ne_ge {b z:Nat}{rows:List (List AV)}{v:AV}{h:J8}{n q l:Nat}(x:Kj b z rows v h n) (hq:n<=q) (e:v = .ref q 0 l):False:=by
 rcases x with ⟨_,rfl⟩|⟨i,_,hi,rfl,_⟩
 ·cases e
 ·simp only[AV.ref.injEq]at e;omega
theorem J1r{k:IntKind}{n:Int} : Kb (.int k n)=true:=rfl
theorem J4k{i o l:Nat} : Kb (.ref i o l)=true:=rfl
inductive RT (E:List (J9×J9)):J9->J9->Prop
 |refl (a:J9):RT E a a
 |step {a b c:J9} : RT E a b->(b,c)∈E->RT E a c
theorem RT.closed {E:List (J9×J9)}{S:J9->Prop}{a b:J9}(h:RT E a b) (ha:S a) (hc:∀x y,(x,y)∈E->S x->S y):S b:=by
 induction h with
 |refl=>exact ha
 |step _ he ih=>exact hc _ _ he ih
theorem Qu{l:List J9}{s:J9} : K6 l s=true↔s∈l:=by simp[K6]
theorem N1{l:List J9}{s:J9} : K6 l s=false↔s∉l:=by rw[<-Bool.not_eq_true,Qu]
def Qa(S:List J9)(e:J9×J9):List J9:=if K6 S e.1 then(if K6 S e.2 then S else S++[e.2])else S
def Io(E:List (J9×J9))(S:List J9):List J9:=E.foldl Qa S
def Gh(E:List (J9×J9)):Nat->List J9->List J9
 |0,S=>S
 |n+1,S=>Gh E n (Io E S)
theorem Jiu{S:List J9}{e:J9×J9}{x:J9}(h:x∈S):x∈Qa S e:=by
 unfold Qa;split
 ·split
  ·exact h
  ·exact mem_append_left _ h
 ·exact h
theorem Jij{E:List (J9×J9)} : ∀{S:List J9}{x:J9},x∈S->x∈Io E S:=by
 unfold Io
 induction E with
 |nil=>intro S x h;exact h
 |cons e E ih=>intro S x h;exact ih (Jiu h)
theorem Jaq{E:List (J9×J9)} : ∀{n:Nat}{S:List J9}{x:J9},x∈S->x∈Gh E n S
 |0,_,_,h=>h
 |n+1,_,_,h=>Jaq (n:=n) (Jij h)
theorem Jcc{S:List J9}{e:J9×J9}(h:S.Nodup):(Qa S e).Nodup:=by
 unfold Qa;split
 ·split
  ·exact h
  ·rename_i h2;rw[Bool.not_eq_true,N1]at h2;rw[nodup_append];exact⟨h,by simp,λa ha b hb hab=>h2 (by rw[<-mem_singleton.1 hb,<-hab];exact ha)⟩
 ·exact h
theorem J52{E:List (J9×J9)} : ∀{S:List J9},S.Nodup->(Io E S).Nodup:=by
 unfold Io
 induction E with
 |nil=>intro S h;exact h
 |cons e E ih=>intro S h;exact ih (Jcc h)
theorem Jba{S:List J9}{e:J9×J9} : S.length<=(Qa S e).length:=by
 unfold Qa;split
 ·split <;>simp
 ·simp
theorem J5l{E:List (J9×J9)} : ∀{S:List J9},S.length<=(Io E S).length:=by
 unfold Io
 induction E with
 |nil=>intro S;exact Nat.le_refl _
 |cons e E ih=>intro S;exact Nat.le_trans Jba ih
theorem J3h{E:List (J9×J9)} : ∀{S:List J9},(Io E S).length=S.length->Io E S=S/\∀x y,(x,y)∈E->x∈S->y∈S:=by
 unfold Io
 induction E with
 |nil=>intro S _;exact⟨rfl,λ_ _ h=>by cases h⟩
 |cons e E ih=>
  intro S h;simp only[foldl_cons]at h⊢;have h1:=Jba (S:=S) (e:=e);have h2:(Qa S e).length<=(List.foldl Qa (Qa S e) E).length:=J5l (E:=E)
  have h3:Qa S e=S:=by
   unfold Qa at h1 h2 h⊢;split at h1 <;>rename_i g1
   ·split at h1 <;>rename_i g2
    ·simp[g1,g2]
    ·exfalso;simp only[g1,g2,if_true]at h h2;simp at h h2;omega
   ·simp[g1]
  rw[h3]at h⊢;obtain⟨k1,k2⟩:=ih h;refine⟨k1,λx y hxy hx=>?_⟩;rcases mem_cons.1 hxy with rfl|hxy
  ·unfold Qa at h3;rw[if_pos (Qu.2 hx)]at h3;split at h3
   ·rename_i g;exact Qu.1 g
   ·have:=congrArg List.length h3;simp at this
  ·exact k2 x y hxy hx
theorem Jn0{E:List (J9×J9)}{S:List J9}{e:J9×J9}{a:J9}(he:e∈E)(h:∀x∈S,RT E a x):∀x∈Qa S e,RT E a x:=by
 unfold Qa;split
 ·rename_i g;split
  ·exact h
  ·intro x hx;rcases mem_append.1 hx with hx|hx
   ·exact h x hx
   ·rw[mem_singleton.1 hx];exact(h _ (Qu.1 g)).step he
 ·exact h
theorem Jra{E:List (J9×J9)}{a:J9} : ∀{S:List J9},(∀x∈S,RT E a x)->∀x∈Io E S,RT E a x:=by
 have key:∀(E':List (J9×J9)),(∀e∈E',e∈E)->∀(S:List J9),(∀x∈S,RT E a x)->∀x∈E'.foldl Qa S,RT E a x:=by
  intro E'
  induction E' with
  |nil=>intro _ S h;exact h
  |cons e E' ih=>intro hE S h;exact ih (λe he=>hE e (mem_cons_of_mem _ he)) _ (Jn0 (hE e (mem_cons_self ..)) h)
 intro S h;exact key E (λ_ h=>h) S h
theorem Je1{E:List (J9×J9)}{a:J9} : ∀{n:Nat}{S:List J9},(∀x∈S,RT E a x)->∀x∈Gh E n S,RT E a x
 |0,_,h=>h
 |n+1,_,h=>Je1 (n:=n) (Jra h)
theorem J4i{E:List (J9×J9)}{N:List J9}(hE:∀e∈E,e.2∈N):∀{S:List J9},(∀x∈S,x∈N)->∀x∈Io E S,x∈N:=by
 unfold Io
 induction E with
 |nil=>intro S h;exact h
 |cons e E ih=>
  intro S h;refine ih (λe he=>hE e (mem_cons_of_mem _ he)) ?_;intro x hx;unfold Qa at hx;split at hx
  ·split at hx
   ·exact h x hx
   ·rcases mem_append.1 hx with hx|hx
    ·exact h x hx
    ·rw[mem_singleton.1 hx];exact hE e (mem_cons_self ..)
  ·exact h x hx
theorem J37{N:List J9} : ∀{S:List J9},S.Nodup->(∀x∈S,x∈N)->S.length<=N.length:=by
 induction N with
 |nil=>
  intro S _ h
  cases S with
  |nil=>exact Nat.le_refl _
  |cons x S=>have:=h x (mem_cons_self ..);cases this
 |cons y N ih=>
  intro S hS h
  have:=ih (S:=S.filter (· != y)) (hS.sublist List.filter_sublist) (λx hx=>by
   rw[mem_filter]at hx;rcases mem_cons.1 (h x hx.1)with rfl|h'
   ·simp at hx
   ·exact h')
  have hc:S.length<=(S.filter (· != y)).length+1:=by
   clear this ih h
   induction S with
   |nil=>simp
   |cons x S ih=>
    rw[nodup_cons]at hS;by_cases hx:x=y
    ·subst hx;have hf:S.filter (· != x)=S:=List.filter_eq_self.2 λz hz=>by simp;rintro rfl;exact hS.1 hz
     simp[hf]
    ·have hx':(x != y)=true:=by simpa using hx
     simp only[List.filter_cons,hx',if_true,length_cons];have:=ih hS.2;omega
  simp only[length_cons];omega
theorem J3t{E:List (J9×J9)}{N:List J9}(hE:∀e∈E,e.2∈N):∀(n:Nat) {S:List J9},S.Nodup->(∀x∈S,x∈N)->N.length<=n+S.length->∀x y,(x,y)∈E->x∈Gh E n S->y∈Gh E n S
 |0,S,hS,hN,hn,x,y,hxy,hx=>by
  have h1:=J37 (J52 (E:=E) hS) (J4i hE hN);have h2:=J5l (E:=E) (S:=S)
  exact(J3h (E:=E) (S:=S) (by omega)).2 x y hxy hx
 |n+1,S,hS,hN,hn,x,y,hxy,hx=>by
  by_cases hst:(Io E S).length=S.length
  ·obtain⟨k1,k2⟩:=J3h hst
   have hall:∀m,Gh E m S=S:=by
    intro m
    induction m with
    |zero=>rfl
    |succ m ih=>simp only[Gh,k1];exact ih
   rw[hall]at hx⊢;exact k2 x y hxy hx
  ·have h2:=J5l (E:=E) (S:=S);exact J3t hE n (J52 hS) (J4i hE hN) (by omega) x y hxy hx
theorem Jad{E:List (J9×J9)}{N:List J9}{a:J9}(hE:∀e∈E,e.2∈N)(ha:a∈N){n:Nat}(hn:N.length<=n+1)(x:J9):x∈Gh E n [a]↔RT E a x:=by
 constructor
 ·exact Je1 (λx hx=>by rw[mem_singleton.1 hx];exact .refl _) x
 ·intro h;exact h.closed (Jaq (by simp)) (J3t hE n (by simp) (λx hx=>by rw[mem_singleton.1 hx];exact ha) (by simpa using hn))
def G9(E:List (J9×J9))(N:List J9)(a:J9):List J9:=N.filter (K6 (Gh E N.length [a]))
theorem Pp{E:List (J9×J9)}{N:List J9}{a:J9}(hE:∀e∈E,e.2∈N)(ha:a∈N)(x:J9):x∈G9 E N a↔x∈N/\RT E a x:=by unfold G9;rw[mem_filter,Qu,Jad hE ha (by omega)]
theorem Jey{E:List (J9×J9)}{N:List J9}{a:J9}{M:List J9}(hE:∀e∈E,e.2∈N)(ha:a∈N)(hM:∀x,x∈M↔RT E a x):N.filter (K6 M)=G9 E N a:=by
 unfold G9;refine List.filter_congr λx _=>?_
 rw[Bool.eq_iff_iff,Qu,Qu,hM,Jad hE ha (by omega)]
def R9(E:List (J9×J9))(N:List J9)(a:J9):List J9:=(G9 E N a).filter λg=>K6 (G9 E N g) a
theorem Jfy{E:List (J9×J9)}{N:List J9}{a:J9}(hE:∀e∈E,e.2∈N)(ha:a∈N)(x:J9):x∈R9 E N a↔x∈N/\RT E a x/\RT E x a:=by
 unfold R9;rw[mem_filter,Qu,Pp hE ha];constructor
 ·rintro⟨⟨h1,h2⟩,h3⟩;exact⟨h1,h2,((Pp hE h1 a).1 h3).2⟩
 ·rintro⟨h1,h2,h3⟩;exact⟨⟨h1,h2⟩,(Pp hE h1 a).2 ⟨ha,h3⟩⟩
theorem J8t:∀{l met:List J9},O3 met l=true->l.Nodup/\∀x∈l,x∉met
 | [],_,_=>⟨List.nodup_nil,λ_ h=>by cases h⟩
 |s::l,met,h=>by
  simp only[O3,Bool.and_eq_true,Bool.not_eq_true']at h;obtain⟨h1,h2⟩:=J8t h.2;have h3:=N1.1 h.1;refine⟨nodup_cons.2 ⟨λhs=>h2 s hs (by simp),h1⟩,?_⟩;intro x hx;rcases mem_cons.1 hx with rfl|hx
  ·exact h3
  ·exact λhm=>h2 x hx (mem_append_left _ hm)
def G4(n:Nat):List J9->Nat->Xo
 | [],_=>[]
 |x::xs,i=>(x,Ki i n)::G4 n xs (i+1)
def E1(n:Nat):List J9->Nat->List Jc
 | [],_=>[]
 |_::xs,i=>Ki i n::E1 n xs (i+1)
theorem J2u{n:Nat} : ∀{xs:List J9}{i:Nat},Kl (G4 n xs i)=xs
 | [],_=>rfl
 |x::xs,i=>by have:=J2u (n:=n) (xs:=xs) (i:=i+1);unfold Kl at this⊢;simp[G4,this]
theorem J5n{n:Nat} : ∀{xs:List J9}{i:Nat}{e:J9×Jc},e∈G4 n xs i->∃j,i<=j/\j<i+xs.length/\e.2=Ki j n
 | [],_,_,h=>by cases h
 |x::xs,i,e,h=>by
  rcases mem_cons.1 h with rfl|h
  ·exact⟨i,Nat.le_refl _,by simp,rfl⟩
  ·obtain⟨j,h1,h2,h3⟩:=J5n h;exact⟨j,by omega,by simp;omega,h3⟩
theorem Jg3{n:Nat}(hn:n<=8){xs:List J9}(h:xs.length<=n):G3 n (G4 n xs 0):=by intro e he;obtain⟨j,_,h2,h3⟩:=J5n he;rw[h3];exact⟨Cj hn (by omega),by omega⟩
theorem Je0{n:Nat}{xs:List J9}(h:xs.length<=2):E1 n xs 0=(List.range xs.length).map λi:Nat=>Ki i n:=by
 match xs,h with
 | [],_=>rfl
 | [_],_=>simp[E1,range_succ]
 | [_,_],_=>simp[E1,range_succ]
theorem Pw(E:Xo)(x:J9)(l:Jc):Kl (E++[(x,l)])=Kl E++[x]:=by simp[Kl]
theorem J5r{n:Nat} : ∀{xs:List J9}{a b:MS},a.E=b.E->a.nx=b.nx->a.pars=b.pars->a.args=b.args->xs.Nodup->(∀x∈xs,x∉Kl a.E) ->
 (xs.foldl (W8 n) a).E=a.E++G4 n xs a.nx/\(xs.foldl (U7 n) b).E=a.E++G4 n xs a.nx/\(xs.foldl (W8 n) a).nx=a.nx+xs.length/\(xs.foldl (W8 n) a).pars=a.pars++E1 n xs a.nx/\(xs.foldl (U7 n) b).pars=a.pars++E1 n xs a.nx /\
 (xs.foldl (W8 n) a).args=a.args/\(xs.foldl (U7 n) b).args=a.args/\(xs.foldl (W8 n) a).rows=a.rows++Ho n xs a.nx/\(xs.foldl (U7 n) b).rows=b.rows
 | [],a,b,h1,h2,h3,h4,_,_=>by simp[G4,E1,Ho,h1,h3,h4]
 |x::xs,a,b,h1,h2,h3,h4,hd,hk=>by
  obtain⟨hx,hd'⟩:=nodup_cons.1 hd;have he:=Nz (l:=Ki a.nx n) (hk x mem_cons_self);simp only[foldl_cons]
  have ih:=J5r (n:=n) (xs:=xs) (a:=W8 n a x) (b:=U7 n b x) (by show G7 a.E x (Ki a.nx n)=b.E++[(x,Ki b.nx n)];rw[he,h1,h2]) (by simp[W8,U7,h2]) (by simp[W8,U7,h2,h3]) (by simp[W8,U7,h4]) hd' (by
   intro y hy;have:(W8 n a x).E=a.E++[(x,Ki a.nx n)]:=he;rw[this,Pw];intro hm;rcases mem_append.1 hm with hm|hm
   ·exact hk y (mem_cons_of_mem _ hy) hm
   ·simp at hm;subst hm;exact hx hy)
  obtain⟨g1,g2,g3,g4,g5,g6,g7,g8,g9⟩:=ih;refine⟨?_,?_,?_,?_,?_,?_,?_,?_,?_⟩
  ·rw[g1];simp[W8,he,G4]
  ·rw[g2];simp[W8,he,G4]
  ·rw[g3];simp[W8];omega
  ·rw[g4];simp[W8,E1]
  ·rw[g5];simp[W8,E1]
  ·rw[g6];rfl
  ·rw[g7];rfl
  ·rw[g8];simp[W8,Ho]
  ·rw[g9];rfl
theorem Jem{n j:Nat}(hn:n<=8)(hj:j<n):(Vs (Ki j n) (-1)).getD Jj=Vn (Ki j n) 1:=by
 rw[N9 hn hj]
 have h1:K8 ⟨0,(List.replicate n 0).set j 1⟩ (((List.replicate n (0:Int)).set j 1).length:Nat)=true:=by
  unfold K8;simp only[Bool.and_eq_true,decide_eq_true_eq,all_eq_true];refine⟨⟨⟨by simp[Kh];omega,by simp⟩,by decide⟩,?_⟩;intro y hy;rcases List.mem_or_eq_of_mem_set hy with hy|rfl
  ·rw[(mem_replicate.1 hy).2];decide
  ·decide
 unfold Vs Vn;simp only[h1];have h2:Uz 0 (-1)=(-1,true):=by decide
 have h3:IntKind.i64.wrap (0 - 1) = -1:=by decide
 simp only[h2,h3];simp
theorem J5p{n:Nat}(hn:n<=8){ps:List J9}(hps:ps.length<=n):∀{qs:List X4}{a:MS}{F:Xo},a.E=G4 n ps 0++F->(∀q∈qs,q.Lst∈ps)->(Up qs).Nodup->(∀x∈Up qs,x∉Kl a.E)->a.nx+Yf qs<=n->G3 n a.E ->
 qs.foldl (Wp n) a=qs.foldl (Xs n) a/\Kl (qs.foldl (Xs n) a).E=Kl a.E++Up qs/\(qs.foldl (Xs n) a).nx=a.nx+Yf qs/\G3 n (qs.foldl (Xs n) a).E
 | [],a,F,_,_,_,_,_,hE=>by simp[Up,Yf,hE]
 |q::qs,a,F,hF,hl,hd,hk,hx,hE=>by
  have hq:q.Lst∈Kl (G4 n ps 0):=by rw[J2u];exact hl q mem_cons_self
  obtain⟨l,hm,hg⟩:=Pb Jj hq;obtain⟨j,_,hj,hl2⟩:=J5n hm;simp only at hl2;have hj':j<n:=by omega
  have hget:∀d F,Kp d (G4 n ps 0++F) q.Lst=Ki j n:=λd F=>by rw[hg,hl2]
  simp only[foldl_cons];cases hc:q.Cons
  ·have hpn:Up (q::qs)=Up qs:=by simp[Up,hc]
   have hcn:Yf (q::qs)=Yf qs:=by simp[Yf,hc]
   rw[hpn]at hd hk⊢;rw[hcn]at hx⊢
   have he:Wp n a q=Xs n a q:=by unfold Wp Xs;rw[hc,hF,hget,hget];rfl
   have hsE:(Xs n a q).E=a.E:=by unfold Xs;rw[hc];rfl
   have hsx:(Xs n a q).nx=a.nx:=by unfold Xs;rw[hc];rfl
   rw[he];have ih:=J5p hn hps (qs:=qs) (a:=Xs n a q) (F:=F) (by rw[hsE,hF]) (λr hr=>hl r (mem_cons_of_mem _ hr)) hd (by rw[hsE];exact hk) (by rw[hsx];exact hx) (by rw[hsE];exact hE);rw[hsE,hsx]at ih;exact ih
  ·have hpn:Up (q::qs)=q.Head::q.Tail::Up qs:=by simp[Up,hc]
   have hcn:Yf (q::qs)=Yf qs+1:=by simp[Yf,hc]
   rw[hpn]at hd hk⊢;rw[hcn]at hx⊢;obtain⟨d1,hd⟩:=nodup_cons.1 hd;obtain⟨d2,hd⟩:=nodup_cons.1 hd;simp only[mem_cons,not_or]at d1;have hEh:Cs n a q=a.E++[(q.Head,Ki a.nx n)]:=Nz (hk _ mem_cons_self)
   have hLI:Gt n a q=Vn (Ki j n) 1:=by unfold Gt;rw[hEh,hF,append_assoc,hget];exact Jem hn hj'
   have hLS:F6 n a q=Vn (Ki j n) 1:=by unfold F6;rw[hF,hget]
   have hE2:G7 (a.E++[(q.Head,Ki a.nx n)]) q.Tail (Vn (Ki j n) 1)=a.E++[(q.Head,Ki a.nx n),(q.Tail,Vn (Ki j n) 1)]:=by
    rw[Nz,append_assoc]
    ·rfl
    ·rw[Pw];intro hm;rcases mem_append.1 hm with hm|hm
     ·exact hk q.Tail (by simp) hm
     ·simp at hm;exact d1.1 hm.symm
   have he:Wp n a q=Xs n a q:=by unfold Wp Xs;rw[hc,hLI,hLS,hEh,hE2];rfl
   have hsE:(Xs n a q).E=a.E++[(q.Head,Ki a.nx n),(q.Tail,Vn (Ki j n) 1)]:=by unfold Xs;rw[hc,hLS];rfl
   have hsx:(Xs n a q).nx=a.nx+1:=by unfold Xs;rw[hc];rfl
   have hsk:Kl (Xs n a q).E=Kl a.E++[q.Head,q.Tail]:=by rw[hsE];simp[Kl]
   rw[he]
   have ih:=J5p hn hps (qs:=qs) (a:=Xs n a q) (F:=F++[(q.Head,Ki a.nx n),(q.Tail,Vn (Ki j n) 1)]) (by rw[hsE,hF,append_assoc]) (λr hr=>hl r (mem_cons_of_mem _ hr)) hd (by
    intro x hxm;rw[hsk];intro hm;rcases mem_append.1 hm with hm|hm
    ·exact hk x (by simp[hxm]) hm
    ·simp at hm;rcases hm with rfl|rfl
     ·exact d1.2 hxm
     ·exact d2 hxm) (by rw[hsx];omega) (by
    rw[hsE];intro e he;rcases mem_append.1 he with he|he
    ·exact hE e he
    ·simp at he;rcases he with rfl|rfl
     ·exact⟨Cj hn (by omega),by omega⟩
     ·exact⟨Cj (i:=j) hn hj',by omega⟩)
   obtain⟨g1,g2,g3,g4⟩:=ih;refine⟨g1,?_,?_,g4⟩
   ·rw[g2,hsk,append_assoc];rfl
   ·rw[g3,hsx];omega
def Jkg(K:List J9)(a:Xe):Prop:=(∀s∈a.Heads,∀t∈s.Terms,t.Name∈K)/\(a.Base≠[]->a.Base∈K)
def J8h(p:Jo)(K:List J9):List Xq->Prop
 | []=>True
 |c::cs=>(∀a∈c.Args,Jkg K a)/\((Xc p.Functions c.Func).getD Yt).ListResult=Xp c.Bind/\c.Bind∉K/\J8h p (K++[c.Bind]) cs
theorem J75{p:Jo}{n:Nat}(hn:n<=8):∀{cs:List Xq}{a:MS},J8h p (Kl a.E) cs->a.nx+cs.length<=n->G3 n a.E ->
 cs.foldl (De p n) a=cs.foldl (Wl n) a/\Kl (cs.foldl (Wl n) a).E=Kl a.E++cs.map (·.Bind)/\G3 n (cs.foldl (Wl n) a).E
 | [],a,_,_,hE=>by simp[hE]
 |c::cs,a,h,hx,hE=>by
  obtain⟨h1,h2,h3,h4⟩:=h;simp only[length_cons]at hx;simp only[foldl_cons];have hb:G7 a.E c.Bind (Ki a.nx n)=a.E++[(c.Bind,Ki a.nx n)]:=Nz h3;have ha:c.Args.map (Qd a.E n)=c.Args.map (Q9 a.E n):=List.map_congr_left λx hx=>Jkv hE (h1 x hx)
  have he:De p n a c=Wl n a c:=by unfold De Wl;rw[hb,ha,h2]
  have hsE:(Wl n a c).E=a.E++[(c.Bind,Ki a.nx n)]:=rfl;rw[he]
  have ih:=J75 (p:=p) hn (cs:=cs) (a:=Wl n a c) (by rw[hsE,Pw];exact h4) (by show a.nx+1+_<=_;omega) (by
   rw[hsE];intro e he;rcases mem_append.1 he with he|he
   ·exact hE e he
   ·simp at he;subst he;exact⟨Cj hn (by omega),by omega⟩)
  obtain⟨g1,g2,g3⟩:=ih;refine⟨g1,?_,g3⟩;rw[g2,hsE,Pw];simp
theorem Jbk{a:Xe}{b:Bool}{K:List J9}(h:Wu a b K=true):Jkg K a:=by
 unfold Wu at h;simp only[Bool.and_eq_true]at h;have h2:=h.2;rw[J3j]at h2;unfold He at h2;rw[all_eq_true]at h2
 have hs:∀(l:List Xg) (s:Xg),s∈l->∀t∈s.Terms,t.Name∈Ir l:=by
  intro l
  induction l with
  |nil=>intro s hs;cases hs
  |cons x l ih=>
   intro s hs t ht;simp only[Ir];rcases mem_cons.1 hs with rfl|hs
   ·exact mem_append_left _ (mem_map.2 ⟨t,ht,rfl⟩)
   ·exact List.mem_append_right _ (ih s hs t ht)
 refine⟨λs hs' t ht=>Qu.1 (h2 _ ?_),λhb=>Qu.1 (h2 _ ?_)⟩
 ·exact mem_append_left _ (hs _ s hs' t ht)
 ·refine List.mem_append_right _ ?_;rw[if_neg hb];exact mem_cons_self
theorem J54{K:List J9} : ∀{l:List Xe}{m:List J9},Gn K l m=true->l.length=m.length->∀a∈l,∃b,Wu a b K=true
 | [],_,_,_,_,h=>by cases h
 |a::l,[],_,hl,_,_=>by simp at hl
 |a::l,s::m,h,hl,x,hx=>by
  simp only[Gn,Bool.and_eq_true]at h;rcases mem_cons.1 hx with rfl|hx
  ·exact⟨_,h.1⟩
  ·exact J54 h.2 (by simpa using hl) x hx
theorem Jbd{p:Jo}{c:Xq}{K:List J9}(h:Ik p c K=true):(∀a∈c.Args,∃b,Wu a b K=true)/\((Xc p.Functions c.Func).getD Yt).ListResult=Xp c.Bind:=by
 unfold Ik at h;simp only[Bool.and_eq_true,decide_eq_true_eq]at h;obtain⟨⟨⟨_,h1⟩,h2⟩,h3⟩:=h;refine⟨J54 h3 h1,?_⟩;cases hr:((Xc p.Functions c.Func).getD Yt).ListResult
 ·rw[hr]at h2;simp only[Bool.false_eq_true,if_false,Wb,Bool.and_eq_true,Bool.not_eq_true']at h2;exact h2.2.symm
 ·rw[hr]at h2;simp only[if_true]at h2;exact h2.symm
theorem Cl{p:Jo}{r:K0}{f:K3}(hf:Xc p.Functions r.Func=some f){k:Nat}(hk:k<=r.Calls.length):Ui p r k=f.Params++Up r.Patterns++(r.Calls.take k).map (·.Bind):=by unfold Ui;rw[hf];rw[if_pos (by simp[Kh];omega)];simp
theorem J29{p:Jo}{r:K0}{f:K3}(hf:Xc p.Functions r.Func=some f)(hd:(f.Params++Up r.Patterns++r.Calls.map (·.Bind)).Nodup) :
 ∀{m k:Nat},k+m=r.Calls.length->Qe p r k (r.Calls.drop k)=true->J8h p (Ui p r k) (r.Calls.drop k)
 |0,k,hm,_=>by rw[drop_eq_nil_of_le (by omega)];trivial
 |m+1,k,hm,h=>by
  have hk:k<r.Calls.length:=by omega
  have hsk:Ui p r (k+1:Nat)=Ui p r k++[(r.Calls[k]).Bind]:=by rw[Cl hf (by omega),Cl hf (by omega),List.take_succ_eq_append_getElem hk,map_append,<-append_assoc];rfl
  rw[List.drop_eq_getElem_cons hk]at h⊢;simp only[Qe,Bool.and_eq_true]at h;obtain⟨g1,g2⟩:=Jbd h.1;refine⟨λa ha=>?_,g2,?_,?_⟩
  ·obtain⟨b,hb⟩:=g1 a ha;exact Jbk hb
  ·rw[Cl hf (by omega)];intro hmem
   have hsub:(f.Params++Up r.Patterns++(r.Calls.take k).map (·.Bind)++[(r.Calls[k]).Bind]).Nodup:=by
    refine hd.sublist ?_;rw[append_assoc];refine List.Sublist.append_left ?_ _;have:(r.Calls.take k).map (·.Bind)++[(r.Calls[k]).Bind]=(r.Calls.take (k+1)).map (·.Bind):=by rw[List.take_succ_eq_append_getElem hk,map_append];rfl
    rw[this];exact(List.take_sublist _ _).map _
   rw[nodup_append]at hsub;exact hsub.2.2 _ hmem _ (by simp) rfl
  ·rw[<-hsk];exact J29 hf hd (m:=m) (by omega) h.2
theorem Jdh{ps:List J9} : ∀{qs:List X4}{met:List J9},Oa ps met qs=true->(∀q∈qs,q.Lst∈ps)/\(qs.map (·.Lst)).Nodup/\∀q∈qs,q.Lst∉met
 | [],_,_=>by simp
 |q::qs,met,h=>by
  simp only[Oa,Bool.and_eq_true,Bool.not_eq_true']at h;obtain⟨⟨h1,h2⟩,h3⟩:=h;obtain⟨g1,g2,g3⟩:=Jdh h3;unfold Fd at h1;simp only[Bool.and_eq_true]at h1;have h1':=Qu.1 h1.1.1;have h2':=N1.1 h2;refine⟨?_,?_,?_⟩
  ·intro x hx;rcases mem_cons.1 hx with rfl|hx
   ·exact h1'
   ·exact g1 x hx
  ·rw[map_cons,nodup_cons];refine⟨?_,g2⟩;intro hm;obtain⟨y,hy,he⟩:=mem_map.1 hm;exact g3 y hy (by rw[he];simp)
  ·intro x hx;rcases mem_cons.1 hx with rfl|hx
   ·exact h2'
   ·exact λhm=>g3 x hx (mem_append_left _ hm)
theorem Mc{p:Jo}{name:J9}{f:K3}(hp:Ym p=true)(hf:Xc p.Functions name=some f):f.Params.length<=2/\f.Params.Nodup/\(∀l∈f.Pre,K8 l f.Params.length=true)/\f.Pre.length<=2:=by unfold Ym at hp;simp only[Bool.and_eq_true,Sh,all_eq_true]at hp;have:=hp.1.1.2.1 f (List.mem_of_find?_eq_some hf);unfold Od Q5 at this;simp only[Bool.and_eq_true,decide_eq_true_eq,all_eq_true]at this;obtain⟨⟨⟨⟨_,h2⟩,_,h3⟩,h4⟩,h5⟩:=this;exact⟨h2,(J8t h3).1,h5,h4⟩
structure C9 (p:Jo) (r:K0) (f:K3):Prop where
 par:f.Params.length<=2
 pre:∀l∈f.Pre,K8 l f.Params.length=true
 npre:f.Pre.length<=2
 pats:∀q∈r.Patterns,q.Lst∈f.Params
 npats:r.Patterns.length<=f.Params.length
 nd:(f.Params++Up r.Patterns++r.Calls.map (·.Bind)).Nodup
 ncalls:r.Calls.length<=2
 nguards:r.Guards.length<=2
 guards:∀g∈r.Guards,Qo (f.Params++Up r.Patterns) g=true
 calls:Qe p r 0 r.Calls=true
 res:Wu r.Result f.ListResult (f.Params++Up r.Patterns++r.Calls.map (·.Bind))=true
theorem Fk{p:Jo}{r:K0}(hp:Ym p=true)(hr:r∈p.Rules):∃f,Xc p.Functions r.Func=some f/\C9 p r f:=by
 have hp':=hp;unfold Ym at hp';simp only[Bool.and_eq_true,all_eq_true]at hp';have h:=hp'.2 r hr;unfold G8 at h;simp only[Bool.and_eq_true,decide_eq_true_eq]at h;obtain⟨⟨⟨⟨⟨⟨⟨g1,g2⟩,g3⟩,g4⟩,g5⟩,g6⟩,g7⟩,g8⟩:=h;obtain⟨f,hf⟩:=Option.isSome_iff_exists.1 g1;rw[hf]at g2 g7;simp only[Option.getD_some]at g2 g7;obtain⟨k1,k2,k3,k4⟩:=Mc hp hf;obtain⟨q1,q2,_⟩:=Jdh g2;have hs0:=Cl (p:=p) (r:=r) hf (k:=0) (Nat.zero_le _);have hsa:=Cl (p:=p) (r:=r) hf (k:=r.Calls.length) (Nat.le_refl _);rw[List.take_length]at hsa;simp only[List.take_zero,map_nil,append_nil]at hs0;rw[hsa]at g7 g8;rw[show((0:Nat):Int)=0 from rfl]at hs0;rw[hs0,all_eq_true]at g4;refine⟨f,hf,k1,k3,k4,q1,?_,(J8t g8).1,g5,g3,g4,g6,g7⟩
 have:=J37 q2 (N:=f.Params) (by intro x hx;obtain⟨q,hq,rfl⟩:=mem_map.1 hx;exact q1 q hq)
 simpa using this
theorem Jb9(l:List X4):Yf l<=l.length:=List.length_filter_le _ _
theorem C9.size {p:Jo}{r:K0}{f:K3}(R:C9 p r f):Kc r f<=6:=by have:=Jb9 r.Patterns;have:=R.par;have:=R.npats;have:=R.ncalls;unfold Kc;omega
theorem Jjf{p:Jo}{r:K0}{f:K3}(hf:Xc p.Functions r.Func=some f)(R:C9 p r f):Tl p r f=some (Qj r f):=by
 have h6:=R.size;have hn:Kc r f<=8:=by omega
 have hpn:f.Params.length<=Kc r f:=by unfold Kc;omega
 have hd:=R.nd;rw[append_assoc,nodup_append]at hd;obtain⟨hd1,hd2,hd3⟩:=hd;rw[nodup_append]at hd2;obtain⟨hd4,hd5,hd6⟩:=hd2;obtain⟨a1,a2,a3,a4,a5,a6,a7,a8,a9⟩:=J5r (n:=Kc r f) (xs:=f.Params) (a:=⟨[],0,[],[],[]⟩) (b:=⟨[],0,V1 f (Kc r f),[],[]⟩) rfl rfl rfl rfl hd1 (by simp[Kl]);simp only[nil_append,Nat.zero_add]at a1 a2 a3 a4 a5 a6 a7 a8 a9
 have hpre:Pa (Jv r f).pars (Kc r f) f.Pre=some (f.Pre.map (Yv (Kc r f))):=by
  refine J8s λl hl=>?_
  unfold Jv;rw[a4,Je0 R.par];exact J6p R.par hpn hn (R.pre l hl)
 unfold Tl Qj;rw[hpre];simp only
 have e1:(⟨(Jv r f).E,(Jv r f).nx,(Jv r f).rows++f.Pre.map (Yv (Kc r f)),(Jv r f).pars,(Jv r f).args⟩:MS)=We (W6 r f) f.Params.length:=by unfold Jv W6 We;rw[a1,a2,a3,a4,a5,a6,a7,a8,a9];rfl
 have b0:(We (W6 r f) f.Params.length).E=G4 (Kc r f) f.Params 0++[]:=by rw[append_nil];exact a2
 have b1:Kl (We (W6 r f) f.Params.length).E=f.Params:=by rw[b0,append_nil,J2u]
 have b2:G3 (Kc r f) (We (W6 r f) f.Params.length).E:=by rw[b0,append_nil];exact Jg3 hn hpn
 obtain⟨c1,c2,c3,c4⟩:=J5p hn hpn (qs:=r.Patterns) (a:=We (W6 r f) f.Params.length) b0 R.pats hd4 (by rw[b1];intro x hx hm;exact hd3 x hm x (mem_append_left _ hx) rfl) (by show f.Params.length+Yf r.Patterns<=Kc r f;unfold Kc;omega) b2
 rw[b1]at c2;have e3:Kq r f (f.Pre.map (Yv (Kc r f)))=Yg r f:=by unfold Kq Yg;rw[e1,c1]
 have hg:r.Guards.map (Q6 (Yg r f).E (Kc r f))=r.Guards.map (V5 (Yg r f).E (Kc r f)):=by
  refine List.map_congr_left λg hg=>Jko c4 λt ht=>?_
  have:=R.guards g hg;unfold Qo He at this;simp only[Bool.and_eq_true,all_eq_true]at this;have:=Qu.1 (this.2 t.Name (mem_map.2 ⟨t,ht,rfl⟩));show t.Name∈Kl (Yg r f).E
  unfold Yg;rw[c2];exact this
 have e4:Yc (Yg r f) (r.Guards.map (Q6 (Yg r f).E (Kc r f)))=Yc (We (Yg r f) (f.Params.length+Yf r.Patterns)) (r.Guards.map (V5 (Yg r f).E (Kc r f))):=by rw[hg];unfold Yc We;have:(Yg r f).nx=f.Params.length+Yf r.Patterns:=c3;rw[this]
 have hk0:Kl (Yc (We (Yg r f) (f.Params.length+Yf r.Patterns)) (r.Guards.map (V5 (Yg r f).E (Kc r f)))).E=f.Params++Up r.Patterns:=c2;have hci:=J29 (p:=p) (r:=r) hf R.nd (m:=r.Calls.length) (k:=0) (by omega) R.calls;have hs0:=Cl (p:=p) (r:=r) hf (k:=0) (Nat.zero_le _);simp only[List.take_zero,map_nil,append_nil]at hs0;rw[hs0,List.drop_zero]at hci
 obtain⟨d1,d2,d3⟩:=J75 (p:=p) hn (cs:=r.Calls) (a:=Yc (We (Yg r f) (f.Params.length+Yf r.Patterns)) (r.Guards.map (V5 (Yg r f).E (Kc r f)))) (by rw[hk0];exact hci) (by show f.Params.length+Yf r.Patterns+r.Calls.length<=Kc r f;unfold Kc;omega) c4
 have e5:Yz p r f (f.Pre.map (Yv (Kc r f)))=Vy r f:=by unfold Yz Vy;rw[e3,e4,d1]
 rw[e5]
 have er:Qd (Vy r f).E (Kc r f) r.Result=Q9 (Vy r f).E (Kc r f) r.Result:=by
  refine Jkv d3 ?_;have h1:=Jbk R.res;have h2:Kl (Vy r f).E=f.Params++Up r.Patterns++r.Calls.map (·.Bind):=by unfold Vy;rw[d2,hk0]
  rw[<-h2]at h1;exact h1
 rw[er]
end Go.Proofs.YtoclolkigjbcgaaGreat
