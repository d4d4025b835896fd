/- Contracts: patterns, guards. -/
import Derived.Test.YtoclolkigjbcgaaGreatAHM0
import Derived.Test.YtoclolkigjbcgaaGreatAC1
namespace Go.Proofs.YtoclolkigjbcgaaGreat
open Tryz
open Tryz(prog)
open List(drop_eq_getElem_cons drop_eq_nil_of_le getElem_mem all_cons)
set_option maxRecDepth 40000
set_option maxHeartbeats 4000000
open Go Go.RowKit Go.Proofs
set_option linter.all false
theorem Jrc:Jh prog f293=some (Dz 322):=by kernel_rfl
theorem Jtu:Jh prog f322=some (Bl true 4):=by kernel_rfl
def K5c:Jl:= ⟨9,[.t 3],(Zq [ZB 2 0,Zt 3 false] (Zq [Zf 4 0 2,Zl 5 false 1 4,Zf 6 0 1,Zl 7 false 1 6,Zb 8 .eql 5 7,Zv 3 8] .ret))⟩
theorem Jmg:Jh prog f294=some K5c:=by kernel_rfl
def K6f:Jl:= ⟨54,[.t 4],(Zq [ZB 2 0,Zt 4 false] (.seq (Zq [Zv 7 1,Zn 8 7,Zi 9 0] (.blk 0 (.loop (Zq [Zb 10 .lss 9 8] (.seq (Zw 10 0) (.seq (.blk 1 (Zq [Zv 11 9,Zx 12 4 7 9,Zl 13 true 4 12,Zo 6 (.box [(.str []),(.bool false),(.str []),(.str [])]),Zv 5 11,Zs 4 6 13] (.seq (Zq [Zf 14 0 6,Zl 15 false 1 14,Zc 16 205 [.t 15],ZN 17 16,Zv 18 17,Zg 19 18 false (.fld 1 (.t 2)),Zg 20 18 false (.ld false 1 (.t 19)),Zg 21 18 false (.fld 0 (.t 6)),Zg 22 18 false (.ld false 1 (.t 21)),Zg 23 18 false (.call (.k (.fn (.func 72) [] [])) [.t 20,.t 22]),Zg 24 18 false (.un .not (.t 23)),ZP 25 18 24,Zv 26 25,Zg 27 26 false (.mv (.t 1)),Zg 28 26 false (.mv (.t 5)),Zg 29 26 false (.slc false 4 (.t 27) Option.none (some (.t 28))),Zg 30 26 false (.mkf (.func 294) [] [.t 6]),Zg 31 26 false (.call (.k (.fn (.func 293) [] [])) [.t 29,.t 30]),ZP 32 26 31] (.cond (.t 32) (Zq [Zt 4 false] .ret) .skip)) (Zq [Zf 33 1 6,Zl 34 false 1 33] (.cond (.t 34) (Zq [Zf 35 2 6,Zl 36 false 1 35,Zc 37 140 [.t 36],ZN 38 37,Zv 39 38,Zg 40 39 false (.fld 3 (.t 6)),Zg 41 39 false (.ld false 1 (.t 40)),Zg 42 39 false (.call (.k (.fn (.func 205) [] [])) [.t 41]),Zg 43 39 false (.un .not (.t 42)),ZP 44 39 43] (.cond (.t 44) (Zq [Zt 4 false] .ret) .skip)) (Zq [Zf 45 2 6,Zl 46 false 1 45,Zo 47 (.bin .neq (.t 46) (.k (.str []))),Zv 48 47,Zg 49 48 false (.fld 3 (.t 6)),Zg 50 48 false (.ld false 1 (.t 49)),Zg 51 48 false (.bin .neq (.t 50) (.k (.str []))),ZP 52 48 51] (.cond (.t 52) (Zq [Zt 4 false] .ret) .skip))))))) (.reg [Zk 53 .add 9 1,Zv 9 53]))))))) (Zq [Zt 4 true] .ret)))⟩
theorem Jqe:Jh prog f236=some K6f:=by kernel_rfl
def K8w:Jl:= ⟨72,[.t 4],(Zq [ZB 2 0,Zt 4 false] (Zq [Zo 8 (.bsl 1 []),Zv 5 8] (.seq (Zq [Zi 6 0] (.blk 0 (.loop (.seq (Zq [Zv 9 6,Zv 10 1,Zn 11 10,Zb 12 .lss 9 11] (Zw 12 0)) (.seq (.blk 1 (Zq [Zv 15 1,Zv 16 6,Zx 17 4 15 16,Zl 18 true 4 17,Zo 7 (.box [(.str []),(.bool false),(.str []),(.str [])]),Zs 4 7 18] (.seq (Zq [Zf 19 1 2,Zl 20 false 1 19,Zf 21 0 7,Zl 22 false 1 21,Zc 23 63 [.t 20,.t 22],Zk 24 .lss 23 0,Zv 25 24,Zg 26 25 false (.fld 0 (.t 7)),Zg 27 25 false (.ld false 1 (.t 26)),Zg 28 25 false (.call (.k (.fn (.func 260) [] [])) [.t 27]),Zg 29 25 false (.un .not (.t 28)),ZP 30 25 29,Zv 31 30,Zg 32 31 false (.mv (.t 5)),Zg 33 31 false (.fld 0 (.t 7)),Zg 34 31 false (.ld false 1 (.t 33)),Zg 35 31 false (.call (.k (.fn (.func 63) [] [])) [.t 32,.t 34]),Zg 36 31 false (.bin .geq (.t 35) (.k (.int .i64 0))),ZP 37 31 36] (.cond (.t 37) (Zq [Zt 4 false] .ret) .skip)) (Zq [Zv 38 5,Zf 39 0 7,Zl 40 false 1 39,ZS 41 1 40,ZA 42 16 1 38 41,Zv 5 42] (Zq [Zf 43 1 7,Zl 44 false 1 43,Zv 45 44,Zg 46 45 true (.fld 2 (.t 7)),Zg 47 45 true (.ld false 1 (.t 46)),Zg 48 45 true (.call (.k (.fn (.func 216) [] [])) [.t 47]),Zg 49 45 true (.un .not (.t 48)),Zg 50 45 true (.mv (.t 49)),Zg 51 50 false (.fld 3 (.t 7)),Zg 52 50 false (.ld false 1 (.t 51)),Zg 53 50 false (.call (.k (.fn (.func 260) [] [])) [.t 52]),Zg 54 50 false (.un .not (.t 53)),Zg 55 45 true (.pick (.t 50) (.k (.bool true)) (.t 54)),ZQ 56 45 55,Zv 57 56,Zg 58 57 false (.fld 1 (.t 7)),Zg 59 57 false (.ld false 1 (.t 58)),Zg 60 57 false (.un .not (.t 59)),Zg 61 57 false (.mv (.t 60)),Zg 62 61 true (.fld 2 (.t 7)),Zg 63 61 true (.ld false 1 (.t 62)),Zg 64 61 true (.bin .neq (.t 63) (.k (.str []))),Zg 65 61 true (.mv (.t 64)),Zg 66 65 false (.fld 3 (.t 7)),Zg 67 65 false (.ld false 1 (.t 66)),Zg 68 65 false (.bin .neq (.t 67) (.k (.str []))),Zg 69 61 true (.pick (.t 65) (.k (.bool true)) (.t 68)),Zg 70 57 false (.pick (.t 61) (.t 69) (.k (.bool false))),ZP 71 57 70] (.cond (.t 71) (Zq [Zt 4 false] .ret) .skip)))))) (.reg [Zv 13 6,Zk 14 .add 13 1,Zv 6 14])))))) (Zq [Zt 4 true] .ret))))⟩
theorem Jp3:Jh prog f219=some K8w:=by kernel_rfl
def K8a:Jl:= ⟨32,[.t 4],(Zq [Zt 4 false] (.seq (Zq [Zi 5 0] (.blk 0 (.loop (.seq (Zq [Zv 6 5,Zv 7 0,Zn 8 7,Zb 9 .lss 6 8] (Zw 9 0)) (.seq (.blk 1 (Zq [Zv 12 0,Zv 13 5,Zx 14 2 12 13,Zl 15 true 2 14,Zc 16 286 [.t 15],ZN 17 16,Zv 18 17,Zg 19 18 false (.mv (.t 0)),Zg 20 18 false (.mv (.t 5)),Zg 21 18 false (.mv (.t 5)),Zg 22 18 false (.bin .add (.t 21) (.k (.int .i64 1))),Zg 23 18 false (.slc false 2 (.t 19) (some (.t 20)) (some (.t 22))),Zg 24 18 false (.build [(.bool false),(.nil 2),(.str [])] [(1,(1,(.t 23)))]),Zg 25 18 false (.mv (.t 1)),Zg 26 18 false (.call (.k (.fn (.func 223) [] [])) [.t 24,(.k (.bool false)),.t 25]),Zg 27 18 false (.un .not (.t 26)),ZP 28 18 27] (.cond (.t 28) (Zq [Zt 4 false] .ret) .skip))) (.reg [Zv 10 5,Zk 11 .add 10 1,Zv 5 11])))))) (Zq [Zv 29 0,Zn 30 29,Zk 31 .leq 30 2,Zv 4 31] .ret)))⟩
theorem Jnv:Jh prog f220=some K8a:=by kernel_rfl
theorem Jhe{h:J8}{n id:Nat}{q:X4}(x:X4)(hv:h id=some ⟨true,4,[Kd q]⟩)(hid:id<n):Dt prog 294 [] [.ptr id 0 0] h n (.agg (Kd x)) (.bool (x.Lst==q.Lst)):=by
 intro K hK;refine Cr ?_;refine U8 func294 Jmg rfl (by simp[K5c]) ?_;have n1:¬id=n:=by omega
 simp[K5c,hv,n1,Kd,Vk,hK];intro j hj hj';omega
def Ue(qs:List X4)(i:Nat):List J9:=(qs.take i).map (·.Lst)
theorem J2r{qs:List X4}{i:Nat}(hi:i<qs.length):Ue qs (i+1)=Ue qs i++[(qs[i]).Lst]:=by unfold Ue;rw[List.take_succ_eq_append_getElem hi,List.map_append];rfl
theorem Jhp{qs:List X4}{i:Nat}(hi:i<=qs.length):(Ue qs i).length=i:=by simp[Ue];omega
theorem Jp2(l:List X4)(s:J9):(l.any λx=>x.Lst==s)=K6 (l.map (·.Lst)) s:=by simp[K6,List.any_map,Function.comp_def]
set_option maxHeartbeats 1000000 in
theorem J82(f:K3)(qs:List X4):Holds prog 236 [.agg (K5 f),.sl 4 (qs.map Kd)] (λr=>r = .bool (Oa f.Params [] qs)):=by
 refine Jp func236 Jqe rfl (by simp[K6f]) ?_;simp[K6f,K5];intro hl;generalize hB:Oa f.Params [] qs=B;refine Ka [1,2,7,8] 9 qs.length (λi s h n=>0<n/\h 0=some ⟨true,4,[[.str f.Name,.sl 1 (Jf f.Params),.bool f.ListResult,.sl 2 (f.Pre.map Jb)]]⟩/\Oa f.Params (Ue qs i) (qs.drop i)=B) hl (by simp) ⟨by simp,by simp,hB⟩ ?_ ?_
 ·rintro i st h n R hi hg hk s9 hw ⟨hn,e0,hJ⟩ hR hret _;simp at hk;rw[drop_eq_getElem_cons hi]at hJ;simp only[Oa]at hJ;have z0:¬0=n:=by omega
  have z1:¬n=0:=by omega
  refine Jq [1,2,7,8,9] (λs=>s 10 = .bool true) (by simp[hk,s9,hi]) ?_;intro Jv hk1 s10;simp at hk1;refine W3 s10 (Jn (Xd ?_));refine Xu [1,2,7,8,9] (λs h' n'=>s 5 = .int .i64 i/\s 6 = .ptr n 0 0/\n'=n+1/\h' n=some ⟨true,4,[Kd qs[i]]⟩/\h' 0=some ⟨true,4,[[.str f.Name,.sl 1 (Jf f.Params),.bool f.ListResult,.sl 2 (f.Pre.map Jb)]]⟩) (by simp[hk,hk1,s9,hi,Kd,e0,z0]) ?_;rintro st2 h2 n2 hk2 ⟨s5,s6,rfl,en,e0'⟩;simp at hk2;have ht:∀l:List X4,List.take i (l.map Kd)=(l.take i).map Kd:=λl=>by simp
  refine Jn (Jq [1,2,6,7,8,9] (λs=>s 32 = .bool (!Xp (qs[i]).Lst || !K6 f.Params (qs[i]).Lst||K6 (Ue qs i) (qs[i]).Lst)) ?_ ?_)
  ·simp[Kd,en,s6];refine Je (En (qs[i]'hi).Lst) (by simp) ?_;rintro r rfl;cases c1:Xp (qs[i]).Lst
   ·simp[hk,hk1,hk2,s9,s6]
   simp[hk,hk1,hk2,Kd,e0',en,s6];refine Je (Nl f.Params (qs[i]'hi).Lst) (by simp) ?_;rintro r rfl;cases c2:K6 f.Params (qs[i]).Lst
   ·simp[hk,hk1,hk2,s9,s6]
   simp[hk,hk1,hk2,s9,s5,s6,U0,Vz];refine⟨by omega,?_⟩;rw[ht]
   refine Bk (p:=λx=>x.Lst==(qs[i]).Lst) (rowOf:=Kd) (eltOf:=λx=>.agg (Kd x)) func293 Jrc rfl func322 Jtu rfl (λx=>by simp) (qs.take i)
    (λx _=>Jhe (q:=qs[i]) x en (Nat.lt_succ_self n)) ?_
   rw[Jp2,show List.map (·.Lst) (qs.take i)=Ue qs i from rfl];simp[hk,hk1,hk2]
  intro Kq hk3 s32;simp at hk3;generalize hcc:(!Xp (qs[i]).Lst || !K6 f.Params (qs[i]).Lst||K6 (Ue qs i) (qs[i]).Lst)=cc at *;have hp:(Ue qs (i+1))=Ue qs i++[(qs[i]).Lst]:=J2r hi;rw[<-hp]at hJ;cases cc
  case true=>
   have:(Fd f.Params qs[i] && !K6 (Ue qs i) (qs[i]).Lst)=false:=by unfold Fd;cases g1:Xp (qs[i]).Lst <;>cases g2:K6 f.Params (qs[i]).Lst <;>cases g3:K6 (Ue qs i) (qs[i]).Lst <;>rw[g1,g2,g3]at hcc <;>simp at hcc <;>simp
   rw[this,Bool.false_and]at hJ;subst hJ;simp[s32];refine hret _ _ _ ?_;simp
  have hcc':Xp (qs[i]).Lst=true/\K6 f.Params (qs[i]).Lst=true/\K6 (Ue qs i) (qs[i]).Lst=false:=by cases g1:Xp (qs[i]).Lst <;>cases g2:K6 f.Params (qs[i]).Lst <;>cases g3:K6 (Ue qs i) (qs[i]).Lst <;>rw[g1,g2,g3]at hcc <;>simp at hcc <;>simp
  unfold Fd at hJ;rw[hcc'.1,hcc'.2.1,hcc'.2.2]at hJ;simp only[Bool.true_and,Bool.not_false,Bool.and_true]at hJ;simp[hk1,hk2,hk3,s32,s6,en,Kd];cases c3:(qs[i]).Cons
  ·rw[c3]at hJ;simp only[Bool.false_eq_true,if_false]at hJ;simp;cases c4:((qs[i]).Head==[])
   ·rw[c4,Bool.false_and,Bool.false_and]at hJ;subst hJ;have c4':¬(qs[i]).Head=[]:=by simpa using c4
    simp[c4'];refine hret _ _ _ ?_;simp
   have c4':(qs[i]).Head=[]:=by simpa using c4
   cases c5:((qs[i]).Tail==[])
   ·rw[c4,c5,Bool.and_false,Bool.false_and]at hJ;subst hJ;have c5':¬(qs[i]).Tail=[]:=by simpa using c5
    simp[c4',c5'];refine hret _ _ _ ?_;simp
   ·rw[c4,c5,Bool.true_and,Bool.true_and]at hJ;have c5':(qs[i]).Tail=[]:=by simpa using c5
    simp[c4',c5',s9,hw];exact hR _ _ _ (by simp[hk,hk1,hk2,hk3]) (by simp) ⟨by omega,by simp[e0'],hJ⟩
  ·rw[c3]at hJ;simp only[if_true]at hJ;simp;refine Je (Pm (qs[i]'hi).Head) (by simp) ?_;rintro r rfl;cases c4:Wb (qs[i]).Head
   ·rw[c4,Bool.false_and,Bool.false_and]at hJ;subst hJ;simp;refine hret _ _ _ ?_;simp
   simp[hk3,s6,en,Kd,c3];refine Je (En (qs[i]'hi).Tail) (by simp) ?_;rintro r rfl;cases c5:Xp (qs[i]).Tail
   ·rw[c4,c5,Bool.and_false,Bool.false_and]at hJ;subst hJ;simp;refine hret _ _ _ ?_;simp
   ·rw[c4,c5,Bool.true_and,Bool.true_and]at hJ;simp[hk1,hk2,hk3,s9,hw];exact hR _ _ _ (by simp[hk,hk1,hk2,hk3]) (by simp) ⟨by omega,by simp[e0'],hJ⟩
 ·rintro st h n R hk s9 ⟨hn,e0,hJ⟩ hret hX;simp at hk;rw[drop_eq_nil_of_le (by omega)]at hJ;refine Jq [1,2,7,8,9] (λs=>s 10 = .bool false) (by simp[hk,s9]) ?_;intro Jv hk1 s10;simp at hk1;refine Uv s10 ?_;simp;refine hX _ _ _ _ ?_;simp[<-hJ,Oa]
theorem Jy5(l:List J9)(s:J9):decide (Xi (λx=>x==s) l 0<0) = !K6 l s:=by
 cases h:K6 l s
 ·have:=Nv (p:=λx=>x==s) (l:=l) (i:=0) |>.2 h
  simp[this]
 ·have:¬Xi (λx=>x==s) l 0<0:=λh'=>by have:=Nv.1 h';unfold K6 at h;rw[h]at this;cases this
  simp[this]
theorem Jyp(l:List J9)(s:J9):decide (0<=Xi (λx=>x==s) l 0)=K6 l s:=by have:=Mm (p:=λx=>x==s) (l:=l) (i:=0);simp only[ge_iff_le]at this;rw[this];rfl
set_option maxHeartbeats 1000000 in
theorem J46(f:K3)(qs:List X4)(hq:qs.length<=1048576):Holds prog 219 [.agg (K5 f),.sl 4 (qs.map Kd)] (λr=>r = .bool (Oa f.Params [] qs)):=by
 refine Jp func219 Jp3 rfl (by simp[K8w]) ?_;simp[K8w,K5];generalize hB:Oa f.Params [] qs=B
 refine Ka [1,2] 6 qs.length (λi s h n=>0<n/\h 0=some ⟨true,4,[[.str f.Name,.sl 1 (Jf f.Params),.bool f.ListResult,.sl 2 (f.Pre.map Jb)]]⟩/\Oa f.Params (Ue qs i) (qs.drop i)=B /\
  ∃id,0<id/\id<n/\s 5 = .ref id 0 i/\h id=some ⟨false,1,Jf (Ue qs i)⟩) (by unfold Jd;omega) (by simp) ⟨by simp,by simp,hB,1,by omega,by omega,by simp,by simp[Jf,Ue]⟩ ?_ ?_
 ·rintro i st h n R hi hg hk s6 hw ⟨hn,e0,hJ,id,hid0,hidn,s5,eid⟩ hR hret _;simp at hk;rw[drop_eq_getElem_cons hi]at hJ;simp only[Oa]at hJ;have z0:¬0=n:=by omega
  have z1:¬n=0:=by omega
  have z2:¬id=n:=by omega
  have z3:¬n=id:=by omega
  have z4:¬id=0:=by omega
  have z5:¬0=id:=by omega
  have hlt:(Ue qs i).length=i:=Jhp (by omega);refine Jn (Jq [1,2,5,6] (λs=>s 12 = .bool true) (by simp[hk,s6,hi]) ?_);intro Jv hk1 s12;simp at hk1;refine U2 s12 (Jn (Xd ?_));refine Xu [1,2,5,6] (λs h' n'=>s 7 = .ptr n 0 0/\n'=n+1/\h' n=some ⟨true,4,[Kd qs[i]]⟩/\h' 0=some ⟨true,4,[[.str f.Name,.sl 1 (Jf f.Params),.bool f.ListResult,.sl 2 (f.Pre.map Jb)]]⟩/\h' id=some ⟨false,1,Jf (Ue qs i)⟩) (by simp[hk,hk1,s6,hi,Kd,e0,z0,z2,eid]) ?_;rintro st2 h2 n2 hk2 ⟨s7,rfl,en,e0',eid'⟩;simp at hk2;have ht:List.take i (Jf (Ue qs i))=Jf (Ue qs i):=List.take_of_length_le (by simp[hlt]);refine Jn (Jq [1,2,5,6,7] (λs=>s 37 = .bool (!K6 f.Params (qs[i]).Lst || !Xp (qs[i]).Lst||K6 (Ue qs i) (qs[i]).Lst)) ?_ ?_)
  ·simp[hk,hk1,hk2,Kd,e0',en,s7];refine Je (E3 f.Params (qs[i]'hi).Lst) (by simp) ?_;rintro r rfl;have e1:=Jy5 f.Params (qs[i]).Lst;generalize Xi (λx=>x==(qs[i]).Lst) f.Params 0=k1 at e1;cases c1:K6 f.Params (qs[i]).Lst
   ·rw[c1]at e1;have:k1<0:=by simpa using e1
    simp[this]
   rw[c1]at e1;have:¬k1<0:=by simpa using e1
   simp[hk,hk1,hk2,s6,Kd,en,s7,this];refine Je (Dv (qs[i]'hi).Lst) (by simp) ?_;rintro r rfl;cases c2:Xp (qs[i]).Lst
   ·simp
   simp[hk,hk1,hk2,s6,Kd,en,s7,s5];refine Je (E3 (Ue qs i) (qs[i]'hi).Lst) (by simp[eid',ht,hlt]) ?_;rintro r rfl;have e2:=Jyp (Ue qs i) (qs[i]).Lst;generalize Xi (λx=>x==(qs[i]).Lst) (Ue qs i) 0=k2 at e2;simp[hk,hk1,hk2,e2]
  intro Kq hk3 s37;simp at hk3;generalize hcc:(!K6 f.Params (qs[i]).Lst || !Xp (qs[i]).Lst||K6 (Ue qs i) (qs[i]).Lst)=cc at *;have hp:(Ue qs (i+1))=Ue qs i++[(qs[i]).Lst]:=J2r hi;rw[<-hp]at hJ;cases cc
  case true=>
   have:(Fd f.Params qs[i] && !K6 (Ue qs i) (qs[i]).Lst)=false:=by unfold Fd;cases g1:Xp (qs[i]).Lst <;>cases g2:K6 f.Params (qs[i]).Lst <;>cases g3:K6 (Ue qs i) (qs[i]).Lst <;>rw[g1,g2,g3]at hcc <;>simp at hcc <;>simp
   rw[this,Bool.false_and]at hJ;subst hJ;simp[s37];refine hret _ _ _ ?_;simp
  have hcc':Xp (qs[i]).Lst=true/\K6 f.Params (qs[i]).Lst=true/\K6 (Ue qs i) (qs[i]).Lst=false:=by cases g1:Xp (qs[i]).Lst <;>cases g2:K6 f.Params (qs[i]).Lst <;>cases g3:K6 (Ue qs i) (qs[i]).Lst <;>rw[g1,g2,g3]at hcc <;>simp at hcc <;>simp
  unfold Fd at hJ;rw[hcc'.1,hcc'.2.1,hcc'.2.2]at hJ;simp only[Bool.true_and,Bool.not_false,Bool.and_true]at hJ;refine J5g s37 ?_;have y0:¬0=n+1:=by omega
  have y1:¬n=n+1:=by omega
  have y2:¬id=n+1:=by omega
  have y3:¬n+1=id:=by omega
  have y4:¬n+1=0:=by omega
  have y5:¬n+2=0:=by omega
  have y6:¬n=n+2:=by omega
  have y7:¬0=n+2:=by omega
  have y8:¬n+1=n:=by omega
  simp only[Wd];refine Xu [1,2,6,7] (λs h' n'=>n'=n+3/\s 5 = .ref (n+2) 0 (i+1)/\h' n=some ⟨true,4,[Kd qs[i]]⟩/\h' 0=some ⟨true,4,[[.str f.Name,.sl 1 (Jf f.Params),.bool f.ListResult,.sl 2 (f.Pre.map Jb)]]⟩/\h' (n+2)=some ⟨false,1,Jf (Ue qs (i+1))⟩) ?_ ?_
  ·simp[hk,hk1,hk2,hk3,s7,en,Kd,e0',s5,eid',z1,z3,z5,y2,y3,y6,ht,hlt,J2r hi];refine⟨by unfold Jd;omega,?_⟩;simp[Jf]
  rintro st4 h4 n4 hk4 ⟨rfl,s5',en',e0'',eid''⟩;simp at hk4;refine Jq [1,2,5,6,7] (λs=>s 71 = .bool (!(if (qs[i]).Cons then Wb (qs[i]).Head&&Xp (qs[i]).Tail else(qs[i]).Head==[]&&(qs[i]).Tail==[]))) ?_ ?_
  ·cases c3:(qs[i]).Cons
   ·cases c4:((qs[i]).Head==[])
    ·have c4':¬(qs[i]).Head=[]:=by simpa using c4
     have c4e:(qs[i]).Head.isEmpty=false:=by simpa using c4'
     simp[hk,hk1,hk2,hk3,hk4,s7,en',Kd,c3,c4]
    have c4':(qs[i]).Head=[]:=by simpa using c4
    cases c5:((qs[i]).Tail==[])
    ·have c5':¬(qs[i]).Tail=[]:=by simpa using c5
     have c5e:(qs[i]).Tail.isEmpty=false:=by simpa using c5'
     simp[hk,hk1,hk2,hk3,hk4,s7,en',Kd,c3,c4',c5]
    ·have c5':(qs[i]).Tail=[]:=by simpa using c5
     simp[hk,hk1,hk2,hk3,hk4,s7,en',Kd,c3,c4',c5']
   ·simp[hk3,hk4,s7,en',Kd,c3];refine Je (J05 (qs[i]'hi).Head) (by simp) ?_;rintro r rfl;cases c4:Wb (qs[i]).Head
    ·simp[hk,hk1,hk2,hk3,hk4,s7,en',Kd,c3]
    simp[hk3,hk4,s7,en',Kd,c3];refine Je (Dv (qs[i]'hi).Tail) (by simp) ?_;rintro r rfl;cases c5:Xp (qs[i]).Tail
    ·simp[hk,hk1,hk2,hk3,hk4,s7,en',Kd,c3]
    ·simp[hk,hk1,hk2,hk3,hk4,s7,en',Kd,c3]
  intro Yz hk5 s71;simp at hk5;generalize(if (qs[i]).Cons then Wb (qs[i]).Head&&Xp (qs[i]).Tail else(qs[i]).Head==[]&&(qs[i]).Tail==[])=D at *;cases D
  ·rw[Bool.false_and]at hJ;subst hJ;simp[s71];refine hret _ _ _ ?_;simp
  ·rw[Bool.true_and]at hJ;simp[hk1,hk2,hk3,hk4,hk5,s71,s6,hw];exact hR _ _ _ (by simp[hk,hk1,hk2,hk3,hk4,hk5]) (by simp) ⟨by omega,by simp[e0''],hJ,n+2,by omega,by omega,by simp[hk5,s5'],by simp[eid'']⟩
 ·rintro st h n R hk s6 ⟨hn,e0,hJ,_⟩ hret hX;simp at hk;rw[drop_eq_nil_of_le (by omega)]at hJ;refine Jn (Jq [1,2,6] (λs=>s 12 = .bool false) (by simp[hk,s6]) ?_);intro Jv hk1 s12;simp at hk1;refine U1 s12 ?_;simp;refine hX _ _ _ _ ?_;simp[<-hJ,Oa]
theorem K96{list:List Xg}{i:Nat}(hi:i<list.length)(hw:Wq list<=1048576):Uh ⟨false,[list[i]],[]⟩<=1048576:=by
 have h1:=Wn (w:=W1) (getElem_mem hi);unfold Wq at hw
 have h2:1+W1 list[i]<=wL W1 list:=by have h3:=J8r W1 list (getElem_mem hi);unfold wL;omega
 unfold Uh Wq wL;simp;omega
theorem Jgi(s:Xg)(scope:List J9):Wu ⟨false,[s],[]⟩ false scope=Qo scope s:=by unfold Wu Qo;rw[J92,J3j,J9t];simp
theorem J88(list:List Xg)(scope:List J9)(hw:Wq list<=1048576):Holds prog 220 [.sl 2 (list.map Ks),.sl 1 (Jf scope)] (λr=>r = .bool (list.all (Qo scope)&&decide (list.length<=2))):=by
 refine Vm func220 rfl rfl λhl=>?_
 simp at hl;refine Jp func220 Jnv rfl (by simp[K8a]) ?_;simp[K8a];generalize hB:list.all (Qo scope)=B;refine O7 [0,1] 5 list.length (λi _=>(list.drop i).all (Qo scope)=B) hl.1 (by simp) (by simpa using hB) ?_ ?_
 ·rintro i st h R hi hg hk s5 hw5 hJ hh hR hret _;simp at hk;rw[drop_eq_getElem_cons hi,all_cons]at hJ;simp[hk,s5,hi];intro _;refine Je (J15 (list[i]'hi)) (by simp) ?_;rintro r rfl;cases hc:I8 list[i]
  ·have:Qo scope list[i]=false:=by unfold Qo;rw[hc];rfl
   rw[this,Bool.false_and]at hJ;subst hJ;simp;refine hret _ _ _ ?_;simp
  simp[hk,s5,hw5,U0,Vz];refine⟨by omega,by omega,?_⟩
  have ht:(List.take (i+1) (list.map Ks)).drop i=[Ks list[i]]:=by rw[List.take_succ_eq_append_getElem (by simpa using hi)];rw[List.drop_left' (by simp;omega)];simp
  have he:((i:Int)+1).toNat=i+1:=by omega
  have hb:U5 [.agg [.bool false,.sl 2 [Ks list[i]],.str []],.bool false,.sl 1 (Jf scope)] h=some [.agg (Kn ⟨false,[list[i]],[]⟩),.bool false,.sl 1 (Jf scope)]:=by simp[Kn]
  simp only[ht];refine Je (T9 ⟨false,[list[i]'hi],[]⟩ false scope (K96 hi hw)) (by simp[Kn]) ?_;rintro r rfl;rw[Jgi];cases hc2:Qo scope list[i]
  ·rw[hc2,Bool.false_and]at hJ;subst hJ;simp;refine hret _ _ _ ?_;simp
  ·rw[hc2,Bool.true_and]at hJ;simp[s5,hw5];exact hR _ (by simp[hk]) (by simp) hJ
 ·rintro st h R hk s5 hJ hh _ hX;simp at hk;rw[drop_eq_nil_of_le (by omega)]at hJ;simp[hk,s5];intro _;refine hX _ _ ?_;simp at hJ;subst hJ;simp[hk];omega
def K7y:Jl:= ⟨78,[.t 6],(Zq [ZB 3 0,ZB 4 1,Zt 6 false] (Zq [Zl 12 true 2 3,Zf 13 1 4,Zl 14 false 1 13,Zc 15 176 [.t 12,.t 14],Zv 11 15,Ze 16 11 0,Ze 17 11 1,ZU 7,Zs 4 7 16,Zv 8 17] (.seq (Zq [Zv 18 8,ZN 19 18,Zv 20 19,Zg 21 20 false (.fld 2 (.t 4)),Zg 22 20 false (.ld false 1 (.t 21)),Zg 23 20 false (.len false (.t 22)),Zg 24 20 false (.fld 1 (.t 7)),Zg 25 20 false (.ld false 1 (.t 24)),Zg 26 20 false (.len false (.t 25)),Zg 27 20 false (.bin .neq (.t 23) (.t 26)),ZP 28 20 27] (.cond (.t 28) (Zq [Zt 6 false] .ret) .skip)) (.seq (Zq [Zf 29 2 7,Zl 30 false 1 29,Zv 31 30,Zg 32 31 true (.fld 0 (.t 4)),Zg 33 31 true (.ld false 1 (.t 32)),Zg 34 31 true (.call (.k (.fn (.func 205) [] [])) [.t 33]),Zg 35 31 true (.un .not (.t 34)),ZQ 36 31 35,Zv 37 36,Zg 38 37 false (.fld 2 (.t 7)),Zg 39 37 false (.ld false 1 (.t 38)),Zg 40 37 false (.un .not (.t 39)),Zg 41 37 false (.mv (.t 40)),Zg 42 41 true (.fld 0 (.t 4)),Zg 43 41 true (.ld false 1 (.t 42)),Zg 44 41 true (.call (.k (.fn (.func 140) [] [])) [.t 43]),Zg 45 41 true (.un .not (.t 44)),Zg 46 37 false (.pick (.t 41) (.t 45) (.k (.bool false))),ZP 47 37 46] (.cond (.t 47) (Zq [Zt 6 false] .ret) .skip)) (.seq (Zq [Zf 48 2 4,Zl 49 false 1 48,Zn 50 49,Zi 51 0] (.blk 0 (.loop (Zq [Zb 52 .lss 51 50] (.seq (Zw 52 0) (.seq (.blk 1 (Zq [Zv 53 51,Zx 54 3 49 51,Zl 55 true 3 54,Zo 10 (.box [(.bool false),(.nil 2),(.str [])]),Zv 9 53,Zs 3 10 55] (.seq (.draw (.op (Zl 56 true 3 10) (.op (Zc 57 242 [.t 56]) (.op (ZN 58 57) (.op (Zv 59 58) (.op (Zg 60 59 false (.fld 0 (.t 10))) (.op (Zg 61 59 false (.ld false 1 (.t 60))) (.op (Zg 62 59 false (.fld 1 (.t 7))) (.op (Zg 63 59 false (.ld false 1 (.t 62))) (.op (Zg 64 59 false (.mv (.t 9))) (.op (Zg 65 59 false (.ixa 1 (.t 63) (.t 64))) (.op (Zg 66 59 false (.ld false 1 (.t 65))) (.op (Zg 67 59 false (.call (.k (.fn (.func 205) [] [])) [.t 66])) (.op (Zg 68 59 false (.beq true (.t 61) (.t 67))) (.op (ZP 69 59 68) (.op (Zv 70 69) (.op (Zg 71 70 false (.ld true 3 (.t 10))) (.op (Zg 73 70 false (.mv (.t 2))) (.op (Zg 72 70 false (.call (.k (.fn (.func 243) [] [])) [.t 71])) (.op (Zg 74 70 false (.call (.k (.fn (.func 238) [] [])) [.t 72,.t 73])) (.op (Zg 75 70 false (.un .not (.t 74))) (.op (ZP 76 70 75) .fin)))))))))))))))))))))) (.cond (.t 76) (Zq [Zt 6 false] .ret) .skip)))) (.reg [Zk 77 .add 51 1,Zv 51 77]))))))) (Zq [Zt 6 true] .ret))))))⟩
theorem Js0:Jh prog f241=some K7y:=by kernel_rfl
theorem Pr{scope:List J9}{l:List Xe}{m:List J9}{i:Nat}(h1:i<l.length)(h2:i<m.length):Gn scope (l.drop i) (m.drop i)=(Wu l[i] (Xp m[i]) scope&&Gn scope (l.drop (i+1)) (m.drop (i+1))):=by rw[drop_eq_getElem_cons h1,drop_eq_getElem_cons h2];rfl
theorem T8(scope:List J9)(m:List J9):Gn scope [] m=true:=by cases m <;>rfl
theorem To{c:Xq}{i:Nat}(hi:i<c.Args.length)(hw:Wh c<=1048576):Uh c.Args[i]<=1048576:=by have:=Wn (w:=Uh) (getElem_mem hi);unfold Wh Bv at hw;omega
set_option maxHeartbeats 1000000 in
theorem Jhj(p:Jo)(c:Xq)(scope:List J9)(hp:X2 p<=1048576)(hc:Wh c<=1048576):Holds prog 241 [.agg (Jg p),.agg (X8 c),.sl 1 (Jf scope)] (λr=>r = .bool (Ik p c scope)):=by
 have hal:c.Args.length<=1048576:=by have:=Yn Uh c.Args;unfold Wh Bv at hc;omega
 refine Jp func241 Js0 rfl (by simp[K7y]) ?_;simp[K7y,Jg,X8];refine Je (Cm p c.Func hp) (by simp[Jg]) ?_;rintro r rfl;unfold Ik;generalize hG:(Xc p.Functions c.Func).getD Yt=G;simp only[Qz,hG];generalize hb1:(Xc p.Functions c.Func).isSome=b1;simp[Xr];cases b1
 ·simp
 simp;intro _ _;have hd:decide (c.Args.length=G.Params.length)=decide ((c.Args.length:Int)=G.Params.length):=by rw[decide_eq_decide];omega
 by_cases h1:(c.Args.length:Int)=G.Params.length
 case neg=>
  have h1n:¬c.Args.length=G.Params.length:=by omega
  simp[h1,h1n]
 have h1n:c.Args.length=G.Params.length:=by omega
 simp[h1n];generalize hB:Gn scope c.Args G.Params=B;cases hL:G.ListResult
 ·simp;refine Je (Pm c.Bind) (by simp) ?_;rintro r rfl;cases hn:Wb c.Bind
  ·simp
  simp;intro _;refine Ka [2,7,49,50] 51 c.Args.length (λi s h n=>4<n/\h 4=some ⟨true,4,[[.str G.Name,.ref 2 0 G.Params.length,.bool false,.ref 3 0 G.Pre.length]]⟩/\h 2=some ⟨false,1,Jf G.Params⟩/\Gn scope (c.Args.drop i) (G.Params.drop i)=B) (by unfold Jd;omega) (by simp) ⟨by simp,by simp,by simp,by simpa using hB⟩ ?_ ?_
  ·rintro i st h n R hi hg hk s51 hw ⟨hn,e4,e2,hJ⟩ hR hret _;simp at hk;have hip:i<G.Params.length:=by omega
   rw[Pr hi hip]at hJ;have z2:¬2=n:=by omega
   have z4:¬4=n:=by omega
   have y2:¬2=n+1:=by omega
   have y4:¬4=n+1:=by omega
   refine Jq [2,7,49,50,51] (λs=>s 52 = .bool true) (by simp[hk,s51,hi]) ?_;intro Jv hk1 s52;simp at hk1;refine W3 s52 (Jn (Xd ?_));refine Xu [2,7,49,50,51] (λs h' n'=>s 9 = .int .i64 i/\s 10 = .ptr n 0 0/\n'=n+1/\h' n=some ⟨true,3,[Kn c.Args[i]]⟩/\h' 4=some ⟨true,4,[[.str G.Name,.ref 2 0 G.Params.length,.bool false,.ref 3 0 G.Pre.length]]⟩/\h' 2=some ⟨false,1,Jf G.Params⟩) (by simp[hk,hk1,s51,hi,Kn,e4,e2,z2,z4]) ?_;rintro st2 h2 n2 hk2 ⟨s9,s10,rfl,en,e4',e2'⟩;simp at hk2;refine Xu [2,7,49,50,51] (λs h' n'=>n<n'/\s 76 = .bool (!Wu c.Args[i] (Xp G.Params[i]) scope)/\h' 4=some ⟨true,4,[[.str G.Name,.ref 2 0 G.Params.length,.bool false,.ref 3 0 G.Pre.length]]⟩/\h' 2=some ⟨false,1,Jf G.Params⟩) ?_ ?_
   ·simp[s10,en];refine Jx (J0g (c.Args[i]'hi)) (by simp) ?_;rintro r rfl;unfold Wu;cases g1:Oo c.Args[i]
    ·simp[e4',e2']
    simp[hk,hk1,hk2,s9,s10,en,e4',e2',hip,Kn];refine Jx (En (G.Params[i]'hip)) (by simp) ?_;rintro r rfl;cases g2:((c.Args[i]).Lst==Xp G.Params[i])
    ·have g2':¬(c.Args[i]).Lst=Xp G.Params[i]:=by simpa using g2
     simp[g2',e4',e2']
    have g2':(c.Args[i]).Lst=Xp G.Params[i]:=by simpa using g2
    simp[g2',hk,hk1,hk2,s10,en,e4',e2',Kn];refine Jx (J34 (c.Args[i]'hi) (To hi hc)) (by simp[Kn,g2']) ?_;rintro r rfl;simp;refine Jx (Px (Im (Qk (c.Args[i]'hi))) scope) (by simp) ?_;rintro r rfl;simp[e4',e2',y2,y4]
   rintro Kq h3 n3 hk3 ⟨hn3,s76,e4'',e2''⟩;simp at hk3;generalize Wu c.Args[i] (Xp G.Params[i]) scope=D at *;cases D
   ·rw[Bool.false_and]at hJ;subst hJ;simp[s76];refine hret _ _ _ ?_;simp
   ·rw[Bool.true_and]at hJ;simp[hk1,hk2,hk3,s76,s51,hw];exact hR _ _ _ (by simp[hk,hk1,hk2,hk3]) (by simp) ⟨by omega,by simp[e4''],by simp[e2''],hJ⟩
  ·rintro st h n R hk s51 ⟨hn,e4,e2,hJ⟩ hret hX;simp at hk;rw[drop_eq_nil_of_le (by omega),T8]at hJ;refine Jq [2] (λs=>s 52 = .bool false) (by simp[hk,s51]) ?_;intro Jv hk1 s52;refine Uv s52 ?_;simp;refine hX _ _ _ _ ?_;simp[<-hJ]
 ·simp;refine Je (En c.Bind) (by simp) ?_;rintro r rfl;cases hn:Xp c.Bind
  ·simp
  simp;intro _;refine Ka [2,7,49,50] 51 c.Args.length (λi s h n=>4<n/\h 4=some ⟨true,4,[[.str G.Name,.ref 2 0 G.Params.length,.bool true,.ref 3 0 G.Pre.length]]⟩/\h 2=some ⟨false,1,Jf G.Params⟩/\Gn scope (c.Args.drop i) (G.Params.drop i)=B) (by unfold Jd;omega) (by simp) ⟨by simp,by simp,by simp,by simpa using hB⟩ ?_ ?_
  ·rintro i st h n R hi hg hk s51 hw ⟨hn,e4,e2,hJ⟩ hR hret _;simp at hk;have hip:i<G.Params.length:=by omega
   rw[Pr hi hip]at hJ;have z2:¬2=n:=by omega
   have z4:¬4=n:=by omega
   have y2:¬2=n+1:=by omega
   have y4:¬4=n+1:=by omega
   refine Jq [2,7,49,50,51] (λs=>s 52 = .bool true) (by simp[hk,s51,hi]) ?_;intro Jv hk1 s52;simp at hk1;refine W3 s52 (Jn (Xd ?_));refine Xu [2,7,49,50,51] (λs h' n'=>s 9 = .int .i64 i/\s 10 = .ptr n 0 0/\n'=n+1/\h' n=some ⟨true,3,[Kn c.Args[i]]⟩/\h' 4=some ⟨true,4,[[.str G.Name,.ref 2 0 G.Params.length,.bool true,.ref 3 0 G.Pre.length]]⟩/\h' 2=some ⟨false,1,Jf G.Params⟩) (by simp[hk,hk1,s51,hi,Kn,e4,e2,z2,z4]) ?_;rintro st2 h2 n2 hk2 ⟨s9,s10,rfl,en,e4',e2'⟩;simp at hk2;refine Xu [2,7,49,50,51] (λs h' n'=>n<n'/\s 76 = .bool (!Wu c.Args[i] (Xp G.Params[i]) scope)/\h' 4=some ⟨true,4,[[.str G.Name,.ref 2 0 G.Params.length,.bool true,.ref 3 0 G.Pre.length]]⟩/\h' 2=some ⟨false,1,Jf G.Params⟩) ?_ ?_
   ·simp[s10,en];refine Jx (J0g (c.Args[i]'hi)) (by simp) ?_;rintro r rfl;unfold Wu;cases g1:Oo c.Args[i]
    ·simp[e4',e2']
    simp[hk,hk1,hk2,s9,s10,en,e4',e2',hip,Kn];refine Jx (En (G.Params[i]'hip)) (by simp) ?_;rintro r rfl;cases g2:((c.Args[i]).Lst==Xp G.Params[i])
    ·have g2':¬(c.Args[i]).Lst=Xp G.Params[i]:=by simpa using g2
     simp[g2',e4',e2']
    have g2':(c.Args[i]).Lst=Xp G.Params[i]:=by simpa using g2
    simp[g2',hk,hk1,hk2,s10,en,e4',e2',Kn];refine Jx (J34 (c.Args[i]'hi) (To hi hc)) (by simp[Kn,g2']) ?_;rintro r rfl;simp;refine Jx (Px (Im (Qk (c.Args[i]'hi))) scope) (by simp) ?_;rintro r rfl;simp[e4',e2',y2,y4]
   rintro Kq h3 n3 hk3 ⟨hn3,s76,e4'',e2''⟩;simp at hk3;generalize Wu c.Args[i] (Xp G.Params[i]) scope=D at *;cases D
   ·rw[Bool.false_and]at hJ;subst hJ;simp[s76];refine hret _ _ _ ?_;simp
   ·rw[Bool.true_and]at hJ;simp[hk1,hk2,hk3,s76,s51,hw];exact hR _ _ _ (by simp[hk,hk1,hk2,hk3]) (by simp) ⟨by omega,by simp[e4''],by simp[e2''],hJ⟩
  ·rintro st h n R hk s51 ⟨hn,e4,e2,hJ⟩ hret hX;simp at hk;rw[drop_eq_nil_of_le (by omega),T8]at hJ;refine Jq [2] (λs=>s 52 = .bool false) (by simp[hk,s51]) ?_;intro Jv hk1 s52;refine Uv s52 ?_;simp;refine hX _ _ _ _ ?_;simp[<-hJ]
def a222:Jl:= ⟨70,[.t 6],(Zq [ZB 3 0,ZB 4 1,Zt 6 false] (Zq [Zl 11 true 2 3,Zf 12 1 4,Zl 13 false 1 12,Zc 14 172 [.t 11,.t 13],Zv 10 14,Ze 15 10 0,Ze 16 10 1,ZU 7,Zs 4 7 15,Zv 8 16] (.seq (Zq [Zv 17 8,ZN 18 17,Zv 19 18,Zg 20 19 false (.fld 2 (.t 4)),Zg 21 19 false (.ld false 1 (.t 20)),Zg 22 19 false (.len false (.t 21)),Zg 23 19 false (.fld 1 (.t 7)),Zg 24 19 false (.ld false 1 (.t 23)),Zg 25 19 false (.len false (.t 24)),Zg 26 19 false (.bin .neq (.t 22) (.t 25)),ZP 27 19 26,Zv 28 27,Zg 29 28 false (.fld 2 (.t 7)),Zg 30 28 false (.ld false 1 (.t 29)),Zg 31 28 false (.mv (.t 30)),Zg 32 31 true (.fld 0 (.t 4)),Zg 33 31 true (.ld false 1 (.t 32)),Zg 34 31 true (.call (.k (.fn (.func 260) [] [])) [.t 33]),Zg 35 31 true (.un .not (.t 34)),Zg 36 28 false (.pick (.t 31) (.t 35) (.k (.bool false))),ZP 37 28 36,Zv 38 37,Zg 39 38 false (.fld 2 (.t 7)),Zg 40 38 false (.ld false 1 (.t 39)),Zg 41 38 false (.un .not (.t 40)),Zg 42 38 false (.mv (.t 41)),Zg 43 42 true (.fld 0 (.t 4)),Zg 44 42 true (.ld false 1 (.t 43)),Zg 45 42 true (.call (.k (.fn (.func 216) [] [])) [.t 44]),Zg 46 42 true (.un .not (.t 45)),Zg 47 38 false (.pick (.t 42) (.t 46) (.k (.bool false))),ZP 48 38 47] (.cond (.t 48) (Zq [Zt 6 false] .ret) .skip)) (.seq (Zq [Zi 9 0] (.blk 0 (.loop (.seq (Zq [Zv 49 9,Zf 50 2 4,Zl 51 false 1 50,Zn 52 51,Zb 53 .lss 49 52] (Zw 53 0)) (.seq (.blk 1 (.seq (.draw (.op (Zf 56 2 4) (.op (Zl 57 false 1 56) (.op (Zv 58 9) (.op (Zx 59 3 57 58) (.op (Zl 60 true 3 59) (.op (Zf 61 1 7) (.op (Zl 62 false 1 61) (.op (Zv 63 9) (.op (Zx 64 1 62 63) (.op (Zl 65 false 1 64) (.op (Zv 67 2) (.op (Zc 66 260 [.t 65]) (.op (Zc 68 223 [.t 60,.t 66,.t 67]) (.op (ZN 69 68) .fin))))))))))))))) (.cond (.t 69) (Zq [Zt 6 false] .ret) .skip))) (.reg [Zv 54 9,Zk 55 .add 54 1,Zv 9 55])))))) (Zq [Zt 6 true] .ret)))))⟩
theorem Jpc:Jh prog f222=some a222:=by kernel_rfl
set_option maxHeartbeats 1000000 in
theorem Jc3(p:Jo)(c:Xq)(scope:List J9)(hp:X2 p<=1048576)(hc:Wh c<=1048576):Holds prog 222 [.agg (Jg p),.agg (X8 c),.sl 1 (Jf scope)] (λr=>r = .bool (Ik p c scope)):=by
 have hal:c.Args.length<=1048576:=by have:=Yn Uh c.Args;unfold Wh Bv at hc;omega
 refine Jp func222 Jpc rfl (by simp[a222]) ?_;simp[a222,Jg,X8];refine Je (C7 p c.Func hp) (by simp[Jg]) ?_;rintro r rfl;unfold Ik;generalize hG:(Xc p.Functions c.Func).getD Yt=G;simp only[Qz,hG];generalize hb1:(Xc p.Functions c.Func).isSome=b1;simp[Xr];cases b1
 ·simp
 simp;intro _ _;have hd:decide (c.Args.length=G.Params.length)=decide ((c.Args.length:Int)=G.Params.length):=by rw[decide_eq_decide];omega
 by_cases h1:(c.Args.length:Int)=G.Params.length
 case neg=>
  have h1n:¬c.Args.length=G.Params.length:=by omega
  simp[h1,h1n]
 have h1n:c.Args.length=G.Params.length:=by omega
 simp[h1n];generalize hB:Gn scope c.Args G.Params=B;cases hL:G.ListResult
 ·simp;refine Je (J05 c.Bind) (by simp) ?_;rintro r rfl;cases hn:Wb c.Bind
  ·simp
  simp;refine Ka [2,4,7] 9 c.Args.length (λi s h n=>4<n/\h 1=some ⟨true,3,[[.str c.Bind,.str c.Func,.sl 3 (c.Args.map Kn)]]⟩/\h 4=some ⟨true,4,[[.str G.Name,.ref 2 0 G.Params.length,.bool false,.ref 3 0 G.Pre.length]]⟩/\h 2=some ⟨false,1,Jf G.Params⟩/\Gn scope (c.Args.drop i) (G.Params.drop i)=B) (by unfold Jd;omega) (by simp) ⟨by simp,by simp,by simp,by simp,by simpa using hB⟩ ?_ ?_
  ·rintro i st h n R hi hg hk s9 hw ⟨hn,e1,e4,e2,hJ⟩ hR hret _;simp at hk;have hip:i<G.Params.length:=by omega
   rw[Pr hi hip]at hJ;refine Jn (Jq [2,4,7,9] (λs=>s 53 = .bool true) (by simp[hk,s9,hip,e1,h1n]) ?_);intro Jv hk1 s53;simp at hk1;refine U2 s53 (Jn (Xd ?_));refine Xu [2,4,7,9] (λs h' n'=>4<n'/\s 69 = .bool (!Wu c.Args[i] (Xp G.Params[i]) scope)/\h' 1=some ⟨true,3,[[.str c.Bind,.str c.Func,.sl 3 (c.Args.map Kn)]]⟩/\h' 4=some ⟨true,4,[[.str G.Name,.ref 2 0 G.Params.length,.bool false,.ref 3 0 G.Pre.length]]⟩/\h' 2=some ⟨false,1,Jf G.Params⟩) ?_ ?_
   ·simp[hk,hk1,s9,e1,e4,e2,hi,hip];refine Jx (Dv (G.Params[i]'hip)) (by simp) ?_;rintro r rfl;simp[Kn];refine Jx (T9 (c.Args[i]'hi) (Xp (G.Params[i]'hip)) scope (To hi hc)) (by simp[Kn]) ?_;rintro r rfl;simp[e1,e4,e2,hn]
   rintro Kq h3 n3 hk3 ⟨hn3,s69,e1'',e4'',e2''⟩;simp at hk3;generalize Wu c.Args[i] (Xp G.Params[i]) scope=D at *;cases D
   ·rw[Bool.false_and]at hJ;subst hJ;simp[s69];refine hret _ _ _ ?_;simp
   ·rw[Bool.true_and]at hJ;simp[hk1,hk3,s69,s9,hw];exact hR _ _ _ (by simp[hk,hk1,hk3]) (by simp) ⟨by omega,by simp[e1''],by simp[e4''],by simp[e2''],hJ⟩
  ·rintro st h n R hk s9 ⟨hn,e1,e4,e2,hJ⟩ hret hX;simp at hk;rw[drop_eq_nil_of_le (by omega),T8]at hJ;refine Jn (Jq [2] (λs=>s 53 = .bool false) (by simp[hk,s9,e1,h1n]) ?_);intro Jv hk1 s53;refine U1 s53 ?_;simp;refine hX _ _ _ _ ?_;simp[<-hJ]
 ·simp;refine Je (Dv c.Bind) (by simp) ?_;rintro r rfl;cases hn:Xp c.Bind
  ·simp
  simp;refine Ka [2,4,7] 9 c.Args.length (λi s h n=>4<n/\h 1=some ⟨true,3,[[.str c.Bind,.str c.Func,.sl 3 (c.Args.map Kn)]]⟩/\h 4=some ⟨true,4,[[.str G.Name,.ref 2 0 G.Params.length,.bool true,.ref 3 0 G.Pre.length]]⟩/\h 2=some ⟨false,1,Jf G.Params⟩/\Gn scope (c.Args.drop i) (G.Params.drop i)=B) (by unfold Jd;omega) (by simp) ⟨by simp,by simp,by simp,by simp,by simpa using hB⟩ ?_ ?_
  ·rintro i st h n R hi hg hk s9 hw ⟨hn,e1,e4,e2,hJ⟩ hR hret _;simp at hk;have hip:i<G.Params.length:=by omega
   rw[Pr hi hip]at hJ;refine Jn (Jq [2,4,7,9] (λs=>s 53 = .bool true) (by simp[hk,s9,hip,e1,h1n]) ?_);intro Jv hk1 s53;simp at hk1;refine U2 s53 (Jn (Xd ?_));refine Xu [2,4,7,9] (λs h' n'=>4<n'/\s 69 = .bool (!Wu c.Args[i] (Xp G.Params[i]) scope)/\h' 1=some ⟨true,3,[[.str c.Bind,.str c.Func,.sl 3 (c.Args.map Kn)]]⟩/\h' 4=some ⟨true,4,[[.str G.Name,.ref 2 0 G.Params.length,.bool true,.ref 3 0 G.Pre.length]]⟩/\h' 2=some ⟨false,1,Jf G.Params⟩) ?_ ?_
   ·simp[hk,hk1,s9,e1,e4,e2,hi,hip];refine Jx (Dv (G.Params[i]'hip)) (by simp) ?_;rintro r rfl;simp[Kn];refine Jx (T9 (c.Args[i]'hi) (Xp (G.Params[i]'hip)) scope (To hi hc)) (by simp[Kn]) ?_;rintro r rfl;simp[e1,e4,e2,hn]
   rintro Kq h3 n3 hk3 ⟨hn3,s69,e1'',e4'',e2''⟩;simp at hk3;generalize Wu c.Args[i] (Xp G.Params[i]) scope=D at *;cases D
   ·rw[Bool.false_and]at hJ;subst hJ;simp[s69];refine hret _ _ _ ?_;simp
   ·rw[Bool.true_and]at hJ;simp[hk1,hk3,s69,s9,hw];exact hR _ _ _ (by simp[hk,hk1,hk3]) (by simp) ⟨by omega,by simp[e1''],by simp[e4''],by simp[e2''],hJ⟩
  ·rintro st h n R hk s9 ⟨hn,e1,e4,e2,hJ⟩ hret hX;simp at hk;rw[drop_eq_nil_of_le (by omega),T8]at hJ;refine Jn (Jq [2] (λs=>s 53 = .bool false) (by simp[hk,s9,e1,h1n]) ?_);intro Jv hk1 s53;refine U1 s53 ?_;simp;refine hX _ _ _ _ ?_;simp[<-hJ]
def K5p:Jl:= ⟨105,[.t 4],(Zq [ZB 2 0,ZB 3 1,Zt 4 false] (Zq [Zl 13 true 2 2,Zf 14 0 3,Zl 15 false 1 14,Zc 16 176 [.t 13,.t 15],Zv 12 16,Ze 17 12 0,Ze 18 12 1,ZU 5,Zs 4 5 17,Zv 6 18] (.seq (Zq [Zv 19 6,ZN 20 19,Zv 21 20,Zg 22 21 false (.ld true 4 (.t 5)),Zg 23 21 false (.fld 1 (.t 3)),Zg 24 21 false (.ld false 1 (.t 23)),Zg 25 21 false (.call (.k (.fn (.func 236) [] [])) [.t 22,.t 24]),Zg 26 21 false (.un .not (.t 25)),ZP 27 21 26,Zv 28 27,Zg 29 28 false (.fld 2 (.t 3)),Zg 30 28 false (.ld false 1 (.t 29)),Zg 31 28 false (.len false (.t 30)),Zg 32 28 false (.bin .gtr (.t 31) (.k (.int .i64 2))),ZP 33 28 32,Zv 34 33,Zg 35 34 false (.fld 3 (.t 3)),Zg 36 34 false (.ld false 1 (.t 35)),Zg 37 34 false (.len false (.t 36)),Zg 38 34 false (.bin .gtr (.t 37) (.k (.int .i64 2))),ZP 39 34 38] (.cond (.t 39) (Zq [Zt 4 false] .ret) .skip)) (.seq (Zq [Zf 40 2 3,Zl 41 false 1 40,Zn 42 41,Zi 43 0] (.blk 0 (.loop (Zq [Zb 44 .lss 43 42] (.seq (Zw 44 0) (.seq (.blk 1 (Zq [Zx 45 2 41 43,Zl 46 true 2 45,Zo 8 (.box [(.int .i64 0),(.nil 2)]),Zs 2 8 46] (.seq (.draw (.op (Zl 47 true 2 8) (.op (Zc 48 237 [.t 47]) (.op (ZN 49 48) (.op (Zv 50 49) (.op (Zg 51 50 false (.ld true 2 (.t 8))) (.op (Zg 53 50 false (.ld true 2 (.t 2))) (.op (Zg 54 50 false (.ld true 7 (.t 3))) (.op (Zg 52 50 false (.call (.k (.fn (.func 239) [] [])) [.t 51])) (.op (Zg 55 50 false (.call (.k (.fn (.func 240) [] [])) [.t 53,.t 54,(.k (.int .i64 0))])) (.op (Zg 56 50 false (.call (.k (.fn (.func 238) [] [])) [.t 52,.t 55])) (.op (Zg 57 50 false (.un .not (.t 56))) (.op (ZP 58 50 57) .fin))))))))))))) (.cond (.t 58) (Zq [Zt 4 false] .ret) .skip)))) (.reg [Zk 59 .add 43 1,Zv 43 59]))))))) (.seq (Zq [Zf 60 3 3,Zl 61 false 1 60,Zn 62 61,Zi 63 0] (.blk 2 (.loop (Zq [Zb 64 .lss 63 62] (.seq (Zw 64 2) (.seq (.blk 3 (Zq [Zv 65 63,Zx 66 3 61 63,Zl 67 true 3 66,Zo 10 (.box [(.str []),(.str []),(.nil 3)]),Zv 9 65,Zs 3 10 67] (.seq (.draw (.op (Zl 68 true 2 2) (.op (Zl 69 true 3 10) (.op (Zl 70 true 2 2) (.op (Zl 71 true 7 3) (.op (Zv 72 9) (.op (Zc 73 240 [.t 70,.t 71,.t 72]) (.op (Zc 74 241 [.t 68,.t 69,.t 73]) (.op (ZN 75 74) .fin))))))))) (.cond (.t 75) (Zq [Zt 4 false] .ret) .skip)))) (.reg [Zk 76 .add 63 1,Zv 63 76]))))))) (Zq [Zl 77 true 2 2,Zl 78 true 7 3,Zf 79 3 3,Zl 80 false 1 79,Zn 81 80,Zc 82 240 [.t 77,.t 78,.t 81],Zv 11 82] (Zq [Zf 83 4 3,Zl 84 true 3 83,Zc 85 242 [.t 84],Zv 86 85,Zg 87 86 true (.fld 4 (.t 3)),Zg 88 86 true (.fld 0 (.t 87)),Zg 89 86 true (.ld false 1 (.t 88)),Zg 90 86 true (.fld 2 (.t 5)),Zg 91 86 true (.ld false 1 (.t 90)),Zg 92 86 true (.beq false (.t 89) (.t 91)),ZQ 93 86 92,Zv 94 93,Zg 95 94 true (.fld 4 (.t 3)),Zg 96 94 true (.ld true 3 (.t 95)),Zg 97 94 true (.call (.k (.fn (.func 243) [] [])) [.t 96]),Zg 98 94 true (.mv (.t 11)),Zg 99 94 true (.call (.k (.fn (.func 238) [] [])) [.t 97,.t 98]),ZQ 100 94 99,Zv 101 100,Zg 102 101 true (.mv (.t 11)),Zg 103 101 true (.call (.k (.fn (.func 141) [] [])) [.t 102]),ZQ 104 101 103,Zv 4 104] .ret)))))))⟩
theorem Jp0:Jh prog f149=some K5p:=by kernel_rfl
theorem J0v{r:K0}(hr:Ub r<=1048576):(∀g∈r.Guards,g.Terms.length<=1048576)/\(∀c∈r.Calls,Wh c<=1048576)/\Uh r.Result<=1048576/\r.Guards.length<=1048576/\r.Calls.length<=1048576/\r.Patterns.length<=1048576/\Wq r.Guards<=1048576:=by
 have h1:=Yn W1 r.Guards;have h2:=Yn Wh r.Calls;have h3:=Yn Qw r.Patterns;unfold Ub O9 Wq Gv at hr;refine⟨λg hg=>?_,λc hc=>?_,by omega,by omega,by omega,by omega,by unfold Wq;omega⟩
 ·have h4:=Wn (w:=W1) hg;have h5:=Yn Vi g.Terms;rw[show W1 g=wL Vi g.Terms from rfl]at h4;omega
 ·have h4:=Wn (w:=Wh) hc;omega
theorem J0m{p:Jo}{r:K0}{i:Nat}(hi:i<r.Calls.length):Qe p r i (r.Calls.drop i)=(Ik p r.Calls[i] (Ui p r i)&&Qe p r (i+1) (r.Calls.drop (i+1))):=by rw[drop_eq_getElem_cons hi];rfl
theorem J61(p:Jo)(r:K0)(hp:X2 p<=1048576)(hr:Ub r<=1048576):Holds prog 149 [.agg (Jg p),.agg (Ju r)] (λx=>x = .bool (G8 p r)):=by
 obtain⟨wg,wc,wa,lg,lc,lp,_⟩:=J0v hr;refine Jp func149 Jp0 rfl (by simp[K5p]) ?_;simp[K5p,Jg,Ju];refine Je (Cm p r.Func hp) (by simp[Jg]) ?_;rintro r rfl;unfold G8;generalize hG:(Xc p.Functions r.Func).getD Yt=G;simp only[Qz,hG];generalize hb1:(Xc p.Functions r.Func).isSome=b1;simp[Xr];cases b1
 ·simp
 simp;refine Je (J82 G r.Patterns) (by simp[K5]) ?_;rintro r rfl;cases h1:Oa G.Params [] r.Patterns
 ·simp
 simp;intro _;have hdg:decide (r.Guards.length<=2)=decide ((r.Guards.length:Int)<=2):=by rw[decide_eq_decide];omega
 have hdc:decide (r.Calls.length<=2)=decide ((r.Calls.length:Int)<=2):=by rw[decide_eq_decide];omega
 by_cases h2:(r.Guards.length:Int)<=2
 case neg=>
  have h2n:¬r.Guards.length<=2:=by omega
  simp[h2,h2n,Int.not_le.1 h2]
 have h2n:r.Guards.length<=2:=by omega
 simp[h2,h2n,Int.not_lt.2 h2];intro _;by_cases h3:(r.Calls.length:Int)<=2
 case neg=>
  have h3n:¬r.Calls.length<=2:=by omega
  simp[h3,h3n,Int.not_le.1 h3]
 have h3n:r.Calls.length<=2:=by omega
 simp[h3,h3n,Int.not_lt.2 h3];intro _;generalize hB1:r.Guards.all (Qo (Ui p r 0))=B1;refine Ka [2,3,5,41,42] 43 r.Guards.length (λi s h n=>4<n/\h 0=some ⟨true,2,[Jg p]⟩/\h 1=some ⟨true,7,[Ju r]⟩/\h 4=some ⟨true,4,[[.str G.Name,.ref 2 0 G.Params.length,.bool G.ListResult,.ref 3 0 G.Pre.length]]⟩/\(r.Guards.drop i).all (Qo (Ui p r 0))=B1) (by unfold Jd;omega) (by simp) ⟨by simp,by simp[Jg],by simp[Ju],by simp,by simpa using hB1⟩ ?_ ?_
 ·rintro i st h n R hi hg hk s43 hw ⟨hn,e0,e1,e4,hJ⟩ hR hret _;simp at hk;rw[drop_eq_getElem_cons hi,all_cons]at hJ;have z0:¬0=n:=by omega
  have z1:¬1=n:=by omega
  have z4:¬4=n:=by omega
  have y0:¬0=n+1:=by omega
  have y1:¬1=n+1:=by omega
  have y4:¬4=n+1:=by omega
  have x0:¬0=n+1+1:=by omega
  have x1:¬1=n+1+1:=by omega
  have x4:¬4=n+1+1:=by omega
  have v0:¬n+1=n+1+1:=by omega
  have v1:¬n+1+1=n+1:=by omega
  have v4:¬n+1=n:=by omega
  have q0:¬n=0:=by omega
  have q1:¬n=1:=by omega
  have q3:¬n=3:=by omega
  have q4:¬n=4:=by omega
  refine Jq [2,3,5,41,42,43] (λs=>s 44 = .bool true) (by simp[hk,s43,hi]) ?_;intro Jv hk1 s44;simp at hk1;refine W3 s44 (Jn (Xd ?_));refine Xu [2,3,5,41,42,43] (λs h' n'=>s 8 = .ptr n 0 0/\n'=n+1/\h' n=some ⟨true,2,[Ks r.Guards[i]]⟩/\h' 0=some ⟨true,2,[Jg p]⟩/\h' 1=some ⟨true,7,[Ju r]⟩/\h' 4=some ⟨true,4,[[.str G.Name,.ref 2 0 G.Params.length,.bool G.ListResult,.ref 3 0 G.Pre.length]]⟩) (by simp[hk,hk1,s43,hi,Ks,e0,e1,e4,z0,z1,z4]) ?_;rintro st2 h2' n2 hk2 ⟨s8,rfl,en,e0',e1',e4'⟩;simp at hk2;refine Xu [2,3,5,41,42,43] (λs h' n'=>n<n'/\s 58 = .bool (!Qo (Ui p r 0) r.Guards[i])/\h' 0=some ⟨true,2,[Jg p]⟩/\h' 1=some ⟨true,7,[Ju r]⟩/\h' 4=some ⟨true,4,[[.str G.Name,.ref 2 0 G.Params.length,.bool G.ListResult,.ref 3 0 G.Pre.length]]⟩) ?_ ?_
  ·simp[s8,en];refine Jx (J25 (r.Guards[i]'hi)) (by simp) ?_;rintro r rfl;unfold Qo;cases g1:I8 r.Guards[i]
   ·simp[e0',e1',e4']
   simp[hk,hk1,hk2,s8,en,e0',e1',Jg,Ju];refine Jx (J1m (r.Guards[i]'hi) (wg _ (getElem_mem hi))) (by simp) ?_;rintro r rfl;simp;refine Jx (J2s p r 0 hp hr) (by simp[Jg,Ju]) ?_;rintro r rfl;simp;refine Jx (Px (V8 (r.Guards[i]'hi)) (Ui p r 0)) (by simp) ?_;rintro r rfl;simp[e0',e1',e4',Jg,Ju,y4,x4,q0]
  rintro Kq h3' n3 hk3 ⟨hn3,s58,e0'',e1'',e4''⟩;simp at hk3;generalize Qo (Ui p r 0) r.Guards[i]=D at *;cases D
  ·rw[Bool.false_and]at hJ;subst hJ;simp[s58];refine hret _ _ _ ?_;simp
  ·rw[Bool.true_and]at hJ;simp[hk1,hk2,hk3,s58,s43,hw];exact hR _ _ _ (by simp[hk,hk1,hk2,hk3]) (by simp) ⟨by omega,e0'',e1'',e4'',hJ⟩
 rintro st h n R hk s43 ⟨hn,e0,e1,e4,hJ⟩ hret hX;simp at hk;rw[drop_eq_nil_of_le (by omega)]at hJ;refine Jq [2,3,5,41,42,43] (λs=>s 44 = .bool false) (by simp[hk,s43]) ?_;intro Jv hk1 s44;simp at hk1;refine Uv s44 ?_;refine hX _ _ _ _ ?_;simp at hJ;subst hJ;clear hX hret hB1;simp[hk,hk1,e1,Ju];intro _;generalize hB2:Qe p r 0 r.Calls=B2;refine Ka [2,3,5,61,62] 63 r.Calls.length (λi s h n=>4<n/\h 0=some ⟨true,2,[Jg p]⟩/\h 1=some ⟨true,7,[Ju r]⟩/\h 4=some ⟨true,4,[[.str G.Name,.ref 2 0 G.Params.length,.bool G.ListResult,.ref 3 0 G.Pre.length]]⟩/\Qe p r i (r.Calls.drop i)=B2) (by unfold Jd;omega) (by simp) ⟨hn,e0,e1,e4,by simpa using hB2⟩ ?_ ?_
 ·rintro i st h n R hi hg hkk s63 hw ⟨hn,e0,e1,e4,hJ⟩ hR hret _;simp at hkk;rw[J0m hi]at hJ;have z0:¬0=n:=by omega
  have z1:¬1=n:=by omega
  have z4:¬4=n:=by omega
  have y0:¬0=n+1:=by omega
  have y1:¬1=n+1:=by omega
  have y4:¬4=n+1:=by omega
  have x0:¬0=n+1+1:=by omega
  have x1:¬1=n+1+1:=by omega
  have x4:¬4=n+1+1:=by omega
  have v0:¬n+1=n+1+1:=by omega
  have v1:¬n+1+1=n+1:=by omega
  have v4:¬n+1=n:=by omega
  have q0:¬n=0:=by omega
  have q1:¬n=1:=by omega
  have q3:¬n=3:=by omega
  have q4:¬n=4:=by omega
  refine Jq [2,3,5,61,62,63] (λs=>s 64 = .bool true) (by simp[hkk,s63,hi]) ?_;intro stb hkb s64;simp at hkb;refine W3 s64 (Jn (Xd ?_));refine Xu [2,3,5,61,62,63] (λs h' n'=>s 9 = .int .i64 i/\s 10 = .ptr n 0 0/\n'=n+1/\h' n=some ⟨true,3,[X8 r.Calls[i]]⟩/\h' 0=some ⟨true,2,[Jg p]⟩/\h' 1=some ⟨true,7,[Ju r]⟩/\h' 4=some ⟨true,4,[[.str G.Name,.ref 2 0 G.Params.length,.bool G.ListResult,.ref 3 0 G.Pre.length]]⟩) (by simp[hk,hkk,hk1,hkb,s63,hi,X8,e0,e1,e4,z0,z1,z4]) ?_;rintro st2 h2' n2 hk2 ⟨s9,s10,rfl,en,e0',e1',e4'⟩;simp at hk2;refine Xu [2,3,5,61,62,63] (λs h' n'=>n<n'/\s 75 = .bool (!Ik p r.Calls[i] (Ui p r i))/\h' 0=some ⟨true,2,[Jg p]⟩/\h' 1=some ⟨true,7,[Ju r]⟩/\h' 4=some ⟨true,4,[[.str G.Name,.ref 2 0 G.Params.length,.bool G.ListResult,.ref 3 0 G.Pre.length]]⟩) ?_ ?_
  ·simp[hk,hkk,hk1,hkb,hk2,s9,s10,en,e0',e1',Jg,Ju];refine Jx (J2s p r i hp hr) (by simp[Jg,Ju]) ?_;rintro r rfl;simp;refine Jx (Jhj p (r.Calls[i]'hi) (Ui p r i) hp (wc _ (getElem_mem hi))) (by simp[Jg]) ?_;rintro r rfl;simp[e0',e1',e4',Jg,Ju,y4,q0]
  rintro Kq h3' n3 hk3 ⟨hn3,s75,e0'',e1'',e4''⟩;simp at hk3;generalize Ik p r.Calls[i] (Ui p r i)=D at *;cases D
  ·rw[Bool.false_and]at hJ;subst hJ;simp[s75];refine hret _ _ _ ?_;simp
  ·rw[Bool.true_and]at hJ;simp[hkb,hk2,hk3,s75,s63,hw];exact hR _ _ _ (by simp[hk,hkk,hk1,hkb,hk2,hk3]) (by simp) ⟨by omega,e0'',e1'',e4'',hJ⟩
 rintro st h n R hkk s63 ⟨hn,e0,e1,e4,hJ⟩ hret hX;simp at hkk;rw[drop_eq_nil_of_le (by omega)]at hJ;refine Jq [2,3,5,61,62,63] (λs=>s 64 = .bool false) (by simp[hkk,s63]) ?_;intro Jv hk1' s64;simp at hk1';refine Uv s64 ?_;refine hX _ _ _ _ ?_;simp[Qe]at hJ;subst hJ;clear hX hret hB2;have z0:¬0=n:=by omega
 have z1:¬1=n:=by omega
 have z4:¬4=n:=by omega
 have y0:¬0=n+1:=by omega
 have y1:¬1=n+1:=by omega
 have y4:¬4=n+1:=by omega
 have x0:¬0=n+1+1:=by omega
 have x1:¬1=n+1+1:=by omega
 have x4:¬4=n+1+1:=by omega
 have v0:¬n+1=n+1+1:=by omega
 have v1:¬n+1+1=n+1:=by omega
 have v4:¬n+1=n:=by omega
 have q0:¬n=0:=by omega
 have q1:¬n=1:=by omega
 have q3:¬n=3:=by omega
 have q4:¬n=4:=by omega
 simp[hk,hk1,hkk,hk1',e0,e1,Ju,Jg];intro _;refine Je (J2s p r r.Calls.length hp hr) (by simp[Jg,Ju]) ?_;rintro r rfl;simp[hk,hk1,hkk,hk1',e1,Ju,z1];refine Je (J0g r.Result) (by simp[Kn]) ?_;rintro r rfl;unfold Wu;cases g1:Oo r.Result
 ·simp
 simp[hk,hk1,hkk,hk1',e1,e4,Ju,z1,z4];cases g2:(r.Result.Lst==G.ListResult)
 ·have g2':¬r.Result.Lst=G.ListResult:=by simpa using g2
  simp[g2']
 have g2':r.Result.Lst=G.ListResult:=by simpa using g2
 simp[g2'];refine Je (J34 r.Result wa) (by simp[Kn,g2']) ?_;rintro r rfl;simp;refine Je (Px (Im (Qk r.Result)) (Ui p r r.Calls.length)) (by simp) ?_;rintro r rfl;cases g3:He (Im (Qk r.Result)) (Ui p r r.Calls.length)
 ·simp
 simp;refine Je (J17 (Ui p r r.Calls.length)) (by simp) ?_;rintro r rfl;simp
def K65:Jl:= ⟨75,[.t 4],(Zq [ZB 2 0,ZB 3 1,Zt 4 false] (Zq [Zl 10 true 2 2,Zf 11 0 3,Zl 12 false 1 11,Zc 13 172 [.t 10,.t 12],Zv 9 13,Ze 14 9 0,Ze 15 9 1,ZU 5,Zs 4 5 14,Zv 6 15] (.seq (.seq (.draw (.op (Zv 16 6) (.op (ZN 17 16) (.op (Zv 18 17) (.op (Zg 19 18 false (.ld true 4 (.t 5))) (.op (Zg 20 18 false (.fld 1 (.t 3))) (.op (Zg 21 18 false (.ld false 1 (.t 20))) (.op (Zg 22 18 false (.call (.k (.fn (.func 219) [] [])) [.t 19,.t 21])) (.op (Zg 23 18 false (.un .not (.t 22))) (.op (ZP 24 18 23) (.op (Zv 25 24) (.op (Zg 26 25 false (.fld 2 (.t 3))) (.op (Zg 27 25 false (.ld false 1 (.t 26))) (.op (Zg 28 25 false (.ld true 2 (.t 2))) (.op (Zg 29 25 false (.ld true 7 (.t 3))) (.op (Zg 30 25 false (.call (.k (.fn (.func 221) [] [])) [.t 28,.t 29,(.k (.int .i64 0))])) (.op (Zg 31 25 false (.call (.k (.fn (.func 220) [] [])) [.t 27,.t 30])) (.op (Zg 32 25 false (.un .not (.t 31))) (.op (ZP 33 25 32) (.op (Zv 34 33) (.op (Zg 35 34 false (.fld 3 (.t 3))) (.op (Zg 36 34 false (.ld false 1 (.t 35))) (.op (Zg 37 34 false (.len false (.t 36))) (.op (Zg 38 34 false (.bin .gtr (.t 37) (.k (.int .i64 2)))) (.op (ZP 39 34 38) .fin))))))))))))))))))))))))) (.cond (.t 39) (Zq [Zt 4 false] .ret) .skip)) (.seq (Zq [Zi 7 0] (.blk 0 (.loop (.seq (Zq [Zv 40 7,Zf 41 3 3,Zl 42 false 1 41,Zn 43 42,Zb 44 .lss 40 43] (Zw 44 0)) (.seq (.blk 1 (.seq (.draw (.op (Zl 47 true 2 2) (.op (Zf 48 3 3) (.op (Zl 49 false 1 48) (.op (Zv 50 7) (.op (Zx 51 3 49 50) (.op (Zl 52 true 3 51) (.op (Zl 53 true 2 2) (.op (Zl 54 true 7 3) (.op (Zv 55 7) (.op (Zc 56 221 [.t 53,.t 54,.t 55]) (.op (Zc 57 222 [.t 47,.t 52,.t 56]) (.op (ZN 58 57) .fin))))))))))))) (.cond (.t 58) (Zq [Zt 4 false] .ret) .skip))) (.reg [Zv 45 7,Zk 46 .add 45 1,Zv 7 46])))))) (Zq [Zl 59 true 2 2,Zl 60 true 7 3,Zf 61 3 3,Zl 62 false 1 61,Zn 63 62,Zc 64 221 [.t 59,.t 60,.t 63],Zv 8 64] (Zq [Zf 65 4 3,Zl 66 true 3 65,Zf 67 2 5,Zl 68 false 1 67,Zv 69 8,Zc 70 223 [.t 66,.t 68,.t 69],Zv 71 70,Zg 72 71 true (.mv (.t 8)),Zg 73 71 true (.call (.k (.fn (.func 218) [] [])) [.t 72]),ZQ 74 71 73,Zv 4 74] .ret))))))⟩
theorem Jmd:Jh prog f135=some K65:=by kernel_rfl
theorem J49(p:Jo)(r:K0)(hp:X2 p<=1048576)(hr:Ub r<=1048576):Holds prog 135 [.agg (Jg p),.agg (Ju r)] (λx=>x = .bool (G8 p r)):=by
 obtain⟨wg,wc,wa,lg,lc,lp,wgs⟩:=J0v hr;refine Jp func135 Jmd rfl (by simp[K65]) ?_;simp[K65,Jg,Ju];refine Je (C7 p r.Func hp) (by simp[Jg]) ?_;rintro r rfl;unfold G8;generalize hG:(Xc p.Functions r.Func).getD Yt=G;simp only[Qz,hG];generalize hb1:(Xc p.Functions r.Func).isSome=b1;simp[Xr];cases b1
 ·simp
 simp;refine Jx (J46 G r.Patterns lp) (by simp[K5]) ?_;rintro r rfl;cases h1:Oa G.Params [] r.Patterns
 ·simp
 simp;refine Jx (J1l p r 0 hp hr) (by simp[Jg,Ju]) ?_;rintro r rfl;simp;refine Jx (J88 r.Guards (Ui p r 0) wgs) (by simp) ?_;rintro r rfl;generalize hB1:r.Guards.all (Qo (Ui p r 0))=B1;cases B1
 ·simp
 have hdg:decide (r.Guards.length<=2)=decide ((r.Guards.length:Int)<=2):=by rw[decide_eq_decide];omega
 by_cases h2n:r.Guards.length<=2
 case neg=>simp[h2n]
 simp[h2n];by_cases h3:(r.Calls.length:Int)<=2
 case neg=>
  have h3n:¬r.Calls.length<=2:=by omega
  simp[h3,h3n,Int.not_le.1 h3]
 have h3n:r.Calls.length<=2:=by omega
 simp[h3,h3n,Int.not_lt.2 h3];generalize hB2:Qe p r 0 r.Calls=B2;refine Ka [2,3,5] 7 r.Calls.length (λi s h n=>4<n/\h 0=some ⟨true,2,[Jg p]⟩/\h 1=some ⟨true,7,[Ju r]⟩/\h 4=some ⟨true,4,[[.str G.Name,.ref 2 0 G.Params.length,.bool G.ListResult,.ref 3 0 G.Pre.length]]⟩/\Qe p r i (r.Calls.drop i)=B2) (by unfold Jd;omega) (by simp) ⟨by simp,by simp[Jg],by simp[Ju],by simp,by simpa using hB2⟩ ?_ ?_
 ·rintro i st h n R hi hg hk s7 hw ⟨hn,e0,e1,e4,hJ⟩ hR hret _;simp at hk;rw[J0m hi]at hJ;have z0:¬0=n:=by omega
  have z1:¬1=n:=by omega
  have z4:¬4=n:=by omega
  have y0:¬0=n+1:=by omega
  have y1:¬1=n+1:=by omega
  have y4:¬4=n+1:=by omega
  have x0:¬0=n+1+1:=by omega
  have x1:¬1=n+1+1:=by omega
  have x4:¬4=n+1+1:=by omega
  have v0:¬n+1=n+1+1:=by omega
  have v1:¬n+1+1=n+1:=by omega
  have v4:¬n+1=n:=by omega
  have q0:¬n=0:=by omega
  have q1:¬n=1:=by omega
  have q3:¬n=3:=by omega
  have q4:¬n=4:=by omega
  refine Jn (Jq [2,3,5,7] (λs=>s 44 = .bool true) (by simp[hk,s7,hi,e1,Ju]) ?_);intro Jv hk1 s44;simp at hk1;refine U2 s44 (Jn (Xd ?_));refine Xu [2,3,5,7] (λs h' n'=>4<n'/\s 58 = .bool (!Ik p r.Calls[i] (Ui p r i))/\h' 0=some ⟨true,2,[Jg p]⟩/\h' 1=some ⟨true,7,[Ju r]⟩/\h' 4=some ⟨true,4,[[.str G.Name,.ref 2 0 G.Params.length,.bool G.ListResult,.ref 3 0 G.Pre.length]]⟩) ?_ ?_
  ·simp[hk,hk1,s7,hi,e0,e1,Jg,Ju];refine Jx (J1l p r i hp hr) (by simp[Jg,Ju]) ?_;rintro r rfl;simp;refine Jx (Jc3 p (r.Calls[i]'hi) (Ui p r i) hp (wc _ (getElem_mem hi))) (by simp[Jg]) ?_;rintro r rfl;simp[e0,e1,e4,Jg,Ju,z0,z1,z4];omega
  rintro Kq h3' n3 hk3 ⟨hn3,s58,e0'',e1'',e4''⟩;simp at hk3;generalize Ik p r.Calls[i] (Ui p r i)=D at *;cases D
  ·rw[Bool.false_and]at hJ;subst hJ;simp[s58];refine hret _ _ _ ?_;simp
  ·rw[Bool.true_and]at hJ;simp[hk1,hk3,s58,s7,hw];exact hR _ _ _ (by simp[hk,hk1,hk3]) (by simp) ⟨hn3,e0'',e1'',e4'',hJ⟩
 rintro st h n R hk s7 ⟨hn,e0,e1,e4,hJ⟩ hret hX;simp at hk;rw[drop_eq_nil_of_le (by omega)]at hJ;refine Jn (Jq [2,3,5] (λs=>s 44 = .bool false) (by simp[hk,s7,e1,Ju]) ?_);intro Jv hk1 s44;simp at hk1;refine U1 s44 ?_;refine hX _ _ _ _ ?_;simp[Qe]at hJ;subst hJ;clear hX hret hB2;have z0:¬0=n:=by omega
 have z1:¬1=n:=by omega
 have z4:¬4=n:=by omega
 have y0:¬0=n+1:=by omega
 have y1:¬1=n+1:=by omega
 have y4:¬4=n+1:=by omega
 have x0:¬0=n+1+1:=by omega
 have x1:¬1=n+1+1:=by omega
 have x4:¬4=n+1+1:=by omega
 have v0:¬n+1=n+1+1:=by omega
 have v1:¬n+1+1=n+1:=by omega
 have v4:¬n+1=n:=by omega
 have q0:¬n=0:=by omega
 have q1:¬n=1:=by omega
 have q3:¬n=3:=by omega
 have q4:¬n=4:=by omega
 simp[hk,hk1,e0,e1,Ju,Jg];intro _;refine Je (J1l p r r.Calls.length hp hr) (by simp[Jg,Ju]) ?_;rintro r rfl;simp[hk,hk1,e1,e4,Ju,z1,z4];refine Je (T9 r.Result G.ListResult (Ui p r r.Calls.length) wa) (by simp[Kn]) ?_;rintro r rfl;cases g1:Wu r.Result G.ListResult (Ui p r r.Calls.length)
 ·simp
 simp;refine Je (J01 (Ui p r r.Calls.length)) (by simp) ?_;rintro r rfl;simp
theorem Jq0:Jh prog f147=some (Dz 235):=by kernel_rfl
theorem Joi:Jh prog f235=some (Bl true 7):=by kernel_rfl
def K7q:Jl:= ⟨18,[.t 2],(Zq [Zt 2 false] (.seq (Zq [Zi 3 0] (.blk 0 (.loop (.seq (Zq [Zv 4 3,Zv 5 0,Zn 6 5,Zb 7 .lss 4 6] (Zw 7 0)) (.seq (.blk 1 (Zq [Zv 10 0,Zv 11 3,Zx 12 1 10 11,Zl 13 false 1 12,Zc 14 285 [.t 13],ZN 15 14] (.cond (.t 15) (Zq [Zt 2 false] .ret) .skip))) (.reg [Zv 8 3,Zk 9 .add 8 1,Zv 3 9])))))) (Zq [Zv 16 0,Zc 17 218 [.t 16],Zv 2 17] .ret)))⟩
theorem Jqy:Jh prog f217=some K7q:=by kernel_rfl
def K81:Jl:= ⟨6,[.t 2],(Zq [Zt 2 false] (Zq [Zv 3 0,Zc 4 143 [.t 3],ZN 5 4,Zv 2 5] .ret))⟩
theorem Jon:Jh prog f142=some K81:=by kernel_rfl
def K6q:Jl:= ⟨10,[.t 3],(Zq [ZB 2 0,Zt 3 false] (Zq [Zl 4 true 2 2,Zf 5 1 1,Zl 6 false 1 5,Zn 7 6,Zc 8 146 [.t 4,.t 7],ZN 9 8,Zv 3 9] .ret))⟩
theorem Jt2:Jh prog f145=some K6q:=by kernel_rfl
def K57:Jl:= ⟨8,[.t 3],(Zq [ZB 2 0,Zt 3 false] (Zq [Zl 4 true 2 1,Zl 5 true 7 2,Zc 6 149 [.t 4,.t 5],ZN 7 6,Zv 3 7] .ret))⟩
theorem Joa:Jh prog f148=some K57:=by kernel_rfl
def a67:Jl:= ⟨69,[.t 2],(Zq [ZB 1 0,Zt 2 false] (.seq (Zq [Zf 5 0 1,Zl 6 false 1 5,Zn 7 6,Zc 8 102 [.t 7,(.k (.int .i64 1)),(.k (.int .i64 3))],ZN 9 8,Zv 10 9,Zg 11 10 false (.fld 1 (.t 1)),Zg 12 10 false (.ld false 1 (.t 11)),Zg 13 10 false (.len false (.t 12)),Zg 14 10 false (.bin .gtr (.t 13) (.k (.int .i64 8))),ZP 15 10 14] (.cond (.t 15) (Zq [Zt 2 false] .ret) .skip)) (.seq (Zq [Zf 16 0 1,Zl 17 false 1 16,Zn 18 17,Zi 19 0] (.blk 0 (.loop (Zq [Zb 20 .lss 19 18] (.seq (Zw 20 0) (.seq (.blk 1 (Zq [Zv 21 19,Zx 22 4 17 19,Zl 23 true 4 22,ZU 4,Zv 3 21,Zs 4 4 23] (.seq (Zq [Zf 24 0 4,Zl 25 false 1 24,Zc 26 140 [.t 25],ZN 27 26,Zv 28 27,Zg 29 28 false (.ld true 2 (.t 1)),Zg 30 28 false (.fld 0 (.t 4)),Zg 31 28 false (.ld false 1 (.t 30)),Zg 32 28 false (.call (.k (.fn (.func 84) [] [])) [.t 29,.t 31]),Zg 33 28 false (.mv (.t 3)),Zg 34 28 false (.bin .neq (.t 32) (.t 33)),ZP 35 28 34,Zv 36 35,Zg 37 36 false (.fld 1 (.t 4)),Zg 38 36 false (.ld false 1 (.t 37)),Zg 39 36 false (.len false (.t 38)),Zg 40 36 false (.bin .gtr (.t 39) (.k (.int .i64 2))),ZP 41 36 40,Zv 42 41,Zg 43 42 false (.fld 1 (.t 4)),Zg 44 42 false (.ld false 1 (.t 43)),Zg 45 42 false (.call (.k (.fn (.func 141) [] [])) [.t 44]),Zg 46 42 false (.un .not (.t 45)),ZP 47 42 46,Zv 48 47,Zg 49 48 false (.fld 3 (.t 4)),Zg 50 48 false (.ld false 1 (.t 49)),Zg 51 48 false (.len false (.t 50)),Zg 52 48 false (.bin .gtr (.t 51) (.k (.int .i64 2))),ZP 53 48 52] (.cond (.t 53) (Zq [Zt 2 false] .ret) .skip)) (Zq [Zf 54 1 4,Zl 55 false 1 54,Zc 56 69 [.t 55,(.k (.fn (.func 142) [] []))],Zv 57 56,Zg 58 57 false (.fld 3 (.t 4)),Zg 59 57 false (.ld false 1 (.t 58)),Zg 60 57 false (.mkf (.func 145) [] [.t 4]),Zg 61 57 false (.call (.k (.fn (.func 144) [] [])) [.t 59,.t 60]),ZP 62 57 61] (.cond (.t 62) (Zq [Zt 2 false] .ret) .skip))))) (.reg [Zk 63 .add 19 1,Zv 19 63]))))))) (Zq [Zf 64 1 1,Zl 65 false 1 64,Zo 66 (.mkf (.func 148) [] [.t 1]),Zc 67 147 [.t 65,.t 66],ZN 68 67,Zv 2 68] .ret))))⟩
theorem Jze:Jh prog f67=some a67:=by kernel_rfl
theorem Jc6(l:List J9):Holds prog 217 [.sl 1 (Jf l)] (λr=>r = .bool (l.all W7&&Q5 l)):=by
 refine Vm func217 rfl rfl λhl=>?_
 simp at hl;refine Jp func217 Jqy rfl (by simp[K7q]) ?_;simp[K7q];generalize hB:l.all W7=B;refine O7 [0] 3 l.length (λi _=>(l.drop i).all W7=B) hl (by simp) (by simpa using hB) ?_ ?_
 ·rintro i st h R hi hg hk s3 hw hJ hh hR hret _;simp at hk;rw[drop_eq_getElem_cons hi,all_cons]at hJ;simp[hk,s3,hi];intro _;refine Je (Sp (l[i]'hi)) (by simp) ?_;rintro r rfl;cases hc:W7 l[i]
  ·rw[hc,Bool.false_and]at hJ;subst hJ;simp;refine hret _ _ _ ?_;simp
  ·rw[hc,Bool.true_and]at hJ;simp[s3,hw];exact hR _ (by simp[hk]) (by simp) hJ
 ·rintro st h R hk s3 hJ hh _ hX;simp at hk;rw[drop_eq_nil_of_le (by omega)]at hJ;simp at hJ;subst hJ;simp[hk,s3];intro _;refine hX _ _ ?_;simp[hk];refine Je (J01 l) (by simp) ?_;rintro r rfl;simp
theorem K90(s:J9):Holds prog 142 [.str s] (λr=>r = .bool (!W7 s)):=by refine Jp func142 Jon rfl (by simp[K81]) ?_;simp[K81];refine Je (J03 s) (by simp) ?_;rintro r rfl;simp
theorem Jh0{h:J8}{n id:Nat}{f:K3}(x:Jc)(hv:h id=some ⟨true,4,[K5 f]⟩)(hid:id<n):Dt prog 145 [] [.ptr id 0 0] h n (.agg (Jb x)) (.bool (!K8 x f.Params.length)):=by
 intro K hK;refine Cr ?_;refine U8 func145 Jt2 rfl (by simp[K6q]) ?_;have n1:¬id=n:=by omega
 simp[K6q,hv,n1,Jb,K5];intro _;refine Je (Gz x f.Params.length) (by simp[Jb]) ?_;rintro r rfl;simp[Vk,hK];intro j hj hj';omega
theorem Jj8{h:J8}{n id:Nat}{p:Jo}(x:K0)(hp:X2 p<=1048576)(hx:Ub x<=1048576)(hv:h id=some ⟨true,2,[Jg p]⟩)(hid:id<n):Dt prog 148 [] [.ptr id 0 0] h n (.agg (Ju x)) (.bool (!G8 p x)):=by
 intro K hK;refine Cr ?_;refine U8 func148 Joa rfl (by simp[K57]) ?_;have n1:¬id=n:=by omega
 simp[K57,hv,n1,Ju,Jg];refine Je (J61 p x hp hx) (by simp[Ju,Jg]) ?_;rintro r rfl;simp[Vk,hK];intro j hj hj';omega
theorem J5v{p:Jo}(hp:X2 p<=1048576):∀r∈p.Rules,Ub r<=1048576:=λr hr=>by have:=Wn (w:=Ub) hr;unfold X2 Gx at hp;omega
theorem J8b{met:List J9}{l:List K3}{i:Nat}(hi:i<l.length):Eb met (l.drop i)=((Od l[i] && !K6 met (l[i]).Name)&&Eb (met++[(l[i]).Name]) (l.drop (i+1))):=by rw[drop_eq_getElem_cons hi];rfl
def Qy(l:List K3)(i:Nat):List J9:=(l.take i).map (·.Name)
theorem J7a{l:List K3}{i:Nat}(hi:i<l.length):Qy l (i+1)=Qy l i++[(l[i]).Name]:=by unfold Qy;rw[List.take_succ_eq_append_getElem hi,List.map_append];rfl
theorem Sm(p:Jo)(hp:X2 p<=1048576):Holds prog 67 [.agg (Jg p)] (λx=>x = .bool (Ym p)):=by
 have hlf:p.Functions.length<=1048576:=by have:=Yn Yr p.Functions;unfold X2 Qb at hp;omega
 refine Jp func67 Jze rfl (by simp[a67]) ?_;simp[a67,Jg];intro _;refine Je (O4 p.Functions.length 1 3) (by simp) ?_;rintro r rfl;unfold Ym;cases h1:Kh p.Functions.length 1 3
 ·simp
 simp;intro _;have hdg:decide (p.Rules.length<=8)=decide ((p.Rules.length:Int)<=8):=by rw[decide_eq_decide];omega
 by_cases h2:(p.Rules.length:Int)<=8
 case neg=>
  have h2n:¬p.Rules.length<=8:=by omega
  simp[h2,h2n,Int.not_le.1 h2]
 have h2n:p.Rules.length<=8:=by omega
 simp[h2,h2n,Int.not_lt.2 h2];intro _;generalize hB:Eb [] p.Functions=B;refine Ka [1,17,18] 19 p.Functions.length (λi s h n=>0<n/\h 0=some ⟨true,2,[Jg p]⟩/\Eb (Qy p.Functions i) (p.Functions.drop i)=B) (by unfold Jd;omega) (by simp) ⟨by simp,by simp[Jg],by simpa[Qy]using hB⟩ ?_ ?_
 ·rintro i st h n R hi hg hk s19 hw ⟨hn,e0,hJ⟩ hR hret _;simp at hk;rw[J8b hi,<-J7a hi]at hJ;have z0:¬0=n:=by omega
  have z1:¬n=0:=by omega
  refine Jq [1,17,18,19] (λs=>s 20 = .bool true) (by simp[hk,s19,hi]) ?_;intro Jv hk1 s20;simp at hk1;refine W3 s20 (Jn (Xd ?_));refine Xu [1,17,18,19] (λs h' n'=>s 3 = .int .i64 i/\s 4 = .ptr n 0 0/\n'=n+1/\h' n=some ⟨true,4,[K5 p.Functions[i]]⟩/\h' 0=some ⟨true,2,[Jg p]⟩) (by simp[hk,hk1,s19,hi,K5,e0,z0]) ?_;rintro st2 h2' n2 hk2 ⟨s3,s4,rfl,en,e0'⟩;simp at hk2;generalize hf:p.Functions[i]=f at *;refine Jn (Jq [1,3,4,17,18,19] (λs=>s 53 = .bool (!Wb f.Name||K6 (Qy p.Functions i) f.Name || !decide (f.Params.length<=2) || !Q5 f.Params || !decide (f.Pre.length<=2))) ?_ ?_)
  ·have hdp:decide (f.Params.length<=2)=decide ((f.Params.length:Int)<=2):=by rw[decide_eq_decide];omega
   have hdq:decide (f.Pre.length<=2)=decide ((f.Pre.length:Int)<=2):=by rw[decide_eq_decide];omega
   rw[hdp,hdq];simp[s4,en,K5];refine Je (Pm f.Name) (by simp) ?_;rintro r rfl;cases g1:Wb f.Name
   ·simp
   simp[hk,hk1,hk2,s4,en,e0',K5,Jg];refine Je (Cw p f.Name) (by simp[Jg]) ?_;rintro r rfl;have hidx:=Jfj hi;rw[hf]at hidx;rw[show List.map (·.Name) (List.take i p.Functions)=Qy p.Functions i from rfl]at hidx;generalize Xi (λg=>g.Name==f.Name) p.Functions 0=k1 at hidx;cases g2:K6 (Qy p.Functions i) f.Name
   case true=>
    rw[g2]at hidx;have hk1n:¬k1=(i:Int):=by simpa using hidx
    simp[hk1n,s3]
   rw[g2]at hidx;have hk1n:k1=(i:Int):=by simpa using hidx
   subst hk1n;simp[hk,hk1,hk2,s4,s3,en,K5];intro _;by_cases g3:(f.Params.length:Int)<=2
   case neg=>simp[g3,Int.not_le.1 g3]
   simp[g3,Int.not_lt.2 g3];refine Je (J17 f.Params) (by simp) ?_;rintro r rfl;cases g4:Q5 f.Params
   ·simp
   simp[hk,hk1,hk2,s4,s3,en,K5];intro _;by_cases g5:(f.Pre.length:Int)<=2
   ·simp[g5,Int.not_lt.2 g5]
   ·simp[g5,Int.not_le.1 g5]
  intro Kq hk3 s53;simp at hk3;generalize hcc:(!Wb f.Name||K6 (Qy p.Functions i) f.Name || !decide (f.Params.length<=2) || !Q5 f.Params || !decide (f.Pre.length<=2))=cc at *
  have hbody:(Od f && !K6 (Qy p.Functions i) f.Name)=(!cc&&(f.Params.all W7&&f.Pre.all λl=>K8 l f.Params.length)):=by rw[<-hcc];unfold Od;cases Wb f.Name <;>cases K6 (Qy p.Functions i) f.Name <;>cases decide (f.Params.length<=2) <;>cases Q5 f.Params <;>cases decide (f.Pre.length<=2) <;>cases f.Params.all W7 <;>simp
  rw[hbody]at hJ;clear hbody hcc;cases cc
  case true=>
   simp at hJ;simp[s53];refine hret _ _ _ ?_;simp[hJ]
  refine J5g s53 ?_;simp only[Wd];simp only[Bool.not_false,Bool.true_and]at hJ;refine Jq [1,3,4,17,18,19] (λs=>s 62 = .bool (!(f.Params.all W7&&f.Pre.all λl=>K8 l f.Params.length))) ?_ ?_
  ·simp[hk3,s4,en,K5]
   refine Bk (p:=λs => !W7 s) (rowOf:=λs=>[.str s]) (eltOf:=λs=>.str s) func69 Jkb rfl func150 Je7 rfl (λx=>by simp) f.Params
    (λs _=>Nh (K90 s) rfl rfl) ?_
   rw[Ek];cases g1:f.Params.all W7
   ·simp
   simp[hk3,s4,en,K5]
   refine Bk (p:=λl => !K8 l f.Params.length) (rowOf:=Jb) (eltOf:=λl=>.agg (Jb l)) func144 J8p rfl func231 J8l rfl (λx=>by simp) f.Pre
    (λx _=>Jh0 (f:=f) x en (Nat.lt_succ_self n)) ?_
   rw[Ek];simp
  intro st4 hk4 s62;simp at hk4;generalize(f.Params.all W7&&f.Pre.all λl=>K8 l f.Params.length)=D at *;cases D
  ·rw[Bool.false_and]at hJ;subst hJ;simp[s62];refine hret _ _ _ ?_;simp
  ·rw[Bool.true_and]at hJ;simp[hk1,hk2,hk3,hk4,s62,s19,hw];exact hR _ _ _ (by simp[hk,hk1,hk2,hk3,hk4]) (by simp) ⟨by omega,e0',hJ⟩
 rintro st h n R hk s19 ⟨hn,e0,hJ⟩ hret hX;simp at hk;rw[drop_eq_nil_of_le (by omega)]at hJ;refine Jq [1] (λs=>s 20 = .bool false) (by simp[hk,s19]) ?_;intro Jv hk1 s20;simp at hk1;refine Uv s20 ?_;refine hX _ _ _ _ ?_;simp[Eb]at hJ;subst hJ;clear hX hret hB;simp[hk,hk1,e0,Jg]
 refine Bk (p:=λr => !G8 p r) (rowOf:=Ju) (eltOf:=λr=>.agg (Ju r)) func147 Jq0 rfl func235 Joi rfl (λx=>by simp) p.Rules
  (λx hx=>Jj8 x hp (J5v hp x hx) e0 hn) ?_
 rw[Ek];simp
end Go.Proofs.YtoclolkigjbcgaaGreat
