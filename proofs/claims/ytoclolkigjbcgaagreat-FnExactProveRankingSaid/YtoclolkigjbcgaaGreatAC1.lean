/- Contracts: whole numbers within limits, linear expressions. -/
import Derived.Test.YtoclolkigjbcgaaGreatAT1
import Derived.Test.YtoclolkigjbcgaaGreatProg
import Derived.Test.YtoclolkigjbcgaaGreatARE
namespace Go.Proofs.YtoclolkigjbcgaaGreat
open Tryz
open Tryz(prog)
open List(drop_eq_getElem_cons all_cons take_of_length_le drop_eq_nil_of_le)
set_option maxRecDepth 40000
set_option maxHeartbeats 4000000
open Go Go.RowKit Go.Proofs
set_option linter.all false
def K60:Jl:= ⟨15,[.t 6],(Zq [Zt 6 false] (Zq [Zv 7 0,Zv 8 1,Zb 9 .geq 7 8,Zv 10 9,Zg 11 10 true (.mv (.t 0)),Zg 12 10 true (.mv (.t 2)),Zg 13 10 true (.bin .leq (.t 11) (.t 12)),ZQ 14 10 13,Zv 6 14] .ret))⟩
theorem Jsh:Jh prog f102=some K60:=by kernel_rfl
def K78:Jl:= ⟨5,[.t 2],(Zq [Zt 2 false] (Zq [Zv 3 0,Zc 4 102 [.t 3,(.k (.int .i64 (-1000000000))),(.k (.int .i64 1000000000))],Zv 2 4] .ret))⟩
theorem Jmu:Jh prog f232=some K78:=by kernel_rfl
def a183:Jl:= ⟨15,[.t 6],(Zq [Zt 6 false] (Zq [Zv 7 0,Zv 8 1,Zb 9 .geq 7 8,Zv 10 9,Zg 11 10 true (.mv (.t 0)),Zg 12 10 true (.mv (.t 2)),Zg 13 10 true (.bin .leq (.t 11) (.t 12)),ZQ 14 10 13,Zv 6 14] .ret))⟩
theorem Jms:Jh prog f183=some a183:=by kernel_rfl
def K8s:Jl:= ⟨5,[.t 2],(Zq [Zt 2 false] (Zq [Zv 3 0,Zc 4 183 [.t 3,(.k (.int .i64 (-1000000000))),(.k (.int .i64 1000000000))],Zv 2 4] .ret))⟩
theorem Jp1:Jh prog f181=some K8s:=by kernel_rfl
def K7i:Jl:= ⟨24,[.t 4,.t 5],(Zq [Zi 4 0,Zt 5 false] (.seq (Zq [Zv 6 0,Zc 7 232 [.t 6],ZN 8 7,Zv 9 8,Zg 10 9 false (.mv (.t 1)),Zg 11 9 false (.call (.k (.fn (.func 232) [] [])) [.t 10]),Zg 12 9 false (.un .not (.t 11)),ZP 13 9 12,Zv 14 13,Zg 15 14 false (.mv (.t 0)),Zg 16 14 false (.mv (.t 1)),Zg 17 14 false (.bin .add (.t 15) (.t 16)),Zg 18 14 false (.call (.k (.fn (.func 232) [] [])) [.t 17]),Zg 19 14 false (.un .not (.t 18)),ZP 20 14 19] (.cond (.t 20) (Zq [Zi 4 0,Zt 5 false] .ret) .skip)) (Zq [Zv 21 0,Zv 22 1,Zb 23 .add 21 22,Zv 4 23,Zt 5 true] .ret)))⟩
theorem Jt9:Jh prog f271=some K7i:=by kernel_rfl
def K7t:Jl:= ⟨24,[.t 4,.t 5],(Zq [Zi 4 0,Zt 5 false] (.seq (Zq [Zv 6 0,Zc 7 232 [.t 6],ZN 8 7,Zv 9 8,Zg 10 9 false (.mv (.t 1)),Zg 11 9 false (.call (.k (.fn (.func 232) [] [])) [.t 10]),Zg 12 9 false (.un .not (.t 11)),ZP 13 9 12,Zv 14 13,Zg 15 14 false (.mv (.t 0)),Zg 16 14 false (.mv (.t 1)),Zg 17 14 false (.bin .mul (.t 15) (.t 16)),Zg 18 14 false (.call (.k (.fn (.func 232) [] [])) [.t 17]),Zg 19 14 false (.un .not (.t 18)),ZP 20 14 19] (.cond (.t 20) (Zq [Zi 4 0,Zt 5 false] .ret) .skip)) (Zq [Zv 21 0,Zv 22 1,Zb 23 .mul 21 22,Zv 4 23,Zt 5 true] .ret)))⟩
theorem Ju2:Jh prog f308=some K7t:=by kernel_rfl
def Ty:Jl:= ⟨24,[.t 4,.t 5],(Zq [Zi 4 0,Zt 5 false] (.seq (Zq [Zv 6 0,Zc 7 181 [.t 6],ZN 8 7,Zv 9 8,Zg 10 9 false (.mv (.t 1)),Zg 11 9 false (.call (.k (.fn (.func 181) [] [])) [.t 10]),Zg 12 9 false (.un .not (.t 11)),ZP 13 9 12,Zv 14 13,Zg 15 14 false (.mv (.t 0)),Zg 16 14 false (.mv (.t 1)),Zg 17 14 false (.bin .add (.t 15) (.t 16)),Zg 18 14 false (.call (.k (.fn (.func 181) [] [])) [.t 17]),Zg 19 14 false (.un .not (.t 18)),ZP 20 14 19] (.cond (.t 20) (Zq [Zi 4 0,Zt 5 false] .ret) .skip)) (Zq [Zv 21 0,Zv 22 1,Zb 23 .add 21 22,Zv 4 23,Zt 5 true] .ret)))⟩
theorem Jqp:Jh prog f264=some Ty:=by kernel_rfl
def K6e:Jl:= ⟨24,[.t 4,.t 5],(Zq [Zi 4 0,Zt 5 false] (.seq (Zq [Zv 6 0,Zc 7 181 [.t 6],ZN 8 7,Zv 9 8,Zg 10 9 false (.mv (.t 1)),Zg 11 9 false (.call (.k (.fn (.func 181) [] [])) [.t 10]),Zg 12 9 false (.un .not (.t 11)),ZP 13 9 12,Zv 14 13,Zg 15 14 false (.mv (.t 0)),Zg 16 14 false (.mv (.t 1)),Zg 17 14 false (.bin .mul (.t 15) (.t 16)),Zg 18 14 false (.call (.k (.fn (.func 181) [] [])) [.t 17]),Zg 19 14 false (.un .not (.t 18)),ZP 20 14 19] (.cond (.t 20) (Zq [Zi 4 0,Zt 5 false] .ret) .skip)) (Zq [Zv 21 0,Zv 22 1,Zb 23 .mul 21 22,Zv 4 23,Zt 5 true] .ret)))⟩
theorem Ju9:Jh prog f263=some K6e:=by kernel_rfl
def K53:Jl:= ⟨29,[.t 6,.t 7],(Zq [Zi 6 0,Zt 7 false] (Zq [Zv 13 1,Zv 14 2,Zc 15 308 [.t 13,.t 14],Zv 12 15,Ze 16 12 0,Ze 17 12 1,Zv 8 16,Zv 9 17] (Zq [Zv 19 0,Zv 20 8,Zc 21 271 [.t 19,.t 20],Zv 18 21,Ze 22 18 0,Ze 23 18 1,Zv 10 22,Zv 11 23] (Zq [Zv 24 10,Zv 25 9,Zv 26 25,Zg 27 26 true (.mv (.t 11)),ZQ 28 26 27,Zv 6 24,Zv 7 28] .ret))))⟩
theorem Jp6:Jh prog f274=some K53:=by kernel_rfl
def a182:Jl:= ⟨23,[.t 6,.t 7],(Zq [Zi 6 0,Zt 7 false] (Zq [Zv 11 1,Zv 12 2,Zc 13 263 [.t 11,.t 12],Zv 10 13,Ze 14 10 0,Ze 15 10 1,Zv 8 14,Zv 9 15] (.seq (Zq [Zv 16 9,ZN 17 16] (.cond (.t 17) (Zq [Zi 6 0,Zt 7 false] .ret) .skip)) (Zq [Zv 18 0,Zv 19 8,Zc 20 264 [.t 18,.t 19],Ze 21 20 0,Ze 22 20 1,Zv 6 21,Zv 7 22] .ret))))⟩
theorem Jmk:Jh prog f182=some a182:=by kernel_rfl
def K6s:Jl:= ⟨6,[.t 2],(Zq [Zt 2 false] (Zq [Zv 3 0,Zc 4 232 [.t 3],ZN 5 4,Zv 2 5] .ret))⟩
theorem Jr2:Jh prog f234=some K6s:=by kernel_rfl
def K5u:Jl:= ⟨25,[.t 4],(Zq [ZB 2 0,Zt 4 false] (Zq [Zv 5 1,Zc 6 102 [.t 5,(.k (.int .i64 0)),(.k (.int .i64 8))],Zv 7 6,Zg 8 7 true (.fld 1 (.t 2)),Zg 9 7 true (.ld false 1 (.t 8)),Zg 10 7 true (.len false (.t 9)),Zg 11 7 true (.mv (.t 1)),Zg 12 7 true (.bin .eql (.t 10) (.t 11)),ZQ 13 7 12,Zv 14 13,Zg 15 14 true (.fld 0 (.t 2)),Zg 16 14 true (.ld false 1 (.t 15)),Zg 17 14 true (.call (.k (.fn (.func 232) [] [])) [.t 16]),ZQ 18 14 17,Zv 19 18,Zg 20 19 true (.fld 1 (.t 2)),Zg 21 19 true (.ld false 1 (.t 20)),Zg 22 19 true (.call (.k (.fn (.func 233) [] [])) [.t 21,(.k (.fn (.func 234) [] []))]),Zg 23 19 true (.un .not (.t 22)),ZQ 24 19 23,Zv 4 24] .ret))⟩
theorem Jsw:Jh prog f146=some K5u:=by kernel_rfl
def K7a:Jl:= ⟨34,[.t 4],(Zq [ZB 2 0,Zt 4 false] (.seq (Zq [Zi 5 0] (.blk 0 (.loop (.seq (Zq [Zv 6 5,Zf 7 1 2,Zl 8 false 1 7,Zn 9 8,Zb 10 .lss 6 9] (Zw 10 0)) (.seq (.blk 1 (Zq [Zf 13 1 2,Zl 14 false 1 13,Zv 15 5,Zx 16 1 14 15,Zl 17 false 1 16,Zc 18 181 [.t 17],ZN 19 18] (.cond (.t 19) (Zq [Zt 4 false] .ret) .skip))) (.reg [Zv 11 5,Zk 12 .add 11 1,Zv 5 12])))))) (Zq [Zv 20 1,Zc 21 183 [.t 20,(.k (.int .i64 0)),(.k (.int .i64 8))],Zv 22 21,Zg 23 22 true (.fld 1 (.t 2)),Zg 24 22 true (.ld false 1 (.t 23)),Zg 25 22 true (.len false (.t 24)),Zg 26 22 true (.mv (.t 1)),Zg 27 22 true (.bin .eql (.t 25) (.t 26)),ZQ 28 22 27,Zv 29 28,Zg 30 29 true (.fld 0 (.t 2)),Zg 31 29 true (.ld false 1 (.t 30)),Zg 32 29 true (.call (.k (.fn (.func 181) [] [])) [.t 31]),ZQ 33 29 32,Zv 4 33] .ret)))⟩
theorem Jpi:Jh prog f179=some K7a:=by kernel_rfl
theorem J8q:Jh prog f233=some (Dz 292):=by kernel_rfl
theorem J8m:Jh prog f292=some (Bl false 1):=by kernel_rfl
def Kh(n lo hi:Int):Bool:=decide (lo<=n/\n<=hi)
def Kx(n:Int):Bool:=Kh n (-1000000000) 1000000000
theorem Oh{n:Int} : Kx n=true ↔ -1000000000<=n/\n<=1000000000:=by simp[Kx,Kh]
theorem Jds{x y:Int}(hx:Kx x=true)(hy:Kx y=true) : -1000000000000000000<=x*y/\x*y<=1000000000000000000:=by
 rw[Oh]at hx hy
 have h:(x*y).natAbs<=1000000000*1000000000:=by rw[Int.natAbs_mul];exact Nat.mul_le_mul (by omega) (by omega)
 omega
theorem O4(n lo hi:Int):Holds prog 102 [i64 n,i64 lo,i64 hi] (λr=>r = .bool (Kh n lo hi)):=by refine Jp func102 Jsh rfl (by simp[K60]) ?_;simp[K60];constructor <;>intro h <;>simp[Kh] <;>omega
theorem Gr(n:Int):Holds prog 232 [i64 n] (λr=>r = .bool (Kx n)):=by refine Jp func232 Jmu rfl (by simp[K78]) ?_;simp[K78];refine Je (O4 n (-1000000000) 1000000000) (by simp) ?_;rintro r rfl;simp;rfl
theorem Gb(n lo hi:Int):Holds prog 183 [i64 n,i64 lo,i64 hi] (λr=>r = .bool (Kh n lo hi)):=by refine Jp func183 Jms rfl (by simp[a183]) ?_;simp[a183];constructor <;>intro h <;>simp[Kh] <;>omega
theorem Hh(n:Int):Holds prog 181 [i64 n] (λr=>r = .bool (Kx n)):=by refine Jp func181 Jp1 rfl (by simp[K8s]) ?_;simp[K8s];refine Je (Gb n (-1000000000) 1000000000) (by simp) ?_;rintro r rfl;simp;rfl
def Uz(x y:Int):Int×Bool:=if Kx x&&Kx y&&Kx (x+y)then(x+y,true)else(0,false)
def Y1(x y:Int):Int×Bool:=if Kx x&&Kx y&&Kx (x*y)then(x*y,true)else(0,false)
def W5(p:Int×Bool):AV := .tup [i64 p.1,.bool p.2]
theorem J21(x y:Int):Holds prog 271 [i64 x,i64 y] (λr=>r=W5 (Uz x y)):=by
 refine Jp func271 Jt9 rfl (by simp[K7i]) ?_;simp[K7i,W5,Uz];refine Je (Gr x) (by simp) ?_;rintro r rfl;cases hx:Kx x
 ·simp
 simp;refine Je (Gr y) (by simp) ?_;rintro r rfl;cases hy:Kx y
 ·simp
 simp;rw[Oh]at hx hy;rw[Km (by omega)];refine Je (Gr (x+y)) (by simp) ?_;rintro r rfl;cases hz:Kx (x+y)
 ·simp
 ·simp;exact Km (by omega)
theorem J2g(x y:Int):Holds prog 308 [i64 x,i64 y] (λr=>r=W5 (Y1 x y)):=by
 refine Jp func308 Ju2 rfl (by simp[K7t]) ?_;simp[K7t,W5,Y1];refine Je (Gr x) (by simp) ?_;rintro r rfl;cases hx:Kx x
 ·simp
 simp;refine Je (Gr y) (by simp) ?_;rintro r rfl;cases hy:Kx y
 ·simp
 simp;have:=Jds hx hy;rw[Km (by omega)];refine Je (Gr (x*y)) (by simp) ?_;rintro r rfl;cases hz:Kx (x*y)
 ·simp
 ·simp;exact Km (by omega)
theorem J1b(x y:Int):Holds prog 264 [i64 x,i64 y] (λr=>r=W5 (Uz x y)):=by
 refine Jp func264 Jqp rfl (by simp[Ty]) ?_;simp[Ty,W5,Uz];refine Je (Hh x) (by simp) ?_;rintro r rfl;cases hx:Kx x
 ·simp
 simp;refine Je (Hh y) (by simp) ?_;rintro r rfl;cases hy:Kx y
 ·simp
 simp;rw[Oh]at hx hy;rw[Km (by omega)];refine Je (Hh (x+y)) (by simp) ?_;rintro r rfl;cases hz:Kx (x+y)
 ·simp
 ·simp;exact Km (by omega)
theorem J07(x y:Int):Holds prog 263 [i64 x,i64 y] (λr=>r=W5 (Y1 x y)):=by
 refine Jp func263 Ju9 rfl (by simp[K6e]) ?_;simp[K6e,W5,Y1];refine Je (Hh x) (by simp) ?_;rintro r rfl;cases hx:Kx x
 ·simp
 simp;refine Je (Hh y) (by simp) ?_;rintro r rfl;cases hy:Kx y
 ·simp
 simp;have:=Jds hx hy;rw[Km (by omega)];refine Je (Hh (x*y)) (by simp) ?_;rintro r rfl;cases hz:Kx (x*y)
 ·simp
 ·simp;exact Km (by omega)
def Om(x k y:Int):Int×Bool:=((Uz x (Y1 k y).1).1,(Y1 k y).2&&(Uz x (Y1 k y).1).2)
def Gs(x k y:Int):Int×Bool:=if (Y1 k y).2 then Uz x (Y1 k y).1 else(0,false)
theorem J5i(x k y:Int):Holds prog 274 [i64 x,i64 k,i64 y] (λr=>r=W5 (Om x k y)):=by refine Jp func274 Jp6 rfl (by simp[K53]) ?_;simp[K53];refine Je (J2g k y) (by simp) ?_;rintro r rfl;simp[W5];refine Je (J21 x (Y1 k y).1) (by simp) ?_;rintro r rfl;simp[W5,Om];cases(Y1 k y).2 <;>simp
theorem J5m(x k y:Int):Holds prog 182 [i64 x,i64 k,i64 y] (λr=>r=W5 (Gs x k y)):=by
 refine Jp func182 Jmk rfl (by simp[a182]) ?_;simp[a182];refine Je (J07 k y) (by simp) ?_;rintro r rfl;simp[W5,Gs];cases h:(Y1 k y).2
 ·simp
 simp;refine Je (J1b x (Y1 k y).1) (by simp) ?_;rintro r rfl;simp[W5]
def U3(x k y:Int):Option Int:=if (Y1 k y).2&&(Uz x (Y1 k y).1).2 then some (Uz x (Y1 k y).1).1 else Option.none
theorem J3l(x k y:Int):(Om x k y).2=(U3 x k y).isSome:=by unfold Om U3;split <;>simp_all
theorem J0s(x k y:Int):(Gs x k y).2=(U3 x k y).isSome:=by unfold Gs U3;cases(Y1 k y).2 <;>simp;cases h:(Uz x (Y1 k y).1).2 <;>simp
theorem J3q{x k y v:Int}(h:U3 x k y=some v):(Om x k y).1=v:=by unfold U3 at h;unfold Om;split at h <;>simp_all
theorem J3s{x k y v:Int}(h:U3 x k y=some v):(Gs x k y).1=v:=by unfold U3 at h;unfold Gs;split at h <;>simp_all
def K8(l:Jc)(n:Int):Bool:=Kh n 0 8&&decide ((l.Coeffs.length:Int)=n)&&Kx l.Const&&l.Coeffs.all Kx
theorem Jyq(n:Int):Holds prog 234 [i64 n] (λr=>r = .bool (!Kx n)):=by refine Jp func234 Jr2 rfl (by simp[K6s]) ?_;simp[K6s];refine Je (Gr n) (by simp) ?_;rintro r rfl;simp
theorem Ek{α:Type}(p:α->Bool)(l:List α):l.any (λx => !p x) = !l.all p:=by rw[List.all_eq_not_any_not,Bool.not_not]
theorem Jfq{h:J8}{n:Nat}{K:AV->J8->Nat->Prop}(l:List Int)(hK:K (.bool (!l.all Kx)) h n):X9 prog 233 [.sl 1 (Ji l),.fn (.func 234) [] []] h n K:=
 Bk (p:=λn => !Kx n) (rowOf:=λn=>[i64 n]) (eltOf:=i64) func233 J8q rfl func292 J8m rfl (λx=>by simp) l
  (λx _=>Nh (Jyq x) rfl rfl) (by rw[Ek];exact hK)
theorem Gz(l:Jc)(n:Int):Holds prog 146 [.agg (Jb l),i64 n] (λr=>r = .bool (K8 l n)):=by
 refine Jp func146 Jsw rfl (by simp[K5u]) ?_;simp[K5u,Jb];refine Je (O4 n 0 8) (by simp) ?_;rintro r rfl;unfold K8;cases h1:Kh n 0 8
 ·simp
 simp;intro _;by_cases h2:(l.Coeffs.length:Int)=n
 case neg=>simp[h2]
 simp[h2];refine Je (Gr l.Const) (by simp) ?_;rintro r rfl;cases h3:Kx l.Const
 ·simp
 simp;refine Jfq l.Coeffs ?_;simp
theorem Gj(l:Jc)(n:Int):Holds prog 179 [.agg (Jb l),i64 n] (λr=>r = .bool (K8 l n)):=by
 refine Vm func179 rfl rfl λhl=>?_
 simp[Jb]at hl;refine Jp func179 Jpi rfl (by simp[K7a]) ?_;simp[K7a,Jb];refine Jkq [1,2] 5 l.Coeffs.length (λi _=>(l.Coeffs.drop i).all Kx=l.Coeffs.all Kx) hl (by simp) (by simp) ?_ ?_
 ·intro i s hi hg hk s5 hw hJ;simp at hk;rw[drop_eq_getElem_cons hi,all_cons]at hJ;simp[hk,s5,hi];intro _;refine Je (Hh _) rfl ?_;rintro r rfl;cases h1:Kx l.Coeffs[i]
  ·have hJ:l.Coeffs.all Kx=false:=by rw[<-hJ,h1];rfl
   simp[K8,hJ]
  ·rw[h1,Bool.true_and]at hJ;simp[hk,s5,hw];exact hJ
 ·intro s hk s5 hJ;simp at hk hJ;simp[hk,s5];intro _;refine Je (Gb n 0 8) (by simp) ?_;rintro r rfl;unfold K8;cases h1:Kh n 0 8
  ·simp
  simp[hk];intro _;by_cases h2:(l.Coeffs.length:Int)=n
  case neg=>simp[h2]
  simp[h2];refine Je (Hh l.Const) (by simp) ?_;rintro r rfl;cases h3:Kx l.Const <;>simp
  exact hJ
def K71:Jl:= ⟨18,[(.c 4 true 2)],(Zq [ZR 4] (.seq (Zq [Zv 5 1,Zc 6 102 [.t 5,(.k (.int .i64 0)),(.k (.int .i64 8))],ZN 7 6,Zv 8 7,Zg 9 8 false (.mv (.t 0)),Zg 10 8 false (.call (.k (.fn (.func 232) [] [])) [.t 9]),Zg 11 8 false (.un .not (.t 10)),ZP 12 8 11] (.cond (.t 12) (Zq [Zo 13 (.build [(.int .i64 0),(.nil 1)] []),Zs 2 4 13] .ret) .skip)) (Zq [Zv 14 0,Zv 15 1,Zo 16 (.mks 8 [(.int .i64 0)] (.t 15) (.t 15)),Zo 17 (.build [(.int .i64 0),(.nil 1)] [(0,(1,(.t 14))),(1,(1,(.t 16)))]),Zs 2 4 17] .ret)))⟩
theorem Jns:Jh prog f178=some K71:=by kernel_rfl
def a99:Jl:= ⟨18,[(.c 4 true 2)],(Zq [ZR 4] (.seq (Zq [Zv 5 1,Zc 6 183 [.t 5,(.k (.int .i64 0)),(.k (.int .i64 8))],ZN 7 6,Zv 8 7,Zg 9 8 false (.mv (.t 0)),Zg 10 8 false (.call (.k (.fn (.func 181) [] [])) [.t 9]),Zg 11 8 false (.un .not (.t 10)),ZP 12 8 11] (.cond (.t 12) (Zq [Zo 13 (.build [(.int .i64 0),(.nil 1)] []),Zs 2 4 13] .ret) .skip)) (Zq [Zv 14 0,Zv 15 1,Zo 16 (.mks 8 [(.int .i64 0)] (.t 15) (.t 15)),Zo 17 (.build [(.int .i64 0),(.nil 1)] [(0,(1,(.t 14))),(1,(1,(.t 16)))]),Zs 2 4 17] .ret)))⟩
theorem Jz0:Jh prog f99=some a99:=by kernel_rfl
def K4z:Jl:= ⟨8,[.t 2],(Zq [Zz 2 1] (.seq (Zq [Zv 3 0,Zo 4 (.inil false (.t 3))] (.cond (.t 4) (Zq [Zz 2 1] .ret) .skip)) (Zq [Zo 5 (.bsl 1 []),Zv 6 0,ZA 7 8 1 5 6,Zv 2 7] .ret)))⟩
theorem Jtz:Jh prog f166=some K4z:=by kernel_rfl
def a86:Jl:= ⟨9,[(.c 2 true 2)],(Zq [ZB 1 0,ZR 2] (.seq (.draw (.op (Zf 3 0 1) (.op (Zl 4 false 1 3) (.op (Zf 5 1 1) (.op (Zl 6 false 1 5) (.op (Zc 7 166 [.t 6]) (.op (Zo 8 (.build [(.int .i64 0),(.nil 1)] [(0,(1,(.t 4))),(1,(1,(.t 7)))])) (.hop (Zs 2 2 8) [] .fin)))))))) .ret))⟩
theorem Jxc:Jh prog f86=some a86:=by kernel_rfl
def a82:Jl:= ⟨10,[(.c 2 true 2)],(Zq [ZB 1 0,ZR 2] (.seq (.draw (.op (Zf 3 0 1) (.op (Zl 4 false 1 3) (.op (Zf 6 1 1) (.op (Zl 7 false 1 6) (.hop (Zo 5 (.bsl 1 [])) [(.ld false 1 (.t 6)),(.fld 1 (.t 1)),(.ld false 1 (.t 3)),(.fld 0 (.t 1))] (.hop (ZA 8 8 1 5 7) [(.ld false 1 (.t 3)),(.fld 0 (.t 1))] (.op (Zo 9 (.build [(.int .i64 0),(.nil 1)] [(0,(1,(.t 4))),(1,(1,(.t 8)))])) (.hop (Zs 2 2 9) [] .fin))))))))) .ret))⟩
theorem Jzh:Jh prog f82=some a82:=by kernel_rfl
def K7d:Jl:= ⟨82,[(.c 6 true 2),.t 7],(Zq [ZB 3 0,ZB 5 2,ZR 6,Zt 7 false] (Zq [Zf 15 1 3,Zl 16 false 1 15,Zn 17 16,Zv 8 17] (.seq (Zq [Zl 18 true 2 3,Zv 19 8,Zc 20 146 [.t 18,.t 19],ZN 21 20,Zv 22 21,Zg 23 22 false (.ld true 2 (.t 5)),Zg 24 22 false (.mv (.t 8)),Zg 25 22 false (.call (.k (.fn (.func 146) [] [])) [.t 23,.t 24]),Zg 26 22 false (.un .not (.t 25)),ZP 27 22 26,Zv 28 27,Zg 29 28 false (.mv (.t 1)),Zg 30 28 false (.call (.k (.fn (.func 232) [] [])) [.t 29]),Zg 31 28 false (.un .not (.t 30)),ZP 32 28 31] (.cond (.t 32) (Zq [Zo 33 (.build [(.int .i64 0),(.nil 1)] []),Zs 2 6 33,Zt 7 false] .ret) .skip)) (Zq [Zv 34 8,Zc 35 178 [(.k (.int .i64 0)),.t 34],ZR 9,Zs 2 9 35] (Zq [Zf 37 0 3,Zl 38 false 1 37,Zv 39 1,Zf 40 0 5,Zl 41 false 1 40,Zc 42 274 [.t 38,.t 39,.t 41],Zv 36 42,Ze 43 36 0,Ze 44 36 1,Zv 10 43,Zv 11 44] (Zq [Zv 45 10,Zf 46 0 9,Zs 1 46 45] (.seq (Zq [Zf 47 1 3,Zl 48 false 1 47,Zn 49 48,Zi 50 0] (.blk 0 (.loop (Zq [Zb 51 .lss 50 49] (.seq (Zw 51 0) (.seq (.blk 1 (Zq [Zv 52 50,Zv 12 52] (.seq (.draw (.op (Zf 54 1 3) (.op (Zl 55 false 1 54) (.op (Zv 56 12) (.op (Zx 57 1 55 56) (.op (Zl 58 false 1 57) (.op (Zv 59 1) (.op (Zf 60 1 5) (.op (Zl 61 false 1 60) (.op (Zv 62 12) (.op (Zx 63 1 61 62) (.op (Zl 64 false 1 63) (.op (Zc 65 274 [.t 58,.t 59,.t 64]) (.op (Zv 53 65) (.op (Ze 66 53 0) (.op (Ze 67 53 1) (.op (Zv 13 66) (.op (Zv 14 67) .fin)))))))))))))))))) (Zq [Zf 68 1 9,Zl 69 false 1 68,Zv 70 12,Zv 71 13,Zx 72 1 69 70,Zs 1 72 71] (.reg [Zv 73 11,Zv 74 73,Zg 75 74 true (.mv (.t 14)),ZQ 76 74 75,Zv 11 76]))))) (.reg [Zk 77 .add 50 1,Zv 50 77]))))))) (.seq (Zq [Zv 78 11,ZN 79 78] (.cond (.t 79) (Zq [Zo 80 (.build [(.int .i64 0),(.nil 1)] []),Zs 2 6 80,Zt 7 false] .ret) .skip)) (Zq [Zl 81 true 2 9,Zs 2 6 81,Zt 7 true] .ret)))))))))⟩
theorem Jth:Jh prog f193=some K7d:=by kernel_rfl
def a98:Jl:= ⟨86,[(.c 6 true 2),.t 7],(Zq [ZB 3 0,ZB 5 2,ZR 6,Zt 7 false] (Zq [Zf 16 1 3,Zl 17 false 1 16,Zn 18 17,Zv 8 18] (.seq (Zq [Zl 19 true 2 3,Zv 20 8,Zc 21 179 [.t 19,.t 20],ZN 22 21,Zv 23 22,Zg 24 23 false (.ld true 2 (.t 5)),Zg 25 23 false (.mv (.t 8)),Zg 26 23 false (.call (.k (.fn (.func 179) [] [])) [.t 24,.t 25]),Zg 27 23 false (.un .not (.t 26)),ZP 28 23 27,Zv 29 28,Zg 30 29 false (.mv (.t 1)),Zg 31 29 false (.call (.k (.fn (.func 181) [] [])) [.t 30]),Zg 32 29 false (.un .not (.t 31)),ZP 33 29 32] (.cond (.t 33) (Zq [Zo 34 (.build [(.int .i64 0),(.nil 1)] []),Zs 2 6 34,Zt 7 false] .ret) .skip)) (Zq [Zv 35 8,Zo 36 (.mks 8 [(.int .i64 0)] (.t 35) (.t 35)),Zo 37 (.build [(.int .i64 0),(.nil 1)] [(1,(1,(.t 36)))]),ZR 9,Zs 2 9 37] (Zq [Zt 10 true] (.seq (Zq [Zi 11 0] (.blk 0 (.loop (.seq (Zq [Zv 38 11,Zv 39 8,Zb 40 .lss 38 39] (Zw 40 0)) (.seq (.blk 1 (.seq (.draw (.op (Zf 44 1 3) (.op (Zl 45 false 1 44) (.op (Zv 46 11) (.op (Zx 47 1 45 46) (.op (Zl 48 false 1 47) (.op (Zv 49 1) (.op (Zf 50 1 5) (.op (Zl 51 false 1 50) (.op (Zv 52 11) (.op (Zx 53 1 51 52) (.op (Zl 54 false 1 53) (.op (Zc 55 182 [.t 48,.t 49,.t 54]) (.op (Zv 43 55) (.op (Ze 56 43 0) (.op (Ze 57 43 1) (.op (Zv 12 56) (.op (Zv 13 57) .fin)))))))))))))))))) (Zq [Zf 58 1 9,Zl 59 false 1 58,Zv 60 11,Zv 61 12,Zx 62 1 59 60,Zs 1 62 61] (.reg [Zv 63 10,Zv 64 63,Zg 65 64 true (.mv (.t 13)),ZQ 66 64 65,Zv 10 66])))) (.reg [Zv 41 11,Zk 42 .add 41 1,Zv 11 42])))))) (Zq [Zf 68 0 3,Zl 69 false 1 68,Zv 70 1,Zf 71 0 5,Zl 72 false 1 71,Zc 73 182 [.t 69,.t 70,.t 72],Zv 67 73,Ze 74 67 0,Ze 75 67 1,Zv 14 74,Zv 15 75] (.seq (Zq [Zv 76 10,ZN 77 76,Zv 78 77,Zg 79 78 false (.mv (.t 15)),Zg 80 78 false (.un .not (.t 79)),ZP 81 78 80] (.cond (.t 81) (Zq [Zo 82 (.build [(.int .i64 0),(.nil 1)] []),Zs 2 6 82,Zt 7 false] .ret) .skip)) (Zq [Zv 83 14,Zf 84 0 9,Zs 1 84 83] (Zq [Zl 85 true 2 9,Zs 2 6 85,Zt 7 true] .ret))))))))))⟩
theorem Jza:Jh prog f98=some a98:=by kernel_rfl
def Jr(k n:Int):Jc:=if Kh n 0 8&&Kx k then⟨k,List.replicate n.toNat 0⟩else⟨0,[]⟩
@[simp] theorem J3a(m:Nat):Ji (List.replicate m 0)=List.replicate m [AV.int .i64 0]:=by simp[Ji]
@[simp] theorem Jzv(m:Nat):Wi (List.replicate m [AV.int .i64 0])=true:=by rw[<-J3a];exact J9c _
@[simp] theorem J71(l:List Int)(i:Nat)(v:Int):(Ji l).set i [AV.int .i64 v]=Ji (l.set i v):=by simp[Ji,List.map_set]
theorem On(k n:Int):Holds prog 178 [i64 k,i64 n] (λr=>r = .agg (Ja (Jr k n))):=by
 refine Jp func178 Jns rfl (by simp[K71]) ?_;simp[K71];refine Je (O4 n 0 8) (by simp) ?_;rintro r rfl;unfold Jr;cases h1:Kh n 0 8
 ·simp[Ja,Ji]
 simp;refine Je (Gr k) (by simp) ?_;rintro r rfl;cases h2:Kx k
 ·simp[Ja,Ji]
 have hn:0<=n/\n<=8:=by simpa[Kh]using h1
 obtain⟨m,rfl⟩:∃m:Nat,n=m:=⟨n.toNat,by omega⟩;simp[Ja];unfold Jd;omega
theorem Gi(k n:Int):Holds prog 99 [i64 k,i64 n] (λr=>r = .agg (Ja (Jr k n))):=by
 refine Jp func99 Jz0 rfl (by simp[a99]) ?_;simp[a99];refine Je (Gb n 0 8) (by simp) ?_;rintro r rfl;unfold Jr;cases h1:Kh n 0 8
 ·simp[Ja,Ji]
 simp;refine Je (Hh k) (by simp) ?_;rintro r rfl;cases h2:Kx k
 ·simp[Ja,Ji]
 have hn:0<=n/\n<=8:=by simpa[Kh]using h1
 obtain⟨m,rfl⟩:∃m:Nat,n=m:=⟨n.toNat,by omega⟩;simp[Ja];unfold Jd;omega
theorem Jci(l:List Int)(hl:l.length<=1048576):Holds prog 166 [.sl 1 (Ji l)] (λr=>r = .us 1 (Ji l)):=by refine Jp func166 Jtz rfl (by simp[K4z]) ?_;simp[K4z];unfold Jd;omega
theorem N2(x:Jc)(hl:x.Coeffs.length<=1048576):Holds prog 86 [.agg (Jb x)] (λr=>r = .agg (Ja x)):=by refine Jp func86 Jxc rfl (by simp[a86]) ?_;simp[a86,Jb];refine Jx (Jci x.Coeffs hl) (by simp) ?_;rintro r rfl;simp[Ja]
theorem Dw(x:Jc)(hl:x.Coeffs.length<=1048576):Holds prog 82 [.agg (Jb x)] (λr=>r = .agg (Ja x)):=by refine Jp func82 Jzh rfl (by simp[a82]) ?_;simp[a82,Jb,Ja];unfold Jd;omega
def Jj:Jc:=⟨0,[]⟩
def Ku:Option Jc->AV
 |some l=>.tup [.agg (Ja l),.bool true]
 |Option.none=>.tup [.agg (Ja Jj),.bool false]
theorem Xm(o:Option Jc):Ku o = .tup [.agg (Ja (o.getD Jj)),.bool o.isSome]:=by cases o <;>rfl
def U4(a:Jc)(k:Int)(b:Jc):List (Option Int):=List.zipWith (λx y=>U3 x k y) a.Coeffs b.Coeffs
def Dg(a:Jc)(k:Int)(b:Jc):Bool:=(U4 a k b).all Option.isSome
def K9(a:Jc)(k:Int)(b:Jc):Option Jc:=
 if K8 a a.Coeffs.length&&K8 b a.Coeffs.length&&Kx k&&(U3 a.Const k b.Const).isSome&&Dg a k b then
  some ⟨(U3 a.Const k b.Const).getD 0,(U4 a k b).map (·.getD 0)⟩
 else Option.none
theorem Wj{l:Jc}{n:Int}(h:K8 l n=true):(l.Coeffs.length:Int)=n/\0<=n/\n<=8:=by unfold K8 at h;simp[Kh]at h;omega
theorem J7d{a b:Jc}{k:Int}{vs:List Int}(hl:b.Coeffs.length=a.Coeffs.length)(hv:vs.length=a.Coeffs.length)(g:Int->Int->Int->Int)(hg:∀x y v,U3 x k y=some v->g x k y=v)
 (hj:∀j (h:j<a.Coeffs.length) (h':j<b.Coeffs.length),vs[j]? = some (g a.Coeffs[j] k b.Coeffs[j])) (hZ:(U4 a k b).all Option.isSome=true):vs=(U4 a k b).map (·.getD 0):=by
 refine List.ext_getElem (by simp[U4,hv,hl]) λj h1 h2=>?_
 have h3:j<a.Coeffs.length:=by omega
 have h4:j<b.Coeffs.length:=by omega
 have h5:=hj j h3 h4;rw[List.getElem?_eq_getElem h1]at h5;rw[Option.some.inj h5,List.getElem_map];have h6:(U4 a k b)[j]'(by simpa using h2)=U3 a.Coeffs[j] k b.Coeffs[j]:=by simp[U4]
 rw[h6];have h7:=List.all_eq_true.1 hZ _ (List.getElem_mem (by simpa using h2:j<(U4 a k b).length));rw[h6]at h7;obtain⟨v,hv'⟩:=Option.isSome_iff_exists.1 h7;rw[hg _ _ _ hv',hv'];rfl
set_option maxHeartbeats 1000000 in
theorem If(a:Jc)(k:Int)(b:Jc):Holds prog 193 [.agg (Jb a),i64 k,.agg (Jb b)] (λr=>r=Ku (K9 a k b)):=by
 refine Jp func193 Jth rfl (by simp[K7d]) ?_;simp[K7d,Jb];intro hlim;unfold K9;refine Je (Gz a a.Coeffs.length) (by simp[Jb]) ?_;rintro r rfl;cases h1:K8 a a.Coeffs.length
 ·simp[Ku,Jj,Ja,Ji]
 simp;refine Je (Gz b a.Coeffs.length) (by simp[Jb]) ?_;rintro r rfl;cases h2:K8 b a.Coeffs.length
 ·simp[Ku,Jj,Ja,Ji]
 simp;refine Je (Gr k) (by simp) ?_;rintro r rfl;cases h3:Kx k
 ·simp[Ku,Jj,Ja,Ji]
 simp;have hla:=Wj h1;have hlb:=Wj h2;have hl:b.Coeffs.length=a.Coeffs.length:=by omega
 have hc0:Jr 0 (a.Coeffs.length:Int)=⟨0,List.replicate a.Coeffs.length 0⟩:=by unfold Jr;rw[if_pos (by simp[Kh,Kx];omega)];simp
 refine Je (On 0 a.Coeffs.length) (by simp) ?_;rintro r rfl;rw[hc0];simp[Ja];refine Je (J5i a.Const k b.Const) (by simp) ?_;rintro r rfl;simp[W5];intro _;have hzl:(U4 a k b).length=a.Coeffs.length:=by simp[U4,hl]
 refine Ka [1,3,5,6,9,49] 50 a.Coeffs.length (λi s h n=>h 0=some ⟨true,2,[[.int .i64 a.Const,.sl 1 (Ji a.Coeffs)]]⟩/\h 1=some ⟨true,2,[[.int .i64 b.Const,.sl 1 (Ji b.Coeffs)]]⟩/\h 2=some ⟨true,2,[[.int .i64 0,.nil 1]]⟩ /\
  h 4=some ⟨true,2,[[.int .i64 (Om a.Const k b.Const).1,.ref 3 0 a.Coeffs.length]]⟩/\∃vs:List Int,h 3=some ⟨false,1,Ji vs⟩/\vs.length=a.Coeffs.length /\
  (∀j (h:j<a.Coeffs.length) (h':j<b.Coeffs.length),j<i->vs[j]? = some (Om a.Coeffs[j] k b.Coeffs[j]).1)/\s 11 = .bool ((U3 a.Const k b.Const).isSome&&((U4 a k b).take i).all Option.isSome))
  hlim (by simp) (by simp;exact⟨List.replicate a.Coeffs.length 0,by simp,by simp,by simp[J3l]⟩) ?_ ?_
 ·rintro i s h n R hi hg hk s50 hw ⟨e0,e1,e2,e4,vs,e3,hvl,hvs,s11⟩ hR _ _;simp at hk;have hib:i<b.Coeffs.length:=by omega
  have hiv:i<vs.length:=by omega
  have hiz:i<(U4 a k b).length:=by omega
  have hZi:(U4 a k b)[i]=U3 a.Coeffs[i] k b.Coeffs[i]:=by simp[U4]
  have hflag:((U3 a.Const k b.Const).isSome&&((U4 a k b).take (i+1)).all Option.isSome)=(((U3 a.Const k b.Const).isSome&&((U4 a k b).take i).all Option.isSome)&&(Om a.Coeffs[i] k b.Coeffs[i]).2):=by rw[List.take_succ_eq_append_getElem hiz,List.all_append,hZi,J3l];simp[Bool.and_assoc]
  have hvs':∀j (h:j<a.Coeffs.length) (h':j<b.Coeffs.length),j<i+1->(vs.set i (Om a.Coeffs[i] k b.Coeffs[i]).1)[j]? = some (Om a.Coeffs[j] k b.Coeffs[j]).1:=by
   intro j h h' hj;rw[List.getElem?_set];by_cases hji:i=j
   ·subst hji;simp[hiv]
   ·rw[if_neg hji];exact hvs j h h' (by omega)
  obtain⟨f,hf⟩:∃f,f=((U3 a.Const k b.Const).isSome&&((U4 a k b).take i).all Option.isSome):=⟨_,rfl⟩;rw[<-hf]at s11 hflag;cases f
  all_goals
   simp[hk,s50,hi,hib,e0,e1];refine Jx (J5i _ _ _) rfl ?_;rintro r rfl;simp[hk,s50,hi,hw,hiv,e3,e4,s11,W5];exact hR _ _ _ (by simp[hk]) (by simp) ⟨by simp[e0],by simp[e1],by simp[e2],by simp[e4],_,by simp,by simp[hvl],hvs',by rw[hflag];simp⟩
 ·rintro s h n R hk s50 ⟨e0,e1,e2,e4,vs,e3,hvl,hvs,s11⟩ hret hX;simp at hk;rw[take_of_length_le (by omega)]at s11;simp[hk,s50];refine hX _ _ _ _ ?_;cases hc:(U3 a.Const k b.Const).isSome
  ·rw[hc]at s11;simp at s11;simp[hk,s11,e2,Ku,Jj,Ja,Ji]
  rw[show(U4 a k b).all Option.isSome=Dg a k b from rfl]at s11;cases hz:Dg a k b
  ·rw[hc,hz]at s11;simp at s11;simp[hk,s11,e2,Ku,Jj,Ja,Ji]
  ·rw[hc,hz]at s11;simp at s11;obtain⟨v,hv⟩:=Option.isSome_iff_exists.1 hc;have hval:=J7d hl hvl (λx k y=>(Om x k y).1) (λx y v h=>J3q h) (λj h h'=>hvs j h h' h) hz;simp[hk,s11,e2,e3,e4,Ku,Ja,hvl];rw[<-hval,hv,J3q hv];simp[hvl,take_of_length_le]
set_option maxHeartbeats 1000000 in
theorem Vp(a:Jc)(k:Int)(b:Jc):Holds prog 98 [.agg (Jb a),i64 k,.agg (Jb b)] (λr=>r=Ku (K9 a k b)):=by
 refine Jp func98 Jza rfl (by simp[a98]) ?_;simp[a98,Jb];intro hlim;unfold K9;refine Je (Gj a a.Coeffs.length) (by simp[Jb]) ?_;rintro r rfl;cases h1:K8 a a.Coeffs.length
 ·simp[Ku,Jj,Ja,Ji]
 simp;refine Je (Gj b a.Coeffs.length) (by simp[Jb]) ?_;rintro r rfl;cases h2:K8 b a.Coeffs.length
 ·simp[Ku,Jj,Ja,Ji]
 simp;refine Je (Hh k) (by simp) ?_;rintro r rfl;cases h3:Kx k
 ·simp[Ku,Jj,Ja,Ji]
 simp;have hla:=Wj h1;have hlb:=Wj h2;have hl:b.Coeffs.length=a.Coeffs.length:=by omega
 have hzl:(U4 a k b).length=a.Coeffs.length:=by simp[U4,hl]
 refine⟨by unfold Jd;omega,?_⟩
 refine Ka [1,3,5,6,8,9] 11 a.Coeffs.length (λi s h n=>h 0=some ⟨true,2,[[.int .i64 a.Const,.sl 1 (Ji a.Coeffs)]]⟩/\h 1=some ⟨true,2,[[.int .i64 b.Const,.sl 1 (Ji b.Coeffs)]]⟩/\h 2=some ⟨true,2,[[.int .i64 0,.nil 1]]⟩ /\
  h 4=some ⟨true,2,[[.int .i64 0,.ref 3 0 a.Coeffs.length]]⟩/\∃vs:List Int,h 3=some ⟨false,1,Ji vs⟩/\vs.length=a.Coeffs.length /\
  (∀j (h:j<a.Coeffs.length) (h':j<b.Coeffs.length),j<i->vs[j]? = some (Gs a.Coeffs[j] k b.Coeffs[j]).1)/\s 10 = .bool (((U4 a k b).take i).all Option.isSome))
  hlim (by simp) (by simp;exact⟨List.replicate a.Coeffs.length 0,by simp,by simp⟩) ?_ ?_
 ·rintro i s h n R hi hg hk s11 hw ⟨e0,e1,e2,e4,vs,e3,hvl,hvs,s10⟩ hR _ _;simp at hk;have hib:i<b.Coeffs.length:=by omega
  have hiv:i<vs.length:=by omega
  have hiz:i<(U4 a k b).length:=by omega
  have hZi:(U4 a k b)[i]=U3 a.Coeffs[i] k b.Coeffs[i]:=by simp[U4]
  have hflag:(((U4 a k b).take (i+1)).all Option.isSome)=((((U4 a k b).take i).all Option.isSome)&&(Gs a.Coeffs[i] k b.Coeffs[i]).2):=by rw[List.take_succ_eq_append_getElem hiz,List.all_append,hZi,J0s];simp
  have hvs':∀j (h:j<a.Coeffs.length) (h':j<b.Coeffs.length),j<i+1->(vs.set i (Gs a.Coeffs[i] k b.Coeffs[i]).1)[j]? = some (Gs a.Coeffs[j] k b.Coeffs[j]).1:=by
   intro j h h' hj;rw[List.getElem?_set];by_cases hji:i=j
   ·subst hji;simp[hiv]
   ·rw[if_neg hji];exact hvs j h h' (by omega)
  obtain⟨f,hf⟩:∃f,f=(((U4 a k b).take i).all Option.isSome):=⟨_,rfl⟩;rw[<-hf]at s10 hflag;cases f
  all_goals
   simp[hk,s11,hi,hib,e0,e1];refine Jx (J5m _ _ _) rfl ?_;rintro r rfl;simp[hk,s11,hi,hw,hiv,e3,e4,s10,W5];exact hR _ _ _ (by simp[hk]) (by simp) ⟨by simp[e0],by simp[e1],by simp[e2],by simp[e4],_,by simp,by simp[hvl],hvs',by rw[hflag];simp⟩
 ·rintro s h n R hk s11 ⟨e0,e1,e2,e4,vs,e3,hvl,hvs,s10⟩ hret hX;simp at hk;rw[take_of_length_le (by omega),show(U4 a k b).all Option.isSome=Dg a k b from rfl]at s10;simp[hk,s11];refine hX _ _ _ _ ?_;cases hz:Dg a k b
  ·rw[hz]at s10;simp[hk,e0,e1];refine Je (J5m _ _ _) rfl ?_;rintro r rfl;simp[hk,s10,e2,e4,W5,Ku,Jj,Ja,Ji]
  ·rw[hz]at s10;have hval:=J7d hl hvl (λx k y=>(Gs x k y).1) (λx y v h=>J3s h) (λj h h'=>hvs j h h' h) hz;simp[hk,e0,e1];refine Je (J5m _ _ _) rfl ?_;rintro r rfl;cases hc:(U3 a.Const k b.Const).isSome
   ·have hc':(Gs a.Const k b.Const).2=false:=by rw[J0s,hc]
    simp[hk,s10,e2,W5,hc',Ku,Jj,Ja,Ji]
   ·have hc':(Gs a.Const k b.Const).2=true:=by rw[J0s,hc]
    obtain⟨v,hv⟩:=Option.isSome_iff_exists.1 hc;simp[hk,s10,e2,e3,e4,W5,hc',Ku,Ja,hvl];rw[<-hval,hv,J3s hv];simp[hvl,take_of_length_le]
theorem J8p:Jh prog f144=some (Dz 231):=by kernel_rfl
theorem J8l:Jh prog f231=some (Bl true 2):=by kernel_rfl
def K64:Jl:= ⟨8,[.t 3],(Zq [ZB 2 0,Zt 3 false] (Zq [Zl 4 true 2 2,Zl 5 false 1 1,Zc 6 146 [.t 4,.t 5],ZN 7 6,Zv 3 7] .ret))⟩
theorem Jq9:Jh prog f307=some K64:=by kernel_rfl
def Ph:Jl:= ⟨57,[(.c 4 true 2),.t 5],(Zq [ZB 2 0,ZR 4,Zt 5 false] (Zq [Zo 6 (.box [(.int .i64 0)]),⟨no,.st 1 (.t 6) (.k (.int .i64 0)),no⟩] (.seq (Zq [Zv 11 1,Zn 12 11,Zk 13 .gtr 12 0] (.cond (.t 13) (.reg [Zv 14 1,Zo 15 (.ixa 2 (.t 14) (.k (.int .i64 0))),Zf 16 1 15,Zl 17 false 1 16,Zn 18 17,Zs 1 6 18]) .skip)) (.seq (Zq [Zl 19 true 2 2,Zv 20 1,Zn 21 20,Zc 22 146 [.t 19,.t 21],ZN 23 22,Zv 24 23,Zg 25 24 false (.mv (.t 1)),Zg 26 24 false (.mkf (.func 307) [] [.t 6]),Zg 27 24 false (.call (.k (.fn (.func 144) [] [])) [.t 25,.t 26]),ZP 28 24 27] (.cond (.t 28) (Zq [Zo 29 (.build [(.int .i64 0),(.nil 1)] []),Zs 2 4 29,Zt 5 false] .ret) .skip)) (Zq [Zf 30 0 2,Zl 31 false 1 30,Zl 32 false 1 6,Zc 33 178 [.t 31,.t 32],ZR 7,Zs 2 7 33] (Zq [Zt 8 true] (.seq (Zq [Zv 34 1,Zn 35 34,Zi 36 0] (.blk 0 (.loop (Zq [Zb 37 .lss 36 35] (.seq (Zw 37 0) (.seq (.blk 1 (Zq [Zv 38 36,Zx 39 2 34 36,Zl 40 true 2 39,ZR 10,Zv 9 38,Zs 2 10 40] (.seq (.draw (.op (Zl 42 true 2 7) (.op (Zf 43 1 2) (.op (Zl 44 false 1 43) (.op (Zv 45 9) (.op (Zx 46 1 44 45) (.op (Zl 47 false 1 46) (.op (Zl 48 true 2 10) (.op (Zc 49 193 [.t 42,.t 47,.t 48]) (.op (Zv 41 49) (.op (Ze 50 41 0) (.op (Ze 51 41 1) (.hop (Zs 2 7 50) [] (.op (Zv 8 51) .fin)))))))))))))) (Zq [Zv 52 8,ZN 53 52] (.cond (.t 53) (Zq [Zo 54 (.build [(.int .i64 0),(.nil 1)] []),Zs 2 4 54,Zt 5 false] .ret) .skip))))) (.reg [Zk 55 .add 36 1,Zv 36 55]))))))) (Zq [Zl 56 true 2 7,Zs 2 4 56,Zt 5 true] .ret))))))))⟩
theorem Jdd:Jh prog f272=some Ph:=by kernel_rfl
def Mw:Jl:= ⟨60,[(.c 4 true 2),.t 5],(Zq [ZB 2 0,ZR 4,Zt 5 false] (Zq [Zi 6 0] (.seq (Zq [Zv 11 1,Zn 12 11,Zk 13 .gtr 12 0] (.cond (.t 13) (.reg [Zv 14 1,Zo 15 (.ixa 2 (.t 14) (.k (.int .i64 0))),Zf 16 1 15,Zl 17 false 1 16,Zn 18 17,Zv 6 18]) .skip)) (Zq [Zf 19 0 2,Zl 20 false 1 19,Zv 21 6,Zc 22 99 [.t 20,.t 21],ZR 7,Zs 2 7 22] (.seq (Zq [Zl 23 true 2 2,Zv 24 1,Zn 25 24,Zc 26 179 [.t 23,.t 25],ZN 27 26,Zv 28 27,Zg 29 28 false (.ld true 2 (.t 7)),Zg 30 28 false (.mv (.t 6)),Zg 31 28 false (.call (.k (.fn (.func 179) [] [])) [.t 29,.t 30]),Zg 32 28 false (.un .not (.t 31)),ZP 33 28 32] (.cond (.t 33) (Zq [Zo 34 (.build [(.int .i64 0),(.nil 1)] []),Zs 2 4 34,Zt 5 false] .ret) .skip)) (.seq (Zq [Zi 8 0] (.blk 0 (.loop (.seq (Zq [Zv 35 8,Zv 36 1,Zn 37 36,Zb 38 .lss 35 37] (Zw 38 0)) (.seq (.blk 1 (.seq (.draw (.op (Zl 42 true 2 7) (.op (Zf 43 1 2) (.op (Zl 44 false 1 43) (.op (Zv 45 8) (.op (Zx 46 1 44 45) (.op (Zl 47 false 1 46) (.op (Zv 48 1) (.op (Zv 49 8) (.op (Zx 50 2 48 49) (.op (Zl 51 true 2 50) (.both (.op (Zc 52 98 [.t 42,.t 47,.t 51]) (.op (Zv 41 52) (.op (Ze 53 41 0) (.op (Ze 54 41 1) (.op (ZR 9) (.hop (Zs 2 9 53) [] (.op (Zv 10 54) .fin))))))) (.op (ZR 9) (.op (Zc 52 98 [.t 42,.t 47,.t 51]) (.op (Zv 41 52) (.op (Ze 53 41 0) (.op (Ze 54 41 1) (.hop (Zs 2 9 53) [] (.op (Zv 10 54) .fin))))))))))))))))))) (.seq (Zq [Zv 55 10,ZN 56 55] (.cond (.t 56) (Zq [Zo 57 (.build [(.int .i64 0),(.nil 1)] []),Zs 2 4 57,Zt 5 false] .ret) .skip)) (.reg [Zl 58 true 2 9,Zs 2 7 58])))) (.reg [Zv 39 8,Zk 40 .add 39 1,Zv 8 40])))))) (Zq [Zl 59 true 2 7,Zs 2 4 59,Zt 5 true] .ret)))))))⟩
theorem Jeb:Jh prog f269=some Mw:=by kernel_rfl
def Q2:List (Int×Jc)->Jc->Option Jc
 | [],o=>some o
 |p::l,o=>match K9 o p.1 p.2 with
  |some o'=>Q2 l o'
  |Option.none=>Option.none
def Ql(args:List Jc):Nat:=match args with | []=>0|a::_=>a.Coeffs.length
def Vq(l:Jc)(args:List Jc):Option Jc:=
 if K8 l args.length&&K8 (Jr l.Const (Ql args)) (Ql args)then Q2 (l.Coeffs.zip args) (Jr l.Const (Ql args))else Option.none
theorem Mx{a b o:Jc}{k:Int}(h:K9 a k b=some o):o.Coeffs.length=a.Coeffs.length/\K8 b a.Coeffs.length=true:=by
 unfold K9 at h;split at h
 ·rename_i hc;simp only[Bool.and_eq_true]at hc;have h1:=Wj hc.1.1.1.1;have h2:=Wj hc.1.1.1.2;cases h;refine⟨?_,hc.1.1.1.2⟩;simp[U4];omega
 ·cases h
theorem J59{n:Nat} : ∀(l:List (Int×Jc)) (o:Jc),o.Coeffs.length=n->(∃p∈l,K8 p.2 n=false)->Q2 l o=Option.none
 | [],o,_,h=>by obtain⟨p,hp,_⟩:=h;cases hp
 |q::l,o,hn,h=>by
  obtain⟨p,hp,hb⟩:=h;simp only[Q2];split
  ·rename_i o' ho;obtain⟨h1,h2⟩:=Mx ho;rcases List.mem_cons.1 hp with rfl|hp
   ·rw[hn,hb]at h2;cases h2
   ·exact J59 l o' (by omega) ⟨p,hp,hb⟩
  ·rfl
theorem F3{c:Int}{n:Nat}(hc:Kx c=true)(hn:(n:Int)<=8):Jr c n=⟨c,List.replicate n 0⟩/\K8 (Jr c n) n=true:=by
 have h:Jr c n=⟨c,List.replicate n 0⟩:=by unfold Jr;rw[if_pos (by simp[Kh,hc];omega)];simp
 refine⟨h,?_⟩;rw[h];simp[K8,Kh,hc,hn];right;decide
theorem Th{l:Jc}{n:Int}(h:K8 l n=true):Kx l.Const=true:=by unfold K8 at h;simp only[Bool.and_eq_true]at h;exact h.1.2
theorem J2z{l:Jc}{args:List Jc}(h1:K8 l args.length=true):Vq l args=if args.all (λa=>K8 a (Ql args))then Q2 (l.Coeffs.zip args) (Jr l.Const (Ql args))else Option.none:=by
 unfold Vq;rw[h1,Bool.true_and];have hl:=Wj h1;cases h2:args.all (λa=>K8 a (Ql args))
 ·simp only[Bool.false_eq_true,if_false];split
  ·rename_i h3;have h3':=Wj h3;rw[List.all_eq_false]at h2;obtain⟨a,ha,hb⟩:=h2;obtain⟨i,hi,rfl⟩:=List.mem_iff_getElem.1 ha;refine J59 (n:=Ql args) _ _ (by omega) ⟨(l.Coeffs[i]'(by omega),args[i]),List.mem_iff_getElem.2 ⟨i,by simp;omega,by simp⟩,by simpa using hb⟩
  ·rfl
 ·have hn:((Ql args:Nat):Int)<=8:=by
   cases args with
   |nil=>simp[Ql]
   |cons a rest=>
    simp only[all_cons,Bool.and_eq_true]at h2;exact(Wj h2.1).2.2
  rw[if_pos (F3 (Th h1) hn).2,if_pos rfl]
theorem Jcd{h:J8}{n id:Nat}{v:Int}(x:Jc)(hv:h id=some ⟨true,1,[[i64 v]]⟩)(hid:id<n):Dt prog 307 [] [.ptr id 0 0] h n (.agg (Jb x)) (.bool (!K8 x v)):=by
 intro K hK;refine Cr ?_;refine U8 func307 Jq9 rfl (by simp[K64]) ?_;have n1:¬id=n:=by omega
 simp[K64,hv,n1,Jb];refine Je (Gz x v) (by simp[Jb]) ?_;rintro r rfl;simp[Vk,hK];intro j hj hj';omega
set_option maxHeartbeats 1000000 in
theorem J2o(l:Jc)(args:List Jc):Holds prog 272 [.agg (Jb l),.sl 2 (args.map Jb)] (λr=>r=Ku (Vq l args)):=by
 refine Vm func272 rfl rfl λhlm=>?_
 simp[Jb]at hlm
 have hN:(args.length=0/\Ql args=0)\/∃hz:0<args.length,Ql args=(args[0]'hz).Coeffs.length:=by
  cases args with
  |nil=>exact .inl ⟨rfl,rfl⟩
  |cons a rest=>exact .inr ⟨by simp,rfl⟩
 rcases hN with ⟨hz,hN⟩|⟨hz,hN⟩
 ·refine Jp func272 Jdd rfl (by simp[Ph]) ?_;simp[Ph,Jb];simp[hz];intro hnil;subst hnil;refine Je (Gz l 0) (by simp[Jb]) ?_;rintro r rfl;cases h1:K8 l 0
  ·have e:Vq l []=Option.none:=by simp[Vq,h1]
   simp[e,Ku,Jj,Ja,Ji]
  have e:Vq l []=some (Jr l.Const 0):=by rw[J2z h1];simp[Ql,Q2]
  rw[e];simp;refine Bk (p:=λx => !K8 x 0) (rowOf:=Jb) (eltOf:=λx=>.agg (Jb x)) func144 J8p rfl func231 J8l rfl (λx=>by simp) [] (λx hx=>by cases hx) ?_;simp;refine Je (On l.Const 0) (by simp) ?_;rintro r rfl;simp[Ja];refine O7 [4,5,7,35] 36 0 (λi s=>True) (by decide) (by simp) trivial ?_ ?_
  ·intro i s h R hi;omega
  ·rintro s h R hk s36 _ hh _ hX;simp at hk hh;simp[hk,s36];refine hX _ _ ?_;simp[hk,Ku,Ja]
 ·refine Jp func272 Jdd rfl (by simp[Ph]) ?_;simp[Ph,Jb];have hne:¬args=[]:=by rintro rfl;simp at hz
  simp[hz,hne,Jb];intro _ _ _;refine Je (Gz l args.length) (by simp[Jb]) ?_;rintro r rfl;cases h1:K8 l args.length
  ·have e:Vq l args=Option.none:=by simp[Vq,h1]
   simp[e,Ku,Jj,Ja,Ji]
  rw[J2z h1,hN];generalize hc3:(args.all λx=>K8 x (args[0].Coeffs.length:Int))=b3;have hla:=Wj h1;simp;refine Bk (p:=λx => !K8 x (args[0].Coeffs.length:Int)) (rowOf:=Jb) (eltOf:=λx=>.agg (Jb x)) func144 J8p rfl func231 J8l rfl (λx=>by simp) args (λx _=>Jcd x (by simp[i64]) (by omega)) ?_;rw[Ek (λx:Jc=>K8 x (args[0].Coeffs.length:Int)),hc3];cases b3
  ·simp[Ku,Jj,Ja,Ji]
  simp;refine Je (On l.Const (args[0].Coeffs.length:Int)) (by simp) ?_;rintro r rfl;simp[Ja];intro _;have hzl:(l.Coeffs.zip args).length=args.length:=by simp;omega
  generalize hG:Q2 (l.Coeffs.zip args) (Jr l.Const (args[0].Coeffs.length:Int))=G
  refine Ka [1,2,4,7,34,35] 36 args.length (λi s h n=>h 0=some ⟨true,2,[[.int .i64 l.Const,.sl 1 (Ji l.Coeffs)]]⟩/\h 1=some ⟨true,2,[[.int .i64 0,.nil 1]]⟩/\4<n /\
   ∃(o:Jc) (id:Nat),h 4=some ⟨true,2,[[.int .i64 o.Const,.ref id 0 o.Coeffs.length]]⟩/\h id=some ⟨false,1,Ji o.Coeffs⟩/\id<n/\(id=3\/4<id)/\Q2 ((l.Coeffs.zip args).drop i) o=G)
   hlm.2 (by simp) ⟨by simp,by simp,by simp,Jr l.Const (args[0].Coeffs.length:Int),3,by simp,by simp,by omega,by omega,by simpa using hG⟩ ?_ ?_
  ·rintro i s h n R hi hg hk s36 hw ⟨e0,e1,hn,o,id,e4,eid,hidn,hid,hJ⟩ hR hret _;simp at hk;have hir:i<l.Coeffs.length:=by omega
   rw[drop_eq_getElem_cons (by omega:i<(l.Coeffs.zip args).length)]at hJ;simp only[Q2,List.getElem_zip]at hJ;have n0:¬0=n:=by omega
   have n1:¬1=n:=by omega
   have n4:¬4=n:=by omega
   have n4':¬n=4:=by omega
   have nid:¬id=n:=by omega
   simp[hk,s36,hi,hir,e0,e4,n0,n4];refine⟨by simp[Jb],?_⟩;have m0:¬0=n+1:=by omega
   have m1:¬1=n+1:=by omega
   have m4:¬4=n+1:=by omega
   have m4':¬n+1=4:=by omega
   have m3':¬n=3:=by omega
   have z0:¬n=0:=by omega
   refine Jx (If o (l.Coeffs[i]'hir) (args[i]'hi)) (by simp[Jb,eid,nid]) ?_;rintro r rfl;cases ho:K9 o l.Coeffs[i] args[i]
   ·rw[ho]at hJ;simp[Ku,Jj,Ja,hk,e1,e4,n1,n4,m4,z0];refine hret _ _ _ ?_;simp[hk,<-hJ,Ku,Jj,Ja,Ji]
   ·rename_i o';rw[ho]at hJ;simp only at hJ;simp[Ku,Ja,hk,s36,hw,e4,n4,m4];exact hR _ _ _ (by simp[hk]) (by simp) ⟨by simp[e0,n0],by simp[e1,n1,z0],by omega,o',n+1,by simp,by simp[m3'],by omega,by omega,hJ⟩
  ·rintro s h n R hk s36 ⟨e0,e1,hn,o,id,e4,eid,hidn,hid,hJ⟩ hret hX;simp at hk;rw[drop_eq_nil_of_le (by omega)]at hJ;simp only[Q2]at hJ;simp[hk,s36];refine hX _ _ _ _ ?_;have i1:¬1=id:=by omega
   have i1':¬id=1:=by omega
   simp[hk,e1,e4,eid,<-hJ,Ku,Ja,i1']
set_option maxHeartbeats 1000000 in
theorem J20(l:Jc)(args:List Jc):Holds prog 269 [.agg (Jb l),.sl 2 (args.map Jb)] (λr=>r=Ku (Vq l args)):=by
 refine Vm func269 rfl rfl λhlm=>?_
 simp[Jb]at hlm
 have hN:(args.length=0/\Ql args=0)\/∃hz:0<args.length,Ql args=(args[0]'hz).Coeffs.length:=by
  cases args with
  |nil=>exact .inl ⟨rfl,rfl⟩
  |cons a rest=>exact .inr ⟨by simp,rfl⟩
 rcases hN with ⟨hz,hN⟩|⟨hz,hN⟩
 ·refine Jp func269 Jeb rfl (by simp[Mw]) ?_;simp[Mw,Jb];simp[hz];intro hnil;subst hnil;refine Je (Gi l.Const 0) (by simp) ?_;rintro r rfl;simp[Ja];refine Je (Gj l 0) (by simp[Jb]) ?_;rintro r rfl;cases h1:K8 l 0
  ·have e:Vq l []=Option.none:=by simp[Vq,h1]
   simp[e,Ku,Jj,Ja,Ji]
  have e:Vq l []=some (Jr l.Const 0):=by rw[J2z h1];simp[Ql,Q2]
  rw[e];simp;refine Je (Gj (Jr l.Const 0) 0) (by simp[Jb]) ?_;rintro r rfl;have h2:=(F3 (n:=0) (Th h1) (by decide)).2;rw[show((0:Nat):Int)=0 from rfl]at h2;simp[h2];refine O7 [1,4,5,6,7] 8 0 (λi s=>True) (by decide) (by simp) trivial ?_ ?_
  ·intro i s h R hi;omega
  ·rintro s h R hk s8 _ hh _ hX;simp at hk hh;simp[hk,s8,hh];refine hX _ _ ?_;simp[hk,Ku,Ja]
 ·refine Jp func269 Jeb rfl (by simp[Mw]) ?_;simp[Mw,Jb];have hne:¬args=[]:=by rintro rfl;simp at hz
  simp[hz,hne,Jb];intro _ _;refine Je (Gi l.Const (args[0].Coeffs.length:Int)) (by simp) ?_;rintro r rfl;simp[Ja];intro _;refine Je (Gj l args.length) (by simp[Jb]) ?_;rintro r rfl;cases h1:K8 l args.length
  ·have e:Vq l args=Option.none:=by simp[Vq,h1]
   simp[e,Ku,Jj,Ja,Ji]
  have e:Vq l args=if K8 (Jr l.Const (args[0].Coeffs.length:Int)) (args[0].Coeffs.length:Int)then Q2 (l.Coeffs.zip args) (Jr l.Const (args[0].Coeffs.length:Int))else Option.none:=by unfold Vq;rw[h1,hN,Bool.true_and]
  rw[e];have hla:=Wj h1;simp;refine Je (Gj (Jr l.Const (args[0].Coeffs.length:Int)) (args[0].Coeffs.length:Int)) (by simp[Jb]) ?_;rintro r rfl;generalize hc3:K8 (Jr l.Const (args[0].Coeffs.length:Int)) (args[0].Coeffs.length:Int)=b3;cases b3
  ·simp[Ku,Jj,Ja,Ji]
  simp;have hzl:(l.Coeffs.zip args).length=args.length:=by simp;omega
  generalize hG:Q2 (l.Coeffs.zip args) (Jr l.Const (args[0].Coeffs.length:Int))=G
  refine Ka [1,2,4,6,7] 8 args.length (λi s h n=>h 0=some ⟨true,2,[[.int .i64 l.Const,.sl 1 (Ji l.Coeffs)]]⟩/\h 1=some ⟨true,2,[[.int .i64 0,.nil 1]]⟩/\3<n /\
   ∃(o:Jc) (id:Nat),h 3=some ⟨true,2,[[.int .i64 o.Const,.ref id 0 o.Coeffs.length]]⟩/\h id=some ⟨false,1,Ji o.Coeffs⟩/\id<n/\(id=2\/3<id)/\Q2 ((l.Coeffs.zip args).drop i) o=G)
   hlm.2 (by simp) ⟨by simp,by simp,by simp,Jr l.Const (args[0].Coeffs.length:Int),2,by simp,by simp,by omega,by omega,by simpa using hG⟩ ?_ ?_
  ·rintro i s h n R hi hg hk s8 hw ⟨e0,e1,hn,o,id,e3,eid,hidn,hid,hJ⟩ hR hret _;simp at hk;have hir:i<l.Coeffs.length:=by omega
   rw[drop_eq_getElem_cons (by omega:i<(l.Coeffs.zip args).length)]at hJ;simp only[Q2,List.getElem_zip]at hJ;have n0:¬0=n:=by omega
   have n1:¬1=n:=by omega
   have n3:¬3=n:=by omega
   have n3':¬n=3:=by omega
   have nid:¬id=n:=by omega
   have m0:¬0=n+1:=by omega
   have m1:¬1=n+1:=by omega
   have m3:¬3=n+1:=by omega
   have m3':¬n+1=3:=by omega
   have mid:¬id=n+1:=by omega
   have z0:¬n=0:=by omega
   have z2:¬n=2:=by omega
   simp[hk,s8,hi,hir,e0,e3];intro _;constructor
   ·skip;refine Jx (Vp o (l.Coeffs[i]'hir) (args[i]'hi)) (by simp[Jb,eid]) ?_;rintro r rfl;cases ho:K9 o l.Coeffs[i] args[i]
    ·rw[ho]at hJ;simp[Ku,Jj,Ja,hk,e1,n1,z0];refine hret _ _ _ ?_;simp[hk,<-hJ,Ku,Jj,Ja,Ji]
    ·rename_i o';rw[ho]at hJ;simp only at hJ;simp[Ku,Ja,hk,s8,hw,e3,n3,z2];exact hR _ _ _ (by simp[hk]) (by simp) ⟨by simp[e0,n0],by simp[e1,n1,z0],by omega,o',n,by simp,by simp[n3'],by omega,by omega,hJ⟩
   ·skip;refine Jx (Vp o (l.Coeffs[i]'hir) (args[i]'hi)) (by simp[Jb,eid,nid]) ?_;rintro r rfl;cases ho:K9 o l.Coeffs[i] args[i]
    ·rw[ho]at hJ;simp[Ku,Jj,Ja,hk,e1,n1,z0];refine hret _ _ _ ?_;simp[hk,<-hJ,Ku,Jj,Ja,Ji]
    ·rename_i o';rw[ho]at hJ;simp only at hJ;simp[Ku,Ja,hk,s8,hw,e3,n3,z2];exact hR _ _ _ (by simp[hk]) (by simp) ⟨by simp[e0,n0],by simp[e1,n1,z0],by omega,o',n+1,by simp,by simp[z2],by omega,by omega,hJ⟩
  ·rintro s h n R hk s8 ⟨e0,e1,hn,o,id,e3,eid,hidn,hid,hJ⟩ hret hX;simp at hk;rw[drop_eq_nil_of_le (by omega)]at hJ;simp only[Q2]at hJ;simp[hk,s8];intro _;refine hX _ _ _ _ ?_;have i1:¬1=id:=by omega
   have i1':¬id=1:=by omega
   simp[hk,e1,e3,eid,<-hJ,Ku,Ja,i1']
theorem J4q:∀(l:List (Int×Jc)) (o r:Jc),Q2 l o=some r->r.Coeffs.length=o.Coeffs.length
 | [],o,r,h=>by cases h;rfl
 |p::l,o,r,h=>by
  simp only[Q2]at h;split at h
  ·rename_i o' ho;rw[J4q l o' r h,(Mx ho).1]
  ·cases h
theorem J2c(c:Int)(n:Int):(Jr c n).Coeffs.length<=8:=by
 unfold Jr;split
 ·rename_i h;simp[Kh]at h;simp;omega
 ·simp
theorem Jf0(l:Jc)(args:List Jc):F0 ((Vq l args).getD Jj)<=8:=by
 unfold F0;rw[Ea]
 cases h:Vq l args with
 |none=>simp[Jj]
 |some r=>
  unfold Vq at h;split at h
  ·simp[J4q _ _ _ h,J2c]
  ·cases h
def K44:Jl:= ⟨32,[(.c 4 true 2),.t 5],(Zq [ZB 2 0,ZR 4,Zt 5 false] (Zq [Zf 10 0 2,Zl 11 false 1 10,Zv 12 1,Zc 13 271 [.t 11,.t 12],Zv 9 13,Ze 14 9 0,Ze 15 9 1,Zv 6 14,Zv 7 15] (.seq (Zq [Zv 16 7,ZN 17 16,Zv 18 17,Zg 19 18 false (.ld true 2 (.t 2)),Zg 20 18 false (.fld 1 (.t 2)),Zg 21 18 false (.ld false 1 (.t 20)),Zg 22 18 false (.len false (.t 21)),Zg 23 18 false (.call (.k (.fn (.func 146) [] [])) [.t 19,.t 22]),Zg 24 18 false (.un .not (.t 23)),ZP 25 18 24] (.cond (.t 25) (Zq [Zo 26 (.build [(.int .i64 0),(.nil 1)] []),Zs 2 4 26,Zt 5 false] .ret) .skip)) (Zq [Zl 27 true 2 2,Zc 28 86 [.t 27],ZR 8,Zs 2 8 28] (Zq [Zv 29 6,Zf 30 0 8,Zs 1 30 29] (Zq [Zl 31 true 2 8,Zs 2 4 31,Zt 5 true] .ret))))))⟩
theorem Jn9:Jh prog f189=some K44:=by kernel_rfl
def K47:Jl:= ⟨5,[.t 2],(Zq [Zt 2 false] (Zq [Zv 3 0,Zk 4 .neq 3 0,Zv 2 4] .ret))⟩
theorem Jm9:Jh prog f310=some K47:=by kernel_rfl
def K8x:Jl:= ⟨7,[.t 2],(Zq [ZB 1 0,Zt 2 false] (Zq [Zf 3 1 1,Zl 4 false 1 3,Zc 5 233 [.t 4,(.k (.fn (.func 310) [] []))],ZN 6 5,Zv 2 6] .ret))⟩
theorem Jre:Jh prog f279=some K8x:=by kernel_rfl
def K8n:Jl:= ⟨17,[.t 2],(Zq [ZB 1 0,Zt 2 false] (.seq (Zq [Zi 3 0] (.blk 0 (.loop (.seq (Zq [Zv 4 3,Zf 5 1 1,Zl 6 false 1 5,Zn 7 6,Zb 8 .lss 4 7] (Zw 8 0)) (.seq (.blk 1 (Zq [Zf 11 1 1,Zl 12 false 1 11,Zv 13 3,Zx 14 1 12 13,Zl 15 false 1 14,Zk 16 .neq 15 0] (.cond (.t 16) (Zq [Zt 2 false] .ret) .skip))) (.reg [Zv 9 3,Zk 10 .add 9 1,Zv 3 10])))))) (Zq [Zt 2 true] .ret)))⟩
theorem Jpr:Jh prog f276=some K8n:=by kernel_rfl
def K8k:Jl:= ⟨28,[.t 2],(Zq [ZB 1 0,Zt 2 false] (.seq (Zq [Zf 5 0 1,Zl 6 false 1 5,Zc 7 102 [.t 6,(.k (.int .i64 0)),(.k (.int .i64 8))],ZN 8 7,Zv 9 8,Zg 10 9 false (.fld 1 (.t 1)),Zg 11 9 false (.ld false 1 (.t 10)),Zg 12 9 false (.len false (.t 11)),Zg 13 9 false (.bin .gtr (.t 12) (.k (.int .i64 20))),ZP 14 9 13] (.cond (.t 14) (Zq [Zt 2 false] .ret) .skip)) (.seq (Zq [Zf 15 1 1,Zl 16 false 1 15,Zn 17 16,Zi 18 0] (.blk 0 (.loop (Zq [Zb 19 .lss 18 17] (.seq (Zw 19 0) (.seq (.blk 1 (Zq [Zx 20 2 16 18,Zl 21 true 2 20,ZR 4,Zs 2 4 21] (Zq [Zl 22 true 2 4,Zf 23 0 1,Zl 24 false 1 23,Zc 25 146 [.t 22,.t 24],ZN 26 25] (.cond (.t 26) (Zq [Zt 2 false] .ret) .skip)))) (.reg [Zk 27 .add 18 1,Zv 18 27]))))))) (Zq [Zt 2 true] .ret))))⟩
theorem Jq2:Jh prog f277=some K8k:=by kernel_rfl
def K43:Jl:= ⟨29,[.t 2],(Zq [ZB 1 0,Zt 2 false] (.seq (Zq [Zi 3 0] (.blk 0 (.loop (.seq (Zq [Zv 4 3,Zf 5 1 1,Zl 6 false 1 5,Zn 7 6,Zb 8 .lss 4 7] (Zw 8 0)) (.seq (.blk 1 (.seq (.draw (.op (Zf 11 1 1) (.op (Zl 12 false 1 11) (.op (Zv 13 3) (.op (Zx 14 2 12 13) (.op (Zl 15 true 2 14) (.op (Zf 16 0 1) (.op (Zl 17 false 1 16) (.op (Zc 18 179 [.t 15,.t 17]) (.op (ZN 19 18) .fin)))))))))) (.cond (.t 19) (Zq [Zt 2 false] .ret) .skip))) (.reg [Zv 9 3,Zk 10 .add 9 1,Zv 3 10])))))) (Zq [Zf 20 0 1,Zl 21 false 1 20,Zc 22 183 [.t 21,(.k (.int .i64 0)),(.k (.int .i64 8))],Zv 23 22,Zg 24 23 true (.fld 1 (.t 1)),Zg 25 23 true (.ld false 1 (.t 24)),Zg 26 23 true (.len false (.t 25)),Zg 27 23 true (.bin .leq (.t 26) (.k (.int .i64 20))),ZQ 28 23 27,Zv 2 28] .ret)))⟩
theorem Jri:Jh prog f258=some K43:=by kernel_rfl
def Vs(l:Jc)(k:Int):Option Jc:=if (Uz l.Const k).2&&K8 l l.Coeffs.length then some ⟨(Uz l.Const k).1,l.Coeffs⟩else Option.none
theorem Jcy(l:Jc)(k:Int):Holds prog 189 [.agg (Jb l),i64 k] (λr=>r=Ku (Vs l k)):=by
 refine Jp func189 Jn9 rfl (by simp[K44]) ?_;simp[K44,Jb];refine Je (J21 l.Const k) (by simp) ?_;rintro r rfl;simp[W5];unfold Vs;cases h1:(Uz l.Const k).2
 ·simp[Ku,Jj,Ja,Ji]
 simp;intro _;refine Je (Gz l l.Coeffs.length) (by simp[Jb]) ?_;rintro r rfl;cases h2:K8 l l.Coeffs.length
 ·simp[Ku,Jj,Ja,Ji]
 simp;have hl:=Wj h2;refine Je (N2 l (by omega)) (by simp[Jb]) ?_;rintro r rfl;simp[Ja,Ku]
def Es(l:Jc):Bool:=l.Coeffs.all (· == 0)
theorem J6h(n:Int):Holds prog 310 [i64 n] (λr=>r = .bool (!(n==0))):=by refine Jp func310 Jm9 rfl (by simp[K47]) ?_;simp[K47];rfl
theorem J7z(l:Jc):Holds prog 279 [.agg (Jb l)] (λr=>r = .bool (Es l)):=by
 refine Jp func279 Jre rfl (by simp[K8x]) ?_;simp[K8x,Jb]
 refine Bk (p:=λn => !(n==0)) (rowOf:=λn=>[i64 n]) (eltOf:=i64) func233 J8q rfl func292 J8m rfl (λx=>by simp) l.Coeffs
  (λx _=>Nh (J6h x) rfl rfl) ?_
 rw[Ek (λn:Int=>n==0)];simp[Es]
theorem J6e(l:Jc):Holds prog 276 [.agg (Jb l)] (λr=>r = .bool (Es l)):=by
 refine Vm func276 rfl rfl λhl=>?_
 simp[Jb]at hl;refine Jp func276 Jpr rfl (by simp[K8n]) ?_;simp[K8n,Jb];refine O7 [1] 3 l.Coeffs.length (λi _=>(l.Coeffs.drop i).all (· == 0)=Es l) hl (by simp) rfl ?_ ?_
 ·rintro i s h R hi hg hk s3 hw hJ hh hR hret _;simp at hk hh;rw[drop_eq_getElem_cons hi,all_cons]at hJ;simp[hk,s3,hi,hh,hw];intro _;by_cases h0:l.Coeffs[i]=0
  ·simp[h0]at hJ⊢;exact hR _ (by simp[hk]) (by simp) (by simpa using hJ)
  ·have hJ:Es l=false:=by rw[<-hJ];simp[h0]
   simp[h0];refine hret _ _ _ ?_;simp[hJ]
 ·rintro s h R hk s3 hJ hh _ hX;simp at hk hh;simp at hJ;simp[hk,s3,hh];intro _;refine hX _ _ ?_;simp[<-hJ]
def Q3(s:Xx):Bool:=Kh s.N 0 8&&decide (s.Rows.length<=20)&&s.Rows.all λr=>K8 r s.N
theorem J00(x:Xx):Holds prog 277 [.agg (Ky x)] (λr=>r = .bool (Q3 x)):=by
 refine Jp func277 Jq2 rfl (by simp[K8k]) ?_;simp[K8k,Ky];refine Je (O4 x.N 0 8) (by simp) ?_;rintro r rfl;unfold Q3;cases h1:Kh x.N 0 8
 ·simp
 simp;intro hl;by_cases h2:x.Rows.length<=20
 case neg=>simp[h2];omega
 simp[h2];refine⟨λh=>by omega,λ_ _=>?_⟩;refine Ka [1,16,17] 18 x.Rows.length (λi s h n=>0<n/\h 0=some ⟨true,2,[[.int .i64 x.N,.sl 2 (x.Rows.map Jb)]]⟩/\(x.Rows.drop i).all (λr=>K8 r x.N)=x.Rows.all (λr=>K8 r x.N)) hl (by simp) ⟨by simp,by simp,rfl⟩ ?_ ?_
 ·rintro i s h n R hi hg hk s18 hw ⟨hn,e0,hJ⟩ hR hret _;simp at hk;rw[drop_eq_getElem_cons hi,all_cons]at hJ;have hn':¬0=n:=by omega
  simp[hk,s18,hi,e0,hn',Jb];refine Je (Gz _ _) rfl ?_;rintro r rfl;cases h0:K8 x.Rows[i] x.N
  ·rw[h0]at hJ;have hJ:x.Rows.all (λr=>K8 r x.N)=false:=by rw[<-hJ];rfl
   simp;refine hret _ _ _ ?_;simp[hJ]
  ·rw[h0,Bool.true_and]at hJ;simp[s18,hw];exact hR _ _ _ (by simp[hk]) (by simp) ⟨by omega,by simp[hn',e0],hJ⟩
 ·rintro s h n R hk s18 ⟨hn,e0,hJ⟩ hret hX;simp at hk;rw[drop_eq_nil_of_le (Nat.le_refl _)]at hJ;simp[hk,s18];refine hX _ _ _ _ ?_;rw[<-hJ];simp
theorem J08(x:Xx):Holds prog 258 [.agg (Ky x)] (λr=>r = .bool (Q3 x)):=by
 refine Vm func258 rfl rfl λhl=>?_
 simp[Ky]at hl;refine Jp func258 Jri rfl (by simp[K43]) ?_;simp[K43,Ky];refine O7 [1] 3 x.Rows.length (λi _=>(x.Rows.drop i).all (λr=>K8 r x.N)=x.Rows.all (λr=>K8 r x.N)) hl (by simp) rfl ?_ ?_
 ·rintro i s h R hi hg hk s3 hw hJ hh hR hret _;simp at hk hh;rw[drop_eq_getElem_cons hi,all_cons]at hJ;simp[hk,s3,hi,hh];intro _;refine Jx (Gj _ _) rfl ?_;rintro r rfl;cases h0:K8 x.Rows[i] x.N
  ·rw[h0]at hJ;have hJ:x.Rows.all (λr=>K8 r x.N)=false:=by rw[<-hJ];rfl
   simp;refine hret _ _ _ ?_;simp[Q3,hJ]
  ·rw[h0,Bool.true_and]at hJ;simp[s3,hw];exact hR _ (by simp[hk]) (by simp) hJ
 ·rintro s h R hk s3 hJ hh _ hX;simp at hk hh;rw[drop_eq_nil_of_le (Nat.le_refl _)]at hJ;simp[hk,s3,hh];intro _;refine hX _ _ ?_;simp[hk];refine Je (Gb x.N 0 8) (by simp) ?_;rintro r rfl;unfold Q3;rw[<-hJ];cases h1:Kh x.N 0 8
  ·simp
  simp[hk];intro _;omega
def K5n:Jl:= ⟨29,[(.c 6 true 2),.t 7],(Zq [ZB 3 0,ZR 6,Zt 7 false] (.seq (Zq [Zv 8 1,Zn 9 8,Zk 10 .gtr 9 0] (.cond (.t 10) (Zq [Zl 11 true 2 3,Zv 12 1,Zc 13 272 [.t 11,.t 12],Ze 14 13 0,Ze 15 13 1,Zs 2 6 14,Zv 7 15] .ret) .skip)) (.seq (Zq [Zl 16 true 2 3,Zc 17 146 [.t 16,(.k (.int .i64 0))],ZN 18 17,Zv 19 18,Zg 20 19 false (.mv (.t 2)),Zg 21 19 false (.call (.k (.fn (.func 102) [] [])) [.t 20,(.k (.int .i64 0)),(.k (.int .i64 8))]),Zg 22 19 false (.un .not (.t 21)),ZP 23 19 22] (.cond (.t 23) (Zq [Zo 24 (.build [(.int .i64 0),(.nil 1)] []),Zs 2 6 24,Zt 7 false] .ret) .skip)) (Zq [Zf 25 0 3,Zl 26 false 1 25,Zv 27 2,Zc 28 178 [.t 26,.t 27],Zs 2 6 28,Zt 7 true] .ret))))⟩
theorem Jtc:Jh prog f191=some K5n:=by kernel_rfl
def K89:Jl:= ⟨36,[(.c 6 true 2),.t 7],(Zq [ZB 3 0,ZB 4 1,ZR 6,Zt 7 false] (.seq (Zq [Zv 9 2,Zn 10 9,Zk 11 .gtr 10 0] (.cond (.t 11) (Zq [Zl 12 true 2 4,Zv 13 2,Zc 14 269 [.t 12,.t 13],Ze 15 14 0,Ze 16 14 1,Zs 2 6 15,Zv 7 16] .ret) .skip)) (Zq [Zf 17 0 4,Zl 18 false 1 17,Zf 19 0 3,Zf 20 0 19,Zl 21 false 1 20,Zc 22 99 [.t 18,.t 21],ZR 8,Zs 2 8 22] (.seq (Zq [Zl 23 true 2 4,Zc 24 179 [.t 23,(.k (.int .i64 0))],ZN 25 24,Zv 26 25,Zg 27 26 false (.ld true 2 (.t 8)),Zg 28 26 false (.fld 0 (.t 3)),Zg 29 26 false (.fld 0 (.t 28)),Zg 30 26 false (.ld false 1 (.t 29)),Zg 31 26 false (.call (.k (.fn (.func 179) [] [])) [.t 27,.t 30]),Zg 32 26 false (.un .not (.t 31)),ZP 33 26 32] (.cond (.t 33) (Zq [Zo 34 (.build [(.int .i64 0),(.nil 1)] []),Zs 2 6 34,Zt 7 false] .ret) .skip)) (Zq [Zl 35 true 2 8,Zs 2 6 35,Zt 7 true] .ret)))))⟩
theorem Jn3:Jh prog f185=some K89:=by kernel_rfl
def K7h:Jl:= ⟨28,[(.c 6 true 2),.t 7],(Zq [ZB 3 0,ZB 4 1,ZR 6,Zt 7 false] (.seq (Zq [Zv 8 2,Zf 9 3 3,Zl 10 false 1 9,Zn 11 10,Zk 12 .sub 11 1,Zc 13 102 [.t 8,(.k (.int .i64 0)),.t 12],ZN 14 13] (.cond (.t 14) (Zq [Zo 15 (.build [(.int .i64 0),(.nil 1)] []),Zs 2 6 15,Zt 7 false] .ret) .skip)) (.seq (.draw (.op (Zl 16 true 2 4) (.op (Zf 17 3 3) (.op (Zl 18 false 1 17) (.op (Zv 19 2) (.op (Zx 20 1 18 19) (.op (Zl 21 false 1 20) (.op (Zf 22 0 3) (.op (Zf 23 0 22) (.op (Zl 24 false 1 23) (.op (Zc 25 191 [.t 16,.t 21,.t 24]) (.op (Ze 26 25 0) (.op (Ze 27 25 1) (.hop (Zs 2 6 26) [] (.op (Zv 7 27) .fin))))))))))))))) .ret)))⟩
theorem Jn4:Jh prog f177=some K7h:=by kernel_rfl
def K5o:Jl:= ⟨26,[(.c 6 true 2),.t 7],(Zq [ZB 3 0,ZB 4 1,ZR 6,Zt 7 false] (.seq (Zq [Zv 8 2,Zf 9 3 3,Zl 10 false 1 9,Zn 11 10,Zk 12 .sub 11 1,Zc 13 183 [.t 8,(.k (.int .i64 0)),.t 12],ZN 14 13] (.cond (.t 14) (Zq [Zo 15 (.build [(.int .i64 0),(.nil 1)] []),Zs 2 6 15,Zt 7 false] .ret) .skip)) (.seq (.draw (.op (Zl 16 true 6 3) (.op (Zl 17 true 2 4) (.op (Zf 18 3 3) (.op (Zl 19 false 1 18) (.op (Zv 20 2) (.op (Zx 21 1 19 20) (.op (Zl 22 false 1 21) (.op (Zc 23 185 [.t 16,.t 17,.t 22]) (.op (Ze 24 23 0) (.op (Ze 25 23 1) (.hop (Zs 2 6 24) [] (.op (Zv 7 25) .fin))))))))))))) .ret)))⟩
theorem Jqt:Jh prog f174=some K5o:=by kernel_rfl
def Yb(l:Jc)(args:List Jc)(n:Int):Option Jc:=
 if 0<args.length then Vq l args else if K8 l 0&&Kh n 0 8 then some (Jr l.Const n)else Option.none
def Y9(m:X5)(l:Jc)(call:Int):Option Jc:=
 if Kh call 0 ((m.Args.length:Int) - 1)then Yb l (m.Args.getD call.toNat []) m.System.N else Option.none
def Ib(m:X5)(a:Jc)(call:Int)(b:Jc)(k:Int):Option Jc:=
 if (Yb a m.Params m.System.N).isSome&&(Y9 m b call).isSome&&Kx k then
  (if (K9 ((Yb a m.Params m.System.N).getD Jj) (-1) ((Y9 m b call).getD Jj)).isSome then
   Vs ((K9 ((Yb a m.Params m.System.N).getD Jj) (-1) ((Y9 m b call).getD Jj)).getD Jj) (-k)else Option.none)
 else Option.none
theorem Ta(l:Jc)(args:List Jc)(n:Int):Holds prog 191 [.agg (Jb l),.sl 2 (args.map Jb),i64 n] (λr=>r=Ku (Yb l args n)):=by
 refine Jp func191 Jtc rfl (by simp[K5n]) ?_;simp[K5n,Jb];unfold Yb;intro _;by_cases h:0<args.length
 ·have hne:¬args=[]:=by rintro rfl;simp at h
  simp[h,hne];refine Je (J2o l args) (by simp[Jb]) ?_;rintro r rfl;simp[Xm,Ja]
 have hne:args=[]:=List.eq_nil_of_length_eq_zero (by omega);subst hne;simp;refine Je (Gz l 0) (by simp[Jb]) ?_;rintro r rfl;cases h1:K8 l 0
 ·simp[Ku,Jj,Ja,Ji]
 simp;refine Je (O4 n 0 8) (by simp) ?_;rintro r rfl;cases h2:Kh n 0 8
 ·simp[Ku,Jj,Ja,Ji]
 simp;refine Je (On l.Const n) (by simp) ?_;rintro r rfl;simp[Ku,Ja]
theorem J0q(m:X5)(l:Jc)(args:List Jc):Holds prog 185 [.agg (Kz m),.agg (Jb l),.sl 2 (args.map Jb)] (λr=>r=Ku (Yb l args m.System.N)):=by
 refine Jp func185 Jn3 rfl (by simp[K89]) ?_;simp[K89,Jb,Kz];unfold Yb;intro _;by_cases h:0<args.length
 ·have hne:¬args=[]:=by rintro rfl;simp at h
  simp[h,hne];refine Je (J20 l args) (by simp[Jb]) ?_;rintro r rfl;simp[Xm,Ja]
 have hne:args=[]:=List.eq_nil_of_length_eq_zero (by omega);subst hne;simp;refine Je (Gi l.Const m.System.N) (by simp) ?_;rintro r rfl;simp[Ja];refine Je (Gj l 0) (by simp[Jb]) ?_;rintro r rfl;cases h1:K8 l 0
 ·simp[Ku,Jj,Ja,Ji]
 simp;refine Je (Gj (Jr l.Const m.System.N) m.System.N) (by simp[Jb]) ?_;rintro r rfl
 have hv:K8 (Jr l.Const m.System.N) m.System.N=Kh m.System.N 0 8:=by
  cases h2:Kh m.System.N 0 8
  ·simp[K8,h2]
  ·have h3:0<=m.System.N/\m.System.N<=8:=by simpa[Kh]using h2
   have:=(F3 (n:=m.System.N.toNat) (Th h1) (by omega)).2;rwa[show((m.System.N.toNat:Nat):Int)=m.System.N by omega]at this
 rw[hv];cases h2:Kh m.System.N 0 8
 ·simp[Ku,Jj,Ja,Ji]
 simp[Ku,Ja]
theorem J3x(m:X5)(l:Jc)(call:Int):Holds prog 177 [.agg (Kz m),.agg (Jb l),i64 call] (λr=>r=Ku (Y9 m l call)):=by
 refine Vm func177 rfl rfl λhlm=>?_
 simp[Jb,Kz]at hlm;refine Jp func177 Jn4 rfl (by simp[K7h]) ?_;simp[K7h,Jb,Kz];intro hl;unfold Jd at hl;rw[Km (by omega)];unfold Y9;refine Je (O4 call 0 ((m.Args.length:Int) - 1)) (by simp) ?_;rintro r rfl;cases h1:Kh call 0 ((m.Args.length:Int) - 1)
 ·simp[Ku,Jj,Ja,Ji]
 have hc:0<=call/\call<=(m.Args.length:Int) - 1:=by simpa[Kh]using h1
 obtain⟨c,rfl⟩:∃c:Nat,call=c:=⟨call.toNat,by omega⟩;have hcl:c<m.Args.length:=by omega
 simp[hcl,Uo];refine Jx (Ta l (m.Args[c]'hcl) m.System.N) (by simp[Jb]) ?_;rintro r rfl;simp[Xm,Ja]
theorem Tu(m:X5)(l:Jc)(call:Int):Holds prog 174 [.agg (Kz m),.agg (Jb l),i64 call] (λr=>r=Ku (Y9 m l call)):=by
 refine Vm func174 rfl rfl λhlm=>?_
 simp[Jb,Kz]at hlm;refine Jp func174 Jqt rfl (by simp[K5o]) ?_;simp[K5o,Jb,Kz];intro hl;unfold Jd at hl;rw[Km (by omega)];unfold Y9;refine Je (Gb call 0 ((m.Args.length:Int) - 1)) (by simp) ?_;rintro r rfl;cases h1:Kh call 0 ((m.Args.length:Int) - 1)
 ·simp[Ku,Jj,Ja,Ji]
 have hc:0<=call/\call<=(m.Args.length:Int) - 1:=by simpa[Kh]using h1
 obtain⟨c,rfl⟩:∃c:Nat,call=c:=⟨call.toNat,by omega⟩;have hcl:c<m.Args.length:=by omega
 simp[hcl,Uo];refine Jx (J0q m l (m.Args[c]'hcl)) (by simp[Jb,Kz]) ?_;rintro r rfl;simp[Xm,Ja]
theorem Jce(l:Jc)(args:List Jc)(n:Int):F0 ((Yb l args n).getD Jj)<=8:=by
 unfold Yb;split
 ·exact Jf0 l args
 ·split
  ·unfold F0;rw[Ea];exact J2c _ _
  ·unfold F0;rw[Ea];simp[Jj]
theorem Jhn(m:X5)(l:Jc)(call:Int):F0 ((Y9 m l call).getD Jj)<=8:=by
 unfold Y9;split
 ·exact Jce _ _ _
 ·unfold F0;rw[Ea];simp[Jj]
end Go.Proofs.YtoclolkigjbcgaaGreat
