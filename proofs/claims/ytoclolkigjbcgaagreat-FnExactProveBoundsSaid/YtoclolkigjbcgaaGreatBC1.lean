/- Contracts: whole numbers within limits, linear expressions. -/
import Derived.Test.YtoclolkigjbcgaaGreatBT1
import Derived.Test.YtoclolkigjbcgaaGreatProg
import Derived.Test.YtoclolkigjbcgaaGreatBRE
namespace Go.Proofs.YtoclolkigjbcgaaGreat
open Tryz(prog)
open List(drop_eq_getElem_cons all_cons all_eq_true getElem_mem take_of_length_le drop_eq_nil_of_le mem_cons mem_iff_getElem getElem_zip)
set_option maxRecDepth 40000
set_option maxHeartbeats 4000000
open Go Go.RowKit Go.Proofs
set_option linter.all false
def a102:Jk:= ⟨15,[.t 6],(Zq [Zt 6 false] (Zq [Zv 7 0,Zv 8 1,Zb 9 .geq 7 8,Zv 10 9,Zg 11 10 true (.mv (.t 0)),Zg 12 10 true (.mv (.t 2)),Zg 13 10 true (.bin .leq (.t 11) (.t 12)),ZQ 14 10 13,Zv 6 14] .ret))⟩
theorem a102_ok:Jf prog Tryz.f102=some a102:=by kernel_rfl
def a232:Jk:= ⟨5,[.t 2],(Zq [Zt 2 false] (Zq [Zv 3 0,Zc 4 102 [.t 3,(.k (.int .i64 (-1000000000))),(.k (.int .i64 1000000000))],Zv 2 4] .ret))⟩
theorem a232_ok:Jf prog Tryz.f232=some a232:=by kernel_rfl
def a183:Jk:= ⟨15,[.t 6],(Zq [Zt 6 false] (Zq [Zv 7 0,Zv 8 1,Zb 9 .geq 7 8,Zv 10 9,Zg 11 10 true (.mv (.t 0)),Zg 12 10 true (.mv (.t 2)),Zg 13 10 true (.bin .leq (.t 11) (.t 12)),ZQ 14 10 13,Zv 6 14] .ret))⟩
theorem a183_ok:Jf prog Tryz.f183=some a183:=by kernel_rfl
def a181:Jk:= ⟨5,[.t 2],(Zq [Zt 2 false] (Zq [Zv 3 0,Zc 4 183 [.t 3,(.k (.int .i64 (-1000000000))),(.k (.int .i64 1000000000))],Zv 2 4] .ret))⟩
theorem a181_ok:Jf prog Tryz.f181=some a181:=by kernel_rfl
def a271:Jk:= ⟨24,[.t 4,.t 5],(Zq [Zi 4 0,Zt 5 false] (.seq (Zq [Zv 6 0,Zc 7 232 [.t 6],ZN 8 7,Zv 9 8,Zg 10 9 false (.mv (.t 1)),Zg 11 9 false (.call (.k (.fn (.func 232) [] [])) [.t 10]),Zg 12 9 false (.un .not (.t 11)),ZP 13 9 12,Zv 14 13,Zg 15 14 false (.mv (.t 0)),Zg 16 14 false (.mv (.t 1)),Zg 17 14 false (.bin .add (.t 15) (.t 16)),Zg 18 14 false (.call (.k (.fn (.func 232) [] [])) [.t 17]),Zg 19 14 false (.un .not (.t 18)),ZP 20 14 19] (.cond (.t 20) (Zq [Zi 4 0,Zt 5 false] .ret) .skip)) (Zq [Zv 21 0,Zv 22 1,Zb 23 .add 21 22,Zv 4 23,Zt 5 true] .ret)))⟩
theorem a271_ok:Jf prog Tryz.f271=some a271:=by kernel_rfl
def a308:Jk:= ⟨24,[.t 4,.t 5],(Zq [Zi 4 0,Zt 5 false] (.seq (Zq [Zv 6 0,Zc 7 232 [.t 6],ZN 8 7,Zv 9 8,Zg 10 9 false (.mv (.t 1)),Zg 11 9 false (.call (.k (.fn (.func 232) [] [])) [.t 10]),Zg 12 9 false (.un .not (.t 11)),ZP 13 9 12,Zv 14 13,Zg 15 14 false (.mv (.t 0)),Zg 16 14 false (.mv (.t 1)),Zg 17 14 false (.bin .mul (.t 15) (.t 16)),Zg 18 14 false (.call (.k (.fn (.func 232) [] [])) [.t 17]),Zg 19 14 false (.un .not (.t 18)),ZP 20 14 19] (.cond (.t 20) (Zq [Zi 4 0,Zt 5 false] .ret) .skip)) (Zq [Zv 21 0,Zv 22 1,Zb 23 .mul 21 22,Zv 4 23,Zt 5 true] .ret)))⟩
theorem a308_ok:Jf prog Tryz.f308=some a308:=by kernel_rfl
def a264:Jk:= ⟨24,[.t 4,.t 5],(Zq [Zi 4 0,Zt 5 false] (.seq (Zq [Zv 6 0,Zc 7 181 [.t 6],ZN 8 7,Zv 9 8,Zg 10 9 false (.mv (.t 1)),Zg 11 9 false (.call (.k (.fn (.func 181) [] [])) [.t 10]),Zg 12 9 false (.un .not (.t 11)),ZP 13 9 12,Zv 14 13,Zg 15 14 false (.mv (.t 0)),Zg 16 14 false (.mv (.t 1)),Zg 17 14 false (.bin .add (.t 15) (.t 16)),Zg 18 14 false (.call (.k (.fn (.func 181) [] [])) [.t 17]),Zg 19 14 false (.un .not (.t 18)),ZP 20 14 19] (.cond (.t 20) (Zq [Zi 4 0,Zt 5 false] .ret) .skip)) (Zq [Zv 21 0,Zv 22 1,Zb 23 .add 21 22,Zv 4 23,Zt 5 true] .ret)))⟩
theorem a264_ok:Jf prog Tryz.f264=some a264:=by kernel_rfl
def a263:Jk:= ⟨24,[.t 4,.t 5],(Zq [Zi 4 0,Zt 5 false] (.seq (Zq [Zv 6 0,Zc 7 181 [.t 6],ZN 8 7,Zv 9 8,Zg 10 9 false (.mv (.t 1)),Zg 11 9 false (.call (.k (.fn (.func 181) [] [])) [.t 10]),Zg 12 9 false (.un .not (.t 11)),ZP 13 9 12,Zv 14 13,Zg 15 14 false (.mv (.t 0)),Zg 16 14 false (.mv (.t 1)),Zg 17 14 false (.bin .mul (.t 15) (.t 16)),Zg 18 14 false (.call (.k (.fn (.func 181) [] [])) [.t 17]),Zg 19 14 false (.un .not (.t 18)),ZP 20 14 19] (.cond (.t 20) (Zq [Zi 4 0,Zt 5 false] .ret) .skip)) (Zq [Zv 21 0,Zv 22 1,Zb 23 .mul 21 22,Zv 4 23,Zt 5 true] .ret)))⟩
theorem a263_ok:Jf prog Tryz.f263=some a263:=by kernel_rfl
def a274:Jk:= ⟨29,[.t 6,.t 7],(Zq [Zi 6 0,Zt 7 false] (Zq [Zv 13 1,Zv 14 2,Zc 15 308 [.t 13,.t 14],Zv 12 15,Ze 16 12 0,Ze 17 12 1,Zv 8 16,Zv 9 17] (Zq [Zv 19 0,Zv 20 8,Zc 21 271 [.t 19,.t 20],Zv 18 21,Ze 22 18 0,Ze 23 18 1,Zv 10 22,Zv 11 23] (Zq [Zv 24 10,Zv 25 9,Zv 26 25,Zg 27 26 true (.mv (.t 11)),ZQ 28 26 27,Zv 6 24,Zv 7 28] .ret))))⟩
theorem a274_ok:Jf prog Tryz.f274=some a274:=by kernel_rfl
def a182:Jk:= ⟨23,[.t 6,.t 7],(Zq [Zi 6 0,Zt 7 false] (Zq [Zv 11 1,Zv 12 2,Zc 13 263 [.t 11,.t 12],Zv 10 13,Ze 14 10 0,Ze 15 10 1,Zv 8 14,Zv 9 15] (.seq (Zq [Zv 16 9,ZN 17 16] (.cond (.t 17) (Zq [Zi 6 0,Zt 7 false] .ret) .skip)) (Zq [Zv 18 0,Zv 19 8,Zc 20 264 [.t 18,.t 19],Ze 21 20 0,Ze 22 20 1,Zv 6 21,Zv 7 22] .ret))))⟩
theorem a182_ok:Jf prog Tryz.f182=some a182:=by kernel_rfl
def a234:Jk:= ⟨6,[.t 2],(Zq [Zt 2 false] (Zq [Zv 3 0,Zc 4 232 [.t 3],ZN 5 4,Zv 2 5] .ret))⟩
theorem a234_ok:Jf prog Tryz.f234=some a234:=by kernel_rfl
def a146:Jk:= ⟨25,[.t 4],(Zq [ZB 2 0,Zt 4 false] (Zq [Zv 5 1,Zc 6 102 [.t 5,(.k (.int .i64 0)),(.k (.int .i64 8))],Zv 7 6,Zg 8 7 true (.fld 1 (.t 2)),Zg 9 7 true (.ld false 1 (.t 8)),Zg 10 7 true (.len false (.t 9)),Zg 11 7 true (.mv (.t 1)),Zg 12 7 true (.bin .eql (.t 10) (.t 11)),ZQ 13 7 12,Zv 14 13,Zg 15 14 true (.fld 0 (.t 2)),Zg 16 14 true (.ld false 1 (.t 15)),Zg 17 14 true (.call (.k (.fn (.func 232) [] [])) [.t 16]),ZQ 18 14 17,Zv 19 18,Zg 20 19 true (.fld 1 (.t 2)),Zg 21 19 true (.ld false 1 (.t 20)),Zg 22 19 true (.call (.k (.fn (.func 233) [] [])) [.t 21,(.k (.fn (.func 234) [] []))]),Zg 23 19 true (.un .not (.t 22)),ZQ 24 19 23,Zv 4 24] .ret))⟩
theorem a146_ok:Jf prog Tryz.f146=some a146:=by kernel_rfl
def a179:Jk:= ⟨34,[.t 4],(Zq [ZB 2 0,Zt 4 false] (.seq (Zq [Zi 5 0] (.blk 0 (.loop (.seq (Zq [Zv 6 5,Zf 7 1 2,Zl 8 false 1 7,Zn 9 8,Zb 10 .lss 6 9] (Zw 10 0)) (.seq (.blk 1 (Zq [Zf 13 1 2,Zl 14 false 1 13,Zv 15 5,Zx 16 1 14 15,Zl 17 false 1 16,Zc 18 181 [.t 17],ZN 19 18] (.cond (.t 19) (Zq [Zt 4 false] .ret) .skip))) (.reg [Zv 11 5,Zk 12 .add 11 1,Zv 5 12])))))) (Zq [Zv 20 1,Zc 21 183 [.t 20,(.k (.int .i64 0)),(.k (.int .i64 8))],Zv 22 21,Zg 23 22 true (.fld 1 (.t 2)),Zg 24 22 true (.ld false 1 (.t 23)),Zg 25 22 true (.len false (.t 24)),Zg 26 22 true (.mv (.t 1)),Zg 27 22 true (.bin .eql (.t 25) (.t 26)),ZQ 28 22 27,Zv 29 28,Zg 30 29 true (.fld 0 (.t 2)),Zg 31 29 true (.ld false 1 (.t 30)),Zg 32 29 true (.call (.k (.fn (.func 181) [] [])) [.t 31]),ZQ 33 29 32,Zv 4 33] .ret)))⟩
theorem a179_ok:Jf prog Tryz.f179=some a179:=by kernel_rfl
theorem a233_ok:Jf prog Tryz.f233=some (Du 292):=by kernel_rfl
theorem a292_ok:Jf prog Tryz.f292=some (Bf false 1):=by kernel_rfl
def K9(n lo hi:Int):Bool:=decide (lo<=n/\n<=hi)
def Ky(n:Int):Bool:=K9 n (-1000000000) 1000000000
theorem Oi{n:Int} : Ky n=true ↔ -1000000000<=n/\n<=1000000000:=by simp[Ky,K9]
theorem Jd3{x y:Int}(hx:Ky x=true)(hy:Ky y=true) : -1000000000000000000<=x*y/\x*y<=1000000000000000000:=by
 rw[Oi]at hx hy
 have h:(x*y).natAbs<=1000000000*1000000000:=by rw[Int.natAbs_mul];exact Nat.mul_le_mul (by omega) (by omega)
 omega
theorem O0(n lo hi:Int):Holds prog 102 [i64 n,i64 lo,i64 hi] (λr=>r = .bool (K9 n lo hi)):=by refine Jp Tryz.func102 a102_ok rfl (by simp[a102]) ?_;simp[a102];constructor <;>intro h <;>simp[K9] <;>omega
theorem Hf(n:Int):Holds prog 232 [i64 n] (λr=>r = .bool (Ky n)):=by refine Jp Tryz.func232 a232_ok rfl (by simp[a232]) ?_;simp[a232];refine Jd (O0 n (-1000000000) 1000000000) (by simp) ?_;rintro r rfl;simp;rfl
theorem Hh(n lo hi:Int):Holds prog 183 [i64 n,i64 lo,i64 hi] (λr=>r = .bool (K9 n lo hi)):=by refine Jp Tryz.func183 a183_ok rfl (by simp[a183]) ?_;simp[a183];constructor <;>intro h <;>simp[K9] <;>omega
theorem Hi(n:Int):Holds prog 181 [i64 n] (λr=>r = .bool (Ky n)):=by refine Jp Tryz.func181 a181_ok rfl (by simp[a181]) ?_;simp[a181];refine Jd (Hh n (-1000000000) 1000000000) (by simp) ?_;rintro r rfl;simp;rfl
def Uv(x y:Int):Int×Bool:=if Ky x&&Ky y&&Ky (x+y)then(x+y,true)else(0,false)
def Xw(x y:Int):Int×Bool:=if Ky x&&Ky y&&Ky (x*y)then(x*y,true)else(0,false)
def Uy(p:Int×Bool):AV := .tup [i64 p.1,.bool p.2]
theorem J29(x y:Int):Holds prog 271 [i64 x,i64 y] (λr=>r=Uy (Uv x y)):=by
 refine Jp Tryz.func271 a271_ok rfl (by simp[a271]) ?_;simp[a271,Uy,Uv];refine Jd (Hf x) (by simp) ?_;rintro r rfl;cases hx:Ky x
 ·simp
 simp;refine Jd (Hf y) (by simp) ?_;rintro r rfl;cases hy:Ky y
 ·simp
 simp;rw[Oi]at hx hy;rw[Kk (by omega)];refine Jd (Hf (x+y)) (by simp) ?_;rintro r rfl;cases hz:Ky (x+y)
 ·simp
 ·simp;exact Kk (by omega)
theorem J28(x y:Int):Holds prog 308 [i64 x,i64 y] (λr=>r=Uy (Xw x y)):=by
 refine Jp Tryz.func308 a308_ok rfl (by simp[a308]) ?_;simp[a308,Uy,Xw];refine Jd (Hf x) (by simp) ?_;rintro r rfl;cases hx:Ky x
 ·simp
 simp;refine Jd (Hf y) (by simp) ?_;rintro r rfl;cases hy:Ky y
 ·simp
 simp;have:=Jd3 hx hy;rw[Kk (by omega)];refine Jd (Hf (x*y)) (by simp) ?_;rintro r rfl;cases hz:Ky (x*y)
 ·simp
 ·simp;exact Kk (by omega)
theorem J19(x y:Int):Holds prog 264 [i64 x,i64 y] (λr=>r=Uy (Uv x y)):=by
 refine Jp Tryz.func264 a264_ok rfl (by simp[a264]) ?_;simp[a264,Uy,Uv];refine Jd (Hi x) (by simp) ?_;rintro r rfl;cases hx:Ky x
 ·simp
 simp;refine Jd (Hi y) (by simp) ?_;rintro r rfl;cases hy:Ky y
 ·simp
 simp;rw[Oi]at hx hy;rw[Kk (by omega)];refine Jd (Hi (x+y)) (by simp) ?_;rintro r rfl;cases hz:Ky (x+y)
 ·simp
 ·simp;exact Kk (by omega)
theorem J04(x y:Int):Holds prog 263 [i64 x,i64 y] (λr=>r=Uy (Xw x y)):=by
 refine Jp Tryz.func263 a263_ok rfl (by simp[a263]) ?_;simp[a263,Uy,Xw];refine Jd (Hi x) (by simp) ?_;rintro r rfl;cases hx:Ky x
 ·simp
 simp;refine Jd (Hi y) (by simp) ?_;rintro r rfl;cases hy:Ky y
 ·simp
 simp;have:=Jd3 hx hy;rw[Kk (by omega)];refine Jd (Hi (x*y)) (by simp) ?_;rintro r rfl;cases hz:Ky (x*y)
 ·simp
 ·simp;exact Kk (by omega)
def Ol(x k y:Int):Int×Bool:=((Uv x (Xw k y).1).1,(Xw k y).2&&(Uv x (Xw k y).1).2)
def Gt(x k y:Int):Int×Bool:=if (Xw k y).2 then Uv x (Xw k y).1 else(0,false)
theorem J55(x k y:Int):Holds prog 274 [i64 x,i64 k,i64 y] (λr=>r=Uy (Ol x k y)):=by refine Jp Tryz.func274 a274_ok rfl (by simp[a274]) ?_;simp[a274];refine Jd (J28 k y) (by simp) ?_;rintro r rfl;simp[Uy];refine Jd (J29 x (Xw k y).1) (by simp) ?_;rintro r rfl;simp[Uy,Ol];cases(Xw k y).2 <;>simp
theorem J5f(x k y:Int):Holds prog 182 [i64 x,i64 k,i64 y] (λr=>r=Uy (Gt x k y)):=by
 refine Jp Tryz.func182 a182_ok rfl (by simp[a182]) ?_;simp[a182];refine Jd (J04 k y) (by simp) ?_;rintro r rfl;simp[Uy,Gt];cases h:(Xw k y).2
 ·simp
 simp;refine Jd (J19 x (Xw k y).1) (by simp) ?_;rintro r rfl;simp[Uy]
def U1(x k y:Int):Option Int:=if (Xw k y).2&&(Uv x (Xw k y).1).2 then some (Uv x (Xw k y).1).1 else Option.none
theorem J3j(x k y:Int):(Ol x k y).2=(U1 x k y).isSome:=by unfold Ol U1;split <;>simp_all
theorem Tq(x k y:Int):(Gt x k y).2=(U1 x k y).isSome:=by unfold Gt U1;cases(Xw k y).2 <;>simp;cases h:(Uv x (Xw k y).1).2 <;>simp
theorem J3i{x k y v:Int}(h:U1 x k y=some v):(Ol x k y).1=v:=by unfold U1 at h;unfold Ol;split at h <;>simp_all
theorem J3m{x k y v:Int}(h:U1 x k y=some v):(Gt x k y).1=v:=by unfold U1 at h;unfold Gt;split at h <;>simp_all
def K4(l:Jc)(n:Int):Bool:=K9 n 0 8&&decide ((l.Coeffs.length:Int)=n)&&Ky l.Const&&l.Coeffs.all Ky
theorem Jqe(n:Int):Holds prog 234 [i64 n] (λr=>r = .bool (!Ky n)):=by refine Jp Tryz.func234 a234_ok rfl (by simp[a234]) ?_;simp[a234];refine Jd (Hf n) (by simp) ?_;rintro r rfl;simp
theorem Dq{α:Type}(p:α->Bool)(l:List α):l.any (λx => !p x) = !l.all p:=by rw[List.all_eq_not_any_not,Bool.not_not]
theorem Jdv{h:J8}{n:Nat}{K:AV->J8->Nat->Prop}(l:List Int)(hK:K (.bool (!l.all Ky)) h n):X7 prog 233 [.sl 1 (Jg l),.fn (.func 234) [] []] h n K:=
 Hz (p:=λn => !Ky n) (rowOf:=λn=>[i64 n]) (eltOf:=i64) Tryz.func233 a233_ok rfl Tryz.func292 a292_ok rfl (λx=>by simp) l
  (λx _=>Mn (Jqe x) rfl rfl) (by rw[Dq];exact hK)
theorem Gx(l:Jc)(n:Int):Holds prog 146 [.agg (Ja l),i64 n] (λr=>r = .bool (K4 l n)):=by
 refine Jp Tryz.func146 a146_ok rfl (by simp[a146]) ?_;simp[a146,Ja];refine Jd (O0 n 0 8) (by simp) ?_;rintro r rfl;unfold K4;cases h1:K9 n 0 8
 ·simp
 simp;intro _;by_cases h2:(l.Coeffs.length:Int)=n
 case neg=>simp[h2]
 simp[h2];refine Jd (Hf l.Const) (by simp) ?_;rintro r rfl;cases h3:Ky l.Const
 ·simp
 simp;refine Jdv l.Coeffs ?_;simp
theorem Ge(l:Jc)(n:Int):Holds prog 179 [.agg (Ja l),i64 n] (λr=>r = .bool (K4 l n)):=by
 refine Vv Tryz.func179 rfl rfl λhl=>?_
 simp[Ja]at hl;refine Jp Tryz.func179 a179_ok rfl (by simp[a179]) ?_;simp[a179,Ja];refine Jji [1,2] 5 l.Coeffs.length (λi _=>(l.Coeffs.drop i).all Ky=l.Coeffs.all Ky) hl (by simp) (by simp) ?_ ?_
 ·intro i s hi hg hk s5 hw hJ;simp at hk;rw[drop_eq_getElem_cons hi,all_cons]at hJ;simp[hk,s5,hi];intro _;refine Jd (Hi _) rfl ?_;rintro r rfl;cases h1:Ky l.Coeffs[i]
  ·have hJ:l.Coeffs.all Ky=false:=by rw[<-hJ,h1];rfl
   simp[K4,hJ]
  ·rw[h1,Bool.true_and]at hJ;simp[hk,s5,hw];exact hJ
 ·intro s hk s5 hJ;simp at hk hJ;simp[hk,s5];intro _;refine Jd (Hh n 0 8) (by simp) ?_;rintro r rfl;unfold K4;cases h1:K9 n 0 8
  ·simp
  simp[hk];intro _;by_cases h2:(l.Coeffs.length:Int)=n
  case neg=>simp[h2]
  simp[h2];refine Jd (Hi l.Const) (by simp) ?_;rintro r rfl;cases h3:Ky l.Const <;>simp
  exact hJ
def a178:Jk:= ⟨18,[(.c 4 true 2)],(Zq [Zo 4 (.box [(.int .i64 0),(.nil 1)])] (.seq (Zq [Zv 5 1,Zc 6 102 [.t 5,(.k (.int .i64 0)),(.k (.int .i64 8))],ZN 7 6,Zv 8 7,Zg 9 8 false (.mv (.t 0)),Zg 10 8 false (.call (.k (.fn (.func 232) [] [])) [.t 9]),Zg 11 8 false (.un .not (.t 10)),ZP 12 8 11] (.cond (.t 12) (Zq [Zo 13 (.build [(.int .i64 0),(.nil 1)] []),⟨no,.st 2 (.t 4) (.t 13),no⟩] .ret) .skip)) (Zq [Zv 14 0,Zv 15 1,Zo 16 (.mks 8 [(.int .i64 0)] (.t 15) (.t 15)),Zo 17 (.build [(.int .i64 0),(.nil 1)] [(0,(1,(.t 14))),(1,(1,(.t 16)))]),⟨no,.st 2 (.t 4) (.t 17),no⟩] .ret)))⟩
theorem a178_ok:Jf prog Tryz.f178=some a178:=by kernel_rfl
def a99:Jk:= ⟨18,[(.c 4 true 2)],(Zq [Zo 4 (.box [(.int .i64 0),(.nil 1)])] (.seq (Zq [Zv 5 1,Zc 6 183 [.t 5,(.k (.int .i64 0)),(.k (.int .i64 8))],ZN 7 6,Zv 8 7,Zg 9 8 false (.mv (.t 0)),Zg 10 8 false (.call (.k (.fn (.func 181) [] [])) [.t 9]),Zg 11 8 false (.un .not (.t 10)),ZP 12 8 11] (.cond (.t 12) (Zq [Zo 13 (.build [(.int .i64 0),(.nil 1)] []),⟨no,.st 2 (.t 4) (.t 13),no⟩] .ret) .skip)) (Zq [Zv 14 0,Zv 15 1,Zo 16 (.mks 8 [(.int .i64 0)] (.t 15) (.t 15)),Zo 17 (.build [(.int .i64 0),(.nil 1)] [(0,(1,(.t 14))),(1,(1,(.t 16)))]),⟨no,.st 2 (.t 4) (.t 17),no⟩] .ret)))⟩
theorem a99_ok:Jf prog Tryz.f99=some a99:=by kernel_rfl
def a166:Jk:= ⟨8,[.t 2],(Zq [Zo 2 (.mv (.k (.nil 1)))] (.seq (Zq [Zv 3 0,Zo 4 (.inil false (.t 3))] (.cond (.t 4) (Zq [Zo 2 (.mv (.k (.nil 1)))] .ret) .skip)) (Zq [Zo 5 (.bsl 1 []),Zv 6 0,ZA 7 8 1 5 6,Zv 2 7] .ret)))⟩
theorem a166_ok:Jf prog Tryz.f166=some a166:=by kernel_rfl
def a86:Jk:= ⟨9,[(.c 2 true 2)],(Zq [ZB 1 0,Zo 2 (.box [(.int .i64 0),(.nil 1)])] (.seq (.draw (.op (Zf 3 0 1) (.op (Zl 4 false 1 3) (.op (Zf 5 1 1) (.op (Zl 6 false 1 5) (.op (Zc 7 166 [.t 6]) (.op (Zo 8 (.build [(.int .i64 0),(.nil 1)] [(0,(1,(.t 4))),(1,(1,(.t 7)))])) (.hop ⟨no,.st 2 (.t 2) (.t 8),no⟩ [] .fin)))))))) .ret))⟩
theorem a86_ok:Jf prog Tryz.f86=some a86:=by kernel_rfl
def a82:Jk:= ⟨10,[(.c 2 true 2)],(Zq [ZB 1 0,Zo 2 (.box [(.int .i64 0),(.nil 1)])] (.seq (.draw (.op (Zf 3 0 1) (.op (Zl 4 false 1 3) (.op (Zf 6 1 1) (.op (Zl 7 false 1 6) (.hop (Zo 5 (.bsl 1 [])) [(.ld false 1 (.t 6)),(.fld 1 (.t 1)),(.ld false 1 (.t 3)),(.fld 0 (.t 1))] (.hop (ZA 8 8 1 5 7) [(.ld false 1 (.t 3)),(.fld 0 (.t 1))] (.op (Zo 9 (.build [(.int .i64 0),(.nil 1)] [(0,(1,(.t 4))),(1,(1,(.t 8)))])) (.hop ⟨no,.st 2 (.t 2) (.t 9),no⟩ [] .fin))))))))) .ret))⟩
theorem a82_ok:Jf prog Tryz.f82=some a82:=by kernel_rfl
def a193:Jk:= ⟨82,[(.c 6 true 2),.t 7],(Zq [ZB 3 0,ZB 5 2,Zo 6 (.box [(.int .i64 0),(.nil 1)]),Zt 7 false] (Zq [Zf 15 1 3,Zl 16 false 1 15,Zn 17 16,Zv 8 17] (.seq (Zq [Zl 18 true 2 3,Zv 19 8,Zc 20 146 [.t 18,.t 19],ZN 21 20,Zv 22 21,Zg 23 22 false (.ld true 2 (.t 5)),Zg 24 22 false (.mv (.t 8)),Zg 25 22 false (.call (.k (.fn (.func 146) [] [])) [.t 23,.t 24]),Zg 26 22 false (.un .not (.t 25)),ZP 27 22 26,Zv 28 27,Zg 29 28 false (.mv (.t 1)),Zg 30 28 false (.call (.k (.fn (.func 232) [] [])) [.t 29]),Zg 31 28 false (.un .not (.t 30)),ZP 32 28 31] (.cond (.t 32) (Zq [Zo 33 (.build [(.int .i64 0),(.nil 1)] []),⟨no,.st 2 (.t 6) (.t 33),no⟩,Zt 7 false] .ret) .skip)) (Zq [Zv 34 8,Zc 35 178 [(.k (.int .i64 0)),.t 34],Zo 9 (.box [(.int .i64 0),(.nil 1)]),⟨no,.st 2 (.t 9) (.t 35),no⟩] (Zq [Zf 37 0 3,Zl 38 false 1 37,Zv 39 1,Zf 40 0 5,Zl 41 false 1 40,Zc 42 274 [.t 38,.t 39,.t 41],Zv 36 42,Ze 43 36 0,Ze 44 36 1,Zv 10 43,Zv 11 44] (Zq [Zv 45 10,Zf 46 0 9,⟨no,.st 1 (.t 46) (.t 45),no⟩] (.seq (Zq [Zf 47 1 3,Zl 48 false 1 47,Zn 49 48,Zi 50 0] (.blk 0 (.loop (Zq [Zb 51 .lss 50 49] (.seq (Zw 51 0) (.seq (.blk 1 (Zq [Zv 52 50,Zv 12 52] (.seq (.draw (.op (Zf 54 1 3) (.op (Zl 55 false 1 54) (.op (Zv 56 12) (.op (Zx 57 1 55 56) (.op (Zl 58 false 1 57) (.op (Zv 59 1) (.op (Zf 60 1 5) (.op (Zl 61 false 1 60) (.op (Zv 62 12) (.op (Zx 63 1 61 62) (.op (Zl 64 false 1 63) (.op (Zc 65 274 [.t 58,.t 59,.t 64]) (.op (Zv 53 65) (.op (Ze 66 53 0) (.op (Ze 67 53 1) (.op (Zv 13 66) (.op (Zv 14 67) .fin)))))))))))))))))) (Zq [Zf 68 1 9,Zl 69 false 1 68,Zv 70 12,Zv 71 13,Zx 72 1 69 70,⟨no,.st 1 (.t 72) (.t 71),no⟩] (.reg [Zv 73 11,Zv 74 73,Zg 75 74 true (.mv (.t 14)),ZQ 76 74 75,Zv 11 76]))))) (.reg [Zk 77 .add 50 1,Zv 50 77]))))))) (.seq (Zq [Zv 78 11,ZN 79 78] (.cond (.t 79) (Zq [Zo 80 (.build [(.int .i64 0),(.nil 1)] []),⟨no,.st 2 (.t 6) (.t 80),no⟩,Zt 7 false] .ret) .skip)) (Zq [Zl 81 true 2 9,⟨no,.st 2 (.t 6) (.t 81),no⟩,Zt 7 true] .ret)))))))))⟩
theorem a193_ok:Jf prog Tryz.f193=some a193:=by kernel_rfl
def a98:Jk:= ⟨86,[(.c 6 true 2),.t 7],(Zq [ZB 3 0,ZB 5 2,Zo 6 (.box [(.int .i64 0),(.nil 1)]),Zt 7 false] (Zq [Zf 16 1 3,Zl 17 false 1 16,Zn 18 17,Zv 8 18] (.seq (Zq [Zl 19 true 2 3,Zv 20 8,Zc 21 179 [.t 19,.t 20],ZN 22 21,Zv 23 22,Zg 24 23 false (.ld true 2 (.t 5)),Zg 25 23 false (.mv (.t 8)),Zg 26 23 false (.call (.k (.fn (.func 179) [] [])) [.t 24,.t 25]),Zg 27 23 false (.un .not (.t 26)),ZP 28 23 27,Zv 29 28,Zg 30 29 false (.mv (.t 1)),Zg 31 29 false (.call (.k (.fn (.func 181) [] [])) [.t 30]),Zg 32 29 false (.un .not (.t 31)),ZP 33 29 32] (.cond (.t 33) (Zq [Zo 34 (.build [(.int .i64 0),(.nil 1)] []),⟨no,.st 2 (.t 6) (.t 34),no⟩,Zt 7 false] .ret) .skip)) (Zq [Zv 35 8,Zo 36 (.mks 8 [(.int .i64 0)] (.t 35) (.t 35)),Zo 37 (.build [(.int .i64 0),(.nil 1)] [(1,(1,(.t 36)))]),Zo 9 (.box [(.int .i64 0),(.nil 1)]),⟨no,.st 2 (.t 9) (.t 37),no⟩] (Zq [Zt 10 true] (.seq (Zq [Zi 11 0] (.blk 0 (.loop (.seq (Zq [Zv 38 11,Zv 39 8,Zb 40 .lss 38 39] (Zw 40 0)) (.seq (.blk 1 (.seq (.draw (.op (Zf 44 1 3) (.op (Zl 45 false 1 44) (.op (Zv 46 11) (.op (Zx 47 1 45 46) (.op (Zl 48 false 1 47) (.op (Zv 49 1) (.op (Zf 50 1 5) (.op (Zl 51 false 1 50) (.op (Zv 52 11) (.op (Zx 53 1 51 52) (.op (Zl 54 false 1 53) (.op (Zc 55 182 [.t 48,.t 49,.t 54]) (.op (Zv 43 55) (.op (Ze 56 43 0) (.op (Ze 57 43 1) (.op (Zv 12 56) (.op (Zv 13 57) .fin)))))))))))))))))) (Zq [Zf 58 1 9,Zl 59 false 1 58,Zv 60 11,Zv 61 12,Zx 62 1 59 60,⟨no,.st 1 (.t 62) (.t 61),no⟩] (.reg [Zv 63 10,Zv 64 63,Zg 65 64 true (.mv (.t 13)),ZQ 66 64 65,Zv 10 66])))) (.reg [Zv 41 11,Zk 42 .add 41 1,Zv 11 42])))))) (Zq [Zf 68 0 3,Zl 69 false 1 68,Zv 70 1,Zf 71 0 5,Zl 72 false 1 71,Zc 73 182 [.t 69,.t 70,.t 72],Zv 67 73,Ze 74 67 0,Ze 75 67 1,Zv 14 74,Zv 15 75] (.seq (Zq [Zv 76 10,ZN 77 76,Zv 78 77,Zg 79 78 false (.mv (.t 15)),Zg 80 78 false (.un .not (.t 79)),ZP 81 78 80] (.cond (.t 81) (Zq [Zo 82 (.build [(.int .i64 0),(.nil 1)] []),⟨no,.st 2 (.t 6) (.t 82),no⟩,Zt 7 false] .ret) .skip)) (Zq [Zv 83 14,Zf 84 0 9,⟨no,.st 1 (.t 84) (.t 83),no⟩] (Zq [Zl 85 true 2 9,⟨no,.st 2 (.t 6) (.t 85),no⟩,Zt 7 true] .ret))))))))))⟩
theorem a98_ok:Jf prog Tryz.f98=some a98:=by kernel_rfl
def Jo(k n:Int):Jc:=if K9 n 0 8&&Ky k then⟨k,List.replicate n.toNat 0⟩else⟨0,[]⟩
@[simp] theorem J2o(m:Nat):Jg (List.replicate m 0)=List.replicate m [AV.int .i64 0]:=by simp[Jg]
@[simp] theorem Js8(m:Nat):Wc (List.replicate m [AV.int .i64 0])=true:=by rw[<-J2o];exact J8k _
@[simp] theorem J6t(l:List Int)(i:Nat)(v:Int):(Jg l).set i [AV.int .i64 v]=Jg (l.set i v):=by simp[Jg,List.map_set]
theorem On(k n:Int):Holds prog 178 [i64 k,i64 n] (λr=>r = .agg (J9 (Jo k n))):=by
 refine Jp Tryz.func178 a178_ok rfl (by simp[a178]) ?_;simp[a178];refine Jd (O0 n 0 8) (by simp) ?_;rintro r rfl;unfold Jo;cases h1:K9 n 0 8
 ·simp[J9,Jg]
 simp;refine Jd (Hf k) (by simp) ?_;rintro r rfl;cases h2:Ky k
 ·simp[J9,Jg]
 have hn:0<=n/\n<=8:=by simpa[K9]using h1
 obtain⟨m,rfl⟩:∃m:Nat,n=m:=⟨n.toNat,by omega⟩;simp[J9];unfold Jb;omega
theorem O4(k n:Int):Holds prog 99 [i64 k,i64 n] (λr=>r = .agg (J9 (Jo k n))):=by
 refine Jp Tryz.func99 a99_ok rfl (by simp[a99]) ?_;simp[a99];refine Jd (Hh n 0 8) (by simp) ?_;rintro r rfl;unfold Jo;cases h1:K9 n 0 8
 ·simp[J9,Jg]
 simp;refine Jd (Hi k) (by simp) ?_;rintro r rfl;cases h2:Ky k
 ·simp[J9,Jg]
 have hn:0<=n/\n<=8:=by simpa[K9]using h1
 obtain⟨m,rfl⟩:∃m:Nat,n=m:=⟨n.toNat,by omega⟩;simp[J9];unfold Jb;omega
theorem Jbc(l:List Int)(hl:l.length<=1048576):Holds prog 166 [.sl 1 (Jg l)] (λr=>r = .us 1 (Jg l)):=by refine Jp Tryz.func166 a166_ok rfl (by simp[a166]) ?_;simp[a166];unfold Jb;omega
theorem Nu(x:Jc)(hl:x.Coeffs.length<=1048576):Holds prog 86 [.agg (Ja x)] (λr=>r = .agg (J9 x)):=by refine Jp Tryz.func86 a86_ok rfl (by simp[a86]) ?_;simp[a86,Ja];refine Jw (Jbc x.Coeffs hl) (by simp) ?_;rintro r rfl;simp[J9]
theorem E7(x:Jc)(hl:x.Coeffs.length<=1048576):Holds prog 82 [.agg (Ja x)] (λr=>r = .agg (J9 x)):=by refine Jp Tryz.func82 a82_ok rfl (by simp[a82]) ?_;simp[a82,Ja,J9];unfold Jb;omega
def Jl:Jc:=⟨0,[]⟩
def X1:Option Jc->AV
 |some l=>.tup [.agg (J9 l),.bool true]
 |Option.none=>.tup [.agg (J9 Jl),.bool false]
theorem Xd(o:Option Jc):X1 o = .tup [.agg (J9 (o.getD Jl)),.bool o.isSome]:=by cases o <;>rfl
def Yy(a:Jc)(k:Int)(b:Jc):List (Option Int):=List.zipWith (λx y=>U1 x k y) a.Coeffs b.Coeffs
def Dh(a:Jc)(k:Int)(b:Jc):Bool:=(Yy a k b).all Option.isSome
def Kg(a:Jc)(k:Int)(b:Jc):Option Jc:=
 if K4 a a.Coeffs.length&&K4 b a.Coeffs.length&&Ky k&&(U1 a.Const k b.Const).isSome&&Dh a k b then
  some ⟨(U1 a.Const k b.Const).getD 0,(Yy a k b).map (·.getD 0)⟩
 else Option.none
theorem W0{l:Jc}{n:Int}(h:K4 l n=true):(l.Coeffs.length:Int)=n/\0<=n/\n<=8:=by unfold K4 at h;simp[K9]at h;omega
theorem J6r{a b:Jc}{k:Int}{vs:List Int}(hl:b.Coeffs.length=a.Coeffs.length)(hv:vs.length=a.Coeffs.length)(g:Int->Int->Int->Int)(hg:∀x y v,U1 x k y=some v->g x k y=v)
 (hj:∀j (h:j<a.Coeffs.length) (h':j<b.Coeffs.length),vs[j]? = some (g a.Coeffs[j] k b.Coeffs[j])) (hZ:(Yy a k b).all Option.isSome=true):vs=(Yy a k b).map (·.getD 0):=by
 refine List.ext_getElem (by simp[Yy,hv,hl]) λj h1 h2=>?_
 have h3:j<a.Coeffs.length:=by omega
 have h4:j<b.Coeffs.length:=by omega
 have h5:=hj j h3 h4;rw[List.getElem?_eq_getElem h1]at h5;rw[Option.some.inj h5,List.getElem_map];have h6:(Yy a k b)[j]'(by simpa using h2)=U1 a.Coeffs[j] k b.Coeffs[j]:=by simp[Yy]
 rw[h6];have h7:=all_eq_true.1 hZ _ (getElem_mem (by simpa using h2:j<(Yy a k b).length));rw[h6]at h7;obtain⟨v,hv'⟩:=Option.isSome_iff_exists.1 h7;rw[hg _ _ _ hv',hv'];rfl
set_option maxHeartbeats 1000000 in
theorem Ih(a:Jc)(k:Int)(b:Jc):Holds prog 193 [.agg (Ja a),i64 k,.agg (Ja b)] (λr=>r=X1 (Kg a k b)):=by
 refine Jp Tryz.func193 a193_ok rfl (by simp[a193]) ?_;simp[a193,Ja];intro hlim;unfold Kg;refine Jd (Gx a a.Coeffs.length) (by simp[Ja]) ?_;rintro r rfl;cases h1:K4 a a.Coeffs.length
 ·simp[X1,Jl,J9,Jg]
 simp;refine Jd (Gx b a.Coeffs.length) (by simp[Ja]) ?_;rintro r rfl;cases h2:K4 b a.Coeffs.length
 ·simp[X1,Jl,J9,Jg]
 simp;refine Jd (Hf k) (by simp) ?_;rintro r rfl;cases h3:Ky k
 ·simp[X1,Jl,J9,Jg]
 simp;have hla:=W0 h1;have hlb:=W0 h2;have hl:b.Coeffs.length=a.Coeffs.length:=by omega
 have hc0:Jo 0 (a.Coeffs.length:Int)=⟨0,List.replicate a.Coeffs.length 0⟩:=by unfold Jo;rw[if_pos (by simp[K9,Ky];omega)];simp
 refine Jd (On 0 a.Coeffs.length) (by simp) ?_;rintro r rfl;rw[hc0];simp[J9];refine Jd (J55 a.Const k b.Const) (by simp) ?_;rintro r rfl;simp[Uy];intro _;have hzl:(Yy a k b).length=a.Coeffs.length:=by simp[Yy,hl]
 refine Ki [1,3,5,6,9,49] 50 a.Coeffs.length (λi s h n=>h 0=some ⟨true,2,[[.int .i64 a.Const,.sl 1 (Jg a.Coeffs)]]⟩/\h 1=some ⟨true,2,[[.int .i64 b.Const,.sl 1 (Jg b.Coeffs)]]⟩/\h 2=some ⟨true,2,[[.int .i64 0,.nil 1]]⟩ /\
  h 4=some ⟨true,2,[[.int .i64 (Ol a.Const k b.Const).1,.ref 3 0 a.Coeffs.length]]⟩/\∃vs:List Int,h 3=some ⟨false,1,Jg vs⟩/\vs.length=a.Coeffs.length /\
  (∀j (h:j<a.Coeffs.length) (h':j<b.Coeffs.length),j<i->vs[j]? = some (Ol a.Coeffs[j] k b.Coeffs[j]).1)/\s 11 = .bool ((U1 a.Const k b.Const).isSome&&((Yy a k b).take i).all Option.isSome))
  hlim (by simp) (by simp;exact⟨List.replicate a.Coeffs.length 0,by simp,by simp,by simp[J3j]⟩) ?_ ?_
 ·rintro i s h n R hi hg hk s50 hw ⟨e0,e1,e2,e4,vs,e3,hvl,hvs,s11⟩ hR _ _;simp at hk;have hib:i<b.Coeffs.length:=by omega
  have hiv:i<vs.length:=by omega
  have hiz:i<(Yy a k b).length:=by omega
  have hZi:(Yy a k b)[i]=U1 a.Coeffs[i] k b.Coeffs[i]:=by simp[Yy]
  have hflag:((U1 a.Const k b.Const).isSome&&((Yy a k b).take (i+1)).all Option.isSome)=(((U1 a.Const k b.Const).isSome&&((Yy a k b).take i).all Option.isSome)&&(Ol a.Coeffs[i] k b.Coeffs[i]).2):=by rw[List.take_succ_eq_append_getElem hiz,List.all_append,hZi,J3j];simp[Bool.and_assoc]
  have hvs':∀j (h:j<a.Coeffs.length) (h':j<b.Coeffs.length),j<i+1->(vs.set i (Ol a.Coeffs[i] k b.Coeffs[i]).1)[j]? = some (Ol a.Coeffs[j] k b.Coeffs[j]).1:=by
   intro j h h' hj;rw[List.getElem?_set];by_cases hji:i=j
   ·subst hji;simp[hiv]
   ·rw[if_neg hji];exact hvs j h h' (by omega)
  obtain⟨f,hf⟩:∃f,f=((U1 a.Const k b.Const).isSome&&((Yy a k b).take i).all Option.isSome):=⟨_,rfl⟩;rw[<-hf]at s11 hflag;cases f
  all_goals
   simp[hk,s50,hi,hib,e0,e1];refine Jw (J55 _ _ _) rfl ?_;rintro r rfl;simp[hk,s50,hi,hw,hiv,e3,e4,s11,Uy];exact hR _ _ _ (by simp[hk]) (by simp) ⟨by simp[e0],by simp[e1],by simp[e2],by simp[e4],_,by simp,by simp[hvl],hvs',by rw[hflag];simp⟩
 ·rintro s h n R hk s50 ⟨e0,e1,e2,e4,vs,e3,hvl,hvs,s11⟩ hret hX;simp at hk;rw[take_of_length_le (by omega)]at s11;simp[hk,s50];refine hX _ _ _ _ ?_;cases hc:(U1 a.Const k b.Const).isSome
  ·rw[hc]at s11;simp at s11;simp[hk,s11,e2,X1,Jl,J9,Jg]
  rw[show(Yy a k b).all Option.isSome=Dh a k b from rfl]at s11;cases hz:Dh a k b
  ·rw[hc,hz]at s11;simp at s11;simp[hk,s11,e2,X1,Jl,J9,Jg]
  ·rw[hc,hz]at s11;simp at s11;obtain⟨v,hv⟩:=Option.isSome_iff_exists.1 hc;have hval:=J6r hl hvl (λx k y=>(Ol x k y).1) (λx y v h=>J3i h) (λj h h'=>hvs j h h' h) hz;simp[hk,s11,e2,e3,e4,X1,J9,hvl];rw[<-hval,hv,J3i hv];simp[hvl,take_of_length_le]
set_option maxHeartbeats 1000000 in
theorem Ve(a:Jc)(k:Int)(b:Jc):Holds prog 98 [.agg (Ja a),i64 k,.agg (Ja b)] (λr=>r=X1 (Kg a k b)):=by
 refine Jp Tryz.func98 a98_ok rfl (by simp[a98]) ?_;simp[a98,Ja];intro hlim;unfold Kg;refine Jd (Ge a a.Coeffs.length) (by simp[Ja]) ?_;rintro r rfl;cases h1:K4 a a.Coeffs.length
 ·simp[X1,Jl,J9,Jg]
 simp;refine Jd (Ge b a.Coeffs.length) (by simp[Ja]) ?_;rintro r rfl;cases h2:K4 b a.Coeffs.length
 ·simp[X1,Jl,J9,Jg]
 simp;refine Jd (Hi k) (by simp) ?_;rintro r rfl;cases h3:Ky k
 ·simp[X1,Jl,J9,Jg]
 simp;have hla:=W0 h1;have hlb:=W0 h2;have hl:b.Coeffs.length=a.Coeffs.length:=by omega
 have hzl:(Yy a k b).length=a.Coeffs.length:=by simp[Yy,hl]
 refine⟨by unfold Jb;omega,?_⟩
 refine Ki [1,3,5,6,8,9] 11 a.Coeffs.length (λi s h n=>h 0=some ⟨true,2,[[.int .i64 a.Const,.sl 1 (Jg a.Coeffs)]]⟩/\h 1=some ⟨true,2,[[.int .i64 b.Const,.sl 1 (Jg b.Coeffs)]]⟩/\h 2=some ⟨true,2,[[.int .i64 0,.nil 1]]⟩ /\
  h 4=some ⟨true,2,[[.int .i64 0,.ref 3 0 a.Coeffs.length]]⟩/\∃vs:List Int,h 3=some ⟨false,1,Jg vs⟩/\vs.length=a.Coeffs.length /\
  (∀j (h:j<a.Coeffs.length) (h':j<b.Coeffs.length),j<i->vs[j]? = some (Gt a.Coeffs[j] k b.Coeffs[j]).1)/\s 10 = .bool (((Yy a k b).take i).all Option.isSome))
  hlim (by simp) (by simp;exact⟨List.replicate a.Coeffs.length 0,by simp,by simp⟩) ?_ ?_
 ·rintro i s h n R hi hg hk s11 hw ⟨e0,e1,e2,e4,vs,e3,hvl,hvs,s10⟩ hR _ _;simp at hk;have hib:i<b.Coeffs.length:=by omega
  have hiv:i<vs.length:=by omega
  have hiz:i<(Yy a k b).length:=by omega
  have hZi:(Yy a k b)[i]=U1 a.Coeffs[i] k b.Coeffs[i]:=by simp[Yy]
  have hflag:(((Yy a k b).take (i+1)).all Option.isSome)=((((Yy a k b).take i).all Option.isSome)&&(Gt a.Coeffs[i] k b.Coeffs[i]).2):=by rw[List.take_succ_eq_append_getElem hiz,List.all_append,hZi,Tq];simp
  have hvs':∀j (h:j<a.Coeffs.length) (h':j<b.Coeffs.length),j<i+1->(vs.set i (Gt a.Coeffs[i] k b.Coeffs[i]).1)[j]? = some (Gt a.Coeffs[j] k b.Coeffs[j]).1:=by
   intro j h h' hj;rw[List.getElem?_set];by_cases hji:i=j
   ·subst hji;simp[hiv]
   ·rw[if_neg hji];exact hvs j h h' (by omega)
  obtain⟨f,hf⟩:∃f,f=(((Yy a k b).take i).all Option.isSome):=⟨_,rfl⟩;rw[<-hf]at s10 hflag;cases f
  all_goals
   simp[hk,s11,hi,hib,e0,e1];refine Jw (J5f _ _ _) rfl ?_;rintro r rfl;simp[hk,s11,hi,hw,hiv,e3,e4,s10,Uy];exact hR _ _ _ (by simp[hk]) (by simp) ⟨by simp[e0],by simp[e1],by simp[e2],by simp[e4],_,by simp,by simp[hvl],hvs',by rw[hflag];simp⟩
 ·rintro s h n R hk s11 ⟨e0,e1,e2,e4,vs,e3,hvl,hvs,s10⟩ hret hX;simp at hk;rw[take_of_length_le (by omega),show(Yy a k b).all Option.isSome=Dh a k b from rfl]at s10;simp[hk,s11];refine hX _ _ _ _ ?_;cases hz:Dh a k b
  ·rw[hz]at s10;simp[hk,e0,e1];refine Jd (J5f _ _ _) rfl ?_;rintro r rfl;simp[hk,s10,e2,e4,Uy,X1,Jl,J9,Jg]
  ·rw[hz]at s10;have hval:=J6r hl hvl (λx k y=>(Gt x k y).1) (λx y v h=>J3m h) (λj h h'=>hvs j h h' h) hz;simp[hk,e0,e1];refine Jd (J5f _ _ _) rfl ?_;rintro r rfl;cases hc:(U1 a.Const k b.Const).isSome
   ·have hc':(Gt a.Const k b.Const).2=false:=by rw[Tq,hc]
    simp[hk,s10,e2,Uy,hc',X1,Jl,J9,Jg]
   ·have hc':(Gt a.Const k b.Const).2=true:=by rw[Tq,hc]
    obtain⟨v,hv⟩:=Option.isSome_iff_exists.1 hc;simp[hk,s10,e2,e3,e4,Uy,hc',X1,J9,hvl];rw[<-hval,hv,J3m hv];simp[hvl,take_of_length_le]
def a189:Jk:= ⟨32,[(.c 4 true 2),.t 5],(Zq [ZB 2 0,Zo 4 (.box [(.int .i64 0),(.nil 1)]),Zt 5 false] (Zq [Zf 10 0 2,Zl 11 false 1 10,Zv 12 1,Zc 13 271 [.t 11,.t 12],Zv 9 13,Ze 14 9 0,Ze 15 9 1,Zv 6 14,Zv 7 15] (.seq (Zq [Zv 16 7,ZN 17 16,Zv 18 17,Zg 19 18 false (.ld true 2 (.t 2)),Zg 20 18 false (.fld 1 (.t 2)),Zg 21 18 false (.ld false 1 (.t 20)),Zg 22 18 false (.len false (.t 21)),Zg 23 18 false (.call (.k (.fn (.func 146) [] [])) [.t 19,.t 22]),Zg 24 18 false (.un .not (.t 23)),ZP 25 18 24] (.cond (.t 25) (Zq [Zo 26 (.build [(.int .i64 0),(.nil 1)] []),⟨no,.st 2 (.t 4) (.t 26),no⟩,Zt 5 false] .ret) .skip)) (Zq [Zl 27 true 2 2,Zc 28 86 [.t 27],Zo 8 (.box [(.int .i64 0),(.nil 1)]),⟨no,.st 2 (.t 8) (.t 28),no⟩] (Zq [Zv 29 6,Zf 30 0 8,⟨no,.st 1 (.t 30) (.t 29),no⟩] (Zq [Zl 31 true 2 8,⟨no,.st 2 (.t 4) (.t 31),no⟩,Zt 5 true] .ret))))))⟩
theorem a189_ok:Jf prog Tryz.f189=some a189:=by kernel_rfl
def a310:Jk:= ⟨5,[.t 2],(Zq [Zt 2 false] (Zq [Zv 3 0,Zk 4 .neq 3 0,Zv 2 4] .ret))⟩
theorem a310_ok:Jf prog Tryz.f310=some a310:=by kernel_rfl
def a279:Jk:= ⟨7,[.t 2],(Zq [ZB 1 0,Zt 2 false] (Zq [Zf 3 1 1,Zl 4 false 1 3,Zc 5 233 [.t 4,(.k (.fn (.func 310) [] []))],ZN 6 5,Zv 2 6] .ret))⟩
theorem a279_ok:Jf prog Tryz.f279=some a279:=by kernel_rfl
def a276:Jk:= ⟨17,[.t 2],(Zq [ZB 1 0,Zt 2 false] (.seq (Zq [Zi 3 0] (.blk 0 (.loop (.seq (Zq [Zv 4 3,Zf 5 1 1,Zl 6 false 1 5,Zn 7 6,Zb 8 .lss 4 7] (Zw 8 0)) (.seq (.blk 1 (Zq [Zf 11 1 1,Zl 12 false 1 11,Zv 13 3,Zx 14 1 12 13,Zl 15 false 1 14,Zk 16 .neq 15 0] (.cond (.t 16) (Zq [Zt 2 false] .ret) .skip))) (.reg [Zv 9 3,Zk 10 .add 9 1,Zv 3 10])))))) (Zq [Zt 2 true] .ret)))⟩
theorem a276_ok:Jf prog Tryz.f276=some a276:=by kernel_rfl
def a277:Jk:= ⟨28,[.t 2],(Zq [ZB 1 0,Zt 2 false] (.seq (Zq [Zf 5 0 1,Zl 6 false 1 5,Zc 7 102 [.t 6,(.k (.int .i64 0)),(.k (.int .i64 8))],ZN 8 7,Zv 9 8,Zg 10 9 false (.fld 1 (.t 1)),Zg 11 9 false (.ld false 1 (.t 10)),Zg 12 9 false (.len false (.t 11)),Zg 13 9 false (.bin .gtr (.t 12) (.k (.int .i64 20))),ZP 14 9 13] (.cond (.t 14) (Zq [Zt 2 false] .ret) .skip)) (.seq (Zq [Zf 15 1 1,Zl 16 false 1 15,Zn 17 16,Zi 18 0] (.blk 0 (.loop (Zq [Zb 19 .lss 18 17] (.seq (Zw 19 0) (.seq (.blk 1 (Zq [Zx 20 2 16 18,Zl 21 true 2 20,Zo 4 (.box [(.int .i64 0),(.nil 1)]),⟨no,.st 2 (.t 4) (.t 21),no⟩] (Zq [Zl 22 true 2 4,Zf 23 0 1,Zl 24 false 1 23,Zc 25 146 [.t 22,.t 24],ZN 26 25] (.cond (.t 26) (Zq [Zt 2 false] .ret) .skip)))) (.reg [Zk 27 .add 18 1,Zv 18 27]))))))) (Zq [Zt 2 true] .ret))))⟩
theorem a277_ok:Jf prog Tryz.f277=some a277:=by kernel_rfl
def a258:Jk:= ⟨29,[.t 2],(Zq [ZB 1 0,Zt 2 false] (.seq (Zq [Zi 3 0] (.blk 0 (.loop (.seq (Zq [Zv 4 3,Zf 5 1 1,Zl 6 false 1 5,Zn 7 6,Zb 8 .lss 4 7] (Zw 8 0)) (.seq (.blk 1 (.seq (.draw (.op (Zf 11 1 1) (.op (Zl 12 false 1 11) (.op (Zv 13 3) (.op (Zx 14 2 12 13) (.op (Zl 15 true 2 14) (.op (Zf 16 0 1) (.op (Zl 17 false 1 16) (.op (Zc 18 179 [.t 15,.t 17]) (.op (ZN 19 18) .fin)))))))))) (.cond (.t 19) (Zq [Zt 2 false] .ret) .skip))) (.reg [Zv 9 3,Zk 10 .add 9 1,Zv 3 10])))))) (Zq [Zf 20 0 1,Zl 21 false 1 20,Zc 22 183 [.t 21,(.k (.int .i64 0)),(.k (.int .i64 8))],Zv 23 22,Zg 24 23 true (.fld 1 (.t 1)),Zg 25 23 true (.ld false 1 (.t 24)),Zg 26 23 true (.len false (.t 25)),Zg 27 23 true (.bin .leq (.t 26) (.k (.int .i64 20))),ZQ 28 23 27,Zv 2 28] .ret)))⟩
theorem a258_ok:Jf prog Tryz.f258=some a258:=by kernel_rfl
def U6(l:Jc)(k:Int):Option Jc:=if (Uv l.Const k).2&&K4 l l.Coeffs.length then some ⟨(Uv l.Const k).1,l.Coeffs⟩else Option.none
theorem Cf(l:Jc)(k:Int):Holds prog 189 [.agg (Ja l),i64 k] (λr=>r=X1 (U6 l k)):=by
 refine Jp Tryz.func189 a189_ok rfl (by simp[a189]) ?_;simp[a189,Ja];refine Jd (J29 l.Const k) (by simp) ?_;rintro r rfl;simp[Uy];unfold U6;cases h1:(Uv l.Const k).2
 ·simp[X1,Jl,J9,Jg]
 simp;intro _;refine Jd (Gx l l.Coeffs.length) (by simp[Ja]) ?_;rintro r rfl;cases h2:K4 l l.Coeffs.length
 ·simp[X1,Jl,J9,Jg]
 simp;have hl:=W0 h2;refine Jd (Nu l (by omega)) (by simp[Ja]) ?_;rintro r rfl;simp[J9,X1]
def Eb(l:Jc):Bool:=l.Coeffs.all (· == 0)
theorem J5u(n:Int):Holds prog 310 [i64 n] (λr=>r = .bool (!(n==0))):=by refine Jp Tryz.func310 a310_ok rfl (by simp[a310]) ?_;simp[a310];rfl
theorem J7c(l:Jc):Holds prog 279 [.agg (Ja l)] (λr=>r = .bool (Eb l)):=by
 refine Jp Tryz.func279 a279_ok rfl (by simp[a279]) ?_;simp[a279,Ja]
 refine Hz (p:=λn => !(n==0)) (rowOf:=λn=>[i64 n]) (eltOf:=i64) Tryz.func233 a233_ok rfl Tryz.func292 a292_ok rfl (λx=>by simp) l.Coeffs
  (λx _=>Mn (J5u x) rfl rfl) ?_
 rw[Dq (λn:Int=>n==0)];simp[Eb]
theorem J5n(l:Jc):Holds prog 276 [.agg (Ja l)] (λr=>r = .bool (Eb l)):=by
 refine Vv Tryz.func276 rfl rfl λhl=>?_
 simp[Ja]at hl;refine Jp Tryz.func276 a276_ok rfl (by simp[a276]) ?_;simp[a276,Ja];refine Qm [1] 3 l.Coeffs.length (λi _=>(l.Coeffs.drop i).all (· == 0)=Eb l) hl (by simp) rfl ?_ ?_
 ·rintro i s h R hi hg hk s3 hw hJ hh hR hret _;simp at hk hh;rw[drop_eq_getElem_cons hi,all_cons]at hJ;simp[hk,s3,hi,hh,hw];intro _;by_cases h0:l.Coeffs[i]=0
  ·simp[h0]at hJ⊢;exact hR _ (by simp[hk]) (by simp) (by simpa using hJ)
  ·have hJ:Eb l=false:=by rw[<-hJ];simp[h0]
   simp[h0];refine hret _ _ _ ?_;simp[hJ]
 ·rintro s h R hk s3 hJ hh _ hX;simp at hk hh;simp at hJ;simp[hk,s3,hh];intro _;refine hX _ _ ?_;simp[<-hJ]
def Q4(s:Xm):Bool:=K9 s.N 0 8&&decide (s.Rows.length<=20)&&s.Rows.all λr=>K4 r s.N
theorem J00(x:Xm):Holds prog 277 [.agg (Kv x)] (λr=>r = .bool (Q4 x)):=by
 refine Jp Tryz.func277 a277_ok rfl (by simp[a277]) ?_;simp[a277,Kv];refine Jd (O0 x.N 0 8) (by simp) ?_;rintro r rfl;unfold Q4;cases h1:K9 x.N 0 8
 ·simp
 simp;intro hl;by_cases h2:x.Rows.length<=20
 case neg=>simp[h2];omega
 simp[h2];refine⟨λh=>by omega,λ_ _=>?_⟩;refine Ki [1,16,17] 18 x.Rows.length (λi s h n=>0<n/\h 0=some ⟨true,2,[[.int .i64 x.N,.sl 2 (x.Rows.map Ja)]]⟩/\(x.Rows.drop i).all (λr=>K4 r x.N)=x.Rows.all (λr=>K4 r x.N)) hl (by simp) ⟨by simp,by simp,rfl⟩ ?_ ?_
 ·rintro i s h n R hi hg hk s18 hw ⟨hn,e0,hJ⟩ hR hret _;simp at hk;rw[drop_eq_getElem_cons hi,all_cons]at hJ;have hn':¬0=n:=by omega
  simp[hk,s18,hi,e0,hn',Ja];refine Jd (Gx _ _) rfl ?_;rintro r rfl;cases h0:K4 x.Rows[i] x.N
  ·rw[h0]at hJ;have hJ:x.Rows.all (λr=>K4 r x.N)=false:=by rw[<-hJ];rfl
   simp;refine hret _ _ _ ?_;simp[hJ]
  ·rw[h0,Bool.true_and]at hJ;simp[s18,hw];exact hR _ _ _ (by simp[hk]) (by simp) ⟨by omega,by simp[hn',e0],hJ⟩
 ·rintro s h n R hk s18 ⟨hn,e0,hJ⟩ hret hX;simp at hk;rw[drop_eq_nil_of_le (Nat.le_refl _)]at hJ;simp[hk,s18];refine hX _ _ _ _ ?_;rw[<-hJ];simp
theorem J0a(x:Xm):Holds prog 258 [.agg (Kv x)] (λr=>r = .bool (Q4 x)):=by
 refine Vv Tryz.func258 rfl rfl λhl=>?_
 simp[Kv]at hl;refine Jp Tryz.func258 a258_ok rfl (by simp[a258]) ?_;simp[a258,Kv];refine Qm [1] 3 x.Rows.length (λi _=>(x.Rows.drop i).all (λr=>K4 r x.N)=x.Rows.all (λr=>K4 r x.N)) hl (by simp) rfl ?_ ?_
 ·rintro i s h R hi hg hk s3 hw hJ hh hR hret _;simp at hk hh;rw[drop_eq_getElem_cons hi,all_cons]at hJ;simp[hk,s3,hi,hh];intro _;refine Jw (Ge _ _) rfl ?_;rintro r rfl;cases h0:K4 x.Rows[i] x.N
  ·rw[h0]at hJ;have hJ:x.Rows.all (λr=>K4 r x.N)=false:=by rw[<-hJ];rfl
   simp;refine hret _ _ _ ?_;simp[Q4,hJ]
  ·rw[h0,Bool.true_and]at hJ;simp[s3,hw];exact hR _ (by simp[hk]) (by simp) hJ
 ·rintro s h R hk s3 hJ hh _ hX;simp at hk hh;rw[drop_eq_nil_of_le (Nat.le_refl _)]at hJ;simp[hk,s3,hh];intro _;refine hX _ _ ?_;simp[hk];refine Jd (Hh x.N 0 8) (by simp) ?_;rintro r rfl;unfold Q4;rw[<-hJ];cases h1:K9 x.N 0 8
  ·simp
  simp[hk];intro _;omega
def a309:Jk:= ⟨6,[.t 2],(Zq [Zt 2 false] (Zq [Zv 3 0,Zc 4 102 [.t 3,(.k (.int .i64 0)),(.k (.int .i64 1000000000))],ZN 5 4,Zv 2 5] .ret))⟩
theorem a309_ok:Jf prog Tryz.f309=some a309:=by kernel_rfl
def a278:Jk:= ⟨52,[(.c 4 true 2),.t 5],(Zq [ZB 2 0,Zo 4 (.box [(.int .i64 0),(.nil 1)]),Zt 5 false] (.seq (Zq [Zl 10 true 2 2,Zc 11 277 [.t 10],ZN 12 11,Zv 13 12,Zg 14 13 false (.mv (.t 1)),Zg 15 13 false (.len false (.t 14)),Zg 16 13 false (.fld 1 (.t 2)),Zg 17 13 false (.ld false 1 (.t 16)),Zg 18 13 false (.len false (.t 17)),Zg 19 13 false (.bin .neq (.t 15) (.t 18)),ZP 20 13 19,Zv 21 20,Zg 22 21 false (.mv (.t 1)),Zg 23 21 false (.call (.k (.fn (.func 233) [] [])) [.t 22,(.k (.fn (.func 309) [] []))]),ZP 24 21 23] (.cond (.t 24) (Zq [Zo 25 (.build [(.int .i64 0),(.nil 1)] []),⟨no,.st 2 (.t 4) (.t 25),no⟩,Zt 5 false] .ret) .skip)) (Zq [Zf 26 0 2,Zl 27 false 1 26,Zc 28 178 [(.k (.int .i64 0)),.t 27],Zo 6 (.box [(.int .i64 0),(.nil 1)]),⟨no,.st 2 (.t 6) (.t 28),no⟩] (Zq [Zt 7 true] (.seq (Zq [Zv 29 1,Zn 30 29,Zi 31 0] (.blk 0 (.loop (Zq [Zb 32 .lss 31 30] (.seq (Zw 32 0) (.seq (.blk 1 (Zq [Zv 33 31,Zx 34 1 29 31,Zl 35 false 1 34,Zv 8 33,Zv 9 35] (.seq (.draw (.op (Zl 37 true 2 6) (.op (Zv 38 9) (.op (Zf 39 1 2) (.op (Zl 40 false 1 39) (.op (Zv 41 8) (.op (Zx 42 2 40 41) (.op (Zl 43 true 2 42) (.op (Zc 44 193 [.t 37,.t 38,.t 43]) (.op (Zv 36 44) (.op (Ze 45 36 0) (.op (Ze 46 36 1) (.hop ⟨no,.st 2 (.t 6) (.t 45),no⟩ [] (.op (Zv 7 46) .fin)))))))))))))) (Zq [Zv 47 7,ZN 48 47] (.cond (.t 48) (Zq [Zo 49 (.build [(.int .i64 0),(.nil 1)] []),⟨no,.st 2 (.t 4) (.t 49),no⟩,Zt 5 false] .ret) .skip))))) (.reg [Zk 50 .add 31 1,Zv 31 50]))))))) (Zq [Zl 51 true 2 6,⟨no,.st 2 (.t 4) (.t 51),no⟩,Zt 5 true] .ret))))))⟩
theorem a278_ok:Jf prog Tryz.f278=some a278:=by kernel_rfl
def a275:Jk:= ⟨57,[(.c 4 true 2),.t 5],(Zq [ZB 2 0,Zo 4 (.box [(.int .i64 0),(.nil 1)]),Zt 5 false] (.seq (Zq [Zl 10 true 2 2,Zc 11 258 [.t 10],ZN 12 11,Zv 13 12,Zg 14 13 false (.mv (.t 1)),Zg 15 13 false (.len false (.t 14)),Zg 16 13 false (.fld 1 (.t 2)),Zg 17 13 false (.ld false 1 (.t 16)),Zg 18 13 false (.len false (.t 17)),Zg 19 13 false (.bin .neq (.t 15) (.t 18)),ZP 20 13 19] (.cond (.t 20) (Zq [Zo 21 (.build [(.int .i64 0),(.nil 1)] []),⟨no,.st 2 (.t 4) (.t 21),no⟩,Zt 5 false] .ret) .skip)) (Zq [Zf 22 0 2,Zl 23 false 1 22,Zc 24 99 [(.k (.int .i64 0)),.t 23],Zo 6 (.box [(.int .i64 0),(.nil 1)]),⟨no,.st 2 (.t 6) (.t 24),no⟩] (.seq (Zq [Zi 7 0] (.blk 0 (.loop (.seq (Zq [Zv 25 7,Zv 26 1,Zn 27 26,Zb 28 .lss 25 27] (Zw 28 0)) (.seq (.blk 1 (.seq (.draw (.op (Zl 32 true 2 6) (.op (Zv 33 1) (.op (Zv 34 7) (.op (Zx 35 1 33 34) (.op (Zl 36 false 1 35) (.op (Zf 37 1 2) (.op (Zl 38 false 1 37) (.op (Zv 39 7) (.op (Zx 40 2 38 39) (.op (Zl 41 true 2 40) (.both (.op (Zc 42 98 [.t 32,.t 36,.t 41]) (.op (Zv 31 42) (.op (Ze 43 31 0) (.op (Ze 44 31 1) (.op (Zo 8 (.box [(.int .i64 0),(.nil 1)])) (.hop ⟨no,.st 2 (.t 8) (.t 43),no⟩ [] (.op (Zv 9 44) .fin))))))) (.op (Zo 8 (.box [(.int .i64 0),(.nil 1)])) (.op (Zc 42 98 [.t 32,.t 36,.t 41]) (.op (Zv 31 42) (.op (Ze 43 31 0) (.op (Ze 44 31 1) (.hop ⟨no,.st 2 (.t 8) (.t 43),no⟩ [] (.op (Zv 9 44) .fin))))))))))))))))))) (.seq (Zq [Zv 45 9,ZN 46 45,Zv 47 46,Zg 48 47 false (.mv (.t 1)),Zg 49 47 false (.mv (.t 7)),Zg 50 47 false (.ixa 1 (.t 48) (.t 49)),Zg 51 47 false (.ld false 1 (.t 50)),Zg 52 47 false (.bin .lss (.t 51) (.k (.int .i64 0))),ZP 53 47 52] (.cond (.t 53) (Zq [Zo 54 (.build [(.int .i64 0),(.nil 1)] []),⟨no,.st 2 (.t 4) (.t 54),no⟩,Zt 5 false] .ret) .skip)) (.reg [Zl 55 true 2 8,⟨no,.st 2 (.t 6) (.t 55),no⟩])))) (.reg [Zv 29 7,Zk 30 .add 29 1,Zv 7 30])))))) (Zq [Zl 56 true 2 6,⟨no,.st 2 (.t 4) (.t 56),no⟩,Zt 5 true] .ret)))))⟩
theorem a275_ok:Jf prog Tryz.f275=some a275:=by kernel_rfl
def Gz:List (Int×Jc)->Jc->Option Jc
 | [],o=>some o
 |p::l,o=>match Kg o p.1 p.2 with
  |some o'=>if p.1<0 then Option.none else Gz l o'
  |Option.none=>Option.none
def Ip(x:Xm)(m:List Int):Option Jc:=
 if Q4 x&&decide (m.length=x.Rows.length)then Gz (m.zip x.Rows) (Jo 0 x.N)else Option.none
theorem J45:∀(l:List (Int×Jc)) (o:Jc),(∃p∈l,K9 p.1 0 1000000000=false)->Gz l o=Option.none
 | [],o,h=>by obtain⟨p,hp,_⟩:=h;cases hp
 |q::l,o,h=>by
  obtain⟨p,hp,hb⟩:=h;simp only[Gz];split
  ·rename_i o' ho;split
   ·rfl
   ·rename_i hq;rcases mem_cons.1 hp with rfl|hp
    ·exfalso
     have hk:Ky p.1=true:=by
      cases hc:Ky p.1
      ·unfold Kg at ho;rw[hc]at ho;simp at ho
      ·rfl
     rw[Oi]at hk;simp[K9]at hb;omega
    ·exact J45 l o' ⟨p,hp,hb⟩
  ·rfl
theorem Jlm{m:List Int}{rows:List Jc}(hl:m.length=rows.length)(h:m.all (λv=>K9 v 0 1000000000)=false):∃p∈m.zip rows,K9 p.1 0 1000000000=false:=by rw[List.all_eq_false]at h;obtain⟨v,hv,hb⟩:=h;obtain⟨i,hi,rfl⟩:=mem_iff_getElem.1 hv;exact⟨(m[i],rows[i]),mem_iff_getElem.2 ⟨i,by simp;omega,by simp⟩,by simpa using hb⟩
theorem J3y(n:Int):Holds prog 309 [i64 n] (λr=>r = .bool (!(K9 n 0 1000000000))):=by refine Jp Tryz.func309 a309_ok rfl (by simp[a309]) ?_;simp[a309];refine Jd (O0 n 0 1000000000) (by simp) ?_;rintro r rfl;simp
set_option maxHeartbeats 1000000 in
theorem J5s(x:Xm)(m:List Int):Holds prog 278 [.agg (Kv x),.sl 1 (Jg m)] (λr=>r=X1 (Ip x m)):=by
 refine Jp Tryz.func278 a278_ok rfl (by simp[a278]) ?_;simp[a278,Kv];refine Jd (J00 x) (by simp[Kv]) ?_;rintro r rfl;unfold Ip;cases h1:Q4 x
 ·simp[X1,Jl,J9,Jg]
 simp;intro hlm hlr;by_cases h2:m.length=x.Rows.length
 case neg=>simp[h2,X1,Jl,J9,Jg];omega
 simp[h2]
 refine Hz (p:=λn => !(K9 n 0 1000000000)) (rowOf:=λn=>[i64 n]) (eltOf:=i64) Tryz.func233 a233_ok rfl Tryz.func292 a292_ok rfl (λx=>by simp) m
  (λx _=>Mn (J3y x) rfl rfl) ?_
 rw[Dq (λn:Int=>K9 n 0 1000000000)];cases h3:m.all (λn=>K9 n 0 1000000000)
 ·rw[J45 _ _ (Jlm h2 h3)];simp[X1,Jl,J9,Jg]
 simp;refine Jd (On 0 x.N) (by simp) ?_;rintro r rfl;simp[J9];intro _;have hzl:(m.zip x.Rows).length=m.length:=by simp[h2]
 refine Ki [2,4,6,29,30] 31 m.length (λi s h n=>h 0=some ⟨true,2,[[.int .i64 x.N,.sl 2 (x.Rows.map Ja)]]⟩/\h 1=some ⟨true,2,[[.int .i64 0,.nil 1]]⟩/\3<n /\
  ∃(o:Jc) (id:Nat),h 3=some ⟨true,2,[[.int .i64 o.Const,.ref id 0 o.Coeffs.length]]⟩/\h id=some ⟨false,1,Jg o.Coeffs⟩/\id<n/\(id=2\/3<id)/\Gz ((m.zip x.Rows).drop i) o=Gz (m.zip x.Rows) (Jo 0 x.N))
  hlm (by simp) ⟨by simp,by simp,by simp,Jo 0 x.N,2,by simp,by simp,by omega,by omega,rfl⟩ ?_ ?_
 ·rintro i s h n R hi hg hk s31 hw ⟨e0,e1,hn,o,id,e3,eid,hidn,hid,hJ⟩ hR hret _;simp at hk;have hir:i<x.Rows.length:=by omega
  rw[drop_eq_getElem_cons (by omega:i<(m.zip x.Rows).length)]at hJ;simp only[Gz,getElem_zip]at hJ;have hm:=all_eq_true.1 h3 _ (getElem_mem hi);simp[K9]at hm;have n0:¬0=n:=by omega
  have n1:¬1=n:=by omega
  have n3:¬3=n:=by omega
  have n3':¬n=3:=by omega
  have nid:¬id=n:=by omega
  simp[hk,s31,hi,hir,e0,e3];refine Jw (Ih o (m[i]'hi) (x.Rows[i]'hir)) (by simp[Ja,eid]) ?_;rintro r rfl;cases ho:Kg o m[i] x.Rows[i]
  ·rw[ho]at hJ;simp[X1,Jl,J9,hk,e1,e3,n1,n3];refine hret _ _ _ ?_;simp[hk,<-hJ,X1,Jl,J9,Jg]
  ·rename_i o';rw[ho]at hJ;simp only at hJ;rw[if_neg (by omega)]at hJ;simp[X1,J9,hk,s31,hw,e3,n3];exact hR _ _ _ (by simp[hk]) (by simp) ⟨by simp[e0,n0],by simp[e1,n1],by omega,o',n,by simp,by simp[n3'],by omega,by omega,hJ⟩
 ·rintro s h n R hk s31 ⟨e0,e1,hn,o,id,e3,eid,hidn,hid,hJ⟩ hret hX;simp at hk;rw[drop_eq_nil_of_le (by omega)]at hJ;simp only[Gz]at hJ;simp[hk,s31];refine hX _ _ _ _ ?_;have i1:¬1=id:=by omega
  have i1':¬id=1:=by omega
  simp[hk,e1,e3,eid,<-hJ,X1,J9,i1']
theorem J3v(x:Xm)(m:List Int):Holds prog 275 [.agg (Kv x),.sl 1 (Jg m)] (λr=>r=X1 (Ip x m)):=by
 refine Vv Tryz.func275 rfl rfl λhlm=>?_
 simp[Kv]at hlm;refine Jp Tryz.func275 a275_ok rfl (by simp[a275]) ?_;simp[a275,Kv];refine Jd (J0a x) (by simp[Kv]) ?_;rintro r rfl;unfold Ip;cases h1:Q4 x
 ·simp[X1,Jl,J9,Jg]
 simp;intro _ _;by_cases h2:m.length=x.Rows.length
 case neg=>simp[h2,X1,Jl,J9,Jg];omega
 simp[h2];refine Jd (O4 0 x.N) (by simp) ?_;rintro r rfl;simp[J9];have hzl:(m.zip x.Rows).length=m.length:=by simp[h2]
 refine Ki [1,2,4,6] 7 m.length (λi s h n=>h 0=some ⟨true,2,[[.int .i64 x.N,.sl 2 (x.Rows.map Ja)]]⟩/\h 1=some ⟨true,2,[[.int .i64 0,.nil 1]]⟩/\3<n /\
  ∃(o:Jc) (id:Nat),h 3=some ⟨true,2,[[.int .i64 o.Const,.ref id 0 o.Coeffs.length]]⟩/\h id=some ⟨false,1,Jg o.Coeffs⟩/\id<n/\(id=2\/3<id)/\Gz ((m.zip x.Rows).drop i) o=Gz (m.zip x.Rows) (Jo 0 x.N))
  hlm.2 (by simp) ⟨by simp,by simp,by simp,Jo 0 x.N,2,by simp,by simp,by omega,by omega,rfl⟩ ?_ ?_
 ·rintro i s h n R hi hg hk s7 hw ⟨e0,e1,hn,o,id,e3,eid,hidn,hid,hJ⟩ hR hret _;simp at hk;have hir:i<x.Rows.length:=by omega
  rw[drop_eq_getElem_cons (by omega:i<(m.zip x.Rows).length)]at hJ;simp only[Gz,getElem_zip]at hJ;have n0:¬0=n:=by omega
  have n1:¬1=n:=by omega
  have n3:¬3=n:=by omega
  have n3':¬n=3:=by omega
  have nid:¬id=n:=by omega
  have m0:¬0=n+1:=by omega
  have m1:¬1=n+1:=by omega
  have m3:¬3=n+1:=by omega
  have m3':¬n+1=3:=by omega
  have mid:¬id=n+1:=by omega
  have z0:¬n=0:=by omega
  have z2:¬n=2:=by omega
  simp[hk,s7,hi,hir,e0,e3];intro _;constructor
  ·skip;refine Jw (Ve o (m[i]'hi) (x.Rows[i]'hir)) (by simp[Ja,eid]) ?_;rintro r rfl;cases ho:Kg o m[i] x.Rows[i]
   ·rw[ho]at hJ;simp[X1,Jl,J9,hk,s7,e1,e3,n1,n3,z0,z2];refine hret _ _ _ ?_;simp[hk,<-hJ,X1,Jl,J9,Jg]
   ·rename_i o';rw[ho]at hJ;simp only at hJ;simp[X1,J9,hk,s7,hi,hw,e1,e3,n1,n3,z0,z2];refine⟨λhm=>?_,λhm=>?_⟩
    ·rw[if_pos hm]at hJ;refine hret _ _ _ ?_;simp[hk,<-hJ,X1,Jl,J9,Jg]
    ·rw[if_neg (by omega)]at hJ;exact hR _ _ _ (by simp[hk]) (by simp) ⟨by simp[e0,n0],by simp[e1,n1,z0],by omega,o',n,by simp,by simp[n3'],by omega,by omega,hJ⟩
  ·skip;refine Jw (Ve o (m[i]'hi) (x.Rows[i]'hir)) (by simp[Ja,eid,nid]) ?_;rintro r rfl;cases ho:Kg o m[i] x.Rows[i]
   ·rw[ho]at hJ;simp[X1,Jl,J9,hk,s7,e1,e3,n1,n3,z0,z2];refine hret _ _ _ ?_;simp[hk,<-hJ,X1,Jl,J9,Jg]
   ·rename_i o';rw[ho]at hJ;simp only at hJ;simp[X1,J9,hk,s7,hi,hw,e1,e3,n1,n3,z0,z2];refine⟨λhm=>?_,λhm=>?_⟩
    ·rw[if_pos hm]at hJ;refine hret _ _ _ ?_;simp[hk,<-hJ,X1,Jl,J9,Jg]
    ·rw[if_neg (by omega)]at hJ;exact hR _ _ _ (by simp[hk]) (by simp) ⟨by simp[e0,n0],by simp[e1,n1,z0],by omega,o',n+1,by simp,by simp[z2],by omega,by omega,hJ⟩
 ·rintro s h n R hk s7 ⟨e0,e1,hn,o,id,e3,eid,hidn,hid,hJ⟩ hret hX;simp at hk;rw[drop_eq_nil_of_le (by omega)]at hJ;simp only[Gz]at hJ;simp[hk,s7];intro _;refine hX _ _ _ _ ?_;have i1:¬1=id:=by omega
  have i1':¬id=1:=by omega
  simp[hk,e1,e3,eid,<-hJ,X1,J9,i1']
def a196:Jk:= ⟨66,[.t 6],(Zq [ZB 3 0,ZB 4 1,ZB 5 2,Zt 6 false] (.seq (Zq [Zl 13 true 2 3,Zc 14 277 [.t 13],ZN 15 14,Zv 16 15,Zg 17 16 false (.ld true 2 (.t 4)),Zg 18 16 false (.fld 0 (.t 3)),Zg 19 16 false (.ld false 1 (.t 18)),Zg 20 16 false (.call (.k (.fn (.func 146) [] [])) [.t 17,.t 19]),Zg 21 16 false (.un .not (.t 20)),ZP 22 16 21,Zv 23 22,Zg 24 23 false (.fld 0 (.t 5)),Zg 25 23 false (.ld false 1 (.t 24)),Zg 26 23 false (.call (.k (.fn (.func 102) [] [])) [.t 25,(.k (.int .i64 0)),(.k (.int .i64 1000000000))]),Zg 27 23 false (.un .not (.t 26)),ZP 28 23 27] (.cond (.t 28) (Zq [Zt 6 false] .ret) .skip)) (Zq [Zl 30 true 2 3,Zf 31 1 5,Zl 32 false 1 31,Zc 33 278 [.t 30,.t 32],Zv 29 33,Ze 34 29 0,Ze 35 29 1,Zo 7 (.box [(.int .i64 0),(.nil 1)]),⟨no,.st 2 (.t 7) (.t 34),no⟩,Zv 8 35] (Zq [Zl 37 true 2 4,Zc 38 189 [.t 37,(.k (.int .i64 1))],Zv 36 38,Ze 39 36 0,Ze 40 36 1,Zo 9 (.box [(.int .i64 0),(.nil 1)]),⟨no,.st 2 (.t 9) (.t 39),no⟩,Zv 10 40] (.seq (Zq [Zv 41 8,ZN 42 41,Zv 43 42,Zg 44 43 false (.mv (.t 10)),Zg 45 43 false (.un .not (.t 44)),ZP 46 43 45] (.cond (.t 46) (Zq [Zt 6 false] .ret) .skip)) (Zq [Zl 48 true 2 7,Zf 49 0 5,Zl 50 false 1 49,Zo 51 (.un .neg (.t 50)),Zl 52 true 2 9,Zc 53 193 [.t 48,.t 51,.t 52],Zv 47 53,Ze 54 47 0,Ze 55 47 1,Zo 11 (.box [(.int .i64 0),(.nil 1)]),⟨no,.st 2 (.t 11) (.t 54),no⟩,Zv 12 55] (Zq [Zv 56 12,Zv 57 56,Zg 58 57 true (.ld true 2 (.t 11)),Zg 59 57 true (.call (.k (.fn (.func 279) [] [])) [.t 58]),ZQ 60 57 59,Zv 61 60,Zg 62 61 true (.fld 0 (.t 11)),Zg 63 61 true (.ld false 1 (.t 62)),Zg 64 61 true (.bin .lss (.t 63) (.k (.int .i64 0))),ZQ 65 61 64,Zv 6 65] .ret)))))))⟩
theorem a196_ok:Jf prog Tryz.f196=some a196:=by kernel_rfl
def a195:Jk:= ⟨65,[.t 6],(Zq [ZB 3 0,ZB 4 1,ZB 5 2,Zt 6 false] (Zq [Zl 14 true 2 3,Zf 15 1 5,Zl 16 false 1 15,Zc 17 275 [.t 14,.t 16],Zv 13 17,Ze 18 13 0,Ze 19 13 1,Zo 7 (.box [(.int .i64 0),(.nil 1)]),⟨no,.st 2 (.t 7) (.t 18),no⟩,Zv 8 19] (.seq (Zq [Zv 20 8,ZN 21 20,Zv 22 21,Zg 23 22 false (.ld true 2 (.t 4)),Zg 24 22 false (.fld 0 (.t 3)),Zg 25 22 false (.ld false 1 (.t 24)),Zg 26 22 false (.call (.k (.fn (.func 179) [] [])) [.t 23,.t 25]),Zg 27 22 false (.un .not (.t 26)),ZP 28 22 27,Zv 29 28,Zg 30 29 false (.fld 0 (.t 5)),Zg 31 29 false (.ld false 1 (.t 30)),Zg 32 29 false (.call (.k (.fn (.func 183) [] [])) [.t 31,(.k (.int .i64 0)),(.k (.int .i64 1000000000))]),Zg 33 29 false (.un .not (.t 32)),ZP 34 29 33] (.cond (.t 34) (Zq [Zt 6 false] .ret) .skip)) (.seq (.draw (.op (Zl 36 true 2 4) (.op (Zf 37 0 3) (.op (Zl 38 false 1 37) (.both (.op (Zc 39 99 [(.k (.int .i64 1)),.t 38]) (.both (.op (Zc 40 98 [.t 36,(.k (.int .i64 1)),.t 39]) (.op (Zv 35 40) (.op (Ze 41 35 0) (.op (Ze 42 35 1) (.op (Zo 9 (.box [(.int .i64 0),(.nil 1)])) (.hop ⟨no,.st 2 (.t 9) (.t 41),no⟩ [] (.op (Zv 10 42) .fin))))))) (.op (Zo 9 (.box [(.int .i64 0),(.nil 1)])) (.op (Zc 40 98 [.t 36,(.k (.int .i64 1)),.t 39]) (.op (Zv 35 40) (.op (Ze 41 35 0) (.op (Ze 42 35 1) (.hop ⟨no,.st 2 (.t 9) (.t 41),no⟩ [] (.op (Zv 10 42) .fin))))))))) (.op (Zo 9 (.box [(.int .i64 0),(.nil 1)])) (.op (Zc 39 99 [(.k (.int .i64 1)),.t 38]) (.op (Zc 40 98 [.t 36,(.k (.int .i64 1)),.t 39]) (.op (Zv 35 40) (.op (Ze 41 35 0) (.op (Ze 42 35 1) (.hop ⟨no,.st 2 (.t 9) (.t 41),no⟩ [] (.op (Zv 10 42) .fin))))))))))))) (Zq [Zl 44 true 2 7,Zf 45 0 5,Zl 46 false 1 45,Zo 47 (.bin .sub (.k (.int .i64 0)) (.t 46)),Zl 48 true 2 9,Zc 49 98 [.t 44,.t 47,.t 48],Zv 43 49,Ze 50 43 0,Ze 51 43 1,Zo 11 (.box [(.int .i64 0),(.nil 1)]),⟨no,.st 2 (.t 11) (.t 50),no⟩,Zv 12 51] (Zq [Zv 52 10,Zv 53 52,Zg 54 53 true (.mv (.t 12)),ZQ 55 53 54,Zv 56 55,Zg 57 56 true (.ld true 2 (.t 11)),Zg 58 56 true (.call (.k (.fn (.func 276) [] [])) [.t 57]),ZQ 59 56 58,Zv 60 59,Zg 61 60 true (.fld 0 (.t 11)),Zg 62 60 true (.ld false 1 (.t 61)),Zg 63 60 true (.bin .lss (.t 62) (.k (.int .i64 0))),ZQ 64 60 63,Zv 6 64] .ret))))))⟩
theorem a195_ok:Jf prog Tryz.f195=some a195:=by kernel_rfl
def Bh(x:Xm)(t:Jc)(f:Xz):Option Jc:=Kg ((Ip x f.Mult).getD Jl) (-f.Scale) ((U6 t 1).getD Jl)
def Qz(x:Xm)(t:Jc)(f:Xz):Bool:=
 (Ip x f.Mult).isSome&&K4 t x.N&&K9 f.Scale 0 1000000000&&(U6 t 1).isSome&&(Bh x t f).isSome&&Eb ((Bh x t f).getD Jl)&&decide (((Bh x t f).getD Jl).Const<0)
theorem Ji1{x:Xm}{m:List Int}(h:(Ip x m).isSome=true):Q4 x=true:=by
 unfold Ip at h;cases hs:Q4 x
 ·rw[hs]at h;simp at h
 ·rfl
theorem Ji4{t:Jc}{n:Int}(h:K4 t n=true):Kg t 1 (Jo 1 n)=U6 t 1:=by
 have hl:=W0 h
 have hc:Jo 1 n=⟨1,List.replicate n.toNat 0⟩:=by unfold Jo;rw[if_pos (by simp[K9,Ky];omega)]
 have hz:∀c,Ky c=true->U1 c 1 0=some c:=λc hc=>by
  have h0:Ky 0=true:=by decide
  have h1:Ky 1=true:=by decide
  simp[U1,Xw,Uv,h0,h1,hc]
 have h1:U1 t.Const 1 1=if (Uv t.Const 1).2 then some (Uv t.Const 1).1 else Option.none:=by
  have h1:Ky 1=true:=by decide
  simp[U1,Xw,h1]
 have hok:K4 t t.Coeffs.length=true:=by rw[hl.1];exact h
 have hok2:K4 (Jo 1 n) t.Coeffs.length=true:=by rw[hc];unfold K4;simp[K9];exact⟨⟨⟨by omega,by omega⟩,by decide⟩,.inr (by decide)⟩
 have hall:t.Coeffs.all Ky=true:=by unfold K4 at h;simp at h;simpa using h.2
 have hZ:Yy t 1 (Jo 1 n)=t.Coeffs.map some:=by
  rw[hc];unfold Yy;refine List.ext_getElem (by simp;omega) λi h1 h2=>?_
  simp;exact hz _ (all_eq_true.1 hall _ (getElem_mem _))
 have hO:Dh t 1 (Jo 1 n)=true:=by unfold Dh;rw[hZ];simp
 unfold Kg U6;rw[hok,hok2,hO,hZ];have hc1:(Jo 1 n).Const=1:=by rw[hc]
 rw[hc1,h1];have h11:Ky 1=true:=by decide
 rw[h11];cases(Uv t.Const 1).2 <;>simp[Function.comp_def]
theorem J0y(x:Xm)(t:Jc)(f:Xz):Holds prog 196 [.agg (Kv x),.agg (Ja t),.agg (Up f)] (λr=>r = .bool (Qz x t f)):=by
 refine Jp Tryz.func196 a196_ok rfl (by simp[a196]) ?_;simp[a196,Kv,Ja,Up];refine Jd (J00 x) (by simp[Kv]) ?_;rintro r rfl;unfold Qz;cases h1:Q4 x
 ·have h1':(Ip x f.Mult).isSome=false:=by
   cases hc:(Ip x f.Mult).isSome
   ·rfl
   ·rw[Ji1 hc]at h1;cases h1
  simp[h1']
 simp;refine Jd (Gx t x.N) (by simp[Ja]) ?_;rintro r rfl;cases h2:K4 t x.N
 ·simp
 simp;refine Jd (O0 f.Scale 0 1000000000) (by simp) ?_;rintro r rfl;cases h3:K9 f.Scale 0 1000000000
 ·simp
 have hs:0<=f.Scale/\f.Scale<=1000000000:=by simpa[K9]using h3
 simp;refine Jd (J5s x f.Mult) (by simp[Kv]) ?_;rintro r rfl;rw[Xd];generalize hb1:(Ip x f.Mult).isSome=b1;simp[J9];refine Jd (Cf t 1) (by simp[Ja]) ?_;rintro r rfl;rw[Xd];generalize hb2:(U6 t 1).isSome=b2;cases b1
 ·simp[J9]
 cases b2
 ·simp[J9]
 simp[J9];rw[Kk (by omega)];refine Jd (Ih ((Ip x f.Mult).getD Jl) (-f.Scale) ((U6 t 1).getD Jl)) (by simp[Ja]) ?_;rintro r rfl;rw[show Kg ((Ip x f.Mult).getD Jl) (-f.Scale) ((U6 t 1).getD Jl)=Bh x t f from rfl,Xd];generalize hb3:(Bh x t f).isSome=b3;cases b3
 ·simp[J9]
 simp[J9];refine Jd (J7c ((Bh x t f).getD Jl)) (by simp[Ja]) ?_;rintro r rfl;cases h7:Eb ((Bh x t f).getD Jl) <;>simp
theorem J43(x:Xm)(t:Jc)(f:Xz):Holds prog 195 [.agg (Kv x),.agg (Ja t),.agg (Up f)] (λr=>r = .bool (Qz x t f)):=by
 refine Jp Tryz.func195 a195_ok rfl (by simp[a195]) ?_;simp[a195,Kv,Ja,Up];refine Jd (J3v x f.Mult) (by simp[Kv]) ?_;rintro r rfl;rw[Xd];unfold Qz;generalize hb1:(Ip x f.Mult).isSome=b1;cases b1
 ·simp[J9]
 simp[J9];refine Jd (Ge t x.N) (by simp[Ja]) ?_;rintro r rfl;cases h2:K4 t x.N
 ·simp
 simp;refine Jd (Hh f.Scale 0 1000000000) (by simp) ?_;rintro r rfl;cases h3:K9 f.Scale 0 1000000000
 ·simp
 have hs:0<=f.Scale/\f.Scale<=1000000000:=by simpa[K9]using h3
 simp;refine⟨?_,?_⟩
 all_goals
  refine Jw (O4 1 x.N) (by simp) ?_;rintro r rfl;simp[J9]
 refine And.intro ?_ ?_
 all_goals
  refine Jw (Ve t 1 (Jo 1 x.N)) (by simp[Ja]) ?_;rintro r rfl;rw[Ji4 h2,Xd];generalize hb2:(U6 t 1).isSome=b2;simp[J9];rw[Kk (by omega)];refine Jd (Ve ((Ip x f.Mult).getD Jl) (-f.Scale) ((U6 t 1).getD Jl)) (by simp[Ja]) ?_;rintro r rfl;rw[show Kg ((Ip x f.Mult).getD Jl) (-f.Scale) ((U6 t 1).getD Jl)=Bh x t f from rfl,Xd];generalize hb3:(Bh x t f).isSome=b3;cases b2
  ·simp[J9]
  cases b3
  ·simp[J9]
  simp[J9];refine Jd (J5n ((Bh x t f).getD Jl)) (by simp[Ja]) ?_;rintro r rfl;cases h7:Eb ((Bh x t f).getD Jl) <;>simp
theorem a144_ok:Jf prog Tryz.f144=some (Du 231):=by kernel_rfl
theorem a231_ok:Jf prog Tryz.f231=some (Bf true 2):=by kernel_rfl
def a307:Jk:= ⟨8,[.t 3],(Zq [ZB 2 0,Zt 3 false] (Zq [Zl 4 true 2 2,Zl 5 false 1 1,Zc 6 146 [.t 4,.t 5],ZN 7 6,Zv 3 7] .ret))⟩
theorem a307_ok:Jf prog Tryz.f307=some a307:=by kernel_rfl
def a272:Jk:= ⟨57,[(.c 4 true 2),.t 5],(Zq [ZB 2 0,Zo 4 (.box [(.int .i64 0),(.nil 1)]),Zt 5 false] (Zq [Zo 6 (.box [(.int .i64 0)]),⟨no,.st 1 (.t 6) (.k (.int .i64 0)),no⟩] (.seq (Zq [Zv 11 1,Zn 12 11,Zk 13 .gtr 12 0] (.cond (.t 13) (.reg [Zv 14 1,Zo 15 (.ixa 2 (.t 14) (.k (.int .i64 0))),Zf 16 1 15,Zl 17 false 1 16,Zn 18 17,⟨no,.st 1 (.t 6) (.t 18),no⟩]) .skip)) (.seq (Zq [Zl 19 true 2 2,Zv 20 1,Zn 21 20,Zc 22 146 [.t 19,.t 21],ZN 23 22,Zv 24 23,Zg 25 24 false (.mv (.t 1)),Zg 26 24 false (.mkf (.func 307) [] [.t 6]),Zg 27 24 false (.call (.k (.fn (.func 144) [] [])) [.t 25,.t 26]),ZP 28 24 27] (.cond (.t 28) (Zq [Zo 29 (.build [(.int .i64 0),(.nil 1)] []),⟨no,.st 2 (.t 4) (.t 29),no⟩,Zt 5 false] .ret) .skip)) (Zq [Zf 30 0 2,Zl 31 false 1 30,Zl 32 false 1 6,Zc 33 178 [.t 31,.t 32],Zo 7 (.box [(.int .i64 0),(.nil 1)]),⟨no,.st 2 (.t 7) (.t 33),no⟩] (Zq [Zt 8 true] (.seq (Zq [Zv 34 1,Zn 35 34,Zi 36 0] (.blk 0 (.loop (Zq [Zb 37 .lss 36 35] (.seq (Zw 37 0) (.seq (.blk 1 (Zq [Zv 38 36,Zx 39 2 34 36,Zl 40 true 2 39,Zo 10 (.box [(.int .i64 0),(.nil 1)]),Zv 9 38,⟨no,.st 2 (.t 10) (.t 40),no⟩] (.seq (.draw (.op (Zl 42 true 2 7) (.op (Zf 43 1 2) (.op (Zl 44 false 1 43) (.op (Zv 45 9) (.op (Zx 46 1 44 45) (.op (Zl 47 false 1 46) (.op (Zl 48 true 2 10) (.op (Zc 49 193 [.t 42,.t 47,.t 48]) (.op (Zv 41 49) (.op (Ze 50 41 0) (.op (Ze 51 41 1) (.hop ⟨no,.st 2 (.t 7) (.t 50),no⟩ [] (.op (Zv 8 51) .fin)))))))))))))) (Zq [Zv 52 8,ZN 53 52] (.cond (.t 53) (Zq [Zo 54 (.build [(.int .i64 0),(.nil 1)] []),⟨no,.st 2 (.t 4) (.t 54),no⟩,Zt 5 false] .ret) .skip))))) (.reg [Zk 55 .add 36 1,Zv 36 55]))))))) (Zq [Zl 56 true 2 7,⟨no,.st 2 (.t 4) (.t 56),no⟩,Zt 5 true] .ret))))))))⟩
theorem a272_ok:Jf prog Tryz.f272=some a272:=by kernel_rfl
def a269:Jk:= ⟨60,[(.c 4 true 2),.t 5],(Zq [ZB 2 0,Zo 4 (.box [(.int .i64 0),(.nil 1)]),Zt 5 false] (Zq [Zi 6 0] (.seq (Zq [Zv 11 1,Zn 12 11,Zk 13 .gtr 12 0] (.cond (.t 13) (.reg [Zv 14 1,Zo 15 (.ixa 2 (.t 14) (.k (.int .i64 0))),Zf 16 1 15,Zl 17 false 1 16,Zn 18 17,Zv 6 18]) .skip)) (Zq [Zf 19 0 2,Zl 20 false 1 19,Zv 21 6,Zc 22 99 [.t 20,.t 21],Zo 7 (.box [(.int .i64 0),(.nil 1)]),⟨no,.st 2 (.t 7) (.t 22),no⟩] (.seq (Zq [Zl 23 true 2 2,Zv 24 1,Zn 25 24,Zc 26 179 [.t 23,.t 25],ZN 27 26,Zv 28 27,Zg 29 28 false (.ld true 2 (.t 7)),Zg 30 28 false (.mv (.t 6)),Zg 31 28 false (.call (.k (.fn (.func 179) [] [])) [.t 29,.t 30]),Zg 32 28 false (.un .not (.t 31)),ZP 33 28 32] (.cond (.t 33) (Zq [Zo 34 (.build [(.int .i64 0),(.nil 1)] []),⟨no,.st 2 (.t 4) (.t 34),no⟩,Zt 5 false] .ret) .skip)) (.seq (Zq [Zi 8 0] (.blk 0 (.loop (.seq (Zq [Zv 35 8,Zv 36 1,Zn 37 36,Zb 38 .lss 35 37] (Zw 38 0)) (.seq (.blk 1 (.seq (.draw (.op (Zl 42 true 2 7) (.op (Zf 43 1 2) (.op (Zl 44 false 1 43) (.op (Zv 45 8) (.op (Zx 46 1 44 45) (.op (Zl 47 false 1 46) (.op (Zv 48 1) (.op (Zv 49 8) (.op (Zx 50 2 48 49) (.op (Zl 51 true 2 50) (.both (.op (Zc 52 98 [.t 42,.t 47,.t 51]) (.op (Zv 41 52) (.op (Ze 53 41 0) (.op (Ze 54 41 1) (.op (Zo 9 (.box [(.int .i64 0),(.nil 1)])) (.hop ⟨no,.st 2 (.t 9) (.t 53),no⟩ [] (.op (Zv 10 54) .fin))))))) (.op (Zo 9 (.box [(.int .i64 0),(.nil 1)])) (.op (Zc 52 98 [.t 42,.t 47,.t 51]) (.op (Zv 41 52) (.op (Ze 53 41 0) (.op (Ze 54 41 1) (.hop ⟨no,.st 2 (.t 9) (.t 53),no⟩ [] (.op (Zv 10 54) .fin))))))))))))))))))) (.seq (Zq [Zv 55 10,ZN 56 55] (.cond (.t 56) (Zq [Zo 57 (.build [(.int .i64 0),(.nil 1)] []),⟨no,.st 2 (.t 4) (.t 57),no⟩,Zt 5 false] .ret) .skip)) (.reg [Zl 58 true 2 9,⟨no,.st 2 (.t 7) (.t 58),no⟩])))) (.reg [Zv 39 8,Zk 40 .add 39 1,Zv 8 40])))))) (Zq [Zl 59 true 2 7,⟨no,.st 2 (.t 4) (.t 59),no⟩,Zt 5 true] .ret)))))))⟩
theorem a269_ok:Jf prog Tryz.f269=some a269:=by kernel_rfl
def Qd:List (Int×Jc)->Jc->Option Jc
 | [],o=>some o
 |p::l,o=>match Kg o p.1 p.2 with
  |some o'=>Qd l o'
  |Option.none=>Option.none
def Ql(args:List Jc):Nat:=match args with | []=>0|a::_=>a.Coeffs.length
def Vu(l:Jc)(args:List Jc):Option Jc:=
 if K4 l args.length&&K4 (Jo l.Const (Ql args)) (Ql args)then Qd (l.Coeffs.zip args) (Jo l.Const (Ql args))else Option.none
theorem Rc{a b o:Jc}{k:Int}(h:Kg a k b=some o):o.Coeffs.length=a.Coeffs.length/\K4 b a.Coeffs.length=true:=by
 unfold Kg at h;split at h
 ·rename_i hc;simp only[Bool.and_eq_true]at hc;have h1:=W0 hc.1.1.1.1;have h2:=W0 hc.1.1.1.2;cases h;refine⟨?_,hc.1.1.1.2⟩;simp[Yy];omega
 ·cases h
theorem J4j{n:Nat} : ∀(l:List (Int×Jc)) (o:Jc),o.Coeffs.length=n->(∃p∈l,K4 p.2 n=false)->Qd l o=Option.none
 | [],o,_,h=>by obtain⟨p,hp,_⟩:=h;cases hp
 |q::l,o,hn,h=>by
  obtain⟨p,hp,hb⟩:=h;simp only[Qd];split
  ·rename_i o' ho;obtain⟨h1,h2⟩:=Rc ho;rcases mem_cons.1 hp with rfl|hp
   ·rw[hn,hb]at h2;cases h2
   ·exact J4j l o' (by omega) ⟨p,hp,hb⟩
  ·rfl
theorem Eg{c:Int}{n:Nat}(hc:Ky c=true)(hn:(n:Int)<=8):Jo c n=⟨c,List.replicate n 0⟩/\K4 (Jo c n) n=true:=by
 have h:Jo c n=⟨c,List.replicate n 0⟩:=by unfold Jo;rw[if_pos (by simp[K9,hc];omega)];simp
 refine⟨h,?_⟩;rw[h];simp[K4,K9,hc,hn];right;decide
theorem Pb{l:Jc}{n:Int}(h:K4 l n=true):Ky l.Const=true:=by unfold K4 at h;simp only[Bool.and_eq_true]at h;exact h.1.2
theorem J30{l:Jc}{args:List Jc}(h1:K4 l args.length=true):Vu l args=if args.all (λa=>K4 a (Ql args))then Qd (l.Coeffs.zip args) (Jo l.Const (Ql args))else Option.none:=by
 unfold Vu;rw[h1,Bool.true_and];have hl:=W0 h1;cases h2:args.all (λa=>K4 a (Ql args))
 ·simp only[Bool.false_eq_true,if_false];split
  ·rename_i h3;have h3':=W0 h3;rw[List.all_eq_false]at h2;obtain⟨a,ha,hb⟩:=h2;obtain⟨i,hi,rfl⟩:=mem_iff_getElem.1 ha;refine J4j (n:=Ql args) _ _ (by omega) ⟨(l.Coeffs[i]'(by omega),args[i]),mem_iff_getElem.2 ⟨i,by simp;omega,by simp⟩,by simpa using hb⟩
  ·rfl
 ·have hn:((Ql args:Nat):Int)<=8:=by
   cases args with
   |nil=>simp[Ql]
   |cons a rest=>
    simp only[all_cons,Bool.and_eq_true]at h2;exact(W0 h2.1).2.2
  rw[if_pos (Eg (Pb h1) hn).2,if_pos rfl]
theorem Jap{h:J8}{n id:Nat}{v:Int}(x:Jc)(hv:h id=some ⟨true,1,[[i64 v]]⟩)(hid:id<n):Bu prog 307 [] [.ptr id 0 0] h n (.agg (Ja x)) (.bool (!K4 x v)):=by
 intro K hK;refine Ck ?_;refine U8 Tryz.func307 a307_ok rfl (by simp[a307]) ?_;have n1:¬id=n:=by omega
 simp[a307,hv,n1,Ja];refine Jd (Gx x v) (by simp[Ja]) ?_;rintro r rfl;simp[Vk,hK];intro j hj hj';omega
set_option maxHeartbeats 1000000 in
theorem J2g(l:Jc)(args:List Jc):Holds prog 272 [.agg (Ja l),.sl 2 (args.map Ja)] (λr=>r=X1 (Vu l args)):=by
 refine Vv Tryz.func272 rfl rfl λhlm=>?_
 simp[Ja]at hlm
 have hN:(args.length=0/\Ql args=0)\/∃hz:0<args.length,Ql args=(args[0]'hz).Coeffs.length:=by
  cases args with
  |nil=>exact .inl ⟨rfl,rfl⟩
  |cons a rest=>exact .inr ⟨by simp,rfl⟩
 rcases hN with ⟨hz,hN⟩|⟨hz,hN⟩
 ·refine Jp Tryz.func272 a272_ok rfl (by simp[a272]) ?_;simp[a272,Ja];simp[hz];intro hnil;subst hnil;refine Jd (Gx l 0) (by simp[Ja]) ?_;rintro r rfl;cases h1:K4 l 0
  ·have e:Vu l []=Option.none:=by simp[Vu,h1]
   simp[e,X1,Jl,J9,Jg]
  have e:Vu l []=some (Jo l.Const 0):=by rw[J30 h1];simp[Ql,Qd]
  rw[e];simp;refine Hz (p:=λx => !K4 x 0) (rowOf:=Ja) (eltOf:=λx=>.agg (Ja x)) Tryz.func144 a144_ok rfl Tryz.func231 a231_ok rfl (λx=>by simp) [] (λx hx=>by cases hx) ?_;simp;refine Jd (On l.Const 0) (by simp) ?_;rintro r rfl;simp[J9];refine Qm [4,5,7,35] 36 0 (λi s=>True) (by decide) (by simp) trivial ?_ ?_
  ·intro i s h R hi;omega
  ·rintro s h R hk s36 _ hh _ hX;simp at hk hh;simp[hk,s36];refine hX _ _ ?_;simp[hk,X1,J9]
 ·refine Jp Tryz.func272 a272_ok rfl (by simp[a272]) ?_;simp[a272,Ja];have hne:¬args=[]:=by rintro rfl;simp at hz
  simp[hz,hne,Ja];intro _ _ _;refine Jd (Gx l args.length) (by simp[Ja]) ?_;rintro r rfl;cases h1:K4 l args.length
  ·have e:Vu l args=Option.none:=by simp[Vu,h1]
   simp[e,X1,Jl,J9,Jg]
  rw[J30 h1,hN];generalize hc3:(args.all λx=>K4 x (args[0].Coeffs.length:Int))=b3;have hla:=W0 h1;simp;refine Hz (p:=λx => !K4 x (args[0].Coeffs.length:Int)) (rowOf:=Ja) (eltOf:=λx=>.agg (Ja x)) Tryz.func144 a144_ok rfl Tryz.func231 a231_ok rfl (λx=>by simp) args (λx _=>Jap x (by simp[i64]) (by omega)) ?_;rw[Dq (λx:Jc=>K4 x (args[0].Coeffs.length:Int)),hc3];cases b3
  ·simp[X1,Jl,J9,Jg]
  simp;refine Jd (On l.Const (args[0].Coeffs.length:Int)) (by simp) ?_;rintro r rfl;simp[J9];intro _;have hzl:(l.Coeffs.zip args).length=args.length:=by simp;omega
  generalize hG:Qd (l.Coeffs.zip args) (Jo l.Const (args[0].Coeffs.length:Int))=G
  refine Ki [1,2,4,7,34,35] 36 args.length (λi s h n=>h 0=some ⟨true,2,[[.int .i64 l.Const,.sl 1 (Jg l.Coeffs)]]⟩/\h 1=some ⟨true,2,[[.int .i64 0,.nil 1]]⟩/\4<n /\
   ∃(o:Jc) (id:Nat),h 4=some ⟨true,2,[[.int .i64 o.Const,.ref id 0 o.Coeffs.length]]⟩/\h id=some ⟨false,1,Jg o.Coeffs⟩/\id<n/\(id=3\/4<id)/\Qd ((l.Coeffs.zip args).drop i) o=G)
   hlm.2 (by simp) ⟨by simp,by simp,by simp,Jo l.Const (args[0].Coeffs.length:Int),3,by simp,by simp,by omega,by omega,by simpa using hG⟩ ?_ ?_
  ·rintro i s h n R hi hg hk s36 hw ⟨e0,e1,hn,o,id,e4,eid,hidn,hid,hJ⟩ hR hret _;simp at hk;have hir:i<l.Coeffs.length:=by omega
   rw[drop_eq_getElem_cons (by omega:i<(l.Coeffs.zip args).length)]at hJ;simp only[Qd,getElem_zip]at hJ;have n0:¬0=n:=by omega
   have n1:¬1=n:=by omega
   have n4:¬4=n:=by omega
   have n4':¬n=4:=by omega
   have nid:¬id=n:=by omega
   simp[hk,s36,hi,hir,e0,e4,n0,n4];refine⟨by simp[Ja],?_⟩;have m0:¬0=n+1:=by omega
   have m1:¬1=n+1:=by omega
   have m4:¬4=n+1:=by omega
   have m4':¬n+1=4:=by omega
   have m3':¬n=3:=by omega
   have z0:¬n=0:=by omega
   refine Jw (Ih o (l.Coeffs[i]'hir) (args[i]'hi)) (by simp[Ja,eid,nid]) ?_;rintro r rfl;cases ho:Kg o l.Coeffs[i] args[i]
   ·rw[ho]at hJ;simp[X1,Jl,J9,hk,e1,e4,n1,n4,m4,z0];refine hret _ _ _ ?_;simp[hk,<-hJ,X1,Jl,J9,Jg]
   ·rename_i o';rw[ho]at hJ;simp only at hJ;simp[X1,J9,hk,s36,hw,e4,n4,m4];exact hR _ _ _ (by simp[hk]) (by simp) ⟨by simp[e0,n0],by simp[e1,n1,z0],by omega,o',n+1,by simp,by simp[m3'],by omega,by omega,hJ⟩
  ·rintro s h n R hk s36 ⟨e0,e1,hn,o,id,e4,eid,hidn,hid,hJ⟩ hret hX;simp at hk;rw[drop_eq_nil_of_le (by omega)]at hJ;simp only[Qd]at hJ;simp[hk,s36];refine hX _ _ _ _ ?_;have i1:¬1=id:=by omega
   have i1':¬id=1:=by omega
   simp[hk,e1,e4,eid,<-hJ,X1,J9,i1']
set_option maxHeartbeats 1000000 in
theorem J1v(l:Jc)(args:List Jc):Holds prog 269 [.agg (Ja l),.sl 2 (args.map Ja)] (λr=>r=X1 (Vu l args)):=by
 refine Vv Tryz.func269 rfl rfl λhlm=>?_
 simp[Ja]at hlm
 have hN:(args.length=0/\Ql args=0)\/∃hz:0<args.length,Ql args=(args[0]'hz).Coeffs.length:=by
  cases args with
  |nil=>exact .inl ⟨rfl,rfl⟩
  |cons a rest=>exact .inr ⟨by simp,rfl⟩
 rcases hN with ⟨hz,hN⟩|⟨hz,hN⟩
 ·refine Jp Tryz.func269 a269_ok rfl (by simp[a269]) ?_;simp[a269,Ja];simp[hz];intro hnil;subst hnil;refine Jd (O4 l.Const 0) (by simp) ?_;rintro r rfl;simp[J9];refine Jd (Ge l 0) (by simp[Ja]) ?_;rintro r rfl;cases h1:K4 l 0
  ·have e:Vu l []=Option.none:=by simp[Vu,h1]
   simp[e,X1,Jl,J9,Jg]
  have e:Vu l []=some (Jo l.Const 0):=by rw[J30 h1];simp[Ql,Qd]
  rw[e];simp;refine Jd (Ge (Jo l.Const 0) 0) (by simp[Ja]) ?_;rintro r rfl;have h2:=(Eg (n:=0) (Pb h1) (by decide)).2;rw[show((0:Nat):Int)=0 from rfl]at h2;simp[h2];refine Qm [1,4,5,6,7] 8 0 (λi s=>True) (by decide) (by simp) trivial ?_ ?_
  ·intro i s h R hi;omega
  ·rintro s h R hk s8 _ hh _ hX;simp at hk hh;simp[hk,s8,hh];refine hX _ _ ?_;simp[hk,X1,J9]
 ·refine Jp Tryz.func269 a269_ok rfl (by simp[a269]) ?_;simp[a269,Ja];have hne:¬args=[]:=by rintro rfl;simp at hz
  simp[hz,hne,Ja];intro _ _;refine Jd (O4 l.Const (args[0].Coeffs.length:Int)) (by simp) ?_;rintro r rfl;simp[J9];intro _;refine Jd (Ge l args.length) (by simp[Ja]) ?_;rintro r rfl;cases h1:K4 l args.length
  ·have e:Vu l args=Option.none:=by simp[Vu,h1]
   simp[e,X1,Jl,J9,Jg]
  have e:Vu l args=if K4 (Jo l.Const (args[0].Coeffs.length:Int)) (args[0].Coeffs.length:Int)then Qd (l.Coeffs.zip args) (Jo l.Const (args[0].Coeffs.length:Int))else Option.none:=by unfold Vu;rw[h1,hN,Bool.true_and]
  rw[e];have hla:=W0 h1;simp;refine Jd (Ge (Jo l.Const (args[0].Coeffs.length:Int)) (args[0].Coeffs.length:Int)) (by simp[Ja]) ?_;rintro r rfl;generalize hc3:K4 (Jo l.Const (args[0].Coeffs.length:Int)) (args[0].Coeffs.length:Int)=b3;cases b3
  ·simp[X1,Jl,J9,Jg]
  simp;have hzl:(l.Coeffs.zip args).length=args.length:=by simp;omega
  generalize hG:Qd (l.Coeffs.zip args) (Jo l.Const (args[0].Coeffs.length:Int))=G
  refine Ki [1,2,4,6,7] 8 args.length (λi s h n=>h 0=some ⟨true,2,[[.int .i64 l.Const,.sl 1 (Jg l.Coeffs)]]⟩/\h 1=some ⟨true,2,[[.int .i64 0,.nil 1]]⟩/\3<n /\
   ∃(o:Jc) (id:Nat),h 3=some ⟨true,2,[[.int .i64 o.Const,.ref id 0 o.Coeffs.length]]⟩/\h id=some ⟨false,1,Jg o.Coeffs⟩/\id<n/\(id=2\/3<id)/\Qd ((l.Coeffs.zip args).drop i) o=G)
   hlm.2 (by simp) ⟨by simp,by simp,by simp,Jo l.Const (args[0].Coeffs.length:Int),2,by simp,by simp,by omega,by omega,by simpa using hG⟩ ?_ ?_
  ·rintro i s h n R hi hg hk s8 hw ⟨e0,e1,hn,o,id,e3,eid,hidn,hid,hJ⟩ hR hret _;simp at hk;have hir:i<l.Coeffs.length:=by omega
   rw[drop_eq_getElem_cons (by omega:i<(l.Coeffs.zip args).length)]at hJ;simp only[Qd,getElem_zip]at hJ;have n0:¬0=n:=by omega
   have n1:¬1=n:=by omega
   have n3:¬3=n:=by omega
   have n3':¬n=3:=by omega
   have nid:¬id=n:=by omega
   have m0:¬0=n+1:=by omega
   have m1:¬1=n+1:=by omega
   have m3:¬3=n+1:=by omega
   have m3':¬n+1=3:=by omega
   have mid:¬id=n+1:=by omega
   have z0:¬n=0:=by omega
   have z2:¬n=2:=by omega
   simp[hk,s8,hi,hir,e0,e3];intro _;constructor
   ·skip;refine Jw (Ve o (l.Coeffs[i]'hir) (args[i]'hi)) (by simp[Ja,eid]) ?_;rintro r rfl;cases ho:Kg o l.Coeffs[i] args[i]
    ·rw[ho]at hJ;simp[X1,Jl,J9,hk,e1,n1,z0];refine hret _ _ _ ?_;simp[hk,<-hJ,X1,Jl,J9,Jg]
    ·rename_i o';rw[ho]at hJ;simp only at hJ;simp[X1,J9,hk,s8,hw,e3,n3,z2];exact hR _ _ _ (by simp[hk]) (by simp) ⟨by simp[e0,n0],by simp[e1,n1,z0],by omega,o',n,by simp,by simp[n3'],by omega,by omega,hJ⟩
   ·skip;refine Jw (Ve o (l.Coeffs[i]'hir) (args[i]'hi)) (by simp[Ja,eid,nid]) ?_;rintro r rfl;cases ho:Kg o l.Coeffs[i] args[i]
    ·rw[ho]at hJ;simp[X1,Jl,J9,hk,e1,n1,z0];refine hret _ _ _ ?_;simp[hk,<-hJ,X1,Jl,J9,Jg]
    ·rename_i o';rw[ho]at hJ;simp only at hJ;simp[X1,J9,hk,s8,hw,e3,n3,z2];exact hR _ _ _ (by simp[hk]) (by simp) ⟨by simp[e0,n0],by simp[e1,n1,z0],by omega,o',n+1,by simp,by simp[z2],by omega,by omega,hJ⟩
  ·rintro s h n R hk s8 ⟨e0,e1,hn,o,id,e3,eid,hidn,hid,hJ⟩ hret hX;simp at hk;rw[drop_eq_nil_of_le (by omega)]at hJ;simp only[Qd]at hJ;simp[hk,s8];intro _;refine hX _ _ _ _ ?_;have i1:¬1=id:=by omega
   have i1':¬id=1:=by omega
   simp[hk,e1,e3,eid,<-hJ,X1,J9,i1']
theorem J4d:∀(l:List (Int×Jc)) (o r:Jc),Qd l o=some r->r.Coeffs.length=o.Coeffs.length
 | [],o,r,h=>by cases h;rfl
 |p::l,o,r,h=>by
  simp only[Qd]at h;split at h
  ·rename_i o' ho;rw[J4d l o' r h,(Rc ho).1]
  ·cases h
theorem J24(c:Int)(n:Int):(Jo c n).Coeffs.length<=8:=by
 unfold Jo;split
 ·rename_i h;simp[K9]at h;simp;omega
 ·simp
theorem Jds(l:Jc)(args:List Jc):En ((Vu l args).getD Jl)<=8:=by
 unfold En;rw[Ds]
 cases h:Vu l args with
 |none=>simp[Jl]
 |some r=>
  unfold Vu at h;split at h
  ·simp[J4d _ _ _ h,J24]
  ·cases h
end Go.Proofs.YtoclolkigjbcgaaGreat
