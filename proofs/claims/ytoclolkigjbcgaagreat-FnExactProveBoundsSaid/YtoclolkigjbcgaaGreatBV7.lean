/- Contracts: rules. -/
import Derived.Test.YtoclolkigjbcgaaGreatBHS0
import Derived.Test.YtoclolkigjbcgaaGreatBC9
namespace Go.Proofs.YtoclolkigjbcgaaGreat
open Tryz(prog)
open List(drop_eq_getElem_cons all_cons getElem_mem drop_eq_nil_of_le mem_cons mem_cons_of_mem)
set_option maxRecDepth 40000
set_option maxHeartbeats 4000000
open Go Go.RowKit Go.Proofs
set_option linter.all false
def a149:Jk:= ⟨105,[.t 4],(Zq [ZB 2 0,ZB 3 1,Zt 4 false] (Zq [Zl 13 true 2 2,Zf 14 0 3,Zl 15 false 1 14,Zc 16 176 [.t 13,.t 15],Zv 12 16,Ze 17 12 0,Ze 18 12 1,Zo 5 (.box [(.str []),(.nil 1),(.bool false),(.nil 2)]),⟨no,.st 4 (.t 5) (.t 17),no⟩,Zv 6 18] (.seq (Zq [Zv 19 6,ZN 20 19,Zv 21 20,Zg 22 21 false (.ld true 4 (.t 5)),Zg 23 21 false (.fld 1 (.t 3)),Zg 24 21 false (.ld false 1 (.t 23)),Zg 25 21 false (.call (.k (.fn (.func 236) [] [])) [.t 22,.t 24]),Zg 26 21 false (.un .not (.t 25)),ZP 27 21 26,Zv 28 27,Zg 29 28 false (.fld 2 (.t 3)),Zg 30 28 false (.ld false 1 (.t 29)),Zg 31 28 false (.len false (.t 30)),Zg 32 28 false (.bin .gtr (.t 31) (.k (.int .i64 2))),ZP 33 28 32,Zv 34 33,Zg 35 34 false (.fld 3 (.t 3)),Zg 36 34 false (.ld false 1 (.t 35)),Zg 37 34 false (.len false (.t 36)),Zg 38 34 false (.bin .gtr (.t 37) (.k (.int .i64 2))),ZP 39 34 38] (.cond (.t 39) (Zq [Zt 4 false] .ret) .skip)) (.seq (Zq [Zf 40 2 3,Zl 41 false 1 40,Zn 42 41,Zi 43 0] (.blk 0 (.loop (Zq [Zb 44 .lss 43 42] (.seq (Zw 44 0) (.seq (.blk 1 (Zq [Zx 45 2 41 43,Zl 46 true 2 45,Zo 8 (.box [(.int .i64 0),(.nil 2)]),⟨no,.st 2 (.t 8) (.t 46),no⟩] (.seq (.draw (.op (Zl 47 true 2 8) (.op (Zc 48 237 [.t 47]) (.op (ZN 49 48) (.op (Zv 50 49) (.op (Zg 51 50 false (.ld true 2 (.t 8))) (.op (Zg 53 50 false (.ld true 2 (.t 2))) (.op (Zg 54 50 false (.ld true 7 (.t 3))) (.op (Zg 52 50 false (.call (.k (.fn (.func 239) [] [])) [.t 51])) (.op (Zg 55 50 false (.call (.k (.fn (.func 240) [] [])) [.t 53,.t 54,(.k (.int .i64 0))])) (.op (Zg 56 50 false (.call (.k (.fn (.func 238) [] [])) [.t 52,.t 55])) (.op (Zg 57 50 false (.un .not (.t 56))) (.op (ZP 58 50 57) .fin))))))))))))) (.cond (.t 58) (Zq [Zt 4 false] .ret) .skip)))) (.reg [Zk 59 .add 43 1,Zv 43 59]))))))) (.seq (Zq [Zf 60 3 3,Zl 61 false 1 60,Zn 62 61,Zi 63 0] (.blk 2 (.loop (Zq [Zb 64 .lss 63 62] (.seq (Zw 64 2) (.seq (.blk 3 (Zq [Zv 65 63,Zx 66 3 61 63,Zl 67 true 3 66,Zo 10 (.box [(.str []),(.str []),(.nil 3)]),Zv 9 65,⟨no,.st 3 (.t 10) (.t 67),no⟩] (.seq (.draw (.op (Zl 68 true 2 2) (.op (Zl 69 true 3 10) (.op (Zl 70 true 2 2) (.op (Zl 71 true 7 3) (.op (Zv 72 9) (.op (Zc 73 240 [.t 70,.t 71,.t 72]) (.op (Zc 74 241 [.t 68,.t 69,.t 73]) (.op (ZN 75 74) .fin))))))))) (.cond (.t 75) (Zq [Zt 4 false] .ret) .skip)))) (.reg [Zk 76 .add 63 1,Zv 63 76]))))))) (Zq [Zl 77 true 2 2,Zl 78 true 7 3,Zf 79 3 3,Zl 80 false 1 79,Zn 81 80,Zc 82 240 [.t 77,.t 78,.t 81],Zv 11 82] (Zq [Zf 83 4 3,Zl 84 true 3 83,Zc 85 242 [.t 84],Zv 86 85,Zg 87 86 true (.fld 4 (.t 3)),Zg 88 86 true (.fld 0 (.t 87)),Zg 89 86 true (.ld false 1 (.t 88)),Zg 90 86 true (.fld 2 (.t 5)),Zg 91 86 true (.ld false 1 (.t 90)),Zg 92 86 true (.beq false (.t 89) (.t 91)),ZQ 93 86 92,Zv 94 93,Zg 95 94 true (.fld 4 (.t 3)),Zg 96 94 true (.ld true 3 (.t 95)),Zg 97 94 true (.call (.k (.fn (.func 243) [] [])) [.t 96]),Zg 98 94 true (.mv (.t 11)),Zg 99 94 true (.call (.k (.fn (.func 238) [] [])) [.t 97,.t 98]),ZQ 100 94 99,Zv 101 100,Zg 102 101 true (.mv (.t 11)),Zg 103 101 true (.call (.k (.fn (.func 141) [] [])) [.t 102]),ZQ 104 101 103,Zv 4 104] .ret)))))))⟩
theorem a149_ok:Jf prog Tryz.f149=some a149:=by kernel_rfl
theorem J0q{r:Jy}(hr:Y0 r<=1048576):(∀g∈r.Guards,g.Terms.length<=1048576)/\(∀c∈r.Calls,Ub c<=1048576)/\Yz r.Result<=1048576/\r.Guards.length<=1048576/\r.Calls.length<=1048576/\r.Patterns.length<=1048576/\Wl r.Guards<=1048576:=by
 have h1:=Yk Uw r.Guards;have h2:=Yk Ub r.Calls;have h3:=Yk Qf r.Patterns;unfold Y0 O6 Wl Iw at hr;refine⟨λg hg=>?_,λc hc=>?_,by omega,by omega,by omega,by omega,by unfold Wl;omega⟩
 ·have h4:=W6 (w:=Uw) hg;have h5:=Yk Vg g.Terms;rw[show Uw g=wL Vg g.Terms from rfl]at h4;omega
 ·have h4:=W6 (w:=Ub) hc;omega
theorem J0k{p:Jq}{r:Jy}{i:Nat}(hi:i<r.Calls.length):Qy p r i (r.Calls.drop i)=(If p r.Calls[i] (Uf p r i)&&Qy p r (i+1) (r.Calls.drop (i+1))):=by rw[drop_eq_getElem_cons hi];rfl
theorem J5w(p:Jq)(r:Jy)(hp:Ks p<=1048576)(hr:Y0 r<=1048576):Holds prog 149 [.agg (Jh p),.agg (Jr r)] (λx=>x = .bool (G0 p r)):=by
 obtain⟨wg,wc,wa,lg,lc,lp,_⟩:=J0q hr;refine Jp Tryz.func149 a149_ok rfl (by simp[a149]) ?_;simp[a149,Jh,Jr];refine Jd (Fg p r.Func hp) (by simp[Jh]) ?_;rintro r rfl;unfold G0;generalize hG:(Kw p.Functions r.Func).getD Yf=G;simp only[Q7,hG];generalize hb1:(Kw p.Functions r.Func).isSome=b1;simp[Xk];cases b1
 ·simp
 simp;refine Jd (J7d G r.Patterns) (by simp[K5]) ?_;rintro r rfl;cases h1:Iv G.Params [] r.Patterns
 ·simp
 simp;intro _;have hdg:decide (r.Guards.length<=2)=decide ((r.Guards.length:Int)<=2):=by rw[decide_eq_decide];omega
 have hdc:decide (r.Calls.length<=2)=decide ((r.Calls.length:Int)<=2):=by rw[decide_eq_decide];omega
 by_cases h2:(r.Guards.length:Int)<=2
 case neg=>
  have h2n:¬r.Guards.length<=2:=by omega
  simp[h2,h2n,Int.not_le.1 h2]
 have h2n:r.Guards.length<=2:=by omega
 simp[h2,h2n,Int.not_lt.2 h2];intro _;by_cases h3:(r.Calls.length:Int)<=2
 case neg=>
  have h3n:¬r.Calls.length<=2:=by omega
  simp[h3,h3n,Int.not_le.1 h3]
 have h3n:r.Calls.length<=2:=by omega
 simp[h3,h3n,Int.not_lt.2 h3];intro _;generalize hB1:r.Guards.all (Qt (Uf p r 0))=B1;refine Ki [2,3,5,41,42] 43 r.Guards.length (λi s h n=>4<n/\h 0=some ⟨true,2,[Jh p]⟩/\h 1=some ⟨true,7,[Jr r]⟩/\h 4=some ⟨true,4,[[.str G.Name,.ref 2 0 G.Params.length,.bool G.ListResult,.ref 3 0 G.Pre.length]]⟩/\(r.Guards.drop i).all (Qt (Uf p r 0))=B1) (by unfold Jb;omega) (by simp) ⟨by simp,by simp[Jh],by simp[Jr],by simp,by simpa using hB1⟩ ?_ ?_
 ·rintro i st h n R hi hg hk s43 hw ⟨hn,e0,e1,e4,hJ⟩ hR hret _;simp at hk;rw[drop_eq_getElem_cons hi,all_cons]at hJ;have z0:¬0=n:=by omega
  have z1:¬1=n:=by omega
  have z4:¬4=n:=by omega
  have y0:¬0=n+1:=by omega
  have y1:¬1=n+1:=by omega
  have y4:¬4=n+1:=by omega
  have x0:¬0=n+1+1:=by omega
  have x1:¬1=n+1+1:=by omega
  have x4:¬4=n+1+1:=by omega
  have v0:¬n+1=n+1+1:=by omega
  have v1:¬n+1+1=n+1:=by omega
  have v4:¬n+1=n:=by omega
  have q0:¬n=0:=by omega
  have q1:¬n=1:=by omega
  have q3:¬n=3:=by omega
  have q4:¬n=4:=by omega
  refine Js [2,3,5,41,42,43] (λs=>s 44 = .bool true) (by simp[hk,s43,hi]) ?_;intro Jv hk1 s44;simp at hk1;refine W9 s44 (Jn (Xg ?_));refine Xo [2,3,5,41,42,43] (λs h' n'=>s 8 = .ptr n 0 0/\n'=n+1/\h' n=some ⟨true,2,[Kq r.Guards[i]]⟩/\h' 0=some ⟨true,2,[Jh p]⟩/\h' 1=some ⟨true,7,[Jr r]⟩/\h' 4=some ⟨true,4,[[.str G.Name,.ref 2 0 G.Params.length,.bool G.ListResult,.ref 3 0 G.Pre.length]]⟩) (by simp[hk,hk1,s43,hi,Kq,e0,e1,e4,z0,z1,z4]) ?_;rintro st2 h2' n2 hk2 ⟨s8,rfl,en,e0',e1',e4'⟩;simp at hk2;refine Xo [2,3,5,41,42,43] (λs h' n'=>n<n'/\s 58 = .bool (!Qt (Uf p r 0) r.Guards[i])/\h' 0=some ⟨true,2,[Jh p]⟩/\h' 1=some ⟨true,7,[Jr r]⟩/\h' 4=some ⟨true,4,[[.str G.Name,.ref 2 0 G.Params.length,.bool G.ListResult,.ref 3 0 G.Pre.length]]⟩) ?_ ?_
  ·simp[s8,en];refine Jw (J21 (r.Guards[i]'hi)) (by simp) ?_;rintro r rfl;unfold Qt;cases g1:I6 r.Guards[i]
   ·simp[e0',e1',e4']
   simp[hk,hk1,hk2,s8,en,e0',e1',Jh,Jr];refine Jw (J1h (r.Guards[i]'hi) (wg _ (getElem_mem hi))) (by simp) ?_;rintro r rfl;simp;refine Jw (J2p p r 0 hp hr) (by simp[Jh,Jr]) ?_;rintro r rfl;simp;refine Jw (Ry (Vi (r.Guards[i]'hi)) (Uf p r 0)) (by simp) ?_;rintro r rfl;simp[e0',e1',e4',Jh,Jr,y4,x4,q0]
  rintro Kl h3' n3 hk3 ⟨hn3,s58,e0'',e1'',e4''⟩;simp at hk3;generalize Qt (Uf p r 0) r.Guards[i]=D at *;cases D
  ·rw[Bool.false_and]at hJ;subst hJ;simp[s58];refine hret _ _ _ ?_;simp
  ·rw[Bool.true_and]at hJ;simp[hk1,hk2,hk3,s58,s43,hw];exact hR _ _ _ (by simp[hk,hk1,hk2,hk3]) (by simp) ⟨by omega,e0'',e1'',e4'',hJ⟩
 rintro st h n R hk s43 ⟨hn,e0,e1,e4,hJ⟩ hret hX;simp at hk;rw[drop_eq_nil_of_le (by omega)]at hJ;refine Js [2,3,5,41,42,43] (λs=>s 44 = .bool false) (by simp[hk,s43]) ?_;intro Jv hk1 s44;simp at hk1;refine Ut s44 ?_;refine hX _ _ _ _ ?_;simp at hJ;subst hJ;clear hX hret hB1;simp[hk,hk1,e1,Jr];intro _;generalize hB2:Qy p r 0 r.Calls=B2;refine Ki [2,3,5,61,62] 63 r.Calls.length (λi s h n=>4<n/\h 0=some ⟨true,2,[Jh p]⟩/\h 1=some ⟨true,7,[Jr r]⟩/\h 4=some ⟨true,4,[[.str G.Name,.ref 2 0 G.Params.length,.bool G.ListResult,.ref 3 0 G.Pre.length]]⟩/\Qy p r i (r.Calls.drop i)=B2) (by unfold Jb;omega) (by simp) ⟨hn,e0,e1,e4,by simpa using hB2⟩ ?_ ?_
 ·rintro i st h n R hi hg hkk s63 hw ⟨hn,e0,e1,e4,hJ⟩ hR hret _;simp at hkk;rw[J0k hi]at hJ;have z0:¬0=n:=by omega
  have z1:¬1=n:=by omega
  have z4:¬4=n:=by omega
  have y0:¬0=n+1:=by omega
  have y1:¬1=n+1:=by omega
  have y4:¬4=n+1:=by omega
  have x0:¬0=n+1+1:=by omega
  have x1:¬1=n+1+1:=by omega
  have x4:¬4=n+1+1:=by omega
  have v0:¬n+1=n+1+1:=by omega
  have v1:¬n+1+1=n+1:=by omega
  have v4:¬n+1=n:=by omega
  have q0:¬n=0:=by omega
  have q1:¬n=1:=by omega
  have q3:¬n=3:=by omega
  have q4:¬n=4:=by omega
  refine Js [2,3,5,61,62,63] (λs=>s 64 = .bool true) (by simp[hkk,s63,hi]) ?_;intro stb hkb s64;simp at hkb;refine W9 s64 (Jn (Xg ?_));refine Xo [2,3,5,61,62,63] (λs h' n'=>s 9 = .int .i64 i/\s 10 = .ptr n 0 0/\n'=n+1/\h' n=some ⟨true,3,[Kx r.Calls[i]]⟩/\h' 0=some ⟨true,2,[Jh p]⟩/\h' 1=some ⟨true,7,[Jr r]⟩/\h' 4=some ⟨true,4,[[.str G.Name,.ref 2 0 G.Params.length,.bool G.ListResult,.ref 3 0 G.Pre.length]]⟩) (by simp[hk,hkk,hk1,hkb,s63,hi,Kx,e0,e1,e4,z0,z1,z4]) ?_;rintro st2 h2' n2 hk2 ⟨s9,s10,rfl,en,e0',e1',e4'⟩;simp at hk2;refine Xo [2,3,5,61,62,63] (λs h' n'=>n<n'/\s 75 = .bool (!If p r.Calls[i] (Uf p r i))/\h' 0=some ⟨true,2,[Jh p]⟩/\h' 1=some ⟨true,7,[Jr r]⟩/\h' 4=some ⟨true,4,[[.str G.Name,.ref 2 0 G.Params.length,.bool G.ListResult,.ref 3 0 G.Pre.length]]⟩) ?_ ?_
  ·simp[hk,hkk,hk1,hkb,hk2,s9,s10,en,e0',e1',Jh,Jr];refine Jw (J2p p r i hp hr) (by simp[Jh,Jr]) ?_;rintro r rfl;simp;refine Jw (Jgy p (r.Calls[i]'hi) (Uf p r i) hp (wc _ (getElem_mem hi))) (by simp[Jh]) ?_;rintro r rfl;simp[e0',e1',e4',Jh,Jr,y4,q0]
  rintro Kl h3' n3 hk3 ⟨hn3,s75,e0'',e1'',e4''⟩;simp at hk3;generalize If p r.Calls[i] (Uf p r i)=D at *;cases D
  ·rw[Bool.false_and]at hJ;subst hJ;simp[s75];refine hret _ _ _ ?_;simp
  ·rw[Bool.true_and]at hJ;simp[hkb,hk2,hk3,s75,s63,hw];exact hR _ _ _ (by simp[hk,hkk,hk1,hkb,hk2,hk3]) (by simp) ⟨by omega,e0'',e1'',e4'',hJ⟩
 rintro st h n R hkk s63 ⟨hn,e0,e1,e4,hJ⟩ hret hX;simp at hkk;rw[drop_eq_nil_of_le (by omega)]at hJ;refine Js [2,3,5,61,62,63] (λs=>s 64 = .bool false) (by simp[hkk,s63]) ?_;intro Jv hk1' s64;simp at hk1';refine Ut s64 ?_;refine hX _ _ _ _ ?_;simp[Qy]at hJ;subst hJ;clear hX hret hB2;have z0:¬0=n:=by omega
 have z1:¬1=n:=by omega
 have z4:¬4=n:=by omega
 have y0:¬0=n+1:=by omega
 have y1:¬1=n+1:=by omega
 have y4:¬4=n+1:=by omega
 have x0:¬0=n+1+1:=by omega
 have x1:¬1=n+1+1:=by omega
 have x4:¬4=n+1+1:=by omega
 have v0:¬n+1=n+1+1:=by omega
 have v1:¬n+1+1=n+1:=by omega
 have v4:¬n+1=n:=by omega
 have q0:¬n=0:=by omega
 have q1:¬n=1:=by omega
 have q3:¬n=3:=by omega
 have q4:¬n=4:=by omega
 simp[hk,hk1,hkk,hk1',e0,e1,Jr,Jh];intro _;refine Jd (J2p p r r.Calls.length hp hr) (by simp[Jh,Jr]) ?_;rintro r rfl;simp[hk,hk1,hkk,hk1',e1,Jr,z1];refine Jd (J0c r.Result) (by simp[Kf]) ?_;rintro r rfl;unfold Ws;cases g1:Oo r.Result
 ·simp
 simp[hk,hk1,hkk,hk1',e1,e4,Jr,z1,z4];cases g2:(r.Result.Lst==G.ListResult)
 ·have g2':¬r.Result.Lst=G.ListResult:=by simpa using g2
  simp[g2']
 have g2':r.Result.Lst=G.ListResult:=by simpa using g2
 simp[g2'];refine Jd (J2z r.Result wa) (by simp[Kf,g2']) ?_;rintro r rfl;simp;refine Jd (Ry (Ib (Qj r.Result)) (Uf p r r.Calls.length)) (by simp) ?_;rintro r rfl;cases g3:Hg (Ib (Qj r.Result)) (Uf p r r.Calls.length)
 ·simp
 simp;refine Jd (J1f (Uf p r r.Calls.length)) (by simp) ?_;rintro r rfl;simp
def a135:Jk:= ⟨75,[.t 4],(Zq [ZB 2 0,ZB 3 1,Zt 4 false] (Zq [Zl 10 true 2 2,Zf 11 0 3,Zl 12 false 1 11,Zc 13 172 [.t 10,.t 12],Zv 9 13,Ze 14 9 0,Ze 15 9 1,Zo 5 (.box [(.str []),(.nil 1),(.bool false),(.nil 2)]),⟨no,.st 4 (.t 5) (.t 14),no⟩,Zv 6 15] (.seq (.seq (.draw (.op (Zv 16 6) (.op (ZN 17 16) (.op (Zv 18 17) (.op (Zg 19 18 false (.ld true 4 (.t 5))) (.op (Zg 20 18 false (.fld 1 (.t 3))) (.op (Zg 21 18 false (.ld false 1 (.t 20))) (.op (Zg 22 18 false (.call (.k (.fn (.func 219) [] [])) [.t 19,.t 21])) (.op (Zg 23 18 false (.un .not (.t 22))) (.op (ZP 24 18 23) (.op (Zv 25 24) (.op (Zg 26 25 false (.fld 2 (.t 3))) (.op (Zg 27 25 false (.ld false 1 (.t 26))) (.op (Zg 28 25 false (.ld true 2 (.t 2))) (.op (Zg 29 25 false (.ld true 7 (.t 3))) (.op (Zg 30 25 false (.call (.k (.fn (.func 221) [] [])) [.t 28,.t 29,(.k (.int .i64 0))])) (.op (Zg 31 25 false (.call (.k (.fn (.func 220) [] [])) [.t 27,.t 30])) (.op (Zg 32 25 false (.un .not (.t 31))) (.op (ZP 33 25 32) (.op (Zv 34 33) (.op (Zg 35 34 false (.fld 3 (.t 3))) (.op (Zg 36 34 false (.ld false 1 (.t 35))) (.op (Zg 37 34 false (.len false (.t 36))) (.op (Zg 38 34 false (.bin .gtr (.t 37) (.k (.int .i64 2)))) (.op (ZP 39 34 38) .fin))))))))))))))))))))))))) (.cond (.t 39) (Zq [Zt 4 false] .ret) .skip)) (.seq (Zq [Zi 7 0] (.blk 0 (.loop (.seq (Zq [Zv 40 7,Zf 41 3 3,Zl 42 false 1 41,Zn 43 42,Zb 44 .lss 40 43] (Zw 44 0)) (.seq (.blk 1 (.seq (.draw (.op (Zl 47 true 2 2) (.op (Zf 48 3 3) (.op (Zl 49 false 1 48) (.op (Zv 50 7) (.op (Zx 51 3 49 50) (.op (Zl 52 true 3 51) (.op (Zl 53 true 2 2) (.op (Zl 54 true 7 3) (.op (Zv 55 7) (.op (Zc 56 221 [.t 53,.t 54,.t 55]) (.op (Zc 57 222 [.t 47,.t 52,.t 56]) (.op (ZN 58 57) .fin))))))))))))) (.cond (.t 58) (Zq [Zt 4 false] .ret) .skip))) (.reg [Zv 45 7,Zk 46 .add 45 1,Zv 7 46])))))) (Zq [Zl 59 true 2 2,Zl 60 true 7 3,Zf 61 3 3,Zl 62 false 1 61,Zn 63 62,Zc 64 221 [.t 59,.t 60,.t 63],Zv 8 64] (Zq [Zf 65 4 3,Zl 66 true 3 65,Zf 67 2 5,Zl 68 false 1 67,Zv 69 8,Zc 70 223 [.t 66,.t 68,.t 69],Zv 71 70,Zg 72 71 true (.mv (.t 8)),Zg 73 71 true (.call (.k (.fn (.func 218) [] [])) [.t 72]),ZQ 74 71 73,Zv 4 74] .ret))))))⟩
theorem a135_ok:Jf prog Tryz.f135=some a135:=by kernel_rfl
theorem J3u(p:Jq)(r:Jy)(hp:Ks p<=1048576)(hr:Y0 r<=1048576):Holds prog 135 [.agg (Jh p),.agg (Jr r)] (λx=>x = .bool (G0 p r)):=by
 obtain⟨wg,wc,wa,lg,lc,lp,wgs⟩:=J0q hr;refine Jp Tryz.func135 a135_ok rfl (by simp[a135]) ?_;simp[a135,Jh,Jr];refine Jd (Ej p r.Func hp) (by simp[Jh]) ?_;rintro r rfl;unfold G0;generalize hG:(Kw p.Functions r.Func).getD Yf=G;simp only[Q7,hG];generalize hb1:(Kw p.Functions r.Func).isSome=b1;simp[Xk];cases b1
 ·simp
 simp;refine Jw (J3t G r.Patterns lp) (by simp[K5]) ?_;rintro r rfl;cases h1:Iv G.Params [] r.Patterns
 ·simp
 simp;refine Jw (Ta p r 0 hp hr) (by simp[Jh,Jr]) ?_;rintro r rfl;simp;refine Jw (J7g r.Guards (Uf p r 0) wgs) (by simp) ?_;rintro r rfl;generalize hB1:r.Guards.all (Qt (Uf p r 0))=B1;cases B1
 ·simp
 have hdg:decide (r.Guards.length<=2)=decide ((r.Guards.length:Int)<=2):=by rw[decide_eq_decide];omega
 by_cases h2n:r.Guards.length<=2
 case neg=>simp[h2n]
 simp[h2n];by_cases h3:(r.Calls.length:Int)<=2
 case neg=>
  have h3n:¬r.Calls.length<=2:=by omega
  simp[h3,h3n,Int.not_le.1 h3]
 have h3n:r.Calls.length<=2:=by omega
 simp[h3,h3n,Int.not_lt.2 h3];generalize hB2:Qy p r 0 r.Calls=B2;refine Ki [2,3,5] 7 r.Calls.length (λi s h n=>4<n/\h 0=some ⟨true,2,[Jh p]⟩/\h 1=some ⟨true,7,[Jr r]⟩/\h 4=some ⟨true,4,[[.str G.Name,.ref 2 0 G.Params.length,.bool G.ListResult,.ref 3 0 G.Pre.length]]⟩/\Qy p r i (r.Calls.drop i)=B2) (by unfold Jb;omega) (by simp) ⟨by simp,by simp[Jh],by simp[Jr],by simp,by simpa using hB2⟩ ?_ ?_
 ·rintro i st h n R hi hg hk s7 hw ⟨hn,e0,e1,e4,hJ⟩ hR hret _;simp at hk;rw[J0k hi]at hJ;have z0:¬0=n:=by omega
  have z1:¬1=n:=by omega
  have z4:¬4=n:=by omega
  have y0:¬0=n+1:=by omega
  have y1:¬1=n+1:=by omega
  have y4:¬4=n+1:=by omega
  have x0:¬0=n+1+1:=by omega
  have x1:¬1=n+1+1:=by omega
  have x4:¬4=n+1+1:=by omega
  have v0:¬n+1=n+1+1:=by omega
  have v1:¬n+1+1=n+1:=by omega
  have v4:¬n+1=n:=by omega
  have q0:¬n=0:=by omega
  have q1:¬n=1:=by omega
  have q3:¬n=3:=by omega
  have q4:¬n=4:=by omega
  refine Jn (Js [2,3,5,7] (λs=>s 44 = .bool true) (by simp[hk,s7,hi,e1,Jr]) ?_);intro Jv hk1 s44;simp at hk1;refine Uh s44 (Jn (Xg ?_));refine Xo [2,3,5,7] (λs h' n'=>4<n'/\s 58 = .bool (!If p r.Calls[i] (Uf p r i))/\h' 0=some ⟨true,2,[Jh p]⟩/\h' 1=some ⟨true,7,[Jr r]⟩/\h' 4=some ⟨true,4,[[.str G.Name,.ref 2 0 G.Params.length,.bool G.ListResult,.ref 3 0 G.Pre.length]]⟩) ?_ ?_
  ·simp[hk,hk1,s7,hi,e0,e1,Jh,Jr];refine Jw (Ta p r i hp hr) (by simp[Jh,Jr]) ?_;rintro r rfl;simp;refine Jw (Jbp p (r.Calls[i]'hi) (Uf p r i) hp (wc _ (getElem_mem hi))) (by simp[Jh]) ?_;rintro r rfl;simp[e0,e1,e4,Jh,Jr,z0,z1,z4];omega
  rintro Kl h3' n3 hk3 ⟨hn3,s58,e0'',e1'',e4''⟩;simp at hk3;generalize If p r.Calls[i] (Uf p r i)=D at *;cases D
  ·rw[Bool.false_and]at hJ;subst hJ;simp[s58];refine hret _ _ _ ?_;simp
  ·rw[Bool.true_and]at hJ;simp[hk1,hk3,s58,s7,hw];exact hR _ _ _ (by simp[hk,hk1,hk3]) (by simp) ⟨hn3,e0'',e1'',e4'',hJ⟩
 rintro st h n R hk s7 ⟨hn,e0,e1,e4,hJ⟩ hret hX;simp at hk;rw[drop_eq_nil_of_le (by omega)]at hJ;refine Jn (Js [2,3,5] (λs=>s 44 = .bool false) (by simp[hk,s7,e1,Jr]) ?_);intro Jv hk1 s44;simp at hk1;refine U3 s44 ?_;refine hX _ _ _ _ ?_;simp[Qy]at hJ;subst hJ;clear hX hret hB2;have z0:¬0=n:=by omega
 have z1:¬1=n:=by omega
 have z4:¬4=n:=by omega
 have y0:¬0=n+1:=by omega
 have y1:¬1=n+1:=by omega
 have y4:¬4=n+1:=by omega
 have x0:¬0=n+1+1:=by omega
 have x1:¬1=n+1+1:=by omega
 have x4:¬4=n+1+1:=by omega
 have v0:¬n+1=n+1+1:=by omega
 have v1:¬n+1+1=n+1:=by omega
 have v4:¬n+1=n:=by omega
 have q0:¬n=0:=by omega
 have q1:¬n=1:=by omega
 have q3:¬n=3:=by omega
 have q4:¬n=4:=by omega
 simp[hk,hk1,e0,e1,Jr,Jh];intro _;refine Jd (Ta p r r.Calls.length hp hr) (by simp[Jh,Jr]) ?_;rintro r rfl;simp[hk,hk1,e1,e4,Jr,z1,z4];refine Jd (Ra r.Result G.ListResult (Uf p r r.Calls.length) wa) (by simp[Kf]) ?_;rintro r rfl;cases g1:Ws r.Result G.ListResult (Uf p r r.Calls.length)
 ·simp
 simp;refine Jd (T5 (Uf p r r.Calls.length)) (by simp) ?_;rintro r rfl;simp
theorem a147_ok:Jf prog Tryz.f147=some (Du 235):=by kernel_rfl
theorem a235_ok:Jf prog Tryz.f235=some (Bf true 7):=by kernel_rfl
def a217:Jk:= ⟨18,[.t 2],(Zq [Zt 2 false] (.seq (Zq [Zi 3 0] (.blk 0 (.loop (.seq (Zq [Zv 4 3,Zv 5 0,Zn 6 5,Zb 7 .lss 4 6] (Zw 7 0)) (.seq (.blk 1 (Zq [Zv 10 0,Zv 11 3,Zx 12 1 10 11,Zl 13 false 1 12,Zc 14 285 [.t 13],ZN 15 14] (.cond (.t 15) (Zq [Zt 2 false] .ret) .skip))) (.reg [Zv 8 3,Zk 9 .add 8 1,Zv 3 9])))))) (Zq [Zv 16 0,Zc 17 218 [.t 16],Zv 2 17] .ret)))⟩
theorem a217_ok:Jf prog Tryz.f217=some a217:=by kernel_rfl
def a142:Jk:= ⟨6,[.t 2],(Zq [Zt 2 false] (Zq [Zv 3 0,Zc 4 143 [.t 3],ZN 5 4,Zv 2 5] .ret))⟩
theorem a142_ok:Jf prog Tryz.f142=some a142:=by kernel_rfl
def a145:Jk:= ⟨10,[.t 3],(Zq [ZB 2 0,Zt 3 false] (Zq [Zl 4 true 2 2,Zf 5 1 1,Zl 6 false 1 5,Zn 7 6,Zc 8 146 [.t 4,.t 7],ZN 9 8,Zv 3 9] .ret))⟩
theorem a145_ok:Jf prog Tryz.f145=some a145:=by kernel_rfl
def a148:Jk:= ⟨8,[.t 3],(Zq [ZB 2 0,Zt 3 false] (Zq [Zl 4 true 2 1,Zl 5 true 7 2,Zc 6 149 [.t 4,.t 5],ZN 7 6,Zv 3 7] .ret))⟩
theorem a148_ok:Jf prog Tryz.f148=some a148:=by kernel_rfl
def a67:Jk:= ⟨69,[.t 2],(Zq [ZB 1 0,Zt 2 false] (.seq (Zq [Zf 5 0 1,Zl 6 false 1 5,Zn 7 6,Zc 8 102 [.t 7,(.k (.int .i64 1)),(.k (.int .i64 3))],ZN 9 8,Zv 10 9,Zg 11 10 false (.fld 1 (.t 1)),Zg 12 10 false (.ld false 1 (.t 11)),Zg 13 10 false (.len false (.t 12)),Zg 14 10 false (.bin .gtr (.t 13) (.k (.int .i64 8))),ZP 15 10 14] (.cond (.t 15) (Zq [Zt 2 false] .ret) .skip)) (.seq (Zq [Zf 16 0 1,Zl 17 false 1 16,Zn 18 17,Zi 19 0] (.blk 0 (.loop (Zq [Zb 20 .lss 19 18] (.seq (Zw 20 0) (.seq (.blk 1 (Zq [Zv 21 19,Zx 22 4 17 19,Zl 23 true 4 22,Zo 4 (.box [(.str []),(.nil 1),(.bool false),(.nil 2)]),Zv 3 21,⟨no,.st 4 (.t 4) (.t 23),no⟩] (.seq (Zq [Zf 24 0 4,Zl 25 false 1 24,Zc 26 140 [.t 25],ZN 27 26,Zv 28 27,Zg 29 28 false (.ld true 2 (.t 1)),Zg 30 28 false (.fld 0 (.t 4)),Zg 31 28 false (.ld false 1 (.t 30)),Zg 32 28 false (.call (.k (.fn (.func 84) [] [])) [.t 29,.t 31]),Zg 33 28 false (.mv (.t 3)),Zg 34 28 false (.bin .neq (.t 32) (.t 33)),ZP 35 28 34,Zv 36 35,Zg 37 36 false (.fld 1 (.t 4)),Zg 38 36 false (.ld false 1 (.t 37)),Zg 39 36 false (.len false (.t 38)),Zg 40 36 false (.bin .gtr (.t 39) (.k (.int .i64 2))),ZP 41 36 40,Zv 42 41,Zg 43 42 false (.fld 1 (.t 4)),Zg 44 42 false (.ld false 1 (.t 43)),Zg 45 42 false (.call (.k (.fn (.func 141) [] [])) [.t 44]),Zg 46 42 false (.un .not (.t 45)),ZP 47 42 46,Zv 48 47,Zg 49 48 false (.fld 3 (.t 4)),Zg 50 48 false (.ld false 1 (.t 49)),Zg 51 48 false (.len false (.t 50)),Zg 52 48 false (.bin .gtr (.t 51) (.k (.int .i64 2))),ZP 53 48 52] (.cond (.t 53) (Zq [Zt 2 false] .ret) .skip)) (Zq [Zf 54 1 4,Zl 55 false 1 54,Zc 56 69 [.t 55,(.k (.fn (.func 142) [] []))],Zv 57 56,Zg 58 57 false (.fld 3 (.t 4)),Zg 59 57 false (.ld false 1 (.t 58)),Zg 60 57 false (.mkf (.func 145) [] [.t 4]),Zg 61 57 false (.call (.k (.fn (.func 144) [] [])) [.t 59,.t 60]),ZP 62 57 61] (.cond (.t 62) (Zq [Zt 2 false] .ret) .skip))))) (.reg [Zk 63 .add 19 1,Zv 19 63]))))))) (Zq [Zf 64 1 1,Zl 65 false 1 64,Zo 66 (.mkf (.func 148) [] [.t 1]),Zc 67 147 [.t 65,.t 66],ZN 68 67,Zv 2 68] .ret))))⟩
theorem a67_ok:Jf prog Tryz.f67=some a67:=by kernel_rfl
theorem Jay(l:List Je):Holds prog 217 [.sl 1 (Ji l)] (λr=>r = .bool (l.all W8&&Q5 l)):=by
 refine Vv Tryz.func217 rfl rfl λhl=>?_
 simp at hl;refine Jp Tryz.func217 a217_ok rfl (by simp[a217]) ?_;simp[a217];generalize hB:l.all W8=B;refine Qm [0] 3 l.length (λi _=>(l.drop i).all W8=B) hl (by simp) (by simpa using hB) ?_ ?_
 ·rintro i st h R hi hg hk s3 hw hJ hh hR hret _;simp at hk;rw[drop_eq_getElem_cons hi,all_cons]at hJ;simp[hk,s3,hi];intro _;refine Jd (Rl (l[i]'hi)) (by simp) ?_;rintro r rfl;cases hc:W8 l[i]
  ·rw[hc,Bool.false_and]at hJ;subst hJ;simp;refine hret _ _ _ ?_;simp
  ·rw[hc,Bool.true_and]at hJ;simp[s3,hw];exact hR _ (by simp[hk]) (by simp) hJ
 ·rintro st h R hk s3 hJ hh _ hX;simp at hk;rw[drop_eq_nil_of_le (by omega)]at hJ;simp at hJ;subst hJ;simp[hk,s3];intro _;refine hX _ _ ?_;simp[hk];refine Jd (T5 l) (by simp) ?_;rintro r rfl;simp
theorem Jwu(s:Je):Holds prog 142 [.str s] (λr=>r = .bool (!W8 s)):=by refine Jp Tryz.func142 a142_ok rfl (by simp[a142]) ?_;simp[a142];refine Jd (J05 s) (by simp) ?_;rintro r rfl;simp
theorem Ji9{h:J8}{n id:Nat}{f:K3}(x:Jc)(hv:h id=some ⟨true,4,[K5 f]⟩)(hid:id<n):Bu prog 145 [] [.ptr id 0 0] h n (.agg (Ja x)) (.bool (!K4 x f.Params.length)):=by
 intro K hK;refine Ck ?_;refine U8 Tryz.func145 a145_ok rfl (by simp[a145]) ?_;have n1:¬id=n:=by omega
 simp[a145,hv,n1,Ja,K5];intro _;refine Jd (Gx x f.Params.length) (by simp[Ja]) ?_;rintro r rfl;simp[Vk,hK];intro j hj hj';omega
theorem Jhq{h:J8}{n id:Nat}{p:Jq}(x:Jy)(hp:Ks p<=1048576)(hx:Y0 x<=1048576)(hv:h id=some ⟨true,2,[Jh p]⟩)(hid:id<n):Bu prog 148 [] [.ptr id 0 0] h n (.agg (Jr x)) (.bool (!G0 p x)):=by
 intro K hK;refine Ck ?_;refine U8 Tryz.func148 a148_ok rfl (by simp[a148]) ?_;have n1:¬id=n:=by omega
 simp[a148,hv,n1,Jr,Jh];refine Jd (J5w p x hp hx) (by simp[Jr,Jh]) ?_;rintro r rfl;simp[Vk,hK];intro j hj hj';omega
theorem J52{p:Jq}(hp:Ks p<=1048576):∀r∈p.Rules,Y0 r<=1048576:=λr hr=>by have:=W6 (w:=Y0) hr;unfold Ks G4 at hp;omega
theorem J7e{met:List Je}{l:List K3}{i:Nat}(hi:i<l.length):E4 met (l.drop i)=((Ok l[i] && !X3 met (l[i]).Name)&&E4 (met++[(l[i]).Name]) (l.drop (i+1))):=by rw[drop_eq_getElem_cons hi];rfl
def Qk(l:List K3)(i:Nat):List Je:=(l.take i).map (·.Name)
theorem J6q{l:List K3}{i:Nat}(hi:i<l.length):Qk l (i+1)=Qk l i++[(l[i]).Name]:=by unfold Qk;rw[List.take_succ_eq_append_getElem hi,List.map_append];rfl
theorem Po(p:Jq)(hp:Ks p<=1048576):Holds prog 67 [.agg (Jh p)] (λx=>x = .bool (Ym p)):=by
 have hlf:p.Functions.length<=1048576:=by have:=Yk Ys p.Functions;unfold Ks I4 at hp;omega
 refine Jp Tryz.func67 a67_ok rfl (by simp[a67]) ?_;simp[a67,Jh];intro _;refine Jd (O0 p.Functions.length 1 3) (by simp) ?_;rintro r rfl;unfold Ym;cases h1:K9 p.Functions.length 1 3
 ·simp
 simp;intro _;have hdg:decide (p.Rules.length<=8)=decide ((p.Rules.length:Int)<=8):=by rw[decide_eq_decide];omega
 by_cases h2:(p.Rules.length:Int)<=8
 case neg=>
  have h2n:¬p.Rules.length<=8:=by omega
  simp[h2,h2n,Int.not_le.1 h2]
 have h2n:p.Rules.length<=8:=by omega
 simp[h2,h2n,Int.not_lt.2 h2];intro _;generalize hB:E4 [] p.Functions=B;refine Ki [1,17,18] 19 p.Functions.length (λi s h n=>0<n/\h 0=some ⟨true,2,[Jh p]⟩/\E4 (Qk p.Functions i) (p.Functions.drop i)=B) (by unfold Jb;omega) (by simp) ⟨by simp,by simp[Jh],by simpa[Qk]using hB⟩ ?_ ?_
 ·rintro i st h n R hi hg hk s19 hw ⟨hn,e0,hJ⟩ hR hret _;simp at hk;rw[J7e hi,<-J6q hi]at hJ;have z0:¬0=n:=by omega
  have z1:¬n=0:=by omega
  refine Js [1,17,18,19] (λs=>s 20 = .bool true) (by simp[hk,s19,hi]) ?_;intro Jv hk1 s20;simp at hk1;refine W9 s20 (Jn (Xg ?_));refine Xo [1,17,18,19] (λs h' n'=>s 3 = .int .i64 i/\s 4 = .ptr n 0 0/\n'=n+1/\h' n=some ⟨true,4,[K5 p.Functions[i]]⟩/\h' 0=some ⟨true,2,[Jh p]⟩) (by simp[hk,hk1,s19,hi,K5,e0,z0]) ?_;rintro st2 h2' n2 hk2 ⟨s3,s4,rfl,en,e0'⟩;simp at hk2;generalize hf:p.Functions[i]=f at *;refine Jn (Js [1,3,4,17,18,19] (λs=>s 53 = .bool (!W7 f.Name||X3 (Qk p.Functions i) f.Name || !decide (f.Params.length<=2) || !Q5 f.Params || !decide (f.Pre.length<=2))) ?_ ?_)
  ·have hdp:decide (f.Params.length<=2)=decide ((f.Params.length:Int)<=2):=by rw[decide_eq_decide];omega
   have hdq:decide (f.Pre.length<=2)=decide ((f.Pre.length:Int)<=2):=by rw[decide_eq_decide];omega
   rw[hdp,hdq];simp[s4,en,K5];refine Jd (Sc f.Name) (by simp) ?_;rintro r rfl;cases g1:W7 f.Name
   ·simp
   simp[hk,hk1,hk2,s4,en,e0',K5,Jh];refine Jd (Cp p f.Name) (by simp[Jh]) ?_;rintro r rfl;have hidx:=Jek hi;rw[hf]at hidx;rw[show List.map (·.Name) (List.take i p.Functions)=Qk p.Functions i from rfl]at hidx;generalize Y6 (λg=>g.Name==f.Name) p.Functions 0=k1 at hidx;cases g2:X3 (Qk p.Functions i) f.Name
   case true=>
    rw[g2]at hidx;have hk1n:¬k1=(i:Int):=by simpa using hidx
    simp[hk1n,s3]
   rw[g2]at hidx;have hk1n:k1=(i:Int):=by simpa using hidx
   subst hk1n;simp[hk,hk1,hk2,s4,s3,en,K5];intro _;by_cases g3:(f.Params.length:Int)<=2
   case neg=>simp[g3,Int.not_le.1 g3]
   simp[g3,Int.not_lt.2 g3];refine Jd (J1f f.Params) (by simp) ?_;rintro r rfl;cases g4:Q5 f.Params
   ·simp
   simp[hk,hk1,hk2,s4,s3,en,K5];intro _;by_cases g5:(f.Pre.length:Int)<=2
   ·simp[g5,Int.not_lt.2 g5]
   ·simp[g5,Int.not_le.1 g5]
  intro Kl hk3 s53;simp at hk3;generalize hcc:(!W7 f.Name||X3 (Qk p.Functions i) f.Name || !decide (f.Params.length<=2) || !Q5 f.Params || !decide (f.Pre.length<=2))=cc at *
  have hbody:(Ok f && !X3 (Qk p.Functions i) f.Name)=(!cc&&(f.Params.all W8&&f.Pre.all λl=>K4 l f.Params.length)):=by rw[<-hcc];unfold Ok;cases W7 f.Name <;>cases X3 (Qk p.Functions i) f.Name <;>cases decide (f.Params.length<=2) <;>cases Q5 f.Params <;>cases decide (f.Pre.length<=2) <;>cases f.Params.all W8 <;>simp
  rw[hbody]at hJ;clear hbody hcc;cases cc
  case true=>
   simp at hJ;simp[s53];refine hret _ _ _ ?_;simp[hJ]
  refine J5a s53 ?_;simp only[Qb];simp only[Bool.not_false,Bool.true_and]at hJ;refine Js [1,3,4,17,18,19] (λs=>s 62 = .bool (!(f.Params.all W8&&f.Pre.all λl=>K4 l f.Params.length))) ?_ ?_
  ·simp[hk3,s4,en,K5]
   refine Hz (p:=λs => !W8 s) (rowOf:=λs=>[.str s]) (eltOf:=λs=>.str s) Tryz.func69 a69_ok rfl Tryz.func150 a150_ok rfl (λx=>by simp) f.Params
    (λs _=>Mn (Jwu s) rfl rfl) ?_
   rw[Dq];cases g1:f.Params.all W8
   ·simp
   simp[hk3,s4,en,K5]
   refine Hz (p:=λl => !K4 l f.Params.length) (rowOf:=Ja) (eltOf:=λl=>.agg (Ja l)) Tryz.func144 a144_ok rfl Tryz.func231 a231_ok rfl (λx=>by simp) f.Pre
    (λx _=>Ji9 (f:=f) x en (Nat.lt_succ_self n)) ?_
   rw[Dq];simp
  intro st4 hk4 s62;simp at hk4;generalize(f.Params.all W8&&f.Pre.all λl=>K4 l f.Params.length)=D at *;cases D
  ·rw[Bool.false_and]at hJ;subst hJ;simp[s62];refine hret _ _ _ ?_;simp
  ·rw[Bool.true_and]at hJ;simp[hk1,hk2,hk3,hk4,s62,s19,hw];exact hR _ _ _ (by simp[hk,hk1,hk2,hk3,hk4]) (by simp) ⟨by omega,e0',hJ⟩
 rintro st h n R hk s19 ⟨hn,e0,hJ⟩ hret hX;simp at hk;rw[drop_eq_nil_of_le (by omega)]at hJ;refine Js [1] (λs=>s 20 = .bool false) (by simp[hk,s19]) ?_;intro Jv hk1 s20;simp at hk1;refine Ut s20 ?_;refine hX _ _ _ _ ?_;simp[E4]at hJ;subst hJ;clear hX hret hB;simp[hk,hk1,e0,Jh]
 refine Hz (p:=λr => !G0 p r) (rowOf:=Jr) (eltOf:=λr=>.agg (Jr r)) Tryz.func147 a147_ok rfl Tryz.func235 a235_ok rfl (λx=>by simp) p.Rules
  (λx hx=>Jhq x hp (J52 hp x hx) e0 hn) ?_
 rw[Dq];simp
def mo0:AC:=(.reg [ZB 2 0,Zo 4 (.box [(.int .i64 0),(.nil 2),(.nil 2),(.nil 1),(.int .i64 0),(.nil 1)]),Zt 5 false])
def mo1:AC:=(Zq [Zl 40 true 2 2,Zc 41 67 [.t 40],ZN 42 41,Zv 43 42,Zg 44 43 false (.mv (.t 1)),Zg 45 43 false (.fld 1 (.t 2)),Zg 46 43 false (.ld false 1 (.t 45)),Zg 47 43 false (.len false (.t 46)),Zg 48 43 false (.bin .sub (.t 47) (.k (.int .i64 1))),Zg 49 43 false (.call (.k (.fn (.func 102) [] [])) [.t 44,(.k (.int .i64 0)),.t 48]),Zg 50 43 false (.un .not (.t 49)),ZP 51 43 50] (.cond (.t 51) (Zq [Zo 52 (.build [(.int .i64 0),(.nil 2),(.nil 2),(.nil 1),(.int .i64 0),(.nil 1)] []),⟨no,.st 6 (.t 4) (.t 52),no⟩,Zt 5 false] .ret) .skip))
def mo2:AC:=(.reg [Zf 53 1 2,Zl 54 false 1 53,Zv 55 1,Zx 56 7 54 55,Zl 57 true 7 56,Zo 6 (.box [(.str []),(.nil 4),(.nil 2),(.nil 3),(.bool false),(.nil 2),(.str [])]),⟨no,.st 7 (.t 6) (.t 57),no⟩])
def mo3:AC:=(.reg [Zl 59 true 2 2,Zf 60 0 6,Zl 61 false 1 60,Zc 62 176 [.t 59,.t 61],Zv 58 62,Ze 63 58 0,Ze 64 58 1,Zo 7 (.box [(.str []),(.nil 1),(.bool false),(.nil 2)]),⟨no,.st 4 (.t 7) (.t 63),no⟩,Zv 8 64])
def mo4:AC:=(.reg [Zf 65 1 7,Zl 66 false 1 65,Zn 67 66,Zf 68 3 6,Zl 69 false 1 68,Zn 70 69,Zb 71 .add 67 70,Zo 9 (.box [(.int .i64 0)]),⟨no,.st 1 (.t 9) (.t 71),no⟩])
def T6:AC:=(Zq [Zf 72 1 6,Zl 73 false 1 72,Zn 74 73,Zi 75 0] (.blk 0 (.loop (Zq [Zb 76 .lss 75 74] (.seq (Zw 76 0) (.seq (.blk 1 (Zq [Zx 77 4 73 75,Zl 78 true 4 77,Zo 11 (.box [(.str []),(.bool false),(.str []),(.str [])]),⟨no,.st 4 (.t 11) (.t 78),no⟩] (Zq [Zf 79 1 11,Zl 80 false 1 79] (.cond (.t 80) (.reg [Zl 81 false 1 9,Zk 82 .add 81 1,⟨no,.st 1 (.t 9) (.t 82),no⟩]) .skip)))) (.reg [Zk 83 .add 75 1,Zv 75 83])))))))
def mo6:AC:=(.reg [Zl 84 false 1 9,Zo 85 (.build [(.int .i64 0),(.nil 2)] [(0,(1,(.t 84)))]),Zo 86 (.build [(.int .i64 0),(.nil 2),(.nil 2),(.nil 1),(.int .i64 0),(.nil 1)] [(0,(2,(.t 85)))]),Zo 12 (.box [(.int .i64 0),(.nil 2),(.nil 2),(.nil 1),(.int .i64 0),(.nil 1)]),⟨no,.st 6 (.t 12) (.t 86),no⟩])
def mo7:AC:=(.reg [Zo 87 (.mmk),Zo 13 (.box [.undef]),⟨no,.st 1 (.t 13) (.t 87),no⟩])
def mo8:AC:=(.reg [Zo 14 (.box [(.int .i64 0)]),⟨no,.st 1 (.t 14) (.k (.int .i64 0)),no⟩])
def mo9:AC:=(.reg [Zo 88 (.mkf (.func 202) [] [.t 14,.t 9,.t 13]),Zv 15 88])
def Jzr:AC:=(.reg [Zo 89 (.mkf (.func 204) [] [.t 12]),Zv 16 89])
def Jki:AC:=(.draw (.op (Zf 100 2 12) (.op (Zl 101 false 1 100) (.op (Zl 102 true 2 19) (.op (Zc 103 86 [.t 102]) (.hop (Zo 104 (.bsl 2 [.t 103])) [(.ld false 1 (.t 100)),(.fld 2 (.t 12))] (.hop (ZA 105 32 2 101 104) [] (.op (Zf 106 2 12) (.hop ⟨no,.st 1 (.t 106) (.t 105),no⟩ [] .fin)))))))))
def Jwf:AC:=(Zq [Zf 90 1 7,Zl 91 false 1 90,Zn 92 91,Zi 93 0] (.blk 2 (.loop (Zq [Zb 94 .lss 93 92] (.seq (Zw 94 2) (.seq (.blk 3 (Zq [Zx 95 1 91 93,Zl 96 false 1 95,Zv 18 96] (Zq [Zv 97 15,Zv 98 18,Zo 99 (.call (.t 97) [.t 98]),Zo 19 (.box [(.int .i64 0),(.nil 1)]),⟨no,.st 2 (.t 19) (.t 99),no⟩] (.seq Jki (Zq [Zv 107 18,Zc 108 205 [.t 107]] (.cond (.t 108) (.reg [Zv 109 16,Zl 110 true 2 19,Zo 111 (.call (.t 109) [.t 110])]) .skip)))))) (.reg [Zk 112 .add 93 1,Zv 93 112])))))))
def Jvy:AC:=(Zq [Zf 113 3 7,Zl 114 false 1 113,Zn 115 114,Zi 116 0] (.blk 4 (.loop (Zq [Zb 117 .lss 116 115] (.seq (Zw 117 4) (.seq (.blk 5 (Zq [Zx 118 2 114 116,Zl 119 true 2 118,Zo 21 (.box [(.int .i64 0),(.nil 1)]),⟨no,.st 2 (.t 21) (.t 119),no⟩] (Zq [Zl 121 true 2 21,Zf 122 2 12,Zl 123 false 1 122,Zl 124 false 1 9,Zc 125 191 [.t 121,.t 123,.t 124],Zv 120 125,Ze 126 120 0,Ze 127 120 1,Zo 22 (.box [(.int .i64 0),(.nil 1)]),⟨no,.st 2 (.t 22) (.t 126),no⟩,Zv 23 127] (.seq (Zq [Zv 128 23,ZN 129 128] (.cond (.t 129) (Zq [Zo 130 (.build [(.int .i64 0),(.nil 2),(.nil 2),(.nil 1),(.int .i64 0),(.nil 1)] []),⟨no,.st 6 (.t 4) (.t 130),no⟩,Zt 5 false] .ret) .skip)) (.reg [Zv 131 16,Zl 132 true 2 22,Zo 133 (.call (.t 131) [.t 132])]))))) (.reg [Zk 134 .add 116 1,Zv 116 134])))))))
def Jko:AC:=(.draw (.op (Zl 146 false 1 9) (.op (Zl 148 false 1 13) (.op (Zf 149 0 25) (.op (Zl 150 false 1 149) (.op (Zo 151 (.mget (.agg [(.int .i64 0),(.nil 1)]) (.t 148) (.t 150))) (.both (.op (Zc 147 178 [(.k (.int .i64 0)),.t 146]) (.both (.op (Zc 152 193 [.t 147,(.k (.int .i64 (-1))),.t 151]) (.op (Zv 145 152) (.op (Ze 153 145 0) (.op (Ze 154 145 1) (.op (Zo 26 (.box [(.int .i64 0),(.nil 1)])) (.hop ⟨no,.st 2 (.t 26) (.t 153),no⟩ [] (.op (Zv 27 154) .fin))))))) (.op (Zo 26 (.box [(.int .i64 0),(.nil 1)])) (.op (Zc 152 193 [.t 147,(.k (.int .i64 (-1))),.t 151]) (.op (Zv 145 152) (.op (Ze 153 145 0) (.op (Ze 154 145 1) (.hop ⟨no,.st 2 (.t 26) (.t 153),no⟩ [] (.op (Zv 27 154) .fin))))))))) (.op (Zo 26 (.box [(.int .i64 0),(.nil 1)])) (.op (Zc 147 178 [(.k (.int .i64 0)),.t 146]) (.op (Zc 152 193 [.t 147,(.k (.int .i64 (-1))),.t 151]) (.op (Zv 145 152) (.op (Ze 153 145 0) (.op (Ze 154 145 1) (.hop ⟨no,.st 2 (.t 26) (.t 153),no⟩ [] (.op (Zv 27 154) .fin)))))))))))))))
def Jw0:AC:=(Zq [Zf 135 1 6,Zl 136 false 1 135,Zn 137 136,Zi 138 0] (.blk 6 (.loop (Zq [Zb 139 .lss 138 137] (.seq (Zw 139 6) (.seq (.blk 7 (Zq [Zx 140 4 136 138,Zl 141 true 4 140,Zo 25 (.box [(.str []),(.bool false),(.str []),(.str [])]),⟨no,.st 4 (.t 25) (.t 141),no⟩] (.seq (Zq [Zf 142 1 25,Zl 143 false 1 142,ZN 144 143] (.cond (.t 144) (.seq Jko (Zq [Zv 155 16,Zl 156 true 2 26,Zo 157 (.call (.t 155) [.t 156])] (.exit 7))) .skip)) (Zq [Zv 158 15,Zf 159 2 25,Zl 160 false 1 159,Zo 161 (.call (.t 158) [.t 160])] (Zq [Zl 163 false 1 13,Zf 164 0 25,Zl 165 false 1 164,Zo 166 (.mget (.agg [(.int .i64 0),(.nil 1)]) (.t 163) (.t 165)),Zc 167 189 [.t 166,(.k (.int .i64 (-1)))],Zv 162 167,Ze 168 162 0,Ze 169 162 1,Zo 28 (.box [(.int .i64 0),(.nil 1)]),⟨no,.st 2 (.t 28) (.t 168),no⟩,Zv 29 169] (Zq [Zl 170 false 1 13,Zf 171 3 25,Zl 172 false 1 171,Zl 173 true 2 28,⟨no,.mput (.t 170) (.t 172) (.t 173),no⟩] (.reg [Zv 174 16,Zl 175 true 2 28,Zo 176 (.call (.t 174) [.t 175])]))))))) (.reg [Zk 177 .add 138 1,Zv 138 177])))))))
def Ti:AC:=(Zq [Zf 178 2 6,Zl 179 false 1 178,Zn 180 179,Zi 181 0] (.blk 8 (.loop (Zq [Zb 182 .lss 181 180] (.seq (Zw 182 8) (.seq (.blk 9 (Zq [Zx 183 2 179 181,Zl 184 true 2 183,Zo 31 (.box [(.int .i64 0),(.nil 2)]),⟨no,.st 2 (.t 31) (.t 184),no⟩] (.reg [Zv 185 16,Zl 186 false 1 13,Zl 187 true 2 31,Zl 188 false 1 9,Zc 189 206 [.t 186,.t 187,.t 188],Zo 190 (.call (.t 185) [.t 189])]))) (.reg [Zk 191 .add 181 1,Zv 181 191])))))))
def Jkc:AC:=(Zq [Zf 199 2 33,Zl 200 false 1 199,Zn 201 200,Zi 202 0] (.blk 12 (.loop (Zq [Zb 203 .lss 202 201] (.seq (Zw 203 12) (.seq (.blk 13 (Zq [Zx 204 3 200 202,Zl 205 true 3 204,Zo 36 (.box [(.bool false),(.nil 2),(.str [])]),⟨no,.st 3 (.t 36) (.t 205),no⟩] (.reg [Zv 206 34,Zl 207 false 1 13,Zl 208 true 3 36,Zl 209 false 1 9,Zc 210 207 [.t 207,.t 208,.t 209],Zo 211 (.bsl 2 [.t 210]),ZA 212 32 2 206 211,Zv 34 212]))) (.reg [Zk 213 .add 202 1,Zv 202 213])))))))
def Tb:AC:=(.reg [Zf 214 3 12,Zl 215 false 1 214,Zv 216 34,Zo 217 (.bsl 1 [.t 216]),ZA 218 24 1 215 217,Zf 219 3 12,⟨no,.st 1 (.t 219) (.t 218),no⟩])
def Jwg:AC:=(Zq [Zf 192 3 6,Zl 193 false 1 192,Zn 194 193,Zi 195 0] (.blk 10 (.loop (Zq [Zb 196 .lss 195 194] (.seq (Zw 196 10) (.seq (.blk 11 (Zq [Zx 197 3 193 195,Zl 198 true 3 197,Zo 33 (.box [(.str []),(.str []),(.nil 3)]),⟨no,.st 3 (.t 33) (.t 198),no⟩] (Zq [Zo 34 (.mv (.k (.nil 2)))] (.seq Jkc (.seq  Tb (Zq [Zv 220 15,Zf 221 0 33,Zl 222 false 1 221,Zo 223 (.call (.t 220) [.t 222]),Zo 37 (.box [(.int .i64 0),(.nil 1)]),⟨no,.st 2 (.t 37) (.t 223),no⟩] (Zq [Zl 225 true 2 2,Zf 226 1 33,Zl 227 false 1 226,Zc 228 176 [.t 225,.t 227],Zv 224 228,Ze 229 224 0,Ze 230 224 1,Zo 38 (.box [(.str []),(.nil 1),(.bool false),(.nil 2)]),⟨no,.st 4 (.t 38) (.t 229),no⟩,Zv 39 230] (Zq [Zf 231 2 38,Zl 232 false 1 231] (.cond (.t 232) (.reg [Zv 233 16,Zl 234 true 2 37,Zo 235 (.call (.t 233) [.t 234])]) .skip))))))))) (.reg [Zk 236 .add 195 1,Zv 195 236])))))))
def Jzx:AC:=(.reg [Zl 237 false 1 13,Zf 238 4 6,Zl 239 true 3 238,Zl 240 false 1 9,Zc 241 207 [.t 237,.t 239,.t 240],Zf 242 4 12,⟨no,.st 2 (.t 242) (.t 241),no⟩])
def Jzp:AC:=(.reg [Zl 243 true 6 12,⟨no,.st 6 (.t 4) (.t 243),no⟩,Zt 5 true])
def a126:Jk:=⟨244,[(.c 4 true 6),.t 5],(.seq mo0 (.seq mo1 (.seq mo2 (.seq mo3 (.seq mo4 (.seq T6 (.seq mo6 (.seq mo7 (.seq mo8 (.seq mo9 (.seq Jzr (.seq Jwf (.seq Jvy (.seq Jw0 (.seq Ti (.seq Jwg (.seq Jzx (.seq Jzp .ret))))))))))))))))))⟩
theorem a126_ok:Jf prog Tryz.f126=some a126:=by kernel_rfl
def Vm(I:Hs)(s:Jm):Prop:=s 2 = .ptr 0 0 0/\s 4 = .ptr 1 0 0/\s 6 = .ptr 2 0 0/\s 7 = .ptr 5 0 0/\s 9 = .ptr 6 0 0/\s 12 = .ptr I.m 0 0/\s 13 = .ptr I.s 0 0 /\
 s 15 = .fn (.func 202) [] [.ptr I.x 0 0,.ptr 6 0 0,.ptr I.s 0 0]/\s 16 = .fn (.func 204) [] [.ptr I.m 0 0]
theorem J4e(q:X2)(l:List X2):Y8 (q::l)=(if q.Cons then 1 else 0)+Y8 l:=by unfold Y8;rw[List.filter_cons];cases q.Cons <;>simp;omega
section
variable {p:Jq}{r:Jy}{f:K3}{N:Nat}{I:Hs}{ks:List Kt}{s:Jm}{h:J8}{n:Nat}{Q:Xc}
theorem Jm5{c:Nat}(s6:s 6 = .ptr 2 0 0)(s9:s 9 = .ptr 6 0 0)(e2:h 2=some ⟨true,7,[Jr r]⟩)(e6:h 6=some ⟨true,1,[[.int .i64 c]]⟩)(hn:6<n)(hc:c<=10000000)(hl:r.Patterns.length<=1048576)
 (hK:∀s' h' n',(∀j∈[2,4,6,7,9],s' j=s j)->n<=n'->(∀id,id<n->id≠6->h' id=h id)->h' 6=some ⟨true,1,[[.int .i64 (c+Y8 r.Patterns:Nat)]]⟩->Ju prog ks .normal s' h' n' Q) :
 rC prog T6 ks s h n Q:=by
 simp[T6,s6,e2,Jr];intro _;generalize hT:c+Y8 r.Patterns=T at hK
 refine Ki [2,4,6,7,9,73,74] 75 r.Patterns.length (λi s' h' n'=>n<=n'/\(∀id,id<n->id≠6->h' id=h id)/\∃c':Nat,c'<=10000000+i/\c'+Y8 (r.Patterns.drop i)=T/\h' 6=some ⟨true,1,[[.int .i64 c']]⟩) (by unfold Jb;omega) (by simp)
  ⟨Nat.le_refl _,λ_ _ _=>rfl,c,by omega,by simpa using hT,e6⟩ ?_ ?_
 ·rintro i st h' m R hi hg hk s75 hw ⟨hm,hfr,c',hc',hJ,e6'⟩ hR _ _;simp at hk;rw[drop_eq_getElem_cons hi,J4e]at hJ;have z1:¬6=m:=by omega
  have z2:¬m=6:=by omega
  refine Js [2,4,6,7,9,73,74,75] (λs=>s 76 = .bool true) (by simp[hk,s75,hi]) ?_;intro Jv hk1 s76;simp at hk1;refine W9 s76 (Jn (Xg ?_));have hw2:IntKind.i64.wrap ((c':Int)+1)=(c':Int)+1:=Kk (by omega);have fr:∀id,id<n->¬id=m:=by intro id _;omega
  cases hc2:(r.Patterns[i]).Cons
  ·rw[hc2]at hJ;simp[hk1,hk,s75,hi,Kb,hc2,hw];refine hR _ _ _ (by simp[hk1,hk]) (by simp) ⟨by omega,?_,c',by omega,by simpa using hJ,by simp[z1,e6']⟩;intro id hid h6;simp[fr id hid,hfr id hid h6]
  ·rw[hc2]at hJ;simp only[if_true]at hJ;simp[hk1,hk,s75,hi,Kb,hc2,z1,hw,e6',hw2,s9];refine hR _ _ _ (by simp[hk1,hk]) (by simp) ⟨by omega,?_,c'+1,by omega,by omega,by simp⟩;intro id hid h6;simp[fr id hid,h6,hfr id hid h6]
 ·rintro st h' m R hk s75 ⟨hm,hfr,c',hc',hJ,e6'⟩ _ hX;simp at hk;rw[drop_eq_nil_of_le (by omega)]at hJ;simp[Y8]at hJ;subst hJ;refine Js [2,4,6,7,9] (λs=>s 76 = .bool false) (by simp[hk,s75]) ?_;intro Jv hk1 s76;simp at hk1;refine Ut s76 ?_;refine hX _ _ _ _ ?_;simp;exact hK _ _ _ (by simp[hk1,hk]) hm hfr e6'
theorem Ua{P:Program}{b:AC}{ks:List Kt}{s:Jm}{h:J8}{n:Nat}{Q:Xc}(h1:rC P b ks s h n Q):Ju P (.seq b::ks) .normal s h n Q:=h1
def Ns:List Nat:=[2,4,6,7,9,12,13,15,16]
theorem Vm.keep {s':Jm}(S:Vm I s) (hk:∀j∈Ns,s' j=s j):Vm I s':=by simp only[Ns,mem_cons,List.not_mem_nil,or_false,forall_eq_or_imp,forall_eq]at hk;obtain⟨k2,k4,k6,k7,k9,k12,k13,k15,k16⟩:=hk;obtain⟨s2,s4,s6,s7,s9,s12,s13,s15,s16⟩:=S;exact⟨by rw[k2,s2],by rw[k4,s4],by rw[k6,s6],by rw[k7,s7],by rw[k9,s9],by rw[k12,s12],by rw[k13,s13],by rw[k15,s15],by rw[k16,s16]⟩
def I9(l:Jc)(k:Nat)(h:J8)(n:Nat):Prop:=∃q,k<n/\q<n/\h k=some ⟨true,2,[[.int .i64 l.Const,.ref q 0 l.Coeffs.length]]⟩/\h q=some ⟨false,1,Jg l.Coeffs⟩
theorem H9{i:Int}(N:Nat)(hN:N<=8):(Ka i N).Coeffs.length<=8:=by
 unfold Ka;split
 ·simp;omega
 ·simp[Jl]
theorem Jng{ms:MS}{l:Jc}{k:Nat}(s12:s 12 = .ptr I.m 0 0)(s19:s 19 = .ptr k 0 0)(M:MI p r f N I ms h n)(L:I9 l k h n)(hl:l.Coeffs.length<=1048576)(hb:ms.pars.length<=1000000)
 (hK:∀s' h' n',(∀j,j<100->s' j=s j)->MI p r f N I (By ms l) h' n'->I9 l k h' n'->Ju prog ks .normal s' h' n' Q):rC prog Jki ks s h n Q:=by
 obtain⟨l1,l2,l3,l4,l5⟩:=M.lt;obtain⟨q,hkn,hqn,hkb,hqb⟩:=L;obtain⟨vR,vP,vA,g1,g2,g3,g4,g6,g5⟩:=M.acc;have hkm:¬k=I.m:=by rintro rfl;rw[hkb]at g1;simp at g1
 have hqm:¬q=I.m:=by rintro rfl;rw[hqb]at g1;simp at g1
 have ne:¬I.m=n/\¬I.m=n+1/\¬I.m=n+1+1/\¬n=I.m/\¬n+1=I.m/\¬n+1+1=I.m/\¬n+2=I.m/\¬I.m=n+2/\¬k=n/\¬k=n+1/\¬k=n+1+1/\¬q=n/\¬q=n+1/\¬q=n+1+1/\¬n=n+1/\¬n+1=n/\¬n=n+1+1/\¬n+1+1=n/\¬n+1=n+1+1/\¬I.m=k/\¬I.m=q:=by omega
 have kp:∀j,j<100->¬j=100/\¬j=101/\¬j=102/\¬j=103/\¬j=104/\¬j=105/\¬j=106:=by intro j _;omega
 have fr:∀id,id<n->¬id=n/\¬id=n+1/\¬id=n+1+1:=by intro id _;omega
 simp[Jki,s12,s19,g1,Xj,hkb];refine Jw (Nu l hl) (by simp[Ja,hqb]) ?_;rintro r rfl;rcases g3 with ⟨hz,rfl⟩|⟨i,hi,hin,rfl,hib⟩
 ·have hz':ms.pars=[]:=by simpa using hz
  simp[J9,g1,Xj,ne,s12];refine⟨by unfold Jb;omega,?_⟩;refine hK _ _ _ (λj hj=>by simp[kp j hj]) (M.upd_acc (st':=By ms l) rfl rfl (by omega) (λ_=>False) (λ_ h=>h.elim) ?_ ?_) ⟨q,by omega,by omega,by simp[ne,hkm,hkb],by simp[ne,hqm,hqb]⟩
  ·intro id hid hm _;simp[fr id hid,hm]
  ·have fm:∀id,I.x<id->¬id=I.m:=by intro id _;omega
   refine⟨vR,.ref (n+2) 0 1,vA,by simp[Xj],g2.keep (by omega) λid hb hid _=>by simp[fr id hid,fm id hb],.inr ⟨n+2,by omega,by omega,by simp[By,hz'],by simp[By,hz',J9,ne]⟩,g4.keep (by omega) λid hb hid _=>by simp[fr id hid,fm id hb],g6,?_⟩;intro i k j l' e1 e2;simp only[AV.ref.injEq]at e2;rcases g2 with ⟨_,e⟩|⟨j',_,hj',e,_⟩
   ·rw[e]at e1;cases e1
   ·rw[e]at e1;simp only[AV.ref.injEq]at e1;omega
 ·have hik:¬k=i:=by rintro rfl;rw[hkb]at hib;simp at hib
  have hiq:¬q=i:=by rintro rfl;rw[hqb]at hib;simp at hib
  have ni:¬i=n/\¬i=n+1/\¬i=n+1+1/\¬i=I.m/\¬I.m=i/\¬n=i/\¬n+1=i/\¬n+1+1=i/\¬i=k/\¬i=q:=by omega
  simp[J9,g1,Xj,ne,ni,hib,s12];refine⟨by unfold Jb;omega,?_⟩;refine hK _ _ _ (λj hj=>by simp[kp j hj]) (M.upd_acc (st':=By ms l) rfl rfl (by omega) (λid=>id=i) (λid e=>⟨by omega,λl hl=>by rw[e,hib]at hl;simp at hl⟩) ?_ ?_) ⟨q,by omega,by omega,by simp[ne,hkm,hkb,hik],by simp[ne,hqm,hqb,hiq]⟩
  ·intro id hid hm hii;simp[fr id hid,hm,hii]
  ·have fm:∀id,I.x<id->¬id=I.m:=by intro id _;omega
   refine⟨vR,.ref (n+2) 0 (ms.pars.length+1),vA,by simp[Xj],g2.keep (by omega) λid hb hid e=>?_,.inr ⟨n+2,by omega,by omega,by simp[By],by simp[By,J9,ne]⟩,g4.keep (by omega) λid hb hid e=>?_,g6,?_⟩
   ·have hii:¬id=i:=λe'=>g5 id _ i _ e rfl e'
    simp[fr id hid,fm id hb,hii]
   ·have hii:¬id=i:=by
     intro e';rcases g4 with ⟨_,e2⟩|⟨j',_,_,e2,hjb⟩
     ·rw[e2]at e;cases e
     ·rw[e2]at e;simp only[AV.ref.injEq]at e;rw[e.1,e',hib]at hjb;simp at hjb
    simp[fr id hid,fm id hb,hii]
   ·intro i' k j l' e1 e2;simp only[AV.ref.injEq]at e2;rcases g2 with ⟨_,e⟩|⟨j',_,hj',e,_⟩
    ·rw[e]at e1;cases e1
    ·rw[e]at e1;simp only[AV.ref.injEq]at e1;omega
theorem Jic(S:Vm I s)(M:MI p r f N I ⟨[],0,[],[],[]⟩ h n)(hp2:f.Params.length<=2)(hN:N<=8)
 (hK:∀s' h' n',Vm I s'->MI p r f N I (f.Params.foldl (W3 N) ⟨[],0,[],[],[]⟩) h' n'->Ju prog ks .normal s' h' n' Q):rC prog Jwf ks s h n Q:=by
 have S0:=S;obtain⟨s2,s4,s6,s7,s9,s12,s13,s15,s16⟩:=S0;simp[Jwf,s7,M.hf,M.h3];intro _;generalize hT:f.Params.foldl (W3 N) ⟨[],0,[],[],[]⟩=T at hK
 refine Ki [2,4,6,7,9,12,13,15,16,91,92] 93 f.Params.length (λi s' h' n'=>∃st:MS,MI p r f N I st h' n'/\(f.Params.drop i).foldl (W3 N) st=T/\st.nx<=i/\st.rows.length<=i/\st.pars.length<=i) (by unfold Jb;omega) (by simp)
  ⟨_,M,by simpa using hT,by simp,by simp,by simp⟩ ?_ ?_
 ·rintro i st h' m R hi hg hk s93 hw ⟨ms,M,hJ,hb1,hb2,hb3⟩ hR _ _;simp at hk;rw[drop_eq_getElem_cons hi,List.foldl_cons]at hJ;obtain⟨l1,l2,l3,l4,l5⟩:=M.lt;refine Js [2,4,6,7,9,12,13,15,16,91,92,93] (λs=>s 94 = .bool true) (by simp[hk,s93,hi]) ?_;intro Jv hk1 s94;simp at hk1;refine W9 s94 (Jn (Xg ?_));refine Js [2,4,6,7,9,12,13,15,16,91,92,93] (λs=>s 18 = .str (f.Params[i]'hi)) (by simp[hk1,hk,s93,hi,M.h3]) ?_;intro st2 hk2 s18;simp at hk2;generalize f.Params[i]=x at *;have hlx:(Ka ms.nx N).Coeffs.length<=8:=H9 N (by omega);have S2:Vm I st2:=S.keep (by simp[Ns,hk2,hk1,hk]);obtain⟨t2,t4,t6,t7,t9,t12,t13,t15,t16⟩:=S2
  have hiP:W3 N ms x=(if Xh x then Ik (By (Qu ms x (Ka ms.nx N) (ms.nx+1)) (Ka ms.nx N)) (Ka ms.nx N)else By (Qu ms x (Ka ms.nx N) (ms.nx+1)) (Ka ms.nx N)):=by unfold W3 Ik By Qu;cases Xh x <;>simp
  generalize hl:Ka ms.nx N=l at *;refine Xo [2,4,6,7,9,12,13,15,16,91,92,93,18] (λs h' n'=>∃k,s 19 = .ptr k 0 0/\I9 l k h' n'/\MI p r f N I (Qu ms x l (ms.nx+1)) h' n') ?_ ?_
  ·simp[t15,s18];refine J1p M x (by omega) ?_;rw[hl];intro q h1 n1 hq hq1 hfr hqb M1;have fr:∀id,id<n1->¬id=n1:=by intro id _;omega
   simp[Id];exact⟨⟨q,by omega,by omega,by simp,by simp[fr q hq1,hqb]⟩,M1.frame (by omega) λid hid=>by simp[fr id hid]⟩
  rintro Kl h3 n3 hk3 ⟨k,s19,L3,M3⟩;simp at hk3;have u12:Kl 12 = .ptr I.m 0 0:=by rw[hk3.2.2.2.2.2.1,t12]
  refine Jn (Jng u12 s19 M3 L3 (by omega) (by show ms.pars.length<=_;omega) ?_);intro st4 h4 n4 hk4 M4 L4;refine Ua (Js [2,4,6,7,9,12,13,15,16,91,92,93,19] (λs=>s 108 = .bool (Xh x)) ?_ ?_)
  ·simp[hk4 18 (by omega),hk3,s18];refine Jd (Dv x) (by simp) ?_;rintro r rfl;simp
  intro Ur hk5 s108;simp at hk5;have v16:Ur 16 = .fn (.func 204) [] [.ptr I.m 0 0]:=by rw[hk5.2.2.2.2.2.2.2.2.1,hk4 16 (by omega),hk3.2.2.2.2.2.2.2.2.1,t16]
  have v19:Ur 19 = .ptr k 0 0:=by rw[hk5.2.2.2.2.2.2.2.2.2.2.2.2,hk4 19 (by omega),s19]
  have kp:∀j∈[2,4,6,7,9,12,13,15,16,91,92,93],Ur j=st j:=by simp[hk5,hk4 2 (by omega),hk4 4 (by omega),hk4 6 (by omega),hk4 7 (by omega),hk4 9 (by omega),hk4 12 (by omega),hk4 13 (by omega),hk4 15 (by omega),hk4 16 (by omega),hk4 91 (by omega),hk4 92 (by omega),hk4 93 (by omega),hk3,hk2,hk1]
  simp at kp;cases c1:Xh x
  ·rw[c1]at hiP s108;simp only[Bool.false_eq_true,if_false]at hiP;rw[hiP]at hJ;simp[s108,kp,s93,hw];exact hR _ _ _ (by simp[kp,hk]) (by simp) ⟨_,M4,hJ,by show ms.nx+1<=_;omega,by show ms.rows.length<=_;omega,by show(ms.pars++[l]).length<=_;simp;omega⟩
  ·rw[c1]at hiP s108;simp only[if_true]at hiP;rw[hiP]at hJ;obtain⟨q,hkn,hqn,hkb,hqb⟩:=L4;simp[s108,v16,v19,hkb];refine C9 M4 (l:=l) (q:=q) (by omega) hqn hqb (by show ms.rows.length<=_;omega) ?_;intro h6 n6 hn6 _ M6;simp[kp,s93,hw];exact hR _ _ _ (by simp[kp,hk]) (by simp) ⟨_,M6,hJ,by show ms.nx+1<=_;omega,by show(ms.rows++[l]).length<=_;simp;omega,by show(ms.pars++[l]).length<=_;simp;omega⟩
 ·rintro st h' m R hk s93 ⟨ms,M,hJ,hb1,hb2,hb3⟩ _ hX;simp at hk;rw[drop_eq_nil_of_le (by omega)]at hJ;simp only[List.foldl_nil]at hJ;subst hJ;refine Js [2,4,6,7,9,12,13,15,16] (λs=>s 94 = .bool false) (by simp[hk,s93]) ?_;intro Jv hk1 s94;simp at hk1;refine Ut s94 ?_;refine hX _ _ _ _ ?_;simp;exact hK _ _ _ (S.keep (by simp[Ns,hk1,hk])) M
end
def a268:Jk:= ⟨39,[(.c 6 true 2),.t 7],(Zq [ZB 3 0,ZB 4 1,Zo 6 (.box [(.int .i64 0),(.nil 1)]),Zt 7 false] (.seq (Zq [Zf 9 0 4,Zl 10 false 1 9,ZN 11 10] (.cond (.t 11) (.seq (.draw (.op (Zl 12 true 2 3) (.op (Zf 13 1 4) (.op (Zl 14 false 1 13) (.op (Zo 15 (.ixa 2 (.t 14) (.k (.int .i64 0)))) (.op (Zl 16 true 2 15) (.op (Zv 17 2) (.op (Zc 18 267 [.t 12,.t 16,.t 17]) (.op (Ze 19 18 0) (.op (Ze 20 18 1) (.hop ⟨no,.st 2 (.t 6) (.t 19),no⟩ [] (.op (Zv 7 20) .fin)))))))))))) .ret) .skip)) (Zq [Zf 21 1 4,Zl 22 false 1 21,Zn 23 22,Zv 24 2,Zc 25 99 [.t 23,.t 24],Zo 8 (.box [(.int .i64 0),(.nil 1)]),⟨no,.st 2 (.t 8) (.t 25),no⟩] (.seq (Zq [Zf 26 2 4,Zl 27 false 1 26,Zo 28 (.bin .eql (.t 27) (.k (.str [])))] (.cond (.t 28) (Zq [Zl 29 true 2 8,⟨no,.st 2 (.t 6) (.t 29),no⟩,Zt 7 true] .ret) .skip)) (.seq (.draw (.op (Zl 30 true 2 8) (.op (Zl 31 true 2 3) (.op (Zf 32 2 4) (.op (Zl 33 false 1 32) (.op (Zv 34 2) (.op (Zc 35 305 [.t 31,.t 33,.t 34]) (.op (Zc 36 98 [.t 30,(.k (.int .i64 1)),.t 35]) (.op (Ze 37 36 0) (.op (Ze 38 36 1) (.hop ⟨no,.st 2 (.t 6) (.t 37),no⟩ [] (.op (Zv 7 38) .fin)))))))))))) .ret)))))⟩
theorem a268_ok:Jf prog Tryz.f268=some a268:=by kernel_rfl
def sm0:AC:=(.reg [ZB 3 0,ZB 4 1,Zo 6 (.box [(.int .i64 0),(.nil 1)]),Zt 7 false])
def sm1:AC:=(.reg [Zf 12 0 4,Zl 13 false 1 12,Zv 14 2,Zc 15 99 [.t 13,.t 14],Zo 8 (.box [(.int .i64 0),(.nil 1)]),⟨no,.st 2 (.t 8) (.t 15),no⟩])
def Te:AC:=(.draw (.op (Zl 24 true 2 8) (.op (Zf 25 1 4) (.op (Zl 26 false 1 25) (.op (Zv 27 9) (.op (Zx 28 2 26 27) (.op (Zf 29 0 28) (.op (Zl 30 false 1 29) (.op (Zl 31 true 2 3) (.op (Zf 32 1 4) (.op (Zl 33 false 1 32) (.op (Zv 34 9) (.op (Zx 35 2 33 34) (.op (Zf 36 1 35) (.op (Zl 37 false 1 36) (.op (Zv 38 2) (.both (.op (Zc 39 305 [.t 31,.t 37,.t 38]) (.both (.op (Zc 40 98 [.t 24,.t 30,.t 39]) (.op (Zv 23 40) (.op (Ze 41 23 0) (.op (Ze 42 23 1) (.op (Zo 10 (.box [(.int .i64 0),(.nil 1)])) (.hop ⟨no,.st 2 (.t 10) (.t 41),no⟩ [] (.op (Zv 11 42) .fin))))))) (.op (Zo 10 (.box [(.int .i64 0),(.nil 1)])) (.op (Zc 40 98 [.t 24,.t 30,.t 39]) (.op (Zv 23 40) (.op (Ze 41 23 0) (.op (Ze 42 23 1) (.hop ⟨no,.st 2 (.t 10) (.t 41),no⟩ [] (.op (Zv 11 42) .fin))))))))) (.op (Zo 10 (.box [(.int .i64 0),(.nil 1)])) (.op (Zc 39 305 [.t 31,.t 37,.t 38]) (.op (Zc 40 98 [.t 24,.t 30,.t 39]) (.op (Zv 23 40) (.op (Ze 41 23 0) (.op (Ze 42 23 1) (.hop ⟨no,.st 2 (.t 10) (.t 41),no⟩ [] (.op (Zv 11 42) .fin)))))))))))))))))))))))))
def sm2:AC:=(Zq [Zi 9 0] (.blk 0 (.loop (.seq (Zq [Zv 16 9,Zf 17 1 4,Zl 18 false 1 17,Zn 19 18,Zb 20 .lss 16 19] (Zw 20 0)) (.seq (.blk 1 (.seq Te (.seq (Zq [Zv 43 11,ZN 44 43] (.cond (.t 44) (Zq [Zo 45 (.build [(.int .i64 0),(.nil 1)] []),⟨no,.st 2 (.t 6) (.t 45),no⟩,Zt 7 false] .ret) .skip)) (.reg [Zl 46 true 2 10,⟨no,.st 2 (.t 8) (.t 46),no⟩])))) (.reg [Zv 21 9,Zk 22 .add 21 1,Zv 9 22]))))))
def sm3:AC:=(.reg [Zl 47 true 2 8,⟨no,.st 2 (.t 6) (.t 47),no⟩,Zt 7 true])
def a267:Jk:=⟨48,[(.c 6 true 2),.t 7],(.seq sm0 (.seq sm1 (.seq sm2 (.seq sm3 .ret))))⟩
theorem a267_ok:Jf prog Tryz.f267=some a267:=by kernel_rfl
def G2(E:Xl):List AV:=[.sl 1 (Ji (Kj E)),.sl 2 ((Y4 E).map Ja)]
theorem Jg8{E:Xl}{x:Xb}{o:Jc}{i N k3 k4 k8:Nat}{ks:List Kt}{s:Jm}{h:J8}{n:Nat}{Q:Xc}(hE:E.length<=1048576)(hi:i<x.Terms.length)(s2:s 2 = .int .i64 N)(s3:s 3 = .ptr k3 0 0)(s4:s 4 = .ptr k4 0 0)(s8:s 8 = .ptr k8 0 0)(s9:s 9 = .int .i64 i)
 (e3:h k3=some ⟨true,2,[G2 E]⟩) (e4:h k4=some ⟨true,2,[Kq x]⟩) (L:I9 o k8 h n)
 (hK:∀s' h' n',(∀j∈[2,3,4,6,7,8,9],s' j=s j)->s' 11 = .bool (Kg o (x.Terms[i]).Coeff (Kp (Jo 0 N) E (x.Terms[i]).Name)).isSome ->
  (∃k,s' 10 = .ptr k 0 0/\I9 ((Kg o (x.Terms[i]).Coeff (Kp (Jo 0 N) E (x.Terms[i]).Name)).getD Jl) k h' n')->n<=n'->(∀id,id<n->h' id=h id)->Ju prog ks .normal s' h' n' Q):rC prog Te ks s h n Q:=by
 obtain⟨q,hkn,hqn,hkb,hqb⟩:=L;simp[Te,s2,s3,s4,s8,s9,e3,e4,hkb,Kq,G2,hi,Xe];constructor
 ·refine J2v (T7 (.inl rfl) (.inl rfl) hE ?_);intro w h1 n1 hn1 hfr1 cw hbw;refine⟨hfr1,?_⟩;have b0:=hbw h1 λ_ _=>rfl
  have fr1:∀id,id<n1->¬id=n1/\¬id=n1+1:=by intro id _;omega
  have frn:∀id,id<n->¬id=n1/\¬id=n1+1:=by intro id _;omega
  have b1:∀y,bw w (upd h1 n1 y)=some (.sl 1 (Jg (Kp (Jo 0 N) E (x.Terms[i]).Name).Coeffs)):=λy=>hbw _ λid hid=>by simp[fr1 id hid]
  have hq1:h1 q=some ⟨false,1,Jg o.Coeffs⟩:=by rw[hfr1 q hqn,hqb]
  have ne1:¬n1=n1+1/\¬n1+1=n1/\¬q=n1:=by omega
  simp;constructor
  ·skip;refine Jw (Ve o (x.Terms[i]'hi).Coeff (Kp (Jo 0 N) E (x.Terms[i]'hi).Name)) (by simp[Ja,hq1,b0]) ?_;rintro r rfl;rw[Xd];generalize(Kg o (x.Terms[i]).Coeff (Kp (Jo 0 N) E (x.Terms[i]).Name)).getD Jl=l at *;simp[J9];refine hK _ _ _ (by simp) (by simp) ⟨n1+1,by simp,n1,by omega,by omega,by simp,by simp⟩ (by omega) λid hid=>by simp[frn id hid,hfr1 id hid]
  ·skip;refine Jw (Ve o (x.Terms[i]'hi).Coeff (Kp (Jo 0 N) E (x.Terms[i]'hi).Name)) (by simp[Ja,hq1,b1,ne1]) ?_;rintro r rfl;rw[Xd];generalize(Kg o (x.Terms[i]).Coeff (Kp (Jo 0 N) E (x.Terms[i]).Name)).getD Jl=l at *;simp[J9];refine hK _ _ _ (by simp) (by simp) ⟨n1,by simp,n1+1,by omega,by omega,by simp,by simp⟩ (by omega) λid hid=>by simp[frn id hid,hfr1 id hid]
 ·refine J2v (T7 (.inl rfl) (.inl rfl) hE ?_);intro w h1 n1 hn1 hfr1 cw hbw;refine⟨hfr1,?_⟩;have b0:=hbw h1 λ_ _=>rfl
  have frn:∀id,id<n->¬id=n/\¬id=n1:=by intro id _;omega
  have hq1:h1 q=some ⟨false,1,Jg o.Coeffs⟩:=by rw[hfr1 q (by omega)];simp[frn q hqn,hqb]
  have hn0:=hfr1 n (by omega);simp at hn0;have ne1:¬n=n1/\¬n1=n/\¬q=n:=by omega
  simp
  ·skip;refine Jw (Ve o (x.Terms[i]'hi).Coeff (Kp (Jo 0 N) E (x.Terms[i]'hi).Name)) (by simp[Ja,hq1,b0]) ?_;rintro r rfl;rw[Xd];generalize(Kg o (x.Terms[i]).Coeff (Kp (Jo 0 N) E (x.Terms[i]).Name)).getD Jl=l at *;simp[J9,ne1,hn0];refine hK _ _ _ (by simp) (by simp) ⟨n,by simp,n1,by omega,by omega,by simp,by simp[ne1]⟩ (by omega) λid hid=>by simp[frn id hid,hfr1 id (by omega)]
theorem J2w(E:Xl)(hE:E.length<=1048576)(x:Xb)(hx:x.Terms.length<=1048576)(N:Nat):Holds prog 267 [.agg (G2 E),.agg (Kq x),i64 N] (λr=>r=X1 (F8 E N x)):=by
 refine Jp Tryz.func267 a267_ok rfl (by simp[a267]) ?_;simp[a267,sm0,sm1,sm2,Kq,G2];refine Jd (O4 x.Const N) (by simp) ?_;rintro r rfl;simp[J9];unfold F8;generalize hT:Ho E N x.Terms (Jo x.Const N)=T
 refine Ki [2,3,4,6,7,8] 9 x.Terms.length (λi s h n=>4<n/\h 0=some ⟨true,2,[G2 E]⟩/\h 1=some ⟨true,2,[Kq x]⟩/\h 2=some ⟨true,2,[[.int .i64 0,.nil 1]]⟩/\∃o,I9 o 4 h n/\Ho E N (x.Terms.drop i) o=T) (by unfold Jb;omega) (by simp)
  ⟨by simp,by simp[G2],by simp[Kq],by simp,Jo x.Const N,⟨3,by simp,by simp,by simp,by simp⟩,by simpa using hT⟩ ?_ ?_
 ·rintro i st h n R hi hg hk s9 hw ⟨hn,e0,e1,e2,o,L,hJ⟩ hR hret _;simp at hk;rw[drop_eq_getElem_cons hi]at hJ;simp only[Ho]at hJ;refine Jn (Js [2,3,4,6,7,8,9] (λs=>s 20 = .bool true) (by simp[hk,s9,hi,e1,Kq]) ?_);intro Jv hk1 s20;simp at hk1;refine Uh s20 (Jn (Xg (Jn (Jg8 (E:=E) (x:=x) (o:=o) (i:=i) (N:=N) (k3:=0) (k4:=1) (k8:=4) hE hi (by simp[hk1,hk]) (by simp[hk1,hk]) (by simp[hk1,hk]) (by simp[hk1,hk]) (by simp[hk1,s9]) e0 e1 L ?_))));rintro st2 h2 n2 hk2 s11 ⟨k,s10,L2⟩ hn2 hfr;simp at hk2;refine Ua ?_;have e0':=hfr 0 (by omega);have e1':=hfr 1 (by omega);have e2':=hfr 2 (by omega);rw[e0]at e0';rw[e1]at e1';rw[e2]at e2';obtain⟨q4,x4,y4,z4,w4⟩:=L;have z4':=hfr 4 x4;rw[z4]at z4';obtain⟨q2,x2,y2,z2,w2⟩:=L2
  cases ho:Kg o (x.Terms[i]).Coeff (Kp (Jo 0 N) E (x.Terms[i]).Name)with
  |none=>
   rw[ho]at hJ s11;simp only[Option.isSome_none]at s11;simp[s11,hk2,hk1,hk,e2'];refine hret _ _ _ ?_
   simp[hk2,hk1,hk,<-hJ,X1,Jl,J9,Jg]
  |some o'=>
   rw[ho]at hJ s11 z2 w2;simp only[Option.isSome_some]at s11;simp only[Option.getD_some]at z2 w2;simp[s11,s10,z2,hk2,hk1,hk,z4',s9,hw];have q24:¬q2=4:=by rintro rfl;rw[z4']at w2;simp at w2
   exact hR _ _ _ (by simp[hk2,hk1,hk]) (by simp) ⟨by omega,by simp[e0'],by simp[e1'],by simp[e2'],o',⟨q2,by omega,y2,by simp,by simp[q24,w2]⟩,hJ⟩
 ·rintro st h n R hk s9 ⟨hn,e0,e1,e2,o,⟨q,hkn,hqn,hkb,hqb⟩,hJ⟩ hret hX;simp at hk;rw[drop_eq_nil_of_le (by omega)]at hJ;simp only[Ho]at hJ;subst hJ;refine Jn (Js [2,3,4,6,7,8] (λs=>s 20 = .bool false) (by simp[hk,s9,e1,Kq]) ?_);intro Jv hk1 s20;simp at hk1;refine U3 s20 ?_;refine hX _ _ _ _ ?_;have q2:¬q=2:=by rintro rfl;rw[e2]at hqb;simp at hqb
  simp[sm3,hk1,hk,hkb,e2,hqb,q2,X1,J9]
theorem J1o(E:Xl)(hE:E.length<=1048576)(x:X8)(hx:∀y∈x.Heads,y.Terms.length<=1048576)(hne:x.Lst=false->0<x.Heads.length)(N:Nat):Holds prog 268 [.agg (G2 E),.agg (Kf x),i64 N] (λr=>r=X1 (C0 E N x)):=by
 refine Jp Tryz.func268 a268_ok rfl (by simp[a268]) ?_;simp[a268,G2,Kf];unfold C0;cases hL:x.Lst
 ·have hz:=hne hL
  obtain⟨s,l,hsl⟩:∃s l,x.Heads=s::l:=by
   cases hh:x.Heads with
   |nil=>rw[hh]at hz;cases hz
   |cons s l=>exact⟨s,l,rfl⟩
  simp[hsl];refine Jw (J2w E hE s (hx s (by rw[hsl];exact List.mem_cons_self)) N) (by simp[G2]) ?_;rintro r rfl;rw[Xd];generalize hb:(F8 E N s).isSome=b;simp[J9]
 ·simp;intro _;refine Jd (O4 x.Heads.length N) (by simp) ?_;rintro r rfl;simp[J9];by_cases hb:x.Base=[]
  ·simp[hb,X1,J9]
  ·simp[hb];refine J2v (T7 (.inl rfl) (.inl rfl) hE ?_);intro w h1 n1 hn1 hfr1 cw hbw;refine⟨hfr1,?_⟩;have h3:=hfr1 3 (by omega);have h2:=hfr1 2 (by omega);simp at h2 h3;have b0:=hbw h1 λ_ _=>rfl
   have ne:¬n1=2/\¬2=n1:=by omega
   simp;refine Jw (Ve (Jo x.Heads.length N) 1 (Kp (Jo 0 N) E x.Base)) (by simp[Ja,h3,b0]) ?_;rintro r rfl;rw[Xd];generalize(Kg (Jo x.Heads.length N) 1 (Kp (Jo 0 N) E x.Base)).getD Jl=l;generalize(Kg (Jo x.Heads.length N) 1 (Kp (Jo 0 N) E x.Base)).isSome=b;simp[J9,h2,ne]
def ro0:AC:=(.reg [ZB 4 0,ZB 5 1,Zo 8 (.box [(.nil 1),(.nil 2)]),Zo 9 (.mv (.k (.nil 2)))])
def ro1:AC:=(.reg [Zo 16 (.bsl 2 []),Zv 10 16])
def Jw2:AC:=(.draw (.op (Zv 38 3) (.op (Zl 40 true 2 13) (.both (.op (Zc 39 99 [(.k (.int .i64 0)),.t 38]) (.both (.op (Zc 41 98 [.t 39,(.k (.int .i64 (-1))),.t 40]) (.op (Zv 37 41) (.op (Ze 42 37 0) (.op (Ze 43 37 1) (.op (Zo 14 (.box [(.int .i64 0),(.nil 1)])) (.hop ⟨no,.st 2 (.t 14) (.t 42),no⟩ [] (.op (Zv 15 43) .fin))))))) (.op (Zo 14 (.box [(.int .i64 0),(.nil 1)])) (.op (Zc 41 98 [.t 39,(.k (.int .i64 (-1))),.t 40]) (.op (Zv 37 41) (.op (Ze 42 37 0) (.op (Ze 43 37 1) (.hop ⟨no,.st 2 (.t 14) (.t 42),no⟩ [] (.op (Zv 15 43) .fin))))))))) (.op (Zo 14 (.box [(.int .i64 0),(.nil 1)])) (.op (Zc 39 99 [(.k (.int .i64 0)),.t 38]) (.op (Zc 41 98 [.t 39,(.k (.int .i64 (-1))),.t 40]) (.op (Zv 37 41) (.op (Ze 42 37 0) (.op (Ze 43 37 1) (.hop ⟨no,.st 2 (.t 14) (.t 42),no⟩ [] (.op (Zv 15 43) .fin))))))))))))
def Jvt:AC:=(.reg [Zf 53 0 4,Zl 54 false 1 53,Zf 55 2 12,Zl 56 false 1 55,Zf 57 3 12,Zl 58 false 1 57,Zo 59 (.bsl 1 [.t 56,.t 58]),ZA 60 16 1 54 59,Zf 61 0 4,⟨no,.st 1 (.t 61) (.t 60),no⟩])
def Jvz:AC:=(.draw (.op (Zf 62 1 4) (.op (Zl 63 false 1 62) (.op (Zv 64 2) (.op (Zv 65 3) (.op (Zl 67 true 2 13) (.op (Zc 66 261 [.t 64,.t 65]) (.op (Zc 68 306 [.t 67,(.k (.int .i64 1))]) (.hop (Zo 69 (.bsl 2 [.t 66,.t 68])) [(.ld false 1 (.t 62)),(.fld 1 (.t 4))] (.hop (ZA 70 32 2 63 69) [] (.op (Zf 71 1 4) (.hop ⟨no,.st 1 (.t 71) (.t 70),no⟩ [] .fin))))))))))))
def ro2:AC:=(Zq [Zi 11 0] (.blk 0 (.loop (.seq (Zq [Zv 17 11,Zf 18 1 5,Zl 19 false 1 18,Zn 20 19,Zb 21 .lss 17 20] (Zw 21 0)) (.seq (.blk 1 (Zq [Zf 24 1 5,Zl 25 false 1 24,Zv 26 11,Zx 27 4 25 26,Zl 28 true 4 27,Zo 12 (.box [(.str []),(.bool false),(.str []),(.str [])]),⟨no,.st 4 (.t 12) (.t 28),no⟩] (Zq [Zl 29 true 2 4,Zf 30 0 12,Zl 31 false 1 30,Zv 32 3,Zc 33 305 [.t 29,.t 31,.t 32],Zo 13 (.box [(.int .i64 0),(.nil 1)]),⟨no,.st 2 (.t 13) (.t 33),no⟩] (.seq (Zq [Zf 34 1 12,Zl 35 false 1 34,ZN 36 35] (.cond (.t 36) (.seq Jw2 (Zq [Zv 44 10,Zl 45 true 2 14,Zo 46 (.bsl 2 [.t 45]),ZA 47 32 2 44 46,Zv 10 47] (.exit 1))) .skip)) (Zq [Zv 48 10,Zl 49 true 2 13,Zc 50 306 [.t 49,(.k (.int .i64 1))],Zo 51 (.bsl 2 [.t 50]),ZA 52 32 2 48 51,Zv 10 52] (.seq  Jvt (.seq Jvz (.reg [Zv 72 2,Zk 73 .add 72 1,Zv 2 73])))))))) (.reg [Zv 22 11,Zk 23 .add 22 1,Zv 11 23]))))))
def ro3:AC:=(.reg [Zl 74 true 2 4,Zv 75 10,⟨no,.st 2 (.t 8) (.t 74),no⟩,Zv 9 75])
def a266:Jk:=⟨76,[(.c 8 true 2),.t 9],(.seq ro0 (.seq ro1 (.seq ro2 (.seq ro3 .ret))))⟩
theorem a266_ok:Jf prog Tryz.f266=some a266:=by kernel_rfl
def Dj(v w:AV):Prop:=∀i k l,v = .ref i 0 k->w = .ref i 0 l->False
def Vr(b:Nat)(l:List (Nat×List (List AV)×AV))(h:J8)(n:Nat):Prop:=(∀x∈l,Kn b x.1 x.2.1 x.2.2 h n)/\l.Pairwise λx y=>Dj x.2.2 y.2.2
theorem Kn.lt {b z:Nat}{rows:List (List AV)}{v:AV}{h:J8}{n i k:Nat}(x:Kn b z rows v h n) (e:v = .ref i 0 k):b<i/\i<n/\h i=some ⟨false,z,rows⟩/\k=rows.length:=by
 rcases x with ⟨_,rfl⟩|⟨j,h1,h2,rfl,hb⟩
 ·cases e
 ·simp only[AV.ref.injEq]at e;obtain⟨rfl,_,rfl⟩:=e;exact⟨h1,h2,hb,rfl⟩
theorem Vr.step {b:Nat}{l1 l2:List (Nat×List (List AV)×AV)}{x x':Nat×List (List AV)×AV}{h h':J8}{n n':Nat}(A:Vr b (l1++x::l2) h n) (hx:Kn b x'.1 x'.2.1 x'.2.2 h' n') (hnew:∀i k,x'.2.2 = .ref i 0 k->n<=i) (hn:n<=n')
 (hh:∀id,b<id->id<n->(∃z rows,h id=some ⟨false,z,rows⟩)->(∀k,x.2.2 ≠ .ref id 0 k)->h' id=h id):Vr b (l1++x'::l2) h' n':=by
 obtain⟨A1,A2⟩:=A;rw[List.pairwise_append,List.pairwise_cons]at A2;obtain⟨p1,⟨p2,p3⟩,p4⟩:=A2;refine⟨?_,?_⟩
 ·intro y hy;rcases List.mem_append.1 hy with hy|hy
  ·refine(A1 y (List.mem_append_left _ hy)).keep hn λid hb hid e=>hh id hb hid ⟨_,_,((A1 y (List.mem_append_left _ hy)).lt e).2.2.1⟩ λk ek=>p4 y hy x List.mem_cons_self id _ k e ek
  ·rcases mem_cons.1 hy with rfl|hy
   ·exact hx
   ·refine(A1 y (List.mem_append_right _ (mem_cons_of_mem _ hy))).keep hn λid hb hid e=>hh id hb hid ⟨_,_,((A1 y (List.mem_append_right _ (mem_cons_of_mem _ hy))).lt e).2.2.1⟩ λk ek=>p2 y hy id k _ ek e
 ·rw[List.pairwise_append,List.pairwise_cons];refine⟨p1,⟨λy hy i k l e1 e2=>?_,p3⟩,λy hy w hw i k l e1 e2=>?_⟩
  ·have g1:=hnew i k e1;have g2:=((A1 y (List.mem_append_right _ (mem_cons_of_mem _ hy))).lt e2).2.1;omega
  ·have g2:=((A1 y (List.mem_append_left _ hy)).lt e1).2.1;rcases mem_cons.1 hw with rfl|hw
   ·have g1:=hnew i l e2;omega
   ·exact p4 y hy w (mem_cons_of_mem _ hw) i k l e1 e2
theorem Vr.frame {b:Nat}{l:List (Nat×List (List AV)×AV)}{h h':J8}{n n':Nat}(A:Vr b l h n) (hn:n<=n') (hh:∀id,b<id->id<n->h' id=h id):Vr b l h' n':=
 ⟨λx hx=>(A.1 x hx).keep hn λid hb hid _=>hh id hb hid,A.2⟩
theorem Vw{b z bytes k:Nat}{rows rows2:List (List AV)}{v:AV}{h:J8}{n:Nat}{K:AV->J8->Nat->Prop}(A:Kn b z rows v h n)(hk:h k=some ⟨false,z,rows2⟩)(hvk:∀l,v ≠ .ref k 0 l)(hkn:k<n)
 (hlen:(rows.length+rows2.length)*bytes<=Jb)
 (hK:∀h',h' n=some ⟨false,z,rows++rows2⟩->(∀id,id≠n->id≠k->(∀l,v ≠ .ref id 0 l)->h' id=h id)->K (.ref n 0 (rows.length+rows2.length)) h' (n+1)) :
 F3 bytes z v (.ref k 0 rows2.length) h n K:=by
 rcases A with ⟨rfl,rfl⟩|⟨i,_,hin,rfl,hib⟩
 ·simp[hk];refine⟨by simpa using hlen,?_⟩;have:k≠n:=by omega
  simp at hK;exact hK _ (by simp) λid h1 h2=>by simp[h1,h2]
 ·have hki:¬k=i:=λe=>hvk _ (by rw[e])
  have hik:¬i=k:=λe=>hki e.symm
  have hne:¬i=n:=by omega
  simp[hk,hib,hki];refine⟨hlen,?_⟩;refine hK _ (by simp) λid h1 h2 h3=>?_
  have:¬id=i:=λe=>h3 _ (by rw[e])
  simp[h1,h2,this]
section
variable {ks:List Kt}{s:Jm}{h:J8}{n N:Nat}{Q:Xc}
theorem Jh3{l0:Jc}{k:Nat}(s3:s 3 = .int .i64 N)(s13:s 13 = .ptr k 0 0)(hkn:k<n)(hkb:h k=some ⟨true,2,[Ja l0]⟩)
 (hK:∀s' h' n',(∀j∈[2,3,4,5,8,9,10,11,12,13],s' j=s j)->(∃k q,s' 14 = .ptr k 0 0/\n<=k/\n<=q/\k<n'/\q<n'/\h' k=some ⟨true,2,[[.int .i64 (Yn (Jo 0 N) (-1) l0).Const,.ref q 0 (Yn (Jo 0 N) (-1) l0).Coeffs.length]]⟩/\h' q=some ⟨false,1,Jg (Yn (Jo 0 N) (-1) l0).Coeffs⟩)->n<=n'->(∀id,id<n->h' id=h id)->Ju prog ks .normal s' h' n' Q):rC prog Jw2 ks s h n Q:=by
 have fr:∀id,id<n->¬id=n/\¬id=n+1/\¬id=n+1+1/\¬id=n+2:=by intro id _;omega
 have ne:¬n=n+1/\¬n+1=n/\¬n=n+1+1/\¬n+1+1=n/\¬n+1=n+1+1/\¬n+1+1=n+1:=by omega
 simp[Jw2,s3,s13,hkb];constructor
 ·skip;refine Jw (O4 0 N) (by simp) ?_;rintro r rfl;simp[J9];constructor
  ·skip;refine Jw (Ve (Jo 0 N) (-1) l0) (by simp[Ja]) ?_;rintro r rfl;rw[Xd];have hadd:(Kg (Jo 0 N) (-1) l0).getD Jl=Yn (Jo 0 N) (-1) l0:=rfl;rw[hadd];generalize Yn (Jo 0 N) (-1) l0=l at *;simp[J9];refine hK _ _ _ (by simp) ⟨n+2,n+1,by simp,by omega,by omega,by omega,by omega,by simp,by simp⟩ (by omega) λid hid=>by simp[fr id hid]
  ·skip;refine Jw (Ve (Jo 0 N) (-1) l0) (by simp[Ja]) ?_;rintro r rfl;rw[Xd];have hadd:(Kg (Jo 0 N) (-1) l0).getD Jl=Yn (Jo 0 N) (-1) l0:=rfl;rw[hadd];generalize Yn (Jo 0 N) (-1) l0=l at *;simp[J9];refine hK _ _ _ (by simp) ⟨n+1,n+2,by simp,by omega,by omega,by omega,by omega,by simp,by simp⟩ (by omega) λid hid=>by simp[fr id hid]
 ·skip;refine Jw (O4 0 N) (by simp) ?_;rintro r rfl;simp[J9]
  ·skip;refine Jw (Ve (Jo 0 N) (-1) l0) (by simp[Ja]) ?_;rintro r rfl;rw[Xd];have hadd:(Kg (Jo 0 N) (-1) l0).getD Jl=Yn (Jo 0 N) (-1) l0:=rfl;rw[hadd];generalize Yn (Jo 0 N) (-1) l0=l at *;simp[J9,ne];refine hK _ _ _ (by simp) ⟨n,n+2,by simp,by omega,by omega,by omega,by omega,by simp,by simp⟩ (by omega) λid hid=>by simp[fr id hid]
def Bn(v0 v:AV)(n0:Nat):Prop:=v=v0\/∀i k,v = .ref i 0 k->n0<=i
structure RI (b n0:Nat) (vN0 vL0:AV) (h0:J8) (r:Jy) (nm:List Je) (ls R:List Jc) (v10:AV) (h:J8) (m:Nat):Prop where
 lt:n0+3<m
 hr:h (n0+1)=some ⟨true,7,[Jr r]⟩
 hz:h (n0+2)=some ⟨true,2,[[.nil 1,.nil 2]]⟩
 fr:∀id,id<n0->(∀k,vN0 ≠ .ref id 0 k)->(∀k,vL0 ≠ .ref id 0 k)->h id=h0 id
 env:∃vN vL,h n0=some ⟨true,2,[[vN,vL]]⟩/\Vr b [(1,Ji nm,vN),(2,ls.map Ja,vL),(2,R.map J9,v10)] h m/\Bn vN0 vN n0/\Bn vL0 vL n0/\Bn (.nil 2) v10 n0
variable {b n0:Nat}{vN0 vL0 v10 v10':AV}{h0 h':J8}{r:Jy}{nm:List Je}{ls R:List Jc}{m m':Nat}
theorem Bn.fresh {v0:AV}{i k:Nat}(h:n0<=i):Bn v0 (.ref i 0 k) n0 := .inr λj l e=>by simp only[AV.ref.injEq]at e;omega
theorem RI.frame (M:RI b n0 vN0 vL0 h0 r nm ls R v10 h m) (hm:m<=m') (hh:∀id,id<m->h' id=h id):RI b n0 vN0 vL0 h0 r nm ls R v10 h' m':=by have l1:=M.lt;obtain⟨vN,vL,e1,e2,e3,e4,e5⟩:=M.env;exact⟨by omega,by rw[hh _ (by omega),M.hr],by rw[hh _ (by omega),M.hz],λid h1 h2 h3=>by rw[hh id (by omega),M.fr id h1 h2 h3],vN,vL,by rw[hh _ (by omega),e1],e2.frame hm λid _ hid=>hh id hid,e3,e4,e5⟩
theorem Kn.not_box {z z' i k:Nat}{rows rows':List (List AV)}{v:AV}(x:Kn b z rows v h n) (hb:h i=some ⟨true,z',rows'⟩) (e:v = .ref i 0 k):False:=by have:=(x.lt e).2.2.1;rw[hb]at this;simp at this
theorem RI.rows (M:RI b n0 vN0 vL0 h0 r nm ls R v10 h m) {R':List Jc}(hm:m<=m') (hx:Kn b 2 (R'.map J9) v10' h' m') (hnew:∀i k,v10' = .ref i 0 k->m<=i) (hh:∀id,id<m->(∀k,v10 ≠ .ref id 0 k)->h' id=h id):RI b n0 vN0 vL0 h0 r nm ls R' v10' h' m':=by
 have l1:=M.lt;obtain⟨vN,vL,e1,e2,e3,e4,e5⟩:=M.env;have y3:=e2.1 (2,R.map J9,v10) (by simp);refine⟨by omega,?_,?_,?_,vN,vL,?_,?_,e3,e4,.inr λi k e=>by have:=hnew i k e;omega⟩
 ·rw[hh _ (by omega) λk e=>y3.not_box M.hr e,M.hr]
 ·rw[hh _ (by omega) λk e=>y3.not_box M.hz e,M.hz]
 ·intro id h1 h2 h3;rw[hh id (by omega) λk e=>?_,M.fr id h1 h2 h3];rcases e5 with rfl|g
  ·cases e
  ·have:=g _ _ e;omega
 ·rw[hh _ (by omega) λk e=>y3.not_box e1 e,e1]
 ·exact Vr.step (l1:=[(1,Ji nm,vN),(2,ls.map Ja,vL)]) (l2:=[]) (x:=(2,R.map J9,v10)) (x':=(2,R'.map J9,v10')) e2 hx hnew hm λid _ h2 _ h3=>hh id h2 h3
theorem RI.names (M:RI b n0 vN0 vL0 h0 r nm ls R v10 h m) {nm':List Je}{vN vL vN':AV}(e1:h n0=some ⟨true,2,[[vN,vL]]⟩) (e1':h' n0=some ⟨true,2,[[vN',vL]]⟩) (hm:m<=m') (hx:Kn b 1 (Ji nm') vN' h' m') (hnew:∀i k,vN' = .ref i 0 k->m<=i) (hh:∀id,id<m->id≠n0->(∀k,vN ≠ .ref id 0 k)->h' id=h id):RI b n0 vN0 vL0 h0 r nm' ls R v10 h' m':=by
 have l1:=M.lt;obtain⟨vN2,vL2,f1,e2,e3,e4,e5⟩:=M.env;rw[e1]at f1;simp only[Option.some.injEq,Yd.mk.injEq,true_and,List.cons.injEq,and_true]at f1;obtain⟨rfl,rfl⟩:=f1;have y1:=e2.1 (1,Ji nm,vN) (by simp);refine⟨by omega,?_,?_,?_,vN',vL,e1',?_,.inr λi k e=>by have:=hnew i k e;omega,e4,e5⟩
 ·rw[hh _ (by omega) (by omega) λk e=>y1.not_box M.hr e,M.hr]
 ·rw[hh _ (by omega) (by omega) λk e=>y1.not_box M.hz e,M.hz]
 ·intro id h1 h2 h3;rw[hh id (by omega) (by omega) λk e=>?_,M.fr id h1 h2 h3];rcases e3 with rfl|g
  ·exact h2 k e
  ·have:=g _ _ e;omega
 ·refine Vr.step (l1:=[]) (l2:=[(2,ls.map Ja,vL),(2,R.map J9,v10)]) (x:=(1,Ji nm,vN)) (x':=(1,Ji nm',vN')) e2 hx hnew hm λid hb h2 hf h3=>?_
  refine hh id h2 (λe=>?_) h3;obtain⟨z,rows,hf⟩:=hf;rw[e,e1]at hf;simp at hf
theorem RI.lins (M:RI b n0 vN0 vL0 h0 r nm ls R v10 h m) {ls':List Jc}{vN vL vL':AV}(e1:h n0=some ⟨true,2,[[vN,vL]]⟩) (e1':h' n0=some ⟨true,2,[[vN,vL']]⟩) (hm:m<=m') (hx:Kn b 2 (ls'.map Ja) vL' h' m') (hnew:∀i k,vL' = .ref i 0 k->m<=i) (hh:∀id,id<m->id≠n0->(∀k,vL ≠ .ref id 0 k)->h' id=h id):RI b n0 vN0 vL0 h0 r nm ls' R v10 h' m':=by
 have l1:=M.lt;obtain⟨vN2,vL2,f1,e2,e3,e4,e5⟩:=M.env;rw[e1]at f1;simp only[Option.some.injEq,Yd.mk.injEq,true_and,List.cons.injEq,and_true]at f1;obtain⟨rfl,rfl⟩:=f1;have y1:=e2.1 (2,ls.map Ja,vL) (by simp);refine⟨by omega,?_,?_,?_,vN,vL',e1',?_,e3,.inr λi k e=>by have:=hnew i k e;omega,e5⟩
 ·rw[hh _ (by omega) (by omega) λk e=>y1.not_box M.hr e,M.hr]
 ·rw[hh _ (by omega) (by omega) λk e=>y1.not_box M.hz e,M.hz]
 ·intro id h1 h2 h3;rw[hh id (by omega) (by omega) λk e=>?_,M.fr id h1 h2 h3];rcases e4 with rfl|g
  ·exact h3 k e
  ·have:=g _ _ e;omega
 ·refine Vr.step (l1:=[(1,Ji nm,vN)]) (l2:=[(2,R.map J9,v10)]) (x:=(2,ls.map Ja,vL)) (x':=(2,ls'.map Ja,vL')) e2 hx hnew hm λid hb h2 hf h3=>?_
  refine hh id h2 (λe=>?_) h3;obtain⟨z,rows,hf⟩:=hf;rw[e,e1]at hf;simp at hf
theorem Jhw{q:X2}{k:Nat}(s4:s 4 = .ptr n0 0 0)(s12:s 12 = .ptr k 0 0)(M:RI b n0 vN0 vL0 h0 r nm ls R v10 h n)(hb:b<n0)(hkn:k<n)(hkb:h k=some ⟨true,4,[Kb q]⟩)(hl:nm.length<=1048576)
 (hK:∀s' h' n',(∀j∈[2,3,5,8,9,10,11,12,13,4],s' j=s j)->n<=n'->(∀id z rows,id<n->id≠n0->h id=some ⟨true,z,rows⟩->h' id=h id)->RI b n0 vN0 vL0 h0 r (nm++[q.Head,q.Tail]) ls R v10 h' n'->Ju prog ks .normal s' h' n' Q):rC prog Jvt ks s h n Q:=by
 have l1:=M.lt;obtain⟨vN,vL,e1,e2,e3,e4,e5⟩:=M.env;have y1:=e2.1 (1,Ji nm,vN) (by simp)
 have ne:¬n0=n/\¬k=n/\¬n0=n+1/\¬n+1=n0/\¬k=n0/\¬n0=k:=by
  refine⟨by omega,by omega,by omega,by omega,?_,?_⟩
  ·rintro rfl;rw[hkb]at e1;simp at e1
  ·rintro rfl;rw[hkb]at e1;simp at e1
 have frn:∀id,id<n->¬id=n/\¬id=n+1:=by intro id _;omega
 simp[Jvt,s4,s12,e1,hkb,Kb];refine Vw (rows:=Ji nm) (rows2:=[[.str q.Head],[.str q.Tail]]) (y1.keep (n':=n+1) (by omega) λid _ hid _=>by simp[frn id hid]) (by simp) (λl e=>by have:=(y1.lt e).2.1;omega) (by omega) (by simp[Ji];unfold Jb;omega) ?_;intro h1 f1 f2;have g0:h1 n0=some ⟨true,2,[[vN,vL]]⟩:=by rw[f2 n0 (by omega) (by omega) λl e=>y1.not_box e1 e];simp[ne,e1]
 simp[g0,s4];refine hK _ _ _ (by simp) (by omega) ?_ (M.names (vN' := .ref (n+1) 0 (nm.length+2)) e1 (by simp) (by omega) (.inr ⟨n+1,by omega,by omega,by simp[Ji],by simp[ne,f1,Ji]⟩) (λi k e=>by simp only[AV.ref.injEq]at e;omega) ?_)
 ·intro id z rows h1' h2' h3';simp[h2',f2 id (by omega) (by omega) λl e=>y1.not_box h3' e,frn id h1']
 ·intro id h1' h2' h3';simp[h2',f2 id (by omega) (by omega) h3',frn id h1']
theorem Jgd{l0:Jc}{k at':Nat}(s2:s 2 = .int .i64 at')(s3:s 3 = .int .i64 N)(s4:s 4 = .ptr n0 0 0)(s13:s 13 = .ptr k 0 0)(M:RI b n0 vN0 vL0 h0 r nm ls R v10 h n)(hb:b<n0)(hkn:k<n)(hkb:h k=some ⟨true,2,[Ja l0]⟩)(hk0:k≠n0)(hl:ls.length<=1048576)(hl0:l0.Coeffs.length<=1048576)
 (hK:∀s' h' n',(∀j∈[2,3,5,8,9,10,11,12,13,4],s' j=s j)->n<=n'->(∀id z rows,id<n->id≠n0->h id=some ⟨true,z,rows⟩->h' id=h id)->RI b n0 vN0 vL0 h0 r nm (ls++[Ka at' N,Vs l0 1]) R v10 h' n'->Ju prog ks .normal s' h' n' Q):rC prog Jvz ks s h n Q:=by
 have l1:=M.lt;obtain⟨vN,vL,e1,e2,e3,e4,e5⟩:=M.env;have y1:=e2.1 (2,ls.map Ja,vL) (by simp);have ne:¬n0=n/\¬k=n/\¬n0=n+1/\¬n0=n+1+1/\¬n0=n+2/\¬k=n+1/\¬n=n+1/\¬n+1=n:=by omega
 have frn:∀id,id<n->¬id=n/\¬id=n+1/\¬id=n+1+1/\¬id=n+2/\¬id=n+3:=by intro id _;omega
 simp[Jvz,s2,s3,s4,s13,e1,hkb];refine D5 (Mo at' N) (by simp) ?_;rintro _ rfl;simp;refine D5 (J38 l0 1 hl0) (by simp) ?_;rintro _ rfl;simp[ne,e1,s4];have ne2:¬n+1+1=n0/\¬n+1=n0/\¬n+2=n0/\¬n0=n+1+1:=by omega
 refine Vw (rows:=ls.map Ja) (rows2:=[Ja (Ka at' N),Ja (Vs l0 1)]) (y1.keep (n':=n+1) (by omega) λid _ hid _=>by simp[frn id hid]) (by simp) (λl e=>by have:=(y1.lt e).2.1;omega) (by omega) (by simp;unfold Jb;omega) ?_;intro h1 f1 f2;have g0:h1 n0=some ⟨true,2,[[vN,vL]]⟩:=by rw[f2 n0 (by omega) (by omega) λl e=>y1.not_box e1 e];simp[ne,e1]
 simp[g0,s4];refine hK _ _ _ (by simp) (by omega) ?_ (M.lins (vL' := .ref (n+1) 0 (ls.length+2)) e1 (by simp) (by omega) (.inr ⟨n+1,by omega,by omega,by simp,by simp[ne2,f1]⟩) (λi k e=>by simp only[AV.ref.injEq]at e;omega) ?_)
 ·intro id z rows h1' h2' h3';simp[h2',f2 id (by omega) (by omega) λl e=>y1.not_box h3' e,frn id h1']
 ·intro id h1' h2' h3';simp[h2',f2 id (by omega) (by omega) h3',frn id h1']
end
end Go.Proofs.YtoclolkigjbcgaaGreat
