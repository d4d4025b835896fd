/- Contracts: edges. -/
import Derived.Test.YtoclolkigjbcgaaGreatBHM5
import Derived.Test.YtoclolkigjbcgaaGreatBT1
import Derived.Test.YtoclolkigjbcgaaGreatProg
namespace Go.Proofs.YtoclolkigjbcgaaGreat
open Tryz(prog)
open List(drop_eq_getElem_cons drop_eq_nil_of_le getElem_mem map_cons sum_cons length_append getElem_map)
set_option maxRecDepth 40000
set_option maxHeartbeats 4000000
open Go Go.RowKit Go.Proofs
set_option linter.all false
def a151:Jk:= ⟨30,[.t 2],(Zq [ZB 1 0,Zo 2 (.mv (.k (.nil 2)))] (Zq [Zo 3 (.mv (.k (.nil 2)))] (.seq (Zq [Zf 7 1 1,Zl 8 false 1 7,Zn 9 8,Zi 10 0] (.blk 0 (.loop (Zq [Zb 11 .lss 10 9] (.seq (Zw 11 0) (.seq (.blk 1 (Zq [Zv 12 10,Zx 13 7 8 10,Zl 14 true 7 13,Zo 5 (.box [(.str []),(.nil 4),(.nil 2),(.nil 3),(.bool false),(.nil 2),(.str [])]),Zv 4 12,⟨no,.st 7 (.t 5) (.t 14),no⟩] (Zq [Zf 15 3 5,Zl 16 false 1 15,Zn 17 16,Zi 18 0] (.blk 2 (.loop (Zq [Zb 19 .lss 18 17] (.seq (Zw 19 2) (.seq (.blk 3 (Zq [Zv 20 18,Zv 6 20] (.reg [Zv 21 3,Zv 22 4,Zv 23 6,Zo 24 (.build [(.int .i64 0),(.int .i64 0)] [(0,(1,(.t 22))),(1,(1,(.t 23)))]),Zo 25 (.bsl 2 [.t 24]),ZA 26 16 2 21 25,Zv 3 26]))) (.reg [Zk 27 .add 18 1,Zv 18 27]))))))))) (.reg [Zk 28 .add 10 1,Zv 10 28]))))))) (Zq [Zv 29 3,Zv 2 29] .ret))))⟩
theorem a151_ok:Jf prog Tryz.f151=some a151:=by kernel_rfl
def a125:Jk:= ⟨8,[.t 2],(Zq [ZB 1 0,Zo 2 (.mv (.k (.nil 2)))] (.seq (Zq [Zl 3 true 2 1,Zc 4 67 [.t 3],ZN 5 4] (.cond (.t 5) (Zq [Zo 2 (.mv (.k (.nil 2)))] .ret) .skip)) (Zq [Zl 6 true 2 1,Zc 7 151 [.t 6],Zv 2 7] .ret)))⟩
theorem a125_ok:Jf prog Tryz.f125=some a125:=by kernel_rfl
def a122:Jk:= ⟨36,[.t 2],(Zq [ZB 1 0,Zo 2 (.mv (.k (.nil 2)))] (Zq [Zo 6 (.bsl 2 []),Zv 3 6] (.seq (Zq [Zl 7 true 2 1,Zc 8 61 [.t 7],ZN 9 8] (.cond (.t 9) (Zq [Zv 10 3,Zv 2 10] .ret) .skip)) (.seq (Zq [Zi 4 0] (.blk 0 (.loop (.seq (Zq [Zv 11 4,Zf 12 1 1,Zl 13 false 1 12,Zn 14 13,Zb 15 .lss 11 14] (Zw 15 0)) (.seq (.blk 1 (Zq [Zi 5 0] (.blk 2 (.loop (.seq (Zq [Zv 18 5,Zf 19 1 1,Zl 20 false 1 19,Zv 21 4,Zx 22 7 20 21,Zf 23 3 22,Zl 24 false 1 23,Zn 25 24,Zb 26 .lss 18 25] (Zw 26 2)) (.seq (.blk 3 (.reg [Zv 29 3,Zv 30 4,Zv 31 5,Zo 32 (.build [(.int .i64 0),(.int .i64 0)] [(0,(1,(.t 30))),(1,(1,(.t 31)))]),Zo 33 (.bsl 2 [.t 32]),ZA 34 16 2 29 33,Zv 3 34])) (.reg [Zv 27 5,Zk 28 .add 27 1,Zv 5 28]))))))) (.reg [Zv 16 4,Zk 17 .add 16 1,Zv 4 17])))))) (Zq [Zv 35 3,Zv 2 35] .ret)))))⟩
theorem a122_ok:Jf prog Tryz.f122=some a122:=by kernel_rfl
def Acc(z:Nat)(rows:List (List AV))(v:AV)(h:J8)(n:Nat):Prop:=(rows=[]/\v = .nil z)\/∃id,id<n/\v = .ref id 0 rows.length/\h id=some ⟨false,z,rows⟩
theorem J0f{l:List Jy}{i k:Nat}(hi:i<l.length):Qp k (l.drop i)=Oj k l[i]++Qp (k+1) (l.drop (i+1)):=by rw[drop_eq_getElem_cons hi];rfl
theorem J0h{r:Jy}{i j:Nat}(hj:j<r.Calls.length):(Oj i r).drop j=Dr i j::(Oj i r).drop (j+1):=by rw[drop_eq_getElem_cons (by simp[Oj,hj])];simp[Oj]
theorem J0z(i:Nat)(r:Jy):(Oj i r).length=r.Calls.length:=by simp[Oj]
theorem Jei(p:Jq)(hp:Ks p<=1048576):Holds prog 151 [.agg (Jh p)] (λx=>x = .us 2 ((B8 p).map Wy)):=by
 have hTl:=J1n p hp;refine Jp Tryz.func151 a151_ok rfl (by simp[a151]) ?_;simp[a151,Jh];intro hlr;unfold B8 at *;generalize hT:Qp 0 p.Rules=T at *;refine Ki [8,9] 10 p.Rules.length (λi s h n=>∃acc:List Yl,acc++Qp i (p.Rules.drop i)=T/\Acc 2 (acc.map Wy) (s 3) h n) hlr (by simp) ⟨[],by simpa using hT,.inl (by simp)⟩ ?_ ?_
 ·rintro i st h n R hi hg hk s10 hw ⟨acc,hJ,hA⟩ hR hret _;simp at hk;rw[J0f hi]at hJ;refine Js [3,8,9,10] (λs=>s 11 = .bool true) (by simp[hk,s10,hi]) ?_;intro Jv hk1 s11;simp at hk1;refine W9 s11 (Jn (Xg ?_));refine Xo [3,8,9,10] (λs h' n'=>s 4 = .int .i64 i/\s 5 = .ptr n 0 0/\n'=n+1/\h' n=some ⟨true,7,[Jr p.Rules[i]]⟩/\Acc 2 (acc.map Wy) (s 3) h' n') ?_ ?_
  ·simp[hk,hk1,s10,hi,Jr];rcases hA with ⟨ha,hv⟩|⟨id,hid,hv,he⟩
   ·exact .inl ⟨ha,hv⟩
   ·have z0:¬id=n:=by omega
    exact .inr ⟨id,by omega,hv,by simp[he,z0]⟩
  rintro st2 h2 n2 hk2 ⟨s4,s5,rfl,en,hA⟩;simp at hk2;refine Jn ?_;simp[s5,en,Jr];intro hlc;refine Ki [4,8,9,10,17] 18 (p.Rules[i]).Calls.length (λj s h n=>∃acc:List Yl,acc++((Oj i p.Rules[i]).drop j++Qp (i+1) (p.Rules.drop (i+1)))=T/\Acc 2 (acc.map Wy) (s 3) h n) hlc (by simp) ⟨acc,by simpa using hJ,by simpa using hA⟩ ?_ ?_
  ·rintro j stj hj nj Rj hji hjg hkj s18 hwj ⟨accj,hJj,hAj⟩ hRj hretj _;simp at hkj;rw[J0h hji]at hJj;have hal:=congrArg List.length hJj;simp at hal;rcases hAj with ⟨ha,hv⟩|⟨id,hid,hv,he⟩
   ·simp at ha;subst ha;simp[hkj,s4,s18,hji,hv,hwj];refine⟨by unfold Jb;omega,?_⟩;refine hRj _ _ _ (by simp[hkj]) (by simp) ⟨[Dr i j],by simpa using hJj,.inr ⟨nj+1,by omega,by simp,by simp[Wy,Dr]⟩⟩
   ·simp at hv;have z0:¬id=nj:=by omega
    have z1:¬id=nj+1:=by omega
    have z2:¬nj+1=id:=by omega
    have z3:¬nj=id:=by omega
    simp[hkj,s4,s18,hji,hv,he,z0,z3,hwj];refine⟨by unfold Jb;omega,?_⟩;refine hRj _ _ _ (by simp[hkj]) (by simp) ⟨accj++[Dr i j],by simpa using hJj,.inr ⟨nj+1,by omega,by simp,by simp[Wy,Dr]⟩⟩
  rintro stj hj nj Rj hkj s18 ⟨accj,hJj,hAj⟩ hretj hXj;simp at hkj;rw[drop_eq_nil_of_le (by rw[J0z];omega),List.nil_append]at hJj;refine Js [3,4,8,9,10,17] (λs=>s 19 = .bool false) (by simp[hkj,s18]) ?_;intro stk hkk s19;simp at hkk;refine Ut s19 ?_;refine hXj _ _ _ _ ?_;simp[hk1,hk2,hkj,hkk,s10,hw];exact hR _ _ _ (by simp[hk,hk1,hk2,hkj,hkk]) (by simp) ⟨accj,hJj,by simpa[hkk]using hAj⟩
 rintro st h n R hk s10 ⟨acc,hJ,hA⟩ hret hX;simp at hk;rw[drop_eq_nil_of_le (by omega)]at hJ;simp[Qp]at hJ;subst hJ;refine Js [3] (λs=>s 11 = .bool false) (by simp[hk,s10]) ?_;intro Jv hk1 s11;simp at hk1;refine Ut s11 ?_;refine hX _ _ _ _ ?_;rcases hA with ⟨ha,hv⟩|⟨id,hid,hv,he⟩
 ·simp at ha;simp[hk1,hv,ha]
 ·simp at hv;simp[hk1,hv,he]
theorem Jdk(p:Jq)(hp:Ks p<=1048576):Holds prog 125 [.agg (Jh p)] (λx=>x = .us 2 ((Yi p).map Wy)):=by
 refine Jp Tryz.func125 a125_ok rfl (by simp[a125]) ?_;simp[a125,Jh];refine Jd (Po p hp) (by simp[Jh]) ?_;rintro r rfl;unfold Yi;cases h1:Ym p
 ·simp
 simp;refine Jd (Jei p hp) (by simp[Jh]) ?_;rintro r rfl;simp
theorem Jaz(p:Jq)(hp:Ks p<=1048576):Holds prog 122 [.agg (Jh p)] (λx=>x = .us 2 ((Yi p).map Wy)):=by
 have hTl:=J1n p hp;have hlr:p.Rules.length<=1048576:=by have:=Yk Y0 p.Rules;unfold Ks G4 at hp;omega
 have hlc:∀i,∀hi:i<p.Rules.length,(p.Rules[i]).Calls.length<=1048576:=λi hi=>by have h1:=J52 hp _ (getElem_mem hi);exact(J0q h1).2.2.2.2.1
 refine Jp Tryz.func122 a122_ok rfl (by simp[a122]) ?_;simp[a122,Jh];refine Jd (Pd p hp) (by simp[Jh]) ?_;rintro r rfl;unfold Yi;cases h1:Ym p
 ·simp
 simp;unfold B8 at *;generalize hT:Qp 0 p.Rules=T at *;refine Ki [1] 4 p.Rules.length (λi s h n=>0<n/\h 0=some ⟨true,2,[Jh p]⟩/\∃(acc:List Yl) (id:Nat),acc++Qp i (p.Rules.drop i)=T/\0<id/\id<n/\s 3 = .ref id 0 acc.length/\h id=some ⟨false,2,acc.map Wy⟩) (by unfold Jb;omega) (by simp) ⟨by simp,by simp[Jh],[],1,by simpa using hT,by omega,by omega,by simp,by simp⟩ ?_ ?_
 ·rintro i st h n R hi hg hk s4 hw ⟨hn,e0,acc,id,hJ,hid0,hid,s3,eid⟩ hR hret _;simp at hk;rw[J0f hi]at hJ;refine Jn (Js [1,3,4] (λs=>s 15 = .bool true) (by simp[hk,s4,hi,e0,Jh]) ?_);intro Jv hk1 s15;simp at hk1;refine Uh s15 (Jn (Xg (Jn ?_)));simp;refine Ki [1,4] 5 (p.Rules[i]).Calls.length (λj s h n=>0<n/\h 0=some ⟨true,2,[Jh p]⟩/\∃(acc:List Yl) (id:Nat),acc++((Oj i p.Rules[i]).drop j++Qp (i+1) (p.Rules.drop (i+1)))=T/\0<id/\id<n/\s 3 = .ref id 0 acc.length/\h id=some ⟨false,2,acc.map Wy⟩) (by have:=hlc i hi;unfold Jb;omega) (by simp) ⟨hn,by simpa using e0,acc,id,by simpa using hJ,hid0,hid,by simp[hk1,s3],by simpa using eid⟩ ?_ ?_
  ·rintro j stj hj nj Rj hji hjg hkj s5 hwj ⟨hnj,e0j,accj,idj,hJj,hid0j,hidj,s3j,eidj⟩ hRj hretj _;simp at hkj;rw[J0h hji]at hJj;have hal:=congrArg List.length hJj;simp at hal;have z0:¬idj=nj:=by omega
   have z1:¬idj=nj+1:=by omega
   have z2:¬nj+1=idj:=by omega
   have z3:¬nj=idj:=by omega
   have z4:¬0=idj:=by omega
   have z5:¬0=nj:=by omega
   have z6:¬0=nj+1:=by omega
   have z7:¬idj=0:=by omega
   have z8:¬nj=0:=by omega
   refine Jn (Js [1,3,4,5] (λs=>s 26 = .bool true) (by simp[hk,hkj,hk1,s4,s5,hi,hji,e0j,Jh,Jr]) ?_);intro stk hkk s26;simp at hkk;refine Uh s26 ?_;simp[hkj,hk1,hkk,s4,s5,s3j,eidj,z0,z3,hwj];refine⟨by unfold Jb;omega,?_⟩;exact hRj _ _ _ (by simp[hkj,hkk]) (by simp) ⟨by omega,by simp[e0j,z4,z5,z8],accj++[Dr i j],nj+1,by simpa using hJj,by omega,by omega,by simp,by simp[Wy,Dr]⟩
  rintro stj hj nj Rj hkj s5 ⟨hnj,e0j,accj,idj,hJj,hid0j,hidj,s3j,eidj⟩ hretj hXj;simp at hkj;rw[drop_eq_nil_of_le (by rw[J0z];omega),List.nil_append]at hJj;refine Jn (Js [1,3,4] (λs=>s 26 = .bool false) (by simp[hk,hkj,hk1,s4,s5,hi,e0j,Jh,Jr]) ?_);intro stk hkk s26;simp at hkk;refine U3 s26 ?_;simp;refine hXj _ _ _ _ ?_;simp[hk1,hkj,hkk,s4,hw];exact hR _ _ _ (by simp[hk,hk1,hkj,hkk]) (by simp) ⟨hnj,e0j,accj,idj,hJj,hid0j,hidj,by simp[hkk,s3j],eidj⟩
 rintro st h n R hk s4 ⟨hn,e0,acc,id,hJ,hid0,hid,s3,eid⟩ hret hX;simp at hk;rw[drop_eq_nil_of_le (by omega)]at hJ;simp[Qp]at hJ;subst hJ;refine Jn (Js [3] (λs=>s 15 = .bool false) (by simp[hk,s4,e0,Jh]) ?_);intro Jv hk1 s15;simp at hk1;refine U3 s15 ?_;refine hX _ _ _ _ ?_;simp[hk1,s3,eid]
def a152:Jk:= ⟨22,[.t 4,.t 5],(Zq [ZB 2 0,ZB 3 1,Zo 4 (.mv (.k (.str []))),Zo 5 (.mv (.k (.str [])))] (Zq [Zf 7 1 2,Zl 8 false 1 7,Zf 9 0 3,Zl 10 false 1 9,Zx 11 7 8 10,Zl 12 true 7 11,Zo 6 (.box [(.str []),(.nil 4),(.nil 2),(.nil 3),(.bool false),(.nil 2),(.str [])]),⟨no,.st 7 (.t 6) (.t 12),no⟩] (.seq (.draw (.op (Zf 13 0 6) (.op (Zl 14 false 1 13) (.op (Zf 15 3 6) (.op (Zl 16 false 1 15) (.op (Zf 17 1 3) (.op (Zl 18 false 1 17) (.op (Zx 19 3 16 18) (.op (Zf 20 1 19) (.op (Zl 21 false 1 20) (.op (Zv 4 14) (.op (Zv 5 21) .fin)))))))))))) .ret)))⟩
theorem a152_ok:Jf prog Tryz.f152=some a152:=by kernel_rfl
def a173:Jk:= ⟨17,[.t 4],(Zq [ZB 2 0,ZB 3 1,Zo 4 (.mv (.k (.str [])))] (.seq (.draw (.op (Zf 5 1 2) (.op (Zl 6 false 1 5) (.op (Zf 7 0 3) (.op (Zl 8 false 1 7) (.op (Zx 9 7 6 8) (.op (Zf 10 3 9) (.op (Zl 11 false 1 10) (.op (Zf 12 1 3) (.op (Zl 13 false 1 12) (.op (Zx 14 3 11 13) (.op (Zf 15 1 14) (.op (Zl 16 false 1 15) (.op (Zv 4 16) .fin)))))))))))))) .ret))⟩
theorem a173_ok:Jf prog Tryz.f173=some a173:=by kernel_rfl
theorem Jqu(p:Jq){i k:Nat}(hi:i<p.Rules.length)(hk:k<(p.Rules[i]).Calls.length):Holds prog 152 [.agg (Jh p),.agg (U2 ⟨i,k⟩)] (λx=>x = .tup [.str (p.Rules[i]).Func,.str ((p.Rules[i]).Calls[k]).Func]):=by refine Jp Tryz.func152 a152_ok rfl (by simp[a152]) ?_;simp[a152,Jh,U2,hi,hk,Jr,Kx]
theorem Jaj(p:Jq){i k:Nat}(hi:i<p.Rules.length)(hk:k<(p.Rules[i]).Calls.length):Holds prog 173 [.agg (Jh p),.agg (U2 ⟨i,k⟩)] (λx=>x = .str ((p.Rules[i]).Calls[k]).Func):=by refine Jp Tryz.func173 a173_ok rfl (by simp[a173]) ?_;simp[a173,Jh,U2,hi,hk,Jr,Kx]
theorem J4h{p:Jq}{j:Nat}(hj:j<(Yi p).length):∃i k:Nat,∃hi:i<p.Rules.length,∃hk:k<(p.Rules[i]).Calls.length,(Yi p)[j]=⟨(i:Int),(k:Int)⟩/\Sb p ⟨(i:Int),(k:Int)⟩=(p.Rules[i]).Func/\Fp p ⟨(i:Int),(k:Int)⟩=((p.Rules[i]).Calls[k]).Func:=by
 have hm:(Yi p)[j]∈B8 p:=by
  have h0:(Yi p)[j]∈Yi p:=getElem_mem hj;generalize(Yi p)[j]=e at h0;unfold Yi at h0;split at h0
  ·exact h0
  ·cases h0
 obtain⟨i,k,hi,hk,he⟩:=J1r hm;exact⟨i,k,hi,hk,he,Jaa hi,Jjb hi hk⟩
theorem J0m(p:Jq)(hp:Ks p<=1048576):(Yi p).length<=1048576:=by
 have:=J1n p hp;unfold Yi;split
 ·exact this
 ·simp
def a128:Jk:= ⟨9,[(.c 2 true 2)],(Zq [ZB 1 0,Zo 2 (.box [(.int .i64 0),(.nil 2)])] (.seq (.draw (.op (Zf 3 0 1) (.op (Zl 4 false 1 3) (.op (Zf 5 1 1) (.op (Zl 6 false 1 5) (.op (Zc 7 209 [.t 6]) (.op (Zo 8 (.build [(.int .i64 0),(.nil 2)] [(0,(1,(.t 4))),(1,(1,(.t 7)))])) (.hop ⟨no,.st 2 (.t 2) (.t 8),no⟩ [] .fin)))))))) .ret))⟩
theorem a128_ok:Jf prog Tryz.f128=some a128:=by kernel_rfl
def a175:Jk:= ⟨27,[(.c 2 true 2)],(Zq [ZB 1 0,Zo 2 (.box [(.int .i64 0),(.nil 2)])] (Zq [Zf 5 0 1,Zl 6 false 1 5,Zo 7 (.build [(.int .i64 0),(.nil 2)] [(0,(1,(.t 6)))]),Zo 3 (.box [(.int .i64 0),(.nil 2)]),⟨no,.st 2 (.t 3) (.t 7),no⟩] (.seq (Zq [Zi 4 0] (.blk 0 (.loop (.seq (Zq [Zv 8 4,Zf 9 1 1,Zl 10 false 1 9,Zn 11 10,Zb 12 .lss 8 11] (Zw 12 0)) (.seq (.blk 1 (.draw (.op (Zf 15 1 3) (.op (Zl 16 false 1 15) (.op (Zf 17 1 1) (.op (Zl 18 false 1 17) (.op (Zv 19 4) (.op (Zx 20 2 18 19) (.op (Zl 21 true 2 20) (.op (Zc 22 82 [.t 21]) (.hop (Zo 23 (.bsl 2 [.t 22])) [(.ld false 1 (.t 15)),(.fld 1 (.t 3))] (.hop (ZA 24 32 2 16 23) [] (.op (Zf 25 1 3) (.hop ⟨no,.st 1 (.t 25) (.t 24),no⟩ [] .fin)))))))))))))) (.reg [Zv 13 4,Zk 14 .add 13 1,Zv 4 14])))))) (Zq [Zl 26 true 2 3,⟨no,.st 2 (.t 2) (.t 26),no⟩] .ret))))⟩
theorem a175_ok:Jf prog Tryz.f175=some a175:=by kernel_rfl
def po0:AC:=(.reg [ZB 1 0,Zo 2 (.mv (.k (.nil 4)))])
def po1:AC:=(.reg [Zo 3 (.mv (.k (.nil 4)))])
def pod:AC:=(.draw (.op (Zv 63 3) (.op (Zf 64 0 6) (.op (Zl 65 true 2 64) (.op (Zl 67 true 2 14) (.op (Zc 66 128 [.t 65]) (.op (Zo 68 (.build [(.int .i64 0),(.nil 2),(.int .i64 0),(.nil 1)] [(0,(2,(.t 66))),(2,(2,(.t 67)))])) (.hop (Zo 69 (.bsl 4 [.t 68])) [] (.hop (ZA 70 64 4 63 69) [] (.hop (Zv 3 70) [] .fin))))))))))
def poi:AC:=(Zq [Zf 42 3 10,Zl 43 false 1 42,Zn 44 43,Zi 45 0] (.blk 2 (.loop (Zq [Zb 46 .lss 45 44] (.seq (Zw 46 2) (.seq (.blk 3 (Zq [Zx 47 2 43 45,Zl 48 true 2 47,Zo 13 (.box [(.int .i64 0),(.nil 1)]),⟨no,.st 2 (.t 13) (.t 48),no⟩] (Zq [Zl 50 true 6 6,Zl 51 true 2 13,Zf 52 1 5,Zl 53 false 1 52,Zc 54 177 [.t 50,.t 51,.t 53],Zv 49 54,Ze 55 49 0,Ze 56 49 1,Zo 14 (.box [(.int .i64 0),(.nil 1)]),⟨no,.st 2 (.t 14) (.t 55),no⟩,Zv 15 56] (.seq (Zq [Zv 57 15,ZN 58 57] (.cond (.t 58) (.reg [Zf 59 0 6,Zf 60 0 59,Zl 61 false 1 60,Zc 62 178 [(.k (.int .i64 (-1))),.t 61],⟨no,.st 2 (.t 14) (.t 62),no⟩]) .skip)) pod)))) (.reg [Zk 71 .add 45 1,Zv 45 71])))))))
def po2:AC:=(Zq [Zl 16 true 2 1,Zc 17 125 [.t 16],Zn 18 17,Zi 19 0] (.blk 0 (.loop (Zq [Zb 20 .lss 19 18] (.seq (Zw 20 0) (.seq (.blk 1 (Zq [Zx 21 2 17 19,Zl 22 true 2 21,Zo 5 (.box [(.int .i64 0),(.int .i64 0)]),⟨no,.st 2 (.t 5) (.t 22),no⟩] (Zq [Zl 24 true 2 1,Zf 25 0 5,Zl 26 false 1 25,Zc 27 126 [.t 24,.t 26],Zv 23 27,Ze 28 23 0,Ze 29 23 1,Zo 6 (.box [(.int .i64 0),(.nil 2),(.nil 2),(.nil 1),(.int .i64 0),(.nil 1)]),⟨no,.st 6 (.t 6) (.t 28),no⟩,Zv 7 29] (Zq [Zl 31 true 2 1,Zl 32 true 2 5,Zc 33 152 [.t 31,.t 32],Zv 30 33,Ze 34 30 0,Ze 35 30 1,Zv 8 34,Zv 9 35] (Zq [Zl 37 true 2 1,Zv 38 9,Zc 39 176 [.t 37,.t 38],Zv 36 39,Ze 40 36 0,Ze 41 36 1,Zo 10 (.box [(.str []),(.nil 1),(.bool false),(.nil 2)]),⟨no,.st 4 (.t 10) (.t 40),no⟩,Zv 11 41] poi))))) (.reg [Zk 72 .add 19 1,Zv 19 72])))))))
def po3:AC:=(.reg [Zv 73 3,Zv 2 73])
def a94:Jk:=⟨74,[.t 2],(.seq po0 (.seq po1 (.seq po2 (.seq po3 .ret))))⟩
theorem a94_ok:Jf prog Tryz.f94=some a94:=by kernel_rfl
theorem Jhc{l:List Jc}(h:∀x∈l,x.Coeffs.length<=8):W5 l<=9*l.length:=by
 unfold W5 wL
 have:((l.map U9).sum)<=8*l.length:=by
  induction l with
  |nil=>simp
  |cons e l ih=>
   have h1:=ih λx hx=>h x (List.mem_cons_of_mem _ hx)
   have h2:=h e List.mem_cons_self;simp only[map_cons,sum_cons,List.length_cons];rw[show U9 e=e.Coeffs.length from rfl];omega
 omega
theorem J7k(x:Xm)(hw:W5 x.Rows<=1048576):Holds prog 128 [.agg (Kv x)] (λr=>r = .agg (Wb x)):=by refine Jp Tryz.func128 a128_ok rfl (by simp[a128]) ?_;simp[a128,Kv];refine Jw (J46 x.Rows hw) (by simp) ?_;rintro r rfl;simp[Wb]
theorem Jdl(x:Xm)(hw:W5 x.Rows<=1048576):Holds prog 175 [.agg (Kv x)] (λr=>r = .agg (Wb x)):=by
 have hl:=Yk U9 x.Rows
 have hcl:∀l∈x.Rows,l.Coeffs.length<=1048576:=λl hl=>by have:=W6 (w:=U9) hl;rw[show U9 l=l.Coeffs.length from rfl]at this;unfold W5 at hw;omega
 unfold W5 at hw;refine Jp Tryz.func175 a175_ok rfl (by simp[a175]) ?_;simp[a175,Kv]
 refine Ki [1,2,3] 4 x.Rows.length (λi s h m=>2<m/\h 0=some ⟨true,2,[Kv x]⟩/\h 1=some ⟨true,2,[[.int .i64 0,.nil 2]]⟩/\∃v,h 2=some ⟨true,2,[[.int .i64 x.N,v]]⟩/\Kn 2 2 ((x.Rows.take i).map J9) v h m) (by unfold Jb;omega) (by simp)
  ⟨by simp,by simp[Kv],by simp,.nil 2,by simp,.inl (by simp)⟩ ?_ ?_
 ·rintro i st h m R hi hg hk s4 hw' ⟨hm,e0,e1,v,e2,B⟩ hR _ _;simp at hk;have hcl:=hcl _ (getElem_mem hi);refine Jn (Js [1,2,3,4] (λs=>s 12 = .bool true) (by simp[hk,s4,hi,e0,Kv]) ?_);intro Jv hk1 s12;simp at hk1;refine Uh s12 (Jn (Xg ?_));have ne:¬0=m/\¬1=m/\¬2=m/\¬m=2/\¬m=1/\¬m=0/\¬m+1=2/\¬m=m+1/\¬m+1=m:=by omega
  have fr:∀id,id<m->¬id=m/\¬id=m+1:=by intro id _;omega
  simp[hk1,hk,s4,hi,e0,e2,Kv];refine Jw (E7 (x.Rows[i]'hi) hcl) (by simp) ?_;rintro r rfl;simp[J9,e2,ne,hk1,hk];refine Vw (rows:=(x.Rows.take i).map J9) (rows2:=[[.int .i64 (x.Rows[i]).Const,.us 1 (Jg (x.Rows[i]).Coeffs)]]) (B.keep (n':=m+1+1) (by omega) λid _ hid _=>by simp[fr id hid]) (by simp) (λl e=>by have:=(B.lt e).2.1;omega) (by omega) (by simp;unfold Jb;omega) ?_;intro h1 f1 f2
  have bx:∀id z rows,id<m->h id=some ⟨true,z,rows⟩->h1 id=h id:=by intro id z rows h1' h3';rw[f2 id (by omega) (by omega) λl e=>B.not_box h3' e];simp[fr id h1']
  have g0:=bx 0 _ _ (by omega) e0;have g1:=bx 1 _ _ (by omega) e1;have g2:=bx 2 _ _ (by omega) e2;simp[g2,e2,s4,hw',hk1,hk];refine hR _ _ _ (by simp[hk1,hk]) (by simp) ⟨by omega,by simp[g0,e0],by simp[g1,e1],.ref (m+2) 0 (i+1),?_,.inr ⟨m+2,by omega,by omega,by simp;omega,?_⟩⟩
  ·simp;omega
  ·simp[ne,f1];have hi':i<(x.Rows.map J9).length:=by simpa using hi
   rw[List.take_succ_eq_append_getElem hi'];simp[J9]
 ·rintro st h m R hk s4 ⟨hm,e0,e1,v,e2,B⟩ _ hX;simp at hk;rw[List.take_length]at B;refine Jn (Js [1,2,3] (λs=>s 12 = .bool false) (by simp[hk,s4,e0,Kv]) ?_);intro Jv hk1 s12;simp at hk1;refine U3 s12 ?_;refine hX _ _ _ _ ?_;have cB:=B.cell;simp[hk1,hk,e2,e1,-dt,-Wq,-K8,J1t,cB]
  have B':Kn 2 2 (x.Rows.map J9) v (upd h 1 (some ⟨true,2,[[.int .i64 x.N,v]]⟩)) m:=B.keep (Nat.le_refl _) λid hb hid e=>by
   have:¬id=1:=by omega
   simp[this]
  obtain⟨h2,d1,_⟩:=B'.dt;simp[d1,Wb]
def Oq(md:X9)(l:Jc)(call:Int):X5:=⟨md.System,(Yr md l call).getD (Jo (-1) md.System.N)⟩
def V6(p:Jq)(e:Yl):X9:=(Ie p e.Rule).getD Og
def Gq(p:Jq)(e:Yl):List Jc:=((Kw p.Functions (Fp p e)).getD Yf).Pre
def O8(p:Jq)(e:Yl):List X5:=(Gq p e).map λl=>Oq (V6 p e) l e.Call
def Qx(p:Jq):List X5:=(Yi p).flatMap (O8 p)
theorem Cm(p:Jq)(hp:Ks p<=1048576):(Qx p).length<=2097152:=by
 have h1:=J0m p hp
 have h2:∀l:List Yl,(∀e∈l,(O8 p e).length<=2)->(l.flatMap (O8 p)).length<=2*l.length:=by
  intro l
  induction l with
  |nil=>intro _;simp
  |cons e l ih=>
   intro h;have g1:=ih λx hx=>h x (List.mem_cons_of_mem _ hx)
   have g2:=h e List.mem_cons_self;simp only[List.flatMap_cons,length_append,List.length_cons];omega
 have h3:=h2 (Yi p) λe he=>by
  have hpo:Ym p=true:=by
   unfold Yi at he;split at he
   ·assumption
   ·cases he
  simp only[O8,List.length_map,Gq]
  cases hf:Kw p.Functions (Fp p e)with
  |none=>simp[Yf]
  |some g=>exact(Es hpo hf).2.2.2
 unfold Qx;omega
def a273:Jk:= ⟨8,[.t 2],(Zq [ZB 1 0,Zi 2 0] (.seq (Zq [Zf 3 0 1,Zl 4 false 1 3] (.cond (.t 4) (Zq [Zf 5 1 1,Zl 6 false 1 5,Zn 7 6,Zv 2 7] .ret) .skip)) (Zq [Zi 2 0] .ret)))⟩
theorem a273_ok:Jf prog Tryz.f273=some a273:=by kernel_rfl
def a192:Jk:= ⟨39,[.t 4],(Zq [ZB 2 0,Zi 4 0] (.seq (Zq [Zv 10 1] (.blk 0 (Zq [Zk 12 .eql 10 1,Zv 11 12] (.cond (.t 11) (Zq [Zi 4 1] .ret) (Zq [Zk 14 .eql 10 2,Zv 13 14] (.cond (.t 13) (Zq [Zf 15 4 2,Zl 16 true 3 15,Zc 17 273 [.t 16],Zv 5 17] (.seq (Zq [Zf 18 3 2,Zl 19 false 1 18,Zn 20 19,Zi 21 0] (.blk 1 (.loop (Zq [Zb 22 .lss 21 20] (.seq (Zw 22 1) (.seq (.blk 2 (Zq [Zx 23 3 19 21,Zl 24 true 3 23,Zo 7 (.box [(.str []),(.str []),(.nil 3)]),⟨no,.st 3 (.t 7) (.t 24),no⟩] (Zq [Zf 25 2 7,Zl 26 false 1 25,Zn 27 26,Zi 28 0] (.blk 3 (.loop (Zq [Zb 29 .lss 28 27] (.seq (Zw 29 3) (.seq (.blk 4 (Zq [Zx 30 3 26 28,Zl 31 true 3 30,Zo 9 (.box [(.bool false),(.nil 2),(.str [])]),⟨no,.st 3 (.t 9) (.t 31),no⟩] (.reg [Zv 32 5,Zl 33 true 3 9,Zc 34 273 [.t 33],Zb 35 .add 32 34,Zv 5 35]))) (.reg [Zk 36 .add 28 1,Zv 28 36]))))))))) (.reg [Zk 37 .add 21 1,Zv 21 37]))))))) (Zq [Zv 38 5,Zv 4 38] .ret))) .skip)))))) (Zq [Zi 4 0] .ret)))⟩
theorem a192_ok:Jf prog Tryz.f192=some a192:=by kernel_rfl
def a187:Jk:= ⟨64,[.t 4],(Zq [ZB 2 0,Zi 4 0] (.seq (Zq [Zv 8 1] (.blk 0 (Zq [Zk 10 .eql 8 1,Zv 9 10] (.cond (.t 9) (Zq [Zi 4 1] .ret) (Zq [Zk 12 .eql 8 2,Zv 11 12] (.cond (.t 11) (Zq [Zi 5 0] (.seq (Zq [Zi 6 0] (.blk 1 (.loop (.seq (Zq [Zv 13 6,Zf 14 3 2,Zl 15 false 1 14,Zn 16 15,Zb 17 .lss 13 16] (Zw 17 1)) (.seq (.blk 2 (Zq [Zi 7 0] (.blk 3 (.loop (.seq (Zq [Zv 20 7,Zf 21 3 2,Zl 22 false 1 21,Zv 23 6,Zx 24 3 22 23,Zf 25 2 24,Zl 26 false 1 25,Zn 27 26,Zb 28 .lss 20 27] (Zw 28 3)) (.seq (.blk 4 (Zq [Zf 31 3 2,Zl 32 false 1 31,Zv 33 6,Zx 34 3 32 33,Zf 35 2 34,Zl 36 false 1 35,Zv 37 7,Zx 38 3 36 37,Zf 39 0 38,Zl 40 false 1 39] (.cond (.t 40) (.reg [Zv 41 5,Zf 42 3 2,Zl 43 false 1 42,Zv 44 6,Zx 45 3 43 44,Zf 46 2 45,Zl 47 false 1 46,Zv 48 7,Zx 49 3 47 48,Zf 50 1 49,Zl 51 false 1 50,Zn 52 51,Zb 53 .add 41 52,Zv 5 53]) .skip))) (.reg [Zv 29 7,Zk 30 .add 29 1,Zv 7 30]))))))) (.reg [Zv 18 6,Zk 19 .add 18 1,Zv 6 19])))))) (.seq (Zq [Zf 54 4 2,Zf 55 0 54,Zl 56 false 1 55] (.cond (.t 56) (.reg [Zv 57 5,Zf 58 4 2,Zf 59 1 58,Zl 60 false 1 59,Zn 61 60,Zb 62 .add 57 61,Zv 5 62]) .skip)) (Zq [Zv 63 5,Zv 4 63] .ret)))) .skip)))))) (Zq [Zi 4 0] .ret)))⟩
theorem a187_ok:Jf prog Tryz.f187=some a187:=by kernel_rfl
def I5(a:X8):Nat:=if a.Lst then a.Heads.length else 0
def Dw(c:Xf):Nat:=(c.Args.map I5).sum
def Bo(r:Jy):Nat:=I5 r.Result+(r.Calls.map Dw).sum
def V9(r:Jy)(kind:Int):Int:=if kind=1 then 1 else if kind=2 then(Bo r:Int)else 0
theorem J6b(a:X8):I5 a<=Yz a:=by unfold I5 Yz Wl wL;split <;>omega
theorem Jbx{α:Type}{f g:α->Nat}(h:∀x,f x<=g x):∀l:List α,(l.map f).sum<=(l.map g).sum
 | []=>Nat.le_refl _
 |x::l=>by have:=Jbx h l;have:=h x;simp only[map_cons,sum_cons];omega
theorem Jha(c:Xf):Dw c<=Ub c:=by have:=Jbx J6b c.Args;unfold Dw Ub G1 wL;omega
theorem J1s(r:Jy):Bo r<=Y0 r:=by have:=Jbx Jha r.Calls;have:=J6b r.Result;unfold Bo Y0 Iw wL;omega
theorem Jcd(a:X8):Holds prog 273 [.agg (Kf a)] (λr=>r=i64 (I5 a)):=by refine Jp Tryz.func273 a273_ok rfl (by simp[a273]) ?_;simp[a273,Kf];unfold I5;cases a.Lst <;>simp
theorem Jbn(r:Jy)(kind:Int)(hw:Y0 r<=1048576):Holds prog 192 [.agg (Jr r),i64 kind] (λx=>x=i64 (V9 r kind)):=by
 have hT:=J1s r;refine Jp Tryz.func192 a192_ok rfl (by simp[a192]) ?_;simp[a192,Jr];unfold V9;by_cases h1:kind=1
 ·simp[h1]
 by_cases h2:kind=2
 case neg=>simp[h1,h2]
 simp[h2];refine Jd (Jcd r.Result) (by simp[Kf]) ?_;rintro r rfl;simp;intro hl;refine Pi [19,20] 21 r.Calls.length (λi s _ _=>∃acc:Nat,s 5=i64 acc/\acc+((r.Calls.map Dw).drop i).sum=Bo r) hl (by simp) ⟨I5 r.Result,by simp,by simp[Bo]⟩ ?_ ?_
 ·rintro i s h n hi hg hk s21 hw ⟨acc,s5,hT1⟩;simp at hk;rw[drop_eq_getElem_cons (by simpa using hi),sum_cons,getElem_map]at hT1;simp[hk,s21,hi,Kx];intro hl2;refine Pi [19,20,21,26,27] 28 (r.Calls[i]).Args.length (λj s _ _=>∃acc:Nat,s 5=i64 acc/\acc+(((r.Calls[i]).Args.map I5).drop j).sum+((r.Calls.map Dw).drop (i+1)).sum=Bo r) hl2 (by simp) ⟨acc,by simp[s5],by rw[List.drop_zero];exact hT1 ▸ by unfold Dw;omega⟩ ?_ ?_
  ·rintro j s2 h2 n2 hj hgj hk2 s28 hw2 ⟨acc2,s5b,hT2⟩;simp at hk2;rw[drop_eq_getElem_cons (by simpa using hj),sum_cons,getElem_map]at hT2;simp[hk2,hk,s28,s21,hj,Kf,s5b];refine Jd (Jcd _) rfl ?_;rintro r rfl;simp[hk2,hk,s28,s21,hw2];exact⟨acc2+I5 (r.Calls[i].Args[j]),by rw[Kk (by omega)];rfl,by omega⟩
  ·rintro s2 h2 n2 hk2 s28 ⟨acc2,s5b,hT2⟩;simp at hk2;simp[hk2,hk,s28,s21,s5b,hw];exact⟨acc2,rfl,by rw[drop_eq_nil_of_le (by simp)]at hT2;simpa using hT2⟩
 ·rintro s h n hk s21 ⟨acc,s5,hT1⟩;simp at hk;rw[drop_eq_nil_of_le (by simp)]at hT1;simp at hT1;simp[hk,s21,s5,hT1]
theorem J86(r:Jy)(kind:Int)(hw:Y0 r<=1048576):Holds prog 187 [.agg (Jr r),i64 kind] (λx=>x=i64 (V9 r kind)):=by
 have hT:=J1s r;refine Jp Tryz.func187 a187_ok rfl (by simp[a187]) ?_;simp[a187,Jr];unfold V9;by_cases h1:kind=1
 ·simp[h1]
 by_cases h2:kind=2
 case neg=>simp[h1,h2]
 simp[h2];have hl:r.Calls.length<=Jb:=by have:=Yk Ub r.Calls;unfold Y0 Iw at hw;unfold Jb;omega
 refine Qm [2] 6 r.Calls.length (λi s=>∃acc:Nat,s 5=i64 acc/\acc+((r.Calls.map Dw).drop i).sum+I5 r.Result=Bo r) hl (by simp) ⟨0,by simp,by simp[Bo];omega⟩ ?_ ?_
 ·rintro i s h R hi hg hk s6 hw6 ⟨acc,s5,hT1⟩ hh hR _ _;simp at hk hh;rw[drop_eq_getElem_cons (by simpa using hi),sum_cons,getElem_map]at hT1;simp[hk,s6,hi,hh];intro _
  have hl2:(r.Calls[i]).Args.length<=Jb:=by have:=Yk Yz (r.Calls[i]).Args;have:=W6 (w:=Ub) (getElem_mem hi);unfold Y0 Iw at hw;rw[show Ub r.Calls[i]=(r.Calls[i]).Bind.length+(r.Calls[i]).Func.length+G1 (r.Calls[i]).Args from rfl]at this;unfold G1 at this;unfold Jb;omega
  refine Qm [2,6] 7 (r.Calls[i]).Args.length (λj s=>∃acc:Nat,s 5=i64 acc/\acc+(((r.Calls[i]).Args.map I5).drop j).sum+((r.Calls.map Dw).drop (i+1)).sum+I5 r.Result=Bo r) hl2 (by simp) ⟨acc,by simp[s5],by rw[List.drop_zero];exact hT1 ▸ by unfold Dw;omega⟩ ?_ ?_
  ·rintro j s2 h2 R2 hj hgj hk2 s7 hw2 ⟨acc2,s5b,hT2⟩ hh2 hR2 _ _;simp at hk2;simp[hh]at hh2;rw[drop_eq_getElem_cons (by simpa using hj),sum_cons,getElem_map]at hT2;simp[hk2,hk,s7,s6,hi,hj,s5b,hh2,hw2];intro _;refine⟨λhL=>?_,λhL=>?_⟩
   ·have e:I5 (r.Calls[i].Args[j])=(r.Calls[i].Args[j]).Heads.length:=by simp[I5,hL]
    rw[e]at hT2;intro _;refine hR2 _ (by simp[hk2,hk,s6]) (by simp) ⟨acc2+(r.Calls[i].Args[j]).Heads.length,?_,by omega⟩;simp;rw[Kk (by omega)]
   ·exact hR2 _ (by simp[hk2,hk,s6]) (by simp) ⟨acc2,by simp[s5b],by simpa[I5,hL]using hT2⟩
  ·rintro s2 h2 R2 hk2 s7 ⟨acc2,s5b,hT2⟩ hh2 _ hX;simp at hk2;simp[hh]at hh2;simp[hk2,hk,s7,s6,s5b,hi,hh2];intro _;refine hX _ _ ?_;simp[hk2,s6,hw6];exact hR _ (by simp[hk2,hk]) (by simp) ⟨acc2,by simp[s5b],by rw[drop_eq_nil_of_le (by simp)]at hT2;simpa using hT2⟩
 ·rintro s h R hk s6 ⟨acc,s5,hT1⟩ hh _ hX;simp at hk hh;rw[drop_eq_nil_of_le (by simp)]at hT1;simp at hT1;simp[hk,s6,hh];intro _;refine hX _ _ ?_;simp[hk,s5];refine⟨λhL=>?_,λhL=>?_⟩
  ·have e:I5 r.Result=r.Result.Heads.length:=by simp[I5,hL]
   intro _;rw[Kk (by omega)];omega
  ·simp[I5,hL]at hT1;rw[hT1]
def a190:Jk:= ⟨5,[.t 2],(Zq [Zi 2 0] (.seq (Zq [Zv 3 0,Zk 4 .eql 3 1] (.cond (.t 4) (Zq [Zi 2 1] .ret) .skip)) (Zq [Zi 2 0] .ret)))⟩
theorem a190_ok:Jf prog Tryz.f190=some a190:=by kernel_rfl
def a103:Jk:= ⟨31,[.t 4],(Zq [ZB 2 0,Zt 4 false] (.seq (Zq [Zv 7 1,Zn 8 7,Zf 9 0 2,Zl 10 false 1 9,Zn 11 10,Zb 12 .neq 8 11] (.cond (.t 12) (Zq [Zt 4 false] .ret) .skip)) (.seq (Zq [Zv 13 1,Zn 14 13,Zi 15 0] (.blk 0 (.loop (Zq [Zb 16 .lss 15 14] (.seq (Zw 16 0) (.seq (.blk 1 (Zq [Zv 17 15,Zx 18 2 13 15,Zl 19 true 2 18,Zo 6 (.box [(.int .i64 0),(.nil 1)]),Zv 5 17,⟨no,.st 2 (.t 6) (.t 19),no⟩] (.seq (.draw (.op (Zl 20 true 2 6) (.op (Zf 21 0 2) (.op (Zl 22 false 1 21) (.op (Zv 23 5) (.op (Zx 24 4 22 23) (.op (Zf 25 1 24) (.op (Zl 26 false 1 25) (.op (Zn 27 26) (.op (Zc 28 146 [.t 20,.t 27]) (.op (ZN 29 28) .fin))))))))))) (.cond (.t 29) (Zq [Zt 4 false] .ret) .skip)))) (.reg [Zk 30 .add 15 1,Zv 15 30]))))))) (Zq [Zt 4 true] .ret))))⟩
theorem a103_ok:Jf prog Tryz.f103=some a103:=by kernel_rfl
def Vj(kind:Int):Int:=if kind=1 then 1 else 0
def Ek(fs:List K3)(ls:List Jc):Bool:=decide (ls.length=fs.length)&&(ls.zip fs).all λx=>K4 x.1 x.2.Params.length
def W1(p:Jq)(b:X0):Bool:=Ym p&&K9 b.Kind 1 2&&Ek p.Functions b.Lins
def Wd(p:Jq)(name:Je):Xm:=(Br p name).getD Bm
def Vp(b:X0)(l:Jc):Option Jc:=U6 l (-(Vj b.Kind))
def Jka(s:Xm)(o:Option Jc):AV := .tup [.agg (Km ⟨s,o.getD Jl⟩),.bool o.isSome]
theorem J6f(k:Int):Holds prog 190 [i64 k] (λx=>x=i64 (Vj k)):=by refine Jp Tryz.func190 a190_ok rfl (by simp[a190]) ?_;simp[a190];unfold Vj;split <;>simp[*]
theorem Jgp(p:Jq)(ls:List Jc):Holds prog 103 [.agg (Jh p),.sl 2 (ls.map Ja)] (λx=>x = .bool (Ek p.Functions ls)):=by
 refine Jp Tryz.func103 a103_ok rfl (by simp[a103]) ?_;simp[a103,Jh];unfold Ek;by_cases hl:ls.length=p.Functions.length
 case neg=>
  have hl':¬(ls.length:Int)=p.Functions.length:=by omega
  simp[hl,hl']
 simp[hl];intro hlm;refine Ki [2,13,14] 15 ls.length (λi s h n=>0<n/\h 0=some ⟨true,2,[Jh p]⟩/\((ls.drop i).zip (p.Functions.drop i)).all (λx=>K4 x.1 x.2.Params.length)=(ls.zip p.Functions).all (λx=>K4 x.1 x.2.Params.length)) (by omega) (by simp) ⟨by simp,by simp[Jh],rfl⟩ ?_ ?_
 ·rintro i s h n R hi hg hk s15 hw ⟨hn,e0,hJ⟩ hR hret _;have hi':i<p.Functions.length:=by omega
  simp at hk;rw[drop_eq_getElem_cons hi,drop_eq_getElem_cons hi',List.zip_cons_cons,List.all_cons]at hJ;have hn':¬0=n:=by omega
  simp[hk,s15,hi,hi',e0,hn',Ja,Jh,K5];refine Jw (Gx (ls[i]'hi) (p.Functions[i]'hi').Params.length) (by simp[Ja]) ?_;rintro r rfl;cases h0:K4 ls[i] (p.Functions[i]).Params.length
  ·rw[h0]at hJ;have hJ:(ls.zip p.Functions).all (λx=>K4 x.1 x.2.Params.length)=false:=by rw[<-hJ];rfl
   simp;refine hret _ _ _ ?_;simp[hJ]
  ·rw[h0,Bool.true_and]at hJ;simp[s15,hw];exact hR _ _ _ (by simp[hk]) (by simp) ⟨by omega,by simp[hn',e0,Jh],hJ⟩
 ·rintro s h n R hk s15 ⟨hn,e0,hJ⟩ hret hX;simp at hk;rw[drop_eq_nil_of_le (Nat.le_refl _)]at hJ;simp[hk,s15,hl];refine hX _ _ _ _ ?_;rw[<-hJ];simp
def fo0:AC:=(.reg [ZB 3 0,ZB 4 1,Zo 6 (.box [(.int .i64 0),(.nil 2),(.int .i64 0),(.nil 1)]),Zt 7 false])
def fo1:AC:=(.draw (.op (Zl 13 true 2 3) (.op (Zf 14 0 3) (.op (Zl 15 false 1 14) (.op (Zv 16 2) (.op (Zx 17 4 15 16) (.op (Zf 18 0 17) (.op (Zl 19 false 1 18) (.both (.op (Zc 20 188 [.t 13,.t 19]) (.op (Zv 12 20) (.op (Ze 21 12 0) (.op (Ze 22 12 1) (.op (Zo 8 (.box [(.int .i64 0),(.nil 2)])) (.hop ⟨no,.st 2 (.t 8) (.t 21),no⟩ [] (.op (Zv 9 22) .fin))))))) (.op (Zo 8 (.box [(.int .i64 0),(.nil 2)])) (.op (Zc 20 188 [.t 13,.t 19]) (.op (Zv 12 20) (.op (Ze 21 12 0) (.op (Ze 22 12 1) (.hop ⟨no,.st 2 (.t 8) (.t 21),no⟩ [] (.op (Zv 9 22) .fin))))))))))))))))
def fo2:AC:=(.draw (.op (Zf 24 1 4) (.op (Zl 25 false 1 24) (.op (Zv 26 2) (.op (Zx 27 2 25 26) (.op (Zl 28 true 2 27) (.op (Zf 29 0 4) (.op (Zl 30 false 1 29) (.both (.op (Zc 31 190 [.t 30]) (.op (Zo 32 (.un .neg (.t 31))) (.both (.op (Zc 33 189 [.t 28,.t 32]) (.op (Zv 23 33) (.op (Ze 34 23 0) (.op (Ze 35 23 1) (.op (Zo 10 (.box [(.int .i64 0),(.nil 1)])) (.hop ⟨no,.st 2 (.t 10) (.t 34),no⟩ [] (.op (Zv 11 35) .fin))))))) (.op (Zo 10 (.box [(.int .i64 0),(.nil 1)])) (.op (Zc 33 189 [.t 28,.t 32]) (.op (Zv 23 33) (.op (Ze 34 23 0) (.op (Ze 35 23 1) (.hop ⟨no,.st 2 (.t 10) (.t 34),no⟩ [] (.op (Zv 11 35) .fin)))))))))) (.op (Zo 10 (.box [(.int .i64 0),(.nil 1)])) (.op (Zc 31 190 [.t 30]) (.op (Zo 32 (.un .neg (.t 31))) (.op (Zc 33 189 [.t 28,.t 32]) (.op (Zv 23 33) (.op (Ze 34 23 0) (.op (Ze 35 23 1) (.hop ⟨no,.st 2 (.t 10) (.t 34),no⟩ [] (.op (Zv 11 35) .fin))))))))))))))))))
def fo3:AC:=(.reg [Zl 36 true 2 8,Zl 37 true 2 10,Zo 38 (.build [(.int .i64 0),(.nil 2),(.int .i64 0),(.nil 1)] [(0,(2,(.t 36))),(2,(2,(.t 37)))]),Zv 39 11,⟨no,.st 4 (.t 6) (.t 38),no⟩,Zv 7 39])
def a104:Jk:=⟨40,[(.c 6 true 4),.t 7],(.seq fo0 (.seq fo1 (.seq fo2 (.seq fo3 .ret))))⟩
theorem a104_ok:Jf prog Tryz.f104=some a104:=by kernel_rfl
section
variable {ks:List Kt}{s:Jm}{h h':J8}{n:Nat}{Q:Xc}
theorem Jl1{p:Jq}(hp:Ks p<=1048576){i:Nat}(hi:i<p.Functions.length)(s2:s 2 = .int .i64 i)(s3:s 3 = .ptr 0 0 0)(e0:h 0=some ⟨true,2,[Jh p]⟩)
 (hK:∀s' h' n',(∀j∈[2,3,4,6],s' j=s j)->(∀id,id<n->h' id=h id)->(∃k,s' 8 = .ptr k 0 0/\n<=k/\∃q,n<=q/\k<n'/\q<n'/\h' k=some ⟨true,2,[[.int .i64 (Wd p (p.Functions[i]).Name).N,.ref q 0 (Wd p (p.Functions[i]).Name).Rows.length]]⟩/\h' q=some ⟨false,2,(Wd p (p.Functions[i]).Name).Rows.map J9⟩)->n<=n'->Ju prog ks .normal s' h' n' Q):rC prog fo1 ks s h n Q:=by
 have fr:∀id,id<n->¬id=n/\¬id=n+1:=by intro id _;omega
 have ne:¬n=n+1/\¬n+1=n:=by omega
 simp[fo1,s2,s3,e0,hi,Jh,K5];generalize hnm:(p.Functions[i]).Name=nm at *;constructor
 ·skip;refine Jw (J4u p hp nm) (by simp[Jh]) ?_;rintro r rfl;unfold Gm;rw[show(Br p nm).getD Bm=Wd p nm from rfl];generalize Wd p nm=S at *;simp[Wb];exact hK _ _ _ (by simp) (λid hid=>by simp[fr id hid]) ⟨n+1,by simp,by omega,n,by omega,by omega,by omega,by simp,by simp⟩ (by omega)
 ·skip;refine Jw (J4u p hp nm) (by simp[Jh]) ?_;rintro r rfl;unfold Gm;rw[show(Br p nm).getD Bm=Wd p nm from rfl];generalize Wd p nm=S at *;simp[Wb];exact hK _ _ _ (by simp) (λid hid=>by simp[fr id hid]) ⟨n,by simp,by omega,n+1,by omega,by omega,by omega,by simp,by simp⟩ (by omega)
theorem Jkz{b:X0}{i:Nat}(hb:i<b.Lins.length)(s2:s 2 = .int .i64 i)(s4:s 4 = .ptr 1 0 0)(e1:h 1=some ⟨true,2,[Kr b]⟩)
 (hK:∀s' h' n',(∀j∈[2,3,4,6,8],s' j=s j)->(∀id,id<n->h' id=h id)->s' 11 = .bool (Vp b b.Lins[i]).isSome->(∃k,s' 10 = .ptr k 0 0/\n<=k/\∃q,n<=q/\k<n'/\q<n'/\h' k=some ⟨true,2,[[.int .i64 ((Vp b b.Lins[i]).getD Jl).Const,.ref q 0 ((Vp b b.Lins[i]).getD Jl).Coeffs.length]]⟩/\h' q=some ⟨false,1,Jg ((Vp b b.Lins[i]).getD Jl).Coeffs⟩)->n<=n'->Ju prog ks .normal s' h' n' Q):rC prog fo2 ks s h n Q:=by
 have fr:∀id,id<n->¬id=n/\¬id=n+1:=by intro id _;omega
 have ne:¬n=n+1/\¬n+1=n:=by omega
 have hw:IntKind.i64.wrap (-(Vj b.Kind)) = -(Vj b.Kind):=Kk (by unfold Vj;split <;>omega);simp[fo2,s2,s4,e1,hb,Kr];refine⟨?_,?_⟩
 ·skip;refine Jw (J6f b.Kind) (by simp) ?_;rintro r rfl;simp[hw];constructor
  ·skip;refine Jw (Cf (b.Lins[i]'hb) (-(Vj b.Kind))) (by simp[Ja]) ?_;rintro r rfl;rw[Xd,show U6 (b.Lins[i]'hb) (-(Vj b.Kind))=Vp b b.Lins[i]from rfl];generalize Vp b b.Lins[i]=T at *;simp[J9];exact hK _ _ _ (by simp) (λid hid=>by simp[fr id hid]) (by simp) ⟨n+1,by simp,by omega,n,by omega,by omega,by omega,by simp,by simp⟩ (by omega)
  ·skip;refine Jw (Cf (b.Lins[i]'hb) (-(Vj b.Kind))) (by simp[Ja]) ?_;rintro r rfl;rw[Xd,show U6 (b.Lins[i]'hb) (-(Vj b.Kind))=Vp b b.Lins[i]from rfl];generalize Vp b b.Lins[i]=T at *;simp[J9];exact hK _ _ _ (by simp) (λid hid=>by simp[fr id hid]) (by simp) ⟨n,by simp,by omega,n+1,by omega,by omega,by omega,by simp,by simp⟩ (by omega)
 ·skip;refine Jw (J6f b.Kind) (by simp) ?_;rintro r rfl;simp[hw];refine Jw (Cf (b.Lins[i]'hb) (-(Vj b.Kind))) (by simp[Ja]) ?_;rintro r rfl;rw[Xd,show U6 (b.Lins[i]'hb) (-(Vj b.Kind))=Vp b b.Lins[i]from rfl];generalize Vp b b.Lins[i]=T at *;simp[J9];exact hK _ _ _ (by simp) (λid hid=>by simp[fr id hid]) (by simp) ⟨n,by simp,by omega,n+1,by omega,by omega,by omega,by simp,by simp⟩ (by omega)
end
theorem J0e(p:Jq)(hp:Ks p<=1048576)(b:X0){i:Nat}(hi:i<p.Functions.length)(hb:i<b.Lins.length):Holds prog 104 [.agg (Jh p),.agg (Kr b),i64 i] (λx=>x=Jka (Wd p (p.Functions[i]).Name) (Vp b b.Lins[i])):=by
 refine Jp Tryz.func104 a104_ok rfl (by simp[a104]) ?_;simp[a104,fo0];refine Jl1 hp hi (by simp) (by simp) (by simp) ?_;rintro Jv h1 n1 hk1 hf1 ⟨k8,s8,hk8,q8,w1,w2,w3,w4,w5⟩ hn1;simp at hk1;simp;refine Jkz (b:=b) (i:=i) hb (by simp[hk1]) (by simp[hk1]) (by rw[hf1 1 (by omega)];simp) ?_;rintro st2 h2 n2 hk2 hf2 s11 ⟨k10,s10,hk10,q10,b1,b2,b3,b4,b5⟩ hn2;simp at hk2;have x8:=hf2 k8 w2;have y8:=hf2 q8 w3;rw[w4]at x8;rw[w5]at y8;have ne:¬q8=q10/\¬q10=q8/\¬q10=2/\¬q8=2:=by omega
 have e2:h2 2=some ⟨true,4,[[.int .i64 0,.nil 2,.int .i64 0,.nil 1]]⟩:=by rw[hf2 2 (by omega),hf1 2 (by omega)];simp
 unfold Jka;generalize Wd p (p.Functions[i]).Name=S at *;generalize Vp b b.Lins[i]=T at *;simp[fo3,hk2,hk1,s8,s10,s11,x8,y8,b4,b5,e2,ne,Km]
theorem Jct{p:Jq}(h1:Ym p=true){i k:Nat}(hi:i<p.Rules.length):W5 (V6 p ⟨i,k⟩).System.Rows<=1000:=by
 obtain⟨f,hf,R⟩:=Eu h1 (getElem_mem hi);have hg:p.Rules.getD (i:Int).toNat Er=p.Rules[i]:=by simp[hi]
 have hin:K9 (i:Int) 0 ((p.Rules.length:Int) - 1)=true:=by simp[K9];omega
 have hfa:Im p p.Rules[i]=f:=by unfold Im;rw[hf];rfl
 have:V6 p ⟨i,k⟩=Vf p.Rules[i] f:=by unfold V6 Ie;simp only[h1,hin,hg,hfa,Bool.and_self,if_true,Option.getD_some]
 rw[this];obtain⟨q1,q2,_⟩:=J69 h1 R;have:=Jhc q2;omega
theorem Jc9{p:Jq}{j:Nat}(hj:j<(Yi p).length):Ym p=true:=by
 unfold Yi at hj;split at hj
 ·assumption
 ·simp at hj
section
variable {ks:List Kt}{s:Jm}{h h':J8}{n:Nat}{Q:Xc}
theorem Jnd{md:X9}{t:Jc}{acc:List X5}{v:AV}{k6 k14:Nat}(s3:s 3=v)(s6:s 6 = .ptr k6 0 0)(s14:s 14 = .ptr k14 0 0)(e6:h k6=some ⟨true,6,[Xn md]⟩)(L:I9 t k14 h n)(B:Kn 0 4 (acc.map Km) v h n)(hw:W5 md.System.Rows<=1048576)(hl:acc.length<=3000000)
 (hK:∀s' h' n',(∀j∈[1,2,5,6,17,18,19,43,44,45],s' j=s j)->n<=n'->(∀id z rows,id<n->h id=some ⟨true,z,rows⟩->h' id=h id)->Kn 0 4 ((acc++[(⟨md.System,t⟩:X5)]).map Km) (s' 3) h' n'->Ju prog ks .normal s' h' n' Q):rC prog pod ks s h n Q:=by
 obtain⟨q,hkn,hqn,hkb,hqb⟩:=L;have ne:¬q=n/\¬n=q/\¬n=n+1/\¬n+1=n/\¬n+1=q/\¬q=n+1:=by omega
 have fr:∀id,id<n->¬id=n/\¬id=n+1/\¬id=n+1+1:=by intro id _;omega
 have hqv:∀l,v ≠ .ref q 0 l:=λl e=>by have:=(B.lt e).2.2.1;rw[hqb]at this;simp at this
 simp[pod,s3,s6,s14,e6,hkb];refine Jw (J7k md.System hw) (by simp) ?_;rintro r rfl;simp[Wb,hqb,ne];refine Vw (rows:=acc.map Km) (rows2:=[[.int .i64 md.System.N,.us 2 (md.System.Rows.map J9),.int .i64 t.Const,.us 1 (Jg t.Coeffs)]]) (B.keep (n':=n+1+1) (by omega) λid _ hid e=>?_) (by simp) (λl e=>by have:=(B.lt e).2.1;omega) (by omega) (by simp;unfold Jb;omega) ?_
 ·have:¬id=q:=λe'=>hqv _ (by rw[<-e'];exact e)
  simp[fr id hid,this]
 intro h1 f1 f2;simp;refine hK _ _ _ (by simp) (by omega) ?_ ?_
 ·intro id z rows h1' h3';have:¬id=q:=by rintro rfl;rw[hqb]at h3';simp at h3'
  rw[f2 id (by omega) (by omega) λl e=>B.not_box h3' e];simp[fr id h1',this]
 ·simp;exact .inr ⟨n+2,by omega,by omega,by simp,by simp[f1,Km]⟩
theorem Jmx{md:X9}{e:Yl}{g:K3}{acc0 T:List X5}{k5 k6 k10:Nat}{pr:List (List AV)}(s1:s 1 = .ptr 0 0 0)(s5:s 5 = .ptr k5 0 0)(s6:s 6 = .ptr k6 0 0)(s10:s 10 = .ptr k10 0 0)(hk5:k5<n)(hk6:k6<n)(hk0:0<n)(e0:h 0=some ⟨true,2,pr⟩)(e5:h k5=some ⟨true,2,[U2 e]⟩)(e6:h k6=some ⟨true,6,[Xn md]⟩)(e10:h k10=some ⟨true,4,[K5 g]⟩)
 (B:Kn 0 4 (acc0.map Km) (s 3) h n) (hw:W5 md.System.Rows<=1048576) (hT:acc0++g.Pre.map (λl=>Oq md l e.Call)=T) (hTl:T.length<=2097152) (hgl:g.Pre.length<=1048576)
 (hK:∀s' h' n',(∀j∈[1,2,17,18,19],s' j=s j)->0<n'->h' 0=some ⟨true,2,pr⟩->Kn 0 4 (T.map Km) (s' 3) h' n'->Ju prog ks .normal s' h' n' Q):rC prog poi ks s h n Q:=by
 simp[poi,s10,e10,K5];intro _
 refine Ki [1,2,5,6,17,18,19,43,44] 45 g.Pre.length (λi s h m=>k5<m/\k6<m/\0<m/\h 0=some ⟨true,2,pr⟩/\h k5=some ⟨true,2,[U2 e]⟩/\h k6=some ⟨true,6,[Xn md]⟩/\∃acc,Kn 0 4 (acc.map Km) (s 3) h m/\acc++(g.Pre.drop i).map (λl=>Oq md l e.Call)=T) (by unfold Jb;omega) (by simp)
  ⟨hk5,hk6,hk0,e0,e5,e6,acc0,by simpa using B,by simpa using hT⟩ ?_ ?_
 ·rintro i st h m R hi hg hk s45 hw' ⟨m5,m6,m0,e0,e5,e6,acc,B,hJ⟩ hR _ _;simp at hk;rw[drop_eq_getElem_cons hi,map_cons]at hJ;have hal:=congrArg List.length hJ;simp at hal;refine Js [1,2,3,5,6,17,18,19,43,44,45] (λs=>s 46 = .bool true) (by simp[hk,s45,hi]) ?_;intro Jv hk1 s46;simp at hk1;refine W9 s46 (Jn (Xg ?_));have fr:∀id,id<m->¬id=m:=by intro id _;omega
  refine Xo [1,2,3,5,6,17,18,19,43,44,45] (λs h2 n2=>n2=m+1/\s 13 = .ptr m 0 0/\h2 m=some ⟨true,2,[Ja (g.Pre[i]'hi)]⟩/\∀id,id<m->h2 id=h id) ?_ ?_
  ·simp[hk1,hk,s45,hi];exact λid hid=>by simp[fr id hid]
  rintro st2 h2 n2 hk2 ⟨rfl,s13,em,hfr2⟩;simp at hk2;generalize g.Pre[i]=l at *;have c5:=hfr2 k5 m5;have c6:=hfr2 k6 m6;rw[e5]at c5;rw[e6]at c6;have x5:st2 5 = .ptr k5 0 0:=by simp[hk2,hk1,hk,s5]
  have x6:st2 6 = .ptr k6 0 0:=by simp[hk2,hk1,hk,s6]
  refine Xo [1,2,3,5,6,17,18,19,43,44,45] (λs h3 n3=>m+1<n3/\s 15 = .bool (Yr md l e.Call).isSome/\(∃k,s 14 = .ptr k 0 0/\m<k/\I9 ((Yr md l e.Call).getD Jl) k h3 n3)/\∀id,id<m->h3 id=h id) ?_ ?_
  ·simp[x5,x6,s13,em,c5,c6,U2];refine Jd (P2 md l e.Call) (by simp) ?_;rintro r rfl;rw[Xd];generalize(Yr md l e.Call).getD Jl=t;generalize(Yr md l e.Call).isSome=b;simp[J9];refine⟨⟨by omega,m+1,by omega,by omega,by simp,by simp⟩,λid hid=>?_⟩;have:¬id=m+1/\¬id=m+1+1:=by omega
   simp[this,hfr2 id hid]
  rintro Kl h3 n3 hk3 ⟨hn3,s15,⟨k14,s14,hk14,q,y1,y2,y3,y4⟩,hfr3⟩;simp at hk3;have z6:Kl 6 = .ptr k6 0 0:=by rw[hk3.2.2.2.2.1,x6]
  have d6:=hfr3 k6 m6;rw[e6]at d6;refine Xo [1,2,3,5,6,14,17,18,19,43,44,45] (λs h4 n4=>n3<=n4/\I9 ((Yr md l e.Call).getD (Jo (-1) md.System.N)) k14 h4 n4/\∀id,id<m->h4 id=h id) ?_ ?_
  ·cases ht:Yr md l e.Call with
   |some t=>
    rw[ht]at s15 y3 y4;simp[s15]
    exact⟨⟨q,y1,y2,y3,y4⟩,hfr3⟩
   |none=>
    rw[ht]at s15;simp only[Option.isSome_none]at s15;have nk:¬k14=n3/\¬n3=k14:=by omega
    simp[s15,z6,d6,Xn];refine Jd (On (-1) md.System.N) (by simp) ?_;rintro r rfl;generalize Jo (-1) md.System.N=t;simp[J9,s14,nk,y3];refine⟨⟨n3,by omega,by omega,by simp,by simp[nk]⟩,λid hid=>?_⟩;have:¬id=k14/\¬id=n3:=by omega
    simp[this,hfr3 id hid]
  rintro st4 h4 n4 hk4 ⟨hn4,L4,hfr4⟩;simp at hk4;have B4:Kn 0 4 (acc.map Km) (st 3) h4 n4:=B.keep (by omega) λid _ hid _=>hfr4 id hid
  refine Jnd (md:=md) (t:=(Yr md l e.Call).getD (Jo (-1) md.System.N)) (acc:=acc) (v:=st 3) (k6:=k6) (k14:=k14) (by simp[hk4,hk3,hk2,hk1]) (by simp[hk4,z6]) (by simp[hk4,s14]) (by rw[hfr4 k6 m6,e6]) L4 B4 hw (by omega) ?_;intro Ur h5 n5 hk5 hn5 bx5 B5;simp at hk5;simp[hk5,hk4,hk3,hk2,hk1,s45,hw'];have f0:=hfr4 0 m0;have f5:=hfr4 k5 m5;have f6:=hfr4 k6 m6;rw[e0]at f0;rw[e5]at f5;rw[e6]at f6;refine hR _ _ _ (by simp[hk5,hk4,hk3,hk2,hk1,hk]) (by simp) ⟨by omega,by omega,by omega,by rw[bx5 0 _ _ (by omega) f0,f0],by rw[bx5 k5 _ _ (by omega) f5,f5],by rw[bx5 k6 _ _ (by omega) f6,f6],acc++[Oq md l e.Call],?_,by simpa using hJ⟩;simp;simpa[Oq]using B5
 ·rintro st h m R hk s45 ⟨m5,m6,m0,e0,e5,e6,acc,B,hJ⟩ _ hX;simp at hk;rw[drop_eq_nil_of_le (by omega)]at hJ;simp at hJ;subst hJ;refine Js [1,2,3,17,18,19] (λs=>s 46 = .bool false) (by simp[hk,s45]) ?_;intro Jv hk1 s46;simp at hk1;refine Ut s46 ?_;refine hX _ _ _ _ ?_;simp;refine hK _ _ _ (by simp[hk1,hk]) m0 e0 ?_;rw[hk1.2.2.1];exact B
end
theorem J06(p:Jq)(hp:Ks p<=1048576):Holds prog 94 [.agg (Jh p)] (λx=>x = .us 4 ((Qx p).map Km)):=by
 have hTl:=Cm p hp;have hel:=J0m p hp;refine Jp Tryz.func94 a94_ok rfl (by simp[a94]) ?_;simp[a94,po0,po1,po2,Jh];refine Cw (Jdk p hp) (by simp[Jh]) ?_;rintro _ rfl;simp;intro _;unfold Qx at hTl⊢;generalize hT:(Yi p).flatMap (O8 p)=T at *;refine Ki [1,17,18] 19 (Yi p).length (λi s h m=>0<m/\h 0=some ⟨true,2,[Jh p]⟩/\∃acc,Kn 0 4 (acc.map Km) (s 3) h m/\acc++((Yi p).drop i).flatMap (O8 p)=T) (by unfold Jb;omega) (by simp) ⟨by simp,by simp[Jh],[],.inl (by simp),by simpa using hT⟩ ?_ ?_
 ·rintro i st h m R hi hg hk s19 hw' ⟨m0,e0,acc,B,hJ⟩ hR _ _;simp at hk;have hpo:=Jc9 hi;rw[drop_eq_getElem_cons hi,List.flatMap_cons]at hJ;obtain⟨x,y,hx,hy,he,hf,ht0⟩:=J4h hi;rw[<-List.append_assoc]at hJ;generalize hrest:List.flatMap (O8 p) (List.drop (i+1) (Yi p))=rest at hJ;have hal:=congrArg List.length hJ;simp only[length_append]at hal;refine Js [1,3,17,18,19] (λs=>s 20 = .bool true) (by simp[hk,s19,hi]) ?_;intro Jv hk1 s20;simp at hk1;refine W9 s20 (Jn (Xg ?_));have fr:∀id,id<m->¬id=m/\¬id=m+1/\¬id=m+1+1:=by intro id _;omega
  have hedge:(O8 p (Yi p)[i])=((Gq p ⟨x,y⟩).map λl=>Oq (V6 p ⟨x,y⟩) l (y:Int)):=by rw[he];rfl
  rw[hedge]at hJ hal;have hpa:Gq p ⟨x,y⟩=((Kw p.Functions ((p.Rules[x]).Calls[y]).Func).getD Yf).Pre:=by unfold Gq;rw[ht0]
  have hgl:(Gq p ⟨x,y⟩).length<=1048576:=by
   rw[hpa]
   cases hfn:Kw p.Functions ((p.Rules[x]).Calls[y]).Func with
   |none=>simp[Yf]
   |some g=>have:=(Es hpo hfn).2.2.2;simp only[Option.getD_some];omega
  have hmsz:=Jct hpo (k:=y) hx;refine Xo [1,2,3,17,18,19] (λs h2 n2=>n2=m+1/\s 5 = .ptr m 0 0/\h2 m=some ⟨true,2,[U2 ⟨x,y⟩]⟩/\∀id,id<m->h2 id=h id) ?_ ?_
  ·simp[hk1,hk,s19,hi,he];exact λid hid=>by simp[fr id hid]
  rintro st2 h2 n2 hk2 ⟨rfl,s5,em,hfr2⟩;simp at hk2;have c0:=hfr2 0 m0;rw[e0]at c0;have x1:st2 1 = .ptr 0 0 0:=by simp[hk2,hk1,hk]
  refine Xo [1,2,3,5,17,18,19] (λs h3 n3=>n3=m+1+1/\s 6 = .ptr (m+1) 0 0/\h3 (m+1)=some ⟨true,6,[Xn (V6 p ⟨x,y⟩)]⟩/\h3 m=some ⟨true,2,[U2 ⟨x,y⟩]⟩/\∀id,id<m->h3 id=h id) ?_ ?_
  ·simp[x1,c0,s5,em,U2];refine Cw (J6j p hp x) (by simp[Jh]) ?_;rintro _ rfl;have hmd:(Ie p x).getD Og=V6 p ⟨x,y⟩:=rfl;unfold H4;rw[hmd];generalize V6 p ⟨x,y⟩=md;simp;refine⟨by simp[em,U2],λid hid=>by simp[fr id hid,hfr2 id hid]⟩
  rintro Kl h3 n3 hk3 ⟨rfl,s6,e6,e5,hfr3⟩;simp at hk3;have c0':=hfr3 0 m0;rw[e0]at c0';refine Js [1,2,3,5,6,17,18,19] (λs=>s 9 = .str ((p.Rules[x]).Calls[y]).Func) ?_ ?_
  ·simp[hk3,x1,c0',s5,e5];refine Jd (Jqu p hx hy) (by simp[Jh]) ?_;rintro r rfl;simp[hk3,s5]
  intro st4 hk4 s9;simp at hk4;refine Xo [1,2,3,5,6,17,18,19] (λs h5 n5=>n5=m+1+1+1/\s 10 = .ptr (m+1+1) 0 0/\h5 (m+1+1)=some ⟨true,4,[K5 ((Kw p.Functions ((p.Rules[x]).Calls[y]).Func).getD Yf)]⟩/\∀id,id<m+1+1->h5 id=h3 id) ?_ ?_
  ·simp[hk4,hk3,x1,c0',s9];refine Cw (Fg p ((p.Rules[x]).Calls[y]).Func hp) (by simp[Jh]) ?_;rintro _ rfl;unfold Q7;generalize(Kw p.Functions ((p.Rules[x]).Calls[y]).Func).getD Yf=g;simp;intro id hid;have:¬id=m+1+1:=by omega
   simp[this]
  rintro Ur h5 n5 hk5 ⟨rfl,s10,e10,hfr5⟩;simp at hk5;refine Jmx (md:=V6 p ⟨x,y⟩) (e:=⟨x,y⟩) (g:=(Kw p.Functions ((p.Rules[x]).Calls[y]).Func).getD Yf) (acc0:=acc) (T:=acc++(Gq p ⟨x,y⟩).map λl=>Oq (V6 p ⟨x,y⟩) l (y:Int)) (k5:=m) (k6:=m+1) (k10:=m+1+1) (pr:=[Jh p]) (by simp[hk5,hk4,hk3,x1]) (by simp[hk5,hk4,hk3,s5]) (by simp[hk5,hk4,s6]) s10 (by omega) (by omega) (by omega) (by rw[hfr5 0 (by omega),c0']) (by rw[hfr5 m (by omega),e5]) (by rw[hfr5 (m+1) (by omega),e6]) e10 ?_ (by omega) (by rw[hpa]) (by simp only[length_append];omega) (by rw[<-hpa];exact hgl) ?_
  ·have:Ur 3=st 3:=by simp[hk5,hk4,hk3,hk2,hk1]
   rw[this];exact B.keep (by omega) λid _ hid _=>by rw[hfr5 id (by omega),hfr3 id hid]
  intro st6 h6 n6 hk6 hn6 e06 B6;simp at hk6;simp[hk6,hk5,hk4,hk3,hk2,hk1,s19,hw'];refine hR _ _ _ (by simp[hk6,hk5,hk4,hk3,hk2,hk1,hk]) (by simp) ⟨by omega,e06,_,?_,by rw[hrest];exact hJ⟩;simp only[Cn (show ¬3=19 by omega),Cn (show ¬3=72 by omega)];exact B6
 ·rintro st h m R hk s19 ⟨m0,e0,acc,B,hJ⟩ _ hX;simp at hk;rw[drop_eq_nil_of_le (by omega)]at hJ;simp at hJ;subst hJ;refine Js [3] (λs=>s 20 = .bool false) (by simp[hk,s19]) ?_;intro Jv hk1 s20;simp at hk1;refine Ut s20 ?_;refine hX _ _ _ _ ?_;obtain⟨h2,d1,_⟩:=B.dt;simp[po3,hk1,-dt,-Wq,d1]
def ux0:AC:=(.reg [ZB 3 0,ZB 4 1,Zo 6 (.box [(.int .i64 0),(.nil 2),(.int .i64 0),(.nil 1)]),Zt 7 false])
def ux1:AC:=(.reg [Zf 17 1 3,Zl 18 false 1 17,Zv 19 2,Zx 20 7 18 19,Zl 21 true 7 20,Zo 8 (.box [(.str []),(.nil 4),(.nil 2),(.nil 3),(.bool false),(.nil 2),(.str [])]),⟨no,.st 7 (.t 8) (.t 21),no⟩])
def ux2:AC:=(.reg [Zl 23 true 2 3,Zv 24 2,Zc 25 126 [.t 23,.t 24],Zv 22 25,Ze 26 22 0,Ze 27 22 1,Zo 9 (.box [(.int .i64 0),(.nil 2),(.nil 2),(.nil 1),(.int .i64 0),(.nil 1)]),⟨no,.st 6 (.t 9) (.t 26),no⟩,Zv 10 27])
def ux3:AC:=(.draw (.op (Zf 29 1 4) (.op (Zl 30 false 1 29) (.op (Zl 31 true 2 3) (.op (Zf 32 0 8) (.op (Zl 33 false 1 32) (.op (Zf 37 2 9) (.op (Zl 38 false 1 37) (.op (Zf 39 0 9) (.op (Zf 40 0 39) (.op (Zl 41 false 1 40) (.both (.op (Zc 34 84 [.t 31,.t 33]) (.op (Zx 35 2 30 34) (.op (Zl 36 true 2 35) (.both (.op (Zc 42 191 [.t 36,.t 38,.t 41]) (.op (Zv 28 42) (.op (Ze 43 28 0) (.op (Ze 44 28 1) (.op (Zo 11 (.box [(.int .i64 0),(.nil 1)])) (.hop ⟨no,.st 2 (.t 11) (.t 43),no⟩ [] (.op (Zv 12 44) .fin))))))) (.op (Zo 11 (.box [(.int .i64 0),(.nil 1)])) (.op (Zc 42 191 [.t 36,.t 38,.t 41]) (.op (Zv 28 42) (.op (Ze 43 28 0) (.op (Ze 44 28 1) (.hop ⟨no,.st 2 (.t 11) (.t 43),no⟩ [] (.op (Zv 12 44) .fin))))))))))) (.op (Zo 11 (.box [(.int .i64 0),(.nil 1)])) (.op (Zc 34 84 [.t 31,.t 33]) (.op (Zx 35 2 30 34) (.op (Zl 36 true 2 35) (.op (Zc 42 191 [.t 36,.t 38,.t 41]) (.op (Zv 28 42) (.op (Ze 43 28 0) (.op (Ze 44 28 1) (.hop ⟨no,.st 2 (.t 11) (.t 43),no⟩ [] (.op (Zv 12 44) .fin))))))))))))))))))))))
def Px:AC:=(Zq [Zv 45 12] (.cond (.t 45) (.draw (.op (Zl 47 true 2 11) (.op (Zl 48 true 7 8) (.op (Zf 49 0 4) (.op (Zl 50 false 1 49) (.op (Zc 51 192 [.t 48,.t 50]) (.op (Zo 52 (.un .neg (.t 51))) (.op (Zc 53 189 [.t 47,.t 52]) (.op (Zv 46 53) (.op (Ze 54 46 0) (.op (Ze 55 46 1) (.hop ⟨no,.st 2 (.t 11) (.t 54),no⟩ [] (.op (Zv 12 55) .fin))))))))))))) .skip))
def Jvq:AC:=(.draw (.op (Zl 65 true 6 9) (.op (Zf 66 1 4) (.op (Zl 67 false 1 66) (.op (Zl 68 true 2 3) (.op (Zf 69 1 14) (.op (Zl 70 false 1 69) (.op (Zv 74 13) (.both (.op (Zc 71 84 [.t 68,.t 70]) (.op (Zx 72 2 67 71) (.op (Zl 73 true 2 72) (.both (.op (Zc 75 177 [.t 65,.t 73,.t 74]) (.op (Zv 64 75) (.op (Ze 76 64 0) (.op (Ze 77 64 1) (.op (Zo 15 (.box [(.int .i64 0),(.nil 1)])) (.hop ⟨no,.st 2 (.t 15) (.t 76),no⟩ [] (.op (Zv 16 77) .fin))))))) (.op (Zo 15 (.box [(.int .i64 0),(.nil 1)])) (.op (Zc 75 177 [.t 65,.t 73,.t 74]) (.op (Zv 64 75) (.op (Ze 76 64 0) (.op (Ze 77 64 1) (.hop ⟨no,.st 2 (.t 15) (.t 76),no⟩ [] (.op (Zv 16 77) .fin))))))))))) (.op (Zo 15 (.box [(.int .i64 0),(.nil 1)])) (.op (Zc 71 84 [.t 68,.t 70]) (.op (Zx 72 2 67 71) (.op (Zl 73 true 2 72) (.op (Zc 75 177 [.t 65,.t 73,.t 74]) (.op (Zv 64 75) (.op (Ze 76 64 0) (.op (Ze 77 64 1) (.hop ⟨no,.st 2 (.t 15) (.t 76),no⟩ [] (.op (Zv 16 77) .fin)))))))))))))))))))
def Jwe:AC:=(.reg [Zl 86 true 2 11,Zl 87 true 2 15,Zc 88 193 [.t 86,(.k (.int .i64 (-1))),.t 87],Zv 85 88,Ze 89 85 0,Ze 90 85 1,⟨no,.st 2 (.t 11) (.t 89),no⟩,Zv 12 90])
def ux5:AC:=(Zq [Zf 56 3 8,Zl 57 false 1 56,Zn 58 57,Zi 59 0] (.blk 0 (.loop (Zq [Zb 60 .lss 59 58] (.seq (Zw 60 0) (.seq (.blk 1 (Zq [Zv 61 59,Zx 62 3 57 59,Zl 63 true 3 62,Zo 14 (.box [(.str []),(.str []),(.nil 3)]),Zv 13 61,⟨no,.st 3 (.t 14) (.t 63),no⟩] (.seq Jvq (.seq (Zq [Zv 78 12,ZN 79 78,Zv 80 79,Zg 81 80 false (.mv (.t 16)),Zg 82 80 false (.un .not (.t 81)),ZP 83 80 82] (.cond (.t 83) (Zq [Zo 84 (.build [(.int .i64 0),(.nil 2),(.int .i64 0),(.nil 1)] []),⟨no,.st 4 (.t 6) (.t 84),no⟩,Zt 7 false] .ret) .skip))  Jwe)))) (.reg [Zk 91 .add 59 1,Zv 59 91])))))))
def ux6:AC:=(.reg [Zf 92 0 9,Zl 93 true 2 92,Zl 94 true 2 11,Zo 95 (.build [(.int .i64 0),(.nil 2),(.int .i64 0),(.nil 1)] [(0,(2,(.t 93))),(2,(2,(.t 94)))]),Zv 96 12,⟨no,.st 4 (.t 6) (.t 95),no⟩,Zv 7 96])
def a105:Jk:=⟨97,[(.c 6 true 4),.t 7],(.seq ux0 (.seq ux1 (.seq ux2 (.seq ux3 (.seq Px (.seq ux5 (.seq ux6 .ret)))))))⟩
theorem a105_ok:Jf prog Tryz.f105=some a105:=by kernel_rfl
def Uq(p:Jq)(b:X0)(name:Je):Jc:=b.Lins.getD (Y6 (λf=>f.Name==name) p.Functions 0).toNat Jl
def Oy(p:Jq)(b:X0)(md:X9):Nat->List Xf->Option Jc->Option Jc
 |_,[],T=>T
 |j,c::cs,T=>Oy p b md (j+1) cs (T.bind λt=>(Yr md (Uq p b c.Func) j).bind λx=>Kg t (-1) x)
theorem Nr{p:Jq}{b:X0}{md:X9} : ∀{cs:List Xf}{j:Nat},Oy p b md j cs Option.none=Option.none
 | [],_=>rfl
 |_::cs,j=>by simp only[Oy,Option.bind_none];exact Nr
def Jc0(p:Jq)(b:X0)(md:X9)(r:Jy):Option Jc:=(Wj (Uq p b r.Func) md.Params md.System.N).bind λt=>U6 t (-(V9 r b.Kind))
def Om(p:Jq)(b:X0)(md:X9)(r:Jy):Option Jc:=Oy p b md 0 r.Calls (Jc0 p b md r)
theorem Tp{p:Jq}{name:Je}(h:(Kw p.Functions name).isSome=true):∃j:Nat,j<p.Functions.length/\Y6 (λf=>f.Name==name) p.Functions 0=(j:Int):=by
 rcases Rx (p:=λf:K3=>f.Name==name) (l:=p.Functions) (k:=0)with ⟨h1,_⟩|⟨j,hj,h1,_⟩
 ·unfold Kw at h;rw[h1]at h;simp at h
 ·exact⟨j,hj,by simpa using h1⟩
theorem J54{p:Jq}{r:Jy} : ∀{l:List Xf}{k:Nat},Qy p r k l=true->∀c∈l,(Kw p.Functions c.Func).isSome=true
 | [],_,_,_,h=>by cases h
 |c::l,k,h,x,hx=>by
  simp only[Qy,Bool.and_eq_true]at h;rcases List.mem_cons.1 hx with rfl|hx
  ·have:=h.1;unfold If at this;simp only[Bool.and_eq_true]at this;exact this.1.1.1
  ·exact J54 h.2 x hx
theorem Jd4{r:Jy}{k:Int}(hw:Y0 r<=1048576):0<=V9 r k/\V9 r k<=1048576:=by
 have:Bo r<=Y0 r:=J1s r;unfold V9;split
 ·omega
 ·split <;>omega
def Is(md:X9)(q:Nat)(h:J8):Prop:=
 h (q+4)=some ⟨true,6,[[.int .i64 md.System.N,.ref q 0 md.System.Rows.length,.ref (q+1) 0 md.Params.length,.ref (q+2) 0 md.Args.length,.int .i64 md.Result.Const,.ref (q+3) 0 md.Result.Coeffs.length]]⟩ /\
 h q=some ⟨false,2,md.System.Rows.map J9⟩/\h (q+1)=some ⟨false,2,md.Params.map J9⟩/\h (q+2)=some ⟨false,1,md.Args.map Yg⟩/\h (q+3)=some ⟨false,1,Jg md.Result.Coeffs⟩
def Yo(l:Jc)(k q:Nat)(h:J8):Prop:=h k=some ⟨true,2,[[.int .i64 l.Const,.ref q 0 l.Coeffs.length]]⟩/\h q=some ⟨false,1,Jg l.Coeffs⟩
section
variable {ks:List Kt}{s:Jm}{h h':J8}{n:Nat}{Q:Xc}
theorem Jlb{p:Jq}(hp:Ks p<=1048576){i:Int}(s2:s 2 = .int .i64 i)(s3:s 3 = .ptr 0 0 0)(e0:h 0=some ⟨true,2,[Jh p]⟩)
 (hK:∀s' h',(∀j∈[2,3,4,6,8],s' j=s j)->s' 9 = .ptr (n+4) 0 0->Is ((Ie p i).getD Og) n h'->(∀id,id<n->h' id=h id)->Ju prog ks .normal s' h' (n+5) Q):rC prog ux2 ks s h n Q:=by
 simp[ux2,s2,s3,e0];refine Jd (J6j p hp i) (by simp[Jh]) ?_;rintro r rfl;unfold H4;generalize(Ie p i).getD Og=md at *;simp[U4];refine hK _ _ (by simp) (by simp) ?_ ?_
 ·have:¬n=n+1+1+1/\¬n=n+1+1:=by omega
  simp[Is,this]
 ·intro id hid;have:¬id=n/\¬id=n+1/\¬id=n+2/\¬id=n+3/\¬id=n+4:=by omega
  simp[this]
theorem Jm4{p:Jq}{b:X0}{md:X9}{r:Jy}{k8 q:Nat}(hf:(Kw p.Functions r.Func).isSome=true)(hb:b.Lins.length=p.Functions.length)(s3:s 3 = .ptr 0 0 0)(s4:s 4 = .ptr 1 0 0)(s8:s 8 = .ptr k8 0 0)(s9:s 9 = .ptr (q+4) 0 0)(e0:h 0=some ⟨true,2,[Jh p]⟩)(e1:h 1=some ⟨true,2,[Kr b]⟩)(e8:h k8=some ⟨true,7,[Jr r]⟩)(M:Is md q h)(hq:q+4<n)(h1:1<n)(h8:k8<n)
 (hK:∀s' h',(∀j∈[2,3,4,6,8,9],s' j=s j)->s' 12 = .bool (Wj (Uq p b r.Func) md.Params md.System.N).isSome->(∃k q,s' 11 = .ptr k 0 0/\n<=k/\n<=q/\k<n+2/\q<n+2/\Yo ((Wj (Uq p b r.Func) md.Params md.System.N).getD Jl) k q h')->(∀id,id<n->h' id=h id)->Ju prog ks .normal s' h' (n+2) Q):rC prog ux3 ks s h n Q:=by
 obtain⟨m1,m2,m3,m4,m5⟩:=M;obtain⟨j,hj,hji⟩:=Tp hf;have hjb:j<b.Lins.length:=by omega
 have hl:Uq p b r.Func=b.Lins[j]:=by unfold Uq;rw[hji];simp[hjb]
 have fr:∀id,id<n->¬id=n/\¬id=n+1:=by intro id _;omega
 have ne:¬n=n+1/\¬n+1=n:=by omega
 have ne2:¬0=n/\¬1=n/\¬k8=n/\¬q=n/\¬q+1=n/\¬q+2=n/\¬q+3=n/\¬q+4=n:=by omega
 simp only[hl]at hK;simp[ux3,s3,s4,s8,s9,e0,e1,e8,m1,Kr,Jr];constructor
 ·skip;refine Jw (Cp p r.Func) (by simp[Jh]) ?_;rintro r rfl;simp[hji,hjb];constructor
  ·skip;refine Jw (Nc (b.Lins[j]'hjb) md.Params md.System.N) (by simp[m3,Ja]) ?_;rintro r rfl;rw[Xd];generalize Wj (b.Lins[j]'hjb) md.Params md.System.N=T at *;simp[J9];exact hK _ _ (by simp) (by simp) ⟨n+1,n,by simp,by omega,by omega,by omega,by omega,by simp[Yo]⟩ λid hid=>by simp[fr id hid]
  ·skip;refine Jw (Nc (b.Lins[j]'hjb) md.Params md.System.N) (by simp[m3,Ja,ne2]) ?_;rintro r rfl;rw[Xd];generalize Wj (b.Lins[j]'hjb) md.Params md.System.N=T at *;simp[J9];exact hK _ _ (by simp) (by simp) ⟨n,n+1,by simp,by omega,by omega,by omega,by omega,by simp[Yo]⟩ λid hid=>by simp[fr id hid]
 ·skip;refine Jw (Cp p r.Func) (by simp[Jh]) ?_;rintro r rfl;simp[hji,hjb];refine Jw (Nc (b.Lins[j]'hjb) md.Params md.System.N) (by simp[m3,Ja,ne2]) ?_;rintro r rfl;rw[Xd];generalize Wj (b.Lins[j]'hjb) md.Params md.System.N=T at *;simp[J9];exact hK _ _ (by simp) (by simp) ⟨n,n+1,by simp,by omega,by omega,by omega,by omega,by simp[Yo]⟩ λid hid=>by simp[fr id hid]
theorem Jmj{b:X0}{r:Jy}{T:Option Jc}{k8 k q:Nat}(hw:Y0 r<=1048576)(s4:s 4 = .ptr 1 0 0)(s8:s 8 = .ptr k8 0 0)(s11:s 11 = .ptr k 0 0)(s12:s 12 = .bool T.isSome)(e1:h 1=some ⟨true,2,[Kr b]⟩)(e8:h k8=some ⟨true,7,[Jr r]⟩)(B:Yo (T.getD Jl) k q h)(hk:k<n)(hq:q<n)
 (hK:∀s' h' n' q',(∀j∈[2,3,4,6,8,9,11],s' j=s j)->s' 12 = .bool (T.bind λt=>U6 t (-(V9 r b.Kind))).isSome->Yo ((T.bind λt=>U6 t (-(V9 r b.Kind))).getD Jl) k q' h'->n<=n'->(q'=q\/n<=q')->q'<n'->(∀id,id<n->id≠k->h' id=h id)->Ju prog ks .normal s' h' n' Q):rC prog Px ks s h n Q:=by
 obtain⟨b1,b2⟩:=B;have fr:∀id,id<n->¬id=n:=by intro id _;omega
 have ne:¬k=n/\¬n=k:=by omega
 cases T with
 |none=>
  simp[Px,s12]
  exact hK _ _ _ q (by simp) (by simp[s12]) ⟨by simpa using b1,by simpa using b2⟩ (by omega) (.inl rfl) hq λid _ _=>rfl
 |some t=>
  simp at b1 b2;simp only[Option.bind_some]at hK;have hc:=Jd4 (r:=r) (k:=b.Kind) hw;have hwr:IntKind.i64.wrap (-(V9 r b.Kind)) = -(V9 r b.Kind):=Kk (by omega);simp[Px,s12,s4,s8,s11,e1,e8,b1,Kr];refine Jw (Jbn r b.Kind hw) (by simp) ?_;rintro r rfl;simp[hwr];refine Jw (Cf t (-(V9 r b.Kind))) (by simp[b2,Ja]) ?_;rintro r rfl;rw[Xd];generalize U6 t (-(V9 r b.Kind))=T at *;simp[J9,ne,b1,s11];refine hK _ _ _ n (by simp) (by simp) ?_ (by omega) (.inr (by omega)) (by omega) λid hid hne=>by simp[fr id hid,hne]
  simp[Yo,ne]
theorem Jgb{p:Jq}{b:X0}{md:X9}{c:Xf}{k14 q:Nat}{j:Int}(hf:(Kw p.Functions c.Func).isSome=true)(hb:b.Lins.length=p.Functions.length)(s3:s 3 = .ptr 0 0 0)(s4:s 4 = .ptr 1 0 0)(s14:s 14 = .ptr k14 0 0)(s13:s 13 = .int .i64 j)(s9:s 9 = .ptr (q+4) 0 0)(e0:h 0=some ⟨true,2,[Jh p]⟩)(e1:h 1=some ⟨true,2,[Kr b]⟩)(e14:h k14=some ⟨true,3,[Kx c]⟩)(M:Is md q h)(hq:q+4<n)(h1:1<n)(h8:k14<n)
 (hK:∀s' h',(∀j∈[2,3,4,6,8,9,11,12,57,58,59],s' j=s j)->s' 16 = .bool (Yr md (Uq p b c.Func) j).isSome->(∃k q,s' 15 = .ptr k 0 0/\n<=k/\n<=q/\k<n+2/\q<n+2/\Yo ((Yr md (Uq p b c.Func) j).getD Jl) k q h')->(∀id,id<n->h' id=h id)->Ju prog ks .normal s' h' (n+2) Q):rC prog Jvq ks s h n Q:=by
 obtain⟨m1,m2,m3,m4,m5⟩:=M;obtain⟨i,hj,hji⟩:=Tp hf;have hjb:i<b.Lins.length:=by omega
 have hl:Uq p b c.Func=b.Lins[i]:=by unfold Uq;rw[hji];simp[hjb]
 have fr:∀id,id<n->¬id=n/\¬id=n+1:=by intro id _;omega
 have ne:¬n=n+1/\¬n+1=n:=by omega
 have ne2:¬0=n/\¬1=n/\¬k14=n/\¬q=n/\¬q+1=n/\¬q+2=n/\¬q+3=n/\¬q+4=n:=by omega
 simp only[hl]at hK;simp[Jvq,s3,s4,s9,s13,s14,e0,e1,e14,m1,Kr,Kx];constructor
 ·skip;refine Jw (Cp p c.Func) (by simp[Jh]) ?_;rintro r rfl;simp[hji,hjb];constructor
  ·skip;refine Jw (P2 md (b.Lins[i]'hjb) j) (by simp[m2,m3,m4,m5,Ja,Xn]) ?_;rintro r rfl;rw[Xd];generalize Yr md (b.Lins[i]'hjb) j=T at *;simp[J9];exact hK _ _ (by simp) (by simp) ⟨n+1,n,by simp,by omega,by omega,by omega,by omega,by simp[Yo]⟩ λid hid=>by simp[fr id hid]
  ·skip;refine Jw (P2 md (b.Lins[i]'hjb) j) (by simp[m2,m3,m4,m5,Ja,Xn,ne2]) ?_;rintro r rfl;rw[Xd];generalize Yr md (b.Lins[i]'hjb) j=T at *;simp[J9];exact hK _ _ (by simp) (by simp) ⟨n,n+1,by simp,by omega,by omega,by omega,by omega,by simp[Yo]⟩ λid hid=>by simp[fr id hid]
 ·skip;refine Jw (Cp p c.Func) (by simp[Jh]) ?_;rintro r rfl;simp[hji,hjb];refine Jw (P2 md (b.Lins[i]'hjb) j) (by simp[m2,m3,m4,m5,Ja,Xn,ne2]) ?_;rintro r rfl;rw[Xd];generalize Yr md (b.Lins[i]'hjb) j=T at *;simp[J9];exact hK _ _ (by simp) (by simp) ⟨n,n+1,by simp,by omega,by omega,by omega,by omega,by simp[Yo]⟩ λid hid=>by simp[fr id hid]
theorem Jg7{t x:Jc}{k q k5 q5:Nat}(s11:s 11 = .ptr k 0 0)(s15:s 15 = .ptr k5 0 0)(B:Yo t k q h)(B5:Yo x k5 q5 h)(hk:k<n)(hq:q<n)
 (hK:∀s' h',(∀j∈[2,3,4,6,8,9,11,57,58,59],s' j=s j)->s' 12 = .bool (Kg t (-1) x).isSome->Yo ((Kg t (-1) x).getD Jl) k n h'->(∀id,id<n->id≠k->h' id=h id)->Ju prog ks .normal s' h' (n+1) Q):rC prog Jwe ks s h n Q:=by
 obtain⟨b1,b2⟩:=B;obtain⟨b3,b4⟩:=B5;have fr:∀id,id<n->¬id=n:=by intro id _;omega
 have ne:¬k=n/\¬n=k:=by omega
 simp[Jwe,s11,s15,b1,b3];refine Jd (Ih t (-1) x) (by simp[b2,b4,Ja]) ?_;rintro r rfl;rw[Xd];generalize Kg t (-1) x=T at *;simp[J9,ne,b1,s11];refine hK _ _ (by simp) (by simp) ?_ λid hid hne=>by simp[fr id hid,hne]
 simp[Yo,ne]
end
def Ez(md:X9)(T:Option Jc)(x:AV):Prop:=∃o:X5,x = .tup [.agg (Km o),.bool T.isSome]/\∀t,T=some t->o=⟨md.System,t⟩
theorem J2h(p:Jq)(hp:Ks p<=1048576)(b:X0)(hb:b.Lins.length=p.Functions.length){i:Nat}(hi:i<p.Rules.length)(hf:(Kw p.Functions (p.Rules[i]).Func).isSome=true)(hfc:∀c∈(p.Rules[i]).Calls,(Kw p.Functions c.Func).isSome=true)(hcl:(p.Rules[i]).Calls.length<=2) :
 Holds prog 105 [.agg (Jh p),.agg (Kr b),i64 i] (Ez ((Ie p i).getD Og) (Om p b ((Ie p i).getD Og) p.Rules[i])):=by
 have hwr:Y0 p.Rules[i]<=1048576:=by have:=W6 (w:=Y0) (getElem_mem hi);unfold Ks G4 at hp;omega
 refine Jp Tryz.func105 a105_ok rfl (by simp[a105]) ?_;simp[a105,ux0];rw[<-Gg];refine Xo [2,3,4,6] (λs h2 n2=>n2=4/\s 8 = .ptr 3 0 0/\h2 0=some ⟨true,2,[Jh p]⟩/\h2 1=some ⟨true,2,[Kr b]⟩/\h2 2=some ⟨true,4,[[.int .i64 0,.nil 2,.int .i64 0,.nil 1]]⟩/\h2 3=some ⟨true,7,[Jr p.Rules[i]]⟩) ?_ ?_
 ·simp[ux1,Jh,hi]
 rintro Jv h1 _ hk1 ⟨rfl,s8,e0,e1,e2,e3⟩;simp at hk1;generalize p.Rules[i]=r at *;refine Jn (Jlb hp (i:=(i:Int)) (by simp[hk1]) (by simp[hk1]) e0 ?_);intro st2 h2 hk2 s9 M hf2;simp at hk2;generalize(Ie p i).getD Og=md at *;have f0:=hf2 0 (by omega);have f1:=hf2 1 (by omega);have f2:=hf2 2 (by omega);have f3:=hf2 3 (by omega);rw[e0]at f0;rw[e1]at f1;rw[e2]at f2;rw[e3]at f3;refine Ua (Jn (Jm4 (p:=p) (b:=b) (md:=md) (r:=r) (k8:=3) (q:=4) hf hb (by simp[hk2,hk1]) (by simp[hk2,hk1]) (by simp[hk2,s8]) (by simp[s9]) f0 f1 f3 M (by omega) (by omega) (by omega) ?_));rintro Kl h3 hk3 s12 ⟨k11,q11,s11,hk11,hq11,hk11',hq11',B3⟩ hf3;simp at hk3;have g1:=hf3 1 (by omega);have g3:=hf3 3 (by omega);rw[f1]at g1;rw[f3]at g3;refine Ua (Jn (Jmj (b:=b) (r:=r) (T:=Wj (Uq p b r.Func) md.Params md.System.N) (k8:=3) (k:=k11) (q:=q11) hwr (by simp[hk3,hk2,hk1]) (by simp[hk3,hk2,s8]) s11 s12 g1 g3 B3 hk11' hq11' ?_));intro st4 h4 n4 q4 hk4 s12' B4 hn4 hq4 hq4' hf4;simp at hk4;have hr0:Om p b md r=Oy p b md 0 r.Calls ((Wj (Uq p b r.Func) md.Params md.System.N).bind λt=>U6 t (-(V9 r b.Kind))):=rfl;rw[hr0];clear hr0;generalize((Wj (Uq p b r.Func) md.Params md.System.N).bind λt=>U6 t (-(V9 r b.Kind)))=T0 at *;have low:∀id,id<9->h4 id=h2 id:=λid hid=>by rw[hf4 id (by omega) (by omega),hf3 id hid]
 obtain⟨m1,m2,m3,m4,m5⟩:=M;have M4:Is md 4 h4:=⟨by rw[low 8 (by omega)];exact m1,by rw[low 4 (by omega)];exact m2,by rw[low 5 (by omega)];exact m3,by rw[low 6 (by omega)];exact m4,by rw[low 7 (by omega)];exact m5⟩;clear m1 m2 m3 m4 m5;have l0:=low 0 (by omega);have l1:=low 1 (by omega);have l2:=low 2 (by omega);have l3:=low 3 (by omega);rw[f0]at l0;rw[f1]at l1;rw[f2]at l2;rw[f3]at l3;have x8:st4 8 = .ptr 3 0 0:=by simp[hk4,hk3,hk2,s8]
 have x2:st4 2 = .int .i64 i:=by simp[hk4,hk3,hk2,hk1]
 have x3:st4 3 = .ptr 0 0 0:=by simp[hk4,hk3,hk2,hk1]
 have x4:st4 4 = .ptr 1 0 0:=by simp[hk4,hk3,hk2,hk1]
 have x6:st4 6 = .ptr 2 0 0:=by simp[hk4,hk3,hk2,hk1]
 have x9:st4 9 = .ptr 8 0 0:=by simp[hk4,hk3,s9]
 have x11:st4 11 = .ptr k11 0 0:=by simp[hk4,s11]
 clear hk4 hk3 hk2 hk1 hf4 hf3 hf2 low;simp[ux5,x8,l3,Jr];intro _;generalize hF:Oy p b md 0 r.Calls T0=F at *;refine Ki [3,4,6,8,9,11,57,58] 59 r.Calls.length (λj s h m=>8<m/\k11<m/\h 0=some ⟨true,2,[Jh p]⟩/\h 1=some ⟨true,2,[Kr b]⟩/\h 2=some ⟨true,4,[[.int .i64 0,.nil 2,.int .i64 0,.nil 1]]⟩/\Is md 4 h/\∃T q,8<q/\q≠k11/\q<m/\s 12 = .bool T.isSome/\Yo (T.getD Jl) k11 q h/\Oy p b md j (r.Calls.drop j) T=F) (by unfold Jb;omega) (by simp) ⟨by omega,by omega,l0,l1,l2,M4,T0,q4,by omega,?_,by omega,by simp[s12'],B4,by simpa using hF⟩ ?_ ?_
 ·rintro rfl;have:=B4.1;rw[B4.2]at this;simp at this
 ·rintro j st h m R hj hg hk s59 hw' ⟨m8,mk,e0,e1,e2,M,T,q,hq8,hqk,hqm,s12,B,hJ⟩ hR hret _;simp at hk;rw[drop_eq_getElem_cons hj]at hJ;simp only[Oy]at hJ;have hfj:=hfc _ (getElem_mem hj);refine Js [3,4,6,8,9,11,12,57,58,59] (λs=>s 60 = .bool true) (by simp[hk,s59,hj]) ?_;intro Jv hk1 s60;simp at hk1;refine W9 s60 (Jn (Xg ?_));have fr:∀id,id<m->¬id=m:=by intro id _;omega
  refine Xo [3,4,6,8,9,11,12,57,58,59] (λs h2 n2=>n2=m+1/\s 13 = .int .i64 j/\s 14 = .ptr m 0 0/\h2 m=some ⟨true,3,[Kx (r.Calls[j]'hj)]⟩/\∀id,id<m->h2 id=h id) ?_ ?_
  ·simp[hk1,hk,s59,hj];exact λid hid=>by simp[fr id hid]
  rintro st2 h2 n2 hk2 ⟨rfl,s13,s14,em,hfr2⟩;simp at hk2;generalize r.Calls[j]=c at *;obtain⟨m1,m2,m3,m4,m5⟩:=M;refine Jn (Jgb (p:=p) (b:=b) (md:=md) (c:=c) (k14:=m) (q:=4) (j:=(j:Int)) hfj hb (by simp[hk2,hk1,hk,x3]) (by simp[hk2,hk1,hk,x4]) s14 s13 (by simp[hk2,hk1,hk,x9]) (by rw[hfr2 0 (by omega),e0]) (by rw[hfr2 1 (by omega),e1]) em ⟨by rw[hfr2 8 (by omega)];exact m1,by rw[hfr2 4 (by omega)];exact m2,by rw[hfr2 5 (by omega)];exact m3,by rw[hfr2 6 (by omega)];exact m4,by rw[hfr2 7 (by omega)];exact m5⟩ (by omega) (by omega) (by omega) ?_);rintro Kl h3 hk3 s16 ⟨k15,q15,s15,hk15,hq15,hk15',hq15',B15⟩ hfr3;simp at hk3;have low:∀id,id<m->h3 id=h id:=λid hid=>by rw[hfr3 id (by omega),hfr2 id hid]
  have B3:Yo (T.getD Jl) k11 q h3:=⟨by rw[low k11 mk];exact B.1,by rw[low q hqm];exact B.2⟩;have z2:=low 2 (by omega);rw[e2]at z2;have y12:Kl 12 = .bool T.isSome:=by simp[hk3,hk2,hk1,s12]
  have y6:Kl 6 = .ptr 2 0 0:=by simp[hk3,hk2,hk1,hk,x6]
  have y11:Kl 11 = .ptr k11 0 0:=by simp[hk3,hk2,hk1,hk,x11]
  generalize hX:Yr md (Uq p b c.Func) (j:Int)=X at *;have bad:F=Option.none->R .ret Kl h3 (m+1+2)=R .ret Kl h3 (m+1+2):=λ_=>rfl
  clear bad
  cases T with
  |none=>
   simp only[Option.bind_none,Nr]at hJ;subst hJ;simp[y12,y6,z2];refine hret _ _ _ ?_;simp[Ez,y6]
   exact⟨⟨⟨0,[]⟩,⟨0,[]⟩⟩,by simp[Km,Jg]⟩
  |some t=>
   cases X with
   |none=>
    simp only[Option.bind_some,Option.bind_none,Nr]at hJ;subst hJ;simp[y12,y6,z2,s16];refine hret _ _ _ ?_;simp[Ez,y6]
    exact⟨⟨⟨0,[]⟩,⟨0,[]⟩⟩,by simp[Km,Jg]⟩
   |some x=>
    simp only[Option.bind_some]at hJ;simp at B3 B15;simp[y12,s16];refine Jg7 (t:=t) (x:=x) (k:=k11) (q:=q) (k5:=k15) (q5:=q15) (by simp[y11]) (by simp[s15]) B3 B15 (by omega) (by omega) ?_;intro st4 h4 hk4 t12 B4 hfr4;simp at hk4;simp[hk4,hk3,hk2,hk1,s59,hw'];have low4:∀id,id<9->h4 id=h id:=λid hid=>by rw[hfr4 id (by omega) (by omega),low id (by omega)]
    refine hR _ _ _ (by simp[hk4,hk3,hk2,hk1,hk]) (by simp) ⟨by omega,by omega,by rw[low4 0 (by omega),e0],by rw[low4 1 (by omega),e1],by rw[low4 2 (by omega),e2],⟨by rw[low4 8 (by omega)];exact m1,by rw[low4 4 (by omega)];exact m2,by rw[low4 5 (by omega)];exact m3,by rw[low4 6 (by omega)];exact m4,by rw[low4 7 (by omega)];exact m5⟩,_,m+1+2,by omega,by omega,by omega,by simp[t12],B4,hJ⟩
 ·rintro st h m R hk s59 ⟨m8,mk,e0,e1,e2,M,T,q,hq8,hqk,hqm,s12,B,hJ⟩ _ hX;simp at hk;rw[drop_eq_nil_of_le (by omega)]at hJ;simp only[Oy]at hJ;subst hJ;refine Js [3,4,6,8,9,11,12] (λs=>s 60 = .bool false) (by simp[hk,s59]) ?_;intro Jv hk1 s60;simp at hk1;refine Ut s60 ?_;refine hX _ _ _ _ ?_;obtain⟨m1,m2,m3,m4,m5⟩:=M;obtain⟨b1,b2⟩:=B;have nq:¬4=q/\¬q=4/\¬q=2:=by omega
  simp[ux6,hk1,hk,x9,x11,x6,m1,m2,b1,b2,e2,nq,s12,Ez];exact⟨⟨md.System,T.getD Jl⟩,by simp[Km],λt ht=>by subst ht;rfl⟩
end Go.Proofs.YtoclolkigjbcgaaGreat
