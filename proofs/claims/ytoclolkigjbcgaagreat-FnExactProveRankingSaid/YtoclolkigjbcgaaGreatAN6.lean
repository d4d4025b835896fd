/- Contracts: the form of a ranking (reference). -/
import Derived.Test.YtoclolkigjbcgaaGreatAE4
import Derived.Test.YtoclolkigjbcgaaGreatAH2
import Derived.Test.YtoclolkigjbcgaaGreatAC1
namespace Go.Proofs.YtoclolkigjbcgaaGreat
open Tryz
open Tryz(prog)
open List(drop_eq_getElem_cons all_cons drop_eq_nil_of_le getElem_mem flatMap_cons cons_append nil_append flatMap_nil)
set_option maxRecDepth 40000
set_option maxHeartbeats 4000000
open Go Go.RowKit Go.Proofs
set_option linter.all false
def K58:Jl:= ⟨31,[.t 4],(Zq [ZB 2 0,Zt 4 false] (.seq (Zq [Zv 6 1,Zn 7 6,Zf 8 0 2,Zl 9 false 1 8,Zn 10 9,Zb 11 .neq 7 10] (.cond (.t 11) (Zq [Zt 4 false] .ret) .skip)) (.seq (Zq [Zi 5 0] (.blk 0 (.loop (.seq (Zq [Zv 12 5,Zv 13 1,Zn 14 13,Zb 15 .lss 12 14] (Zw 15 0)) (.seq (.blk 1 (.seq (.draw (.op (Zv 18 1) (.op (Zv 19 5) (.op (Zx 20 2 18 19) (.op (Zl 21 true 2 20) (.op (Zf 22 0 2) (.op (Zl 23 false 1 22) (.op (Zv 24 5) (.op (Zx 25 4 23 24) (.op (Zf 26 1 25) (.op (Zl 27 false 1 26) (.op (Zn 28 27) (.op (Zc 29 179 [.t 21,.t 28]) (.op (ZN 30 29) .fin)))))))))))))) (.cond (.t 30) (Zq [Zt 4 false] .ret) .skip))) (.reg [Zv 16 5,Zk 17 .add 16 1,Zv 5 17])))))) (Zq [Zt 4 true] .ret))))⟩
theorem Joz:Jh prog f197=some K58:=by kernel_rfl
def lh0:AC:=(.reg [ZB 2 0,ZB 3 1,Zt 4 false])
def lh1:AC:=(.reg [Zl 9 true 2 2,Zc 10 122 [.t 9],Zv 5 10])
def lh2:AC:=(Zq [Zl 11 true 2 2,Zc 12 61 [.t 11],ZN 13 12,Zv 14 13,Zg 15 14 false (.fld 0 (.t 3)),Zg 16 14 false (.ld false 1 (.t 15)),Zg 17 14 false (.len false (.t 16)),Zg 18 14 false (.bin .gtr (.t 17) (.k (.int .i64 3))),ZP 19 14 18,Zv 20 19,Zg 21 20 false (.fld 1 (.t 3)),Zg 22 20 false (.ld false 1 (.t 21)),Zg 23 20 false (.len false (.t 22)),Zg 24 20 false (.mv (.t 5)),Zg 25 20 false (.len false (.t 24)),Zg 26 20 false (.bin .neq (.t 23) (.t 25)),ZP 27 20 26] (.cond (.t 27) (Zq [Zt 4 false] .ret) .skip))
def lh3:AC:=(Zq [Zi 6 0] (.blk 0 (.loop (.seq (Zq [Zv 28 6,Zf 29 0 3,Zl 30 false 1 29,Zn 31 30,Zb 32 .lss 28 31] (Zw 32 0)) (.seq (.blk 1 (.seq (.draw (.op (Zl 35 true 2 2) (.op (Zf 36 0 3) (.op (Zl 37 false 1 36) (.op (Zv 38 6) (.op (Zx 39 1 37 38) (.op (Zl 40 false 1 39) (.op (Zc 41 197 [.t 35,.t 40]) (.op (ZN 42 41) .fin))))))))) (.cond (.t 42) (Zq [Zt 4 false] .ret) .skip))) (.reg [Zv 33 6,Zk 34 .add 33 1,Zv 6 34]))))))
def lh4:AC:=(Zq [Zi 7 0] (.blk 2 (.loop (.seq (Zq [Zv 43 7,Zv 44 5,Zn 45 44,Zb 46 .lss 43 45] (Zw 46 2)) (.seq (.blk 3 (.seq (.draw (.op (Zl 49 true 2 2) (.op (Zv 50 5) (.op (Zv 51 7) (.op (Zx 52 2 50 51) (.op (Zl 53 true 2 52) (.op (Zc 54 198 [.t 49,.t 53]) (.op (Zv 8 54) .fin)))))))) (.seq (.draw (.op (Zv 55 8) (.op (Zv 56 55) (.op (Zg 57 56 true (.fld 1 (.t 3))) (.op (Zg 58 56 true (.ld false 1 (.t 57))) (.op (Zg 59 56 true (.mv (.t 7))) (.op (Zg 60 56 true (.ixa 1 (.t 58) (.t 59))) (.op (Zg 61 56 true (.ld false 1 (.t 60))) (.op (Zg 62 56 true (.fld 0 (.t 3))) (.op (Zg 63 56 true (.ld false 1 (.t 62))) (.op (Zg 64 56 true (.len false (.t 63))) (.op (Zg 65 56 true (.call (.k (.fn (.func 183) [] [])) [.t 61,(.k (.int .i64 1)),.t 64])) (.op (Zg 66 56 true (.un .not (.t 65))) (.op (ZQ 67 56 66) (.op (Zv 68 67) (.op (Zg 69 68 false (.mv (.t 8))) (.op (Zg 70 68 false (.un .not (.t 69))) (.op (Zg 71 68 false (.mv (.t 70))) (.op (Zg 72 71 true (.fld 1 (.t 3))) (.op (Zg 73 71 true (.ld false 1 (.t 72))) (.op (Zg 74 71 true (.mv (.t 7))) (.op (Zg 75 71 true (.ixa 1 (.t 73) (.t 74))) (.op (Zg 76 71 true (.ld false 1 (.t 75))) (.op (Zg 77 71 true (.bin .neq (.t 76) (.k (.int .i64 0)))) (.op (Zg 78 68 false (.pick (.t 71) (.t 77) (.k (.bool false)))) (.op (ZP 79 68 78) .fin)))))))))))))))))))))))))) (.cond (.t 79) (Zq [Zt 4 false] .ret) .skip)))) (.reg [Zv 47 7,Zk 48 .add 47 1,Zv 7 48]))))))
def lh5:AC:=(.reg [Zt 4 true])
def K4s:Jl:=⟨80,[.t 4],(.seq lh0 (.seq lh1 (.seq lh2 (.seq lh3 (.seq lh4 (.seq lh5 .ret))))))⟩
theorem Jos:Jh prog f121=some K4s:=by kernel_rfl
theorem J9d(p:Jo)(ls:List Jc):Holds prog 197 [.agg (Jg p),.sl 2 (ls.map Jb)] (λx=>x = .bool (Qc p.Functions ls)):=by
 refine Jp func197 Joz rfl (by simp[K58]) ?_;simp[K58,Jg];unfold Qc;by_cases hl:ls.length=p.Functions.length
 case neg=>
  have hl':¬(ls.length:Int)=p.Functions.length:=by omega
  simp[hl,hl']
 simp[hl];intro hlm;refine Ka [1,2] 5 ls.length (λi s h n=>0<n/\h 0=some ⟨true,2,[Jg p]⟩/\((ls.drop i).zip (p.Functions.drop i)).all (λx=>K8 x.1 x.2.Params.length)=(ls.zip p.Functions).all (λx=>K8 x.1 x.2.Params.length)) (by omega) (by simp) ⟨by simp,by simp[Jg],rfl⟩ ?_ ?_
 ·rintro i s h n R hi hg hk s5 hw ⟨hn,e0,hJ⟩ hR hret _;have hi':i<p.Functions.length:=by omega
  simp at hk;rw[drop_eq_getElem_cons hi,drop_eq_getElem_cons hi',List.zip_cons_cons,all_cons]at hJ;simp[hk,s5,hi',e0,Jb,Jg,K5,hl];try intro _
  refine Jx (Gj (ls[i]'hi) (p.Functions[i]'hi').Params.length) (by simp[Jb]) ?_;rintro r rfl;cases h0:K8 ls[i] (p.Functions[i]).Params.length
  ·rw[h0]at hJ;have hJ:(ls.zip p.Functions).all (λx=>K8 x.1 x.2.Params.length)=false:=by rw[<-hJ];rfl
   simp;refine hret _ _ _ ?_;simp[hJ]
  ·rw[h0,Bool.true_and]at hJ;simp[s5,hw];exact hR _ _ _ (by simp[hk]) (by simp) ⟨by omega,by simp[e0,Jg],hJ⟩
 ·rintro s h n R hk s5 ⟨hn,e0,hJ⟩ hret hX;simp at hk;rw[drop_eq_nil_of_le (Nat.le_refl _)]at hJ;simp[hk,s5,hl];try intro _
  refine hX _ _ _ _ ?_;rw[<-hJ];simp
section
variable {ks:List Kt}{s:Jm}{h h':J8}{n:Nat}{Q:Xb}
theorem Jqn{p:Jo}{x:Xk}(hn:2<n)(s2:s 2 = .ptr 0 0 0)(s3:s 3 = .ptr 1 0 0)(e0:h 0=some ⟨true,2,[Jg p]⟩)(e1:h 1=some ⟨true,2,[X3 x]⟩)(hL:x.Levels.length<=3)
 (hret:x.Levels.all (Qc p.Functions)=false->∀s' h' n',s' 4 = .bool false->Jt prog ks .ret s' h' n' Q)
 (hK:∀s',(∀j∈[2,3,5],s' j=s j)->x.Levels.all (Qc p.Functions)=true->Jt prog ks .normal s' h n Q):rC prog lh3 ks s h n Q:=by
 generalize hF:x.Levels.all (Qc p.Functions)=F at *;simp[lh3];refine Ka [2,3,5] 6 x.Levels.length (λi s h' m=>h'=h/\m=n/\(x.Levels.drop i).all (Qc p.Functions)=F) (by unfold Jd;omega) (by simp) ⟨rfl,rfl,by simpa using hF⟩ ?_ ?_
 ·rintro i st h1 m1 R hi hgi hk s6 hw ⟨rfl,rfl,hJ⟩ hR hrt _;simp at hk;rw[drop_eq_getElem_cons hi,all_cons]at hJ;simp[hk,s6,hi,s2,s3,e0,e1,Uo,X3];try intro _
  refine Jx (J9d p (x.Levels[i]'hi)) (by simp) ?_;rintro r rfl;cases hc:Qc p.Functions x.Levels[i]
  ·rw[hc,Bool.false_and]at hJ;simp;exact hrt _ _ _ (hret hJ.symm _ _ _ (by simp))
  ·rw[hc,Bool.true_and]at hJ;simp[s6,hw];exact hR _ _ _ (by simp[hk]) (by simp) ⟨rfl,rfl,hJ⟩
 ·rintro st h1 m1 R hk s6 ⟨rfl,rfl,hJ⟩ hrt hX;simp at hk;rw[drop_eq_nil_of_le (by omega)]at hJ;simp[hk,s6,s3,e1,X3];try intro _
  refine hX _ _ _ _ ?_;simp;exact hK _ (by simp[hk]) (by rw[<-hJ];rfl)
theorem Jqz{p:Jo}(hp:X2 p<=1048576){x:Xk}(hn:2<n)(s2:s 2 = .ptr 0 0 0)(s3:s 3 = .ptr 1 0 0)(s5:s 5 = .ref 2 0 (K1 p).length)(e0:h 0=some ⟨true,2,[Jg p]⟩)(e1:h 1=some ⟨true,2,[X3 x]⟩)(e2:h 2=some ⟨false,2,(K1 p).map Yd⟩)(hL:x.Levels.length<=3)(hE:x.Edges.length=(K1 p).length)
 (hret:(((K1 p).zip x.Edges).all λy=>Wt p x.Levels.length y.1 y.2)=false->∀s' h' n',s' 4 = .bool false->Jt prog ks .ret s' h' n' Q)
 (hK:∀s' h' n',(((K1 p).zip x.Edges).all λy=>Wt p x.Levels.length y.1 y.2)=true->Jt prog ks .normal s' h' n' Q):rC prog lh4 ks s h n Q:=by
 have h16:=Fb (p:=p);generalize hF:(((K1 p).zip x.Edges).all λy=>Wt p x.Levels.length y.1 y.2)=F at *;simp[lh4];refine Ka [2,3,5] 7 (K1 p).length (λi s h' m=>h'=h/\m=n/\(((K1 p).drop i).zip (x.Edges.drop i)).all (λy=>Wt p x.Levels.length y.1 y.2)=F) (by unfold Jd;omega) (by simp) ⟨rfl,rfl,by simpa using hF⟩ ?_ ?_
 ·rintro i st h1 m1 R hi hgi hk s7 hw ⟨rfl,rfl,hJ⟩ hR hrt _;simp at hk;rw[J3p hi hE]at hJ;have hie:i<x.Edges.length:=by omega
  obtain⟨_,a,b,ha,hb,hab⟩:=J5d (getElem_mem hi);refine Jn (Jq [2,3,5,7] (λs=>s 46 = .bool true) ?_ ?_)
  ·simp[hk,s7,s5,e2,hi]
  intro Jv hk1 s46;simp at hk1;refine U2 s46 (Jn (Xd ?_));refine Jq [2,3,5,7] (λs=>s 8 = .bool (Db p (K1 p)[i])) ?_ ?_
  ·simp[hk1,hk,s7,s5,s2,e0,e2,hi,Yd];rw[hab];refine Jx (J9i p hp ha hb) (by simp[Kr]) ?_;rintro r rfl;simp
  intro st2 hk2 s8;simp at hk2;cases hc:Db p (K1 p)[i]
  ·have hev:Wt p x.Levels.length (K1 p)[i] (x.Edges[i]'hie)=decide ((x.Edges[i]'hie)=0):=by unfold Wt;rw[hc];rfl
   rw[hev]at hJ;rw[hc]at s8;by_cases hz:(x.Edges[i]'hie)=0
   ·simp[hz]at hJ;simp[hk2,hk1,hk,s8,s3,e1,X3,hie,hz,s7,hw];exact hR _ _ _ (by simp[hk2,hk1,hk]) (by simp) ⟨rfl,rfl,by simpa using hJ⟩
   ·simp[hz]at hJ;simp[hk2,hk1,hk,s8,s3,e1,X3,hie,hz,s7];exact hrt _ _ _ (hret hJ _ _ _ (by simp))
  ·have hev:Wt p x.Levels.length (K1 p)[i] (x.Edges[i]'hie)=Kh (x.Edges[i]'hie) 1 x.Levels.length:=by unfold Wt;rw[hc];rfl
   rw[hev]at hJ;rw[hc]at s8;simp[hk2,hk1,hk,s8,s3,e1,X3,hie,s7];refine Jx (Gb (x.Edges[i]'hie) 1 x.Levels.length) (by simp) ?_;rintro r rfl;cases hz:Kh (x.Edges[i]'hie) 1 x.Levels.length
   ·rw[hz,Bool.false_and]at hJ;simp[s8];exact hrt _ _ _ (hret hJ.symm _ _ _ (by simp))
   ·rw[hz,Bool.true_and]at hJ;simp[s8,hk2,hk1,s7,hw];exact hR _ _ _ (by simp[hk2,hk1,hk]) (by simp) ⟨rfl,rfl,hJ⟩
 ·rintro st h1 m1 R hk s7 ⟨rfl,rfl,hJ⟩ hrt hX;simp at hk;rw[drop_eq_nil_of_le (by omega)]at hJ;simp[hk,s7,s5,e2];try intro _
  refine hX _ _ _ _ ?_;simp;exact hK _ _ _ (by rw[<-hJ];rfl)
end
theorem Jc4(p:Jo)(hp:X2 p<=1048576)(x:Xk):Holds prog 121 [.agg (Jg p),.agg (X3 x)] (λr=>r = .bool (Gc p x)):=by
 have h16:=Fb (p:=p);refine Jp func121 Jos rfl (by simp[K4s]) ?_;simp[K4s,lh0,lh1];refine Je (Sz p hp) (by simp) ?_;rintro r rfl;simp[lh2];refine Je (T0 p hp) (by simp) ?_;rintro r rfl;have hrk:Gc p x=(Ym p&&decide (x.Levels.length<=3)&&decide (x.Edges.length=(K1 p).length)&&(x.Levels.all (Qc p.Functions)&&((K1 p).zip x.Edges).all λy=>Wt p x.Levels.length y.1 y.2)):=rfl;cases h1:Ym p
 ·rw[h1]at hrk;simp at hrk;simp[hrk]
 rw[h1]at hrk;by_cases h2:x.Levels.length<=3
 case neg=>
  have h2':(3:Int)<x.Levels.length:=by omega
  have h2'':3<x.Levels.length:=by omega
  simp[h2]at hrk;simp[X3,h2',hrk]
 have h2':¬(3:Int)<x.Levels.length:=by omega
 have h2'':¬3<x.Levels.length:=by omega
 by_cases h3:x.Edges.length=(K1 p).length
 case neg=>
  have h3':¬(x.Edges.length:Int)=(K1 p).length:=by omega
  simp[h3]at hrk;simp[X3,h2',h3',hrk]
 simp[h2,h3]at hrk;simp[X3,h2',h3];intros;refine Jqn (p:=p) (x:=x) (by omega) (by simp) (by simp) (by simp) (by simp[X3]) h2 ?_ ?_
 ·intro hF s' h' n' s4;rw[hF]at hrk;simp at hrk;simp[s4,hrk]
 ·intro s' hk' hF;simp at hk';rw[hF]at hrk;simp;refine Jqz hp (x:=x) (by omega) (by simp[hk']) (by simp[hk']) (by simp[hk']) (by simp) (by simp[X3]) (by simp) h2 h3 ?_ ?_
  ·intro hF2 s' h' n' s4;rw[hF2]at hrk;simp at hrk;simp[s4,hrk]
  ·intro s' h' n' hF2;rw[hF2]at hrk;simp at hrk;simp[lh5,hrk]
def xa0:AC:=(.reg [ZB 2 0,ZB 3 1,Zz 4 4,Zt 5 false])
def xa1:AC:=(Zq [Zl 18 true 2 2,Zl 19 true 2 3,Zc 20 124 [.t 18,.t 19],ZN 21 20] (.cond (.t 21) (Zq [Zz 4 4,Zt 5 false] .ret) .skip))
def xa2:AC:=(.reg [Zz 6 4])
def xb1:AC:=(.reg [Zv 27 25,Zx 28 2 23 25,Zl 29 true 2 28,Zo 8 (.box [(.int .i64 0),(.int .i64 0)]),Zv 7 27,Zs 2 8 29])
def xb2:AC:=(.reg [Zl 31 true 2 2,Zf 32 0 8,Zl 33 false 1 32,Zc 34 126 [.t 31,.t 33],Zv 30 34,Ze 35 30 0,Ze 36 30 1,ZV 9,Zs 6 9 35,Zv 10 36])
def xy1:AC:=(.reg [Zf 46 0 3,Zl 47 false 1 46,Zv 48 11,Zk 49 .sub 48 1,Zx 50 1 47 49,Zl 51 false 1 50,Zv 12 51])
def xy4:AC:=(.reg [Zl 60 true 2 2,Zl 61 true 6 9,Zl 62 true 2 8,Zv 63 12,Zv 64 13,Zc 65 127 [.t 60,.t 61,.t 62,.t 63,.t 64],Zv 59 65,Ze 66 59 0,Ze 67 59 1,ZR 14,Zs 2 14 66,Zv 15 67])
def xy6:AC:=(.draw (.op (Zv 70 6) (.op (Zf 71 0 9) (.op (Zl 72 true 2 71) (.op (Zl 74 true 2 14) (.op (Zc 73 128 [.t 72]) (.op (Zo 75 (.build [(.int .i64 0),(.nil 2),(.int .i64 0),(.nil 1)] [(0,(2,(.t 73))),(2,(2,(.t 74)))])) (.hop (ZS 76 4 75) [] (.hop (ZA 77 64 4 70 76) [] (.hop (Zv 6 77) [] .fin))))))))))
def xy8:AC:=(.reg [Zl 81 true 2 2,Zl 82 true 6 9,Zl 83 true 2 8,Zv 84 12,Zc 85 129 [.t 81,.t 82,.t 83,.t 84],Zv 80 85,Ze 86 80 0,Ze 87 80 1,ZR 16,Zs 2 16 86,Zv 17 87])
def xy9:AC:=(.draw (.op (Zv 90 6) (.op (Zf 91 0 9) (.op (Zl 92 true 2 91) (.op (Zl 94 true 2 16) (.op (Zc 93 128 [.t 92]) (.op (Zo 95 (.build [(.int .i64 0),(.nil 2),(.int .i64 0),(.nil 1)] [(0,(2,(.t 93))),(2,(2,(.t 94)))])) (.hop (ZS 96 4 95) [] (.hop (ZA 97 64 4 90 96) [] (.hop (Zv 6 97) [] .fin))))))))))
def xin:AC:=(.blk 2 (.loop (.seq (Zq [Zv 37 11,Zf 38 1 3,Zl 39 false 1 38,Zv 40 7,Zx 41 1 39 40,Zl 42 false 1 41,Zb 43 .leq 37 42] (Zw 43 2)) (.seq (.blk 3 (.seq  xy1 (Zq [Zi 13 0] (.seq (Zq [Zv 52 11,Zf 53 1 3,Zl 54 false 1 53,Zv 55 7,Zx 56 1 54 55,Zl 57 false 1 56,Zb 58 .eql 52 57] (.cond (.t 58) (.reg [Zi 13 1]) .skip)) (.seq  xy4 (.seq (Zq [Zv 68 15,ZN 69 68] (.cond (.t 69) (Zq [Zz 4 4,Zt 5 false] .ret) .skip)) (.seq xy6 (Zq [Zv 78 13,Zk 79 .eql 78 1] (.cond (.t 79) (.seq  xy8 (.seq (Zq [Zv 88 17,ZN 89 88] (.cond (.t 89) (Zq [Zz 4 4,Zt 5 false] .ret) .skip)) xy9)) .skip))))))))) (.reg [Zv 44 11,Zk 45 .add 44 1,Zv 11 45])))))
def xa3:AC:=(Zq [Zl 22 true 2 2,Zc 23 125 [.t 22],Zn 24 23,Zi 25 0] (.blk 0 (.loop (Zq [Zb 26 .lss 25 24] (.seq (Zw 26 0) (.seq (.blk 1 (.seq  xb1 (.seq  xb2 (Zq [Zi 11 1] xin)))) (.reg [Zk 98 .add 25 1,Zv 25 98])))))))
def xa4:AC:=(.reg [Zv 99 6,Zv 4 99,Zt 5 true])
def a50:Jl:=⟨100,[.t 4,.t 5],(.seq xa0 (.seq xa1 (.seq xa2 (.seq xa3 (.seq xa4 .ret)))))⟩
theorem Jy4:Jh prog f50=some a50:=by kernel_rfl
section
variable {P:Program}{a:AC}{ks:List Kt}{s:Jm}{h:J8}{n:Nat}{Q:Xb}
theorem Jed(keep:List Nat)(ic N c:Nat)(J:Nat->Jm->J8->Nat->Prop)(hN:N+c<=Jd)(hi0:s ic = .int .i64 c)(hJ0:J 0 s h n)
 (hstep:∀i s' h' n' (R:Xb),i<N->(∀j∈keep,s' j=s j)->s' ic = .int .i64 ((i:Int)+c)->IntKind.i64.wrap ((i:Int)+c+1)=(i:Int)+c+1->J i s' h' n' ->
  (∀s'' h'' n'',(∀j∈keep,s'' j=s j)->s'' ic = .int .i64 ((i:Int)+c+1)->J (i+1) s'' h'' n''->R .normal s'' h'' n'') ->
  (∀s'' h'' n'',Jt P ks .ret s'' h'' n'' Q->R .ret s'' h'' n'')->(∀x s'' h'' n'',Jt P ks (.exit x) s'' h'' n'' Q->R (.exit x) s'' h'' n'')->rC P a [] s' h' n' R)
 (hend:∀s' h' n' (R:Xb),(∀j∈keep,s' j=s j)->s' ic = .int .i64 ((N:Int)+c)->J N s' h' n' ->
  (∀s'' h'' n'',Jt P ks .ret s'' h'' n'' Q->R .ret s'' h'' n'')->(∀x s'' h'' n'',Jt P ks (.exit x) s'' h'' n'' Q->R (.exit x) s'' h'' n'')->rC P a [] s' h' n' R):rL P a ks s h n Q:=by
 refine O0 (λk s' h' n'=>∃i,k=N - i/\i<=N/\(∀j∈keep,s' j=s j)/\s' ic = .int .i64 ((i:Int)+c)/\J i s' h' n') N ⟨0,rfl,Nat.zero_le _,λ_ _=>rfl,by simpa using hi0,hJ0⟩ ?_;rintro k s' h' n' ⟨i,rfl,hi,hk,hic,hJ⟩;by_cases hlt:i<N
 ·exact hstep i s' h' n' _ hlt hk hic (Km (by unfold Jd at hN;omega)) hJ (λs'' h'' n'' g1 g2 g3=>⟨N - (i+1),by omega,i+1,rfl,by omega,g1,by rw[g2];congr 1;omega,g3⟩) (λ_ _ _ h=>h) (λ_ _ _ _ h=>h)
 ·have:i=N:=by omega
  subst this;exact hend s' h' n' _ hk hic hJ (λ_ _ _ h=>h) (λ_ _ _ _ h=>h)
end
section
variable {ks:List Kt}{s:Jm}{h h':J8}{n:Nat}{Q:Xb}
theorem Kcc{a:AC}{md:X5}{t:Jc}{acc:List X1}{v:AV}{k9 k b:Nat}(ha:a=xy6/\b=14\/a=xy9/\b=16)(s6:s 6=v)(s9:s 9 = .ptr k9 0 0)(sb:s b = .ptr k 0 0)(e9:h k9=some ⟨true,6,[Kz md]⟩)(L:V3 t k h n)(B:Kj 1 4 (acc.map Kv) v h n)(hw:U9 md.System.Rows<=1048576)(hl:acc.length<=3000000)
 (hK:∀s' h' n',(∀j∈[2,3,7,8,9,11,12,13,23,24,25],s' j=s j)->n<=n'->(∀id z rows,id<n->h id=some ⟨true,z,rows⟩->h' id=h id)->Kj 1 4 ((acc++[(⟨md.System,t⟩:X1)]).map Kv) (s' 6) h' n'->Jt prog ks .normal s' h' n' Q):rC prog a ks s h n Q:=by
 obtain⟨q,hkn,hqn,hkb,hqb⟩:=L;have ne:¬q=n/\¬n=q/\¬n=n+1/\¬n+1=n/\¬n+1=q/\¬q=n+1:=by omega
 have fr:∀id,id<n->¬id=n/\¬id=n+1/\¬id=n+1+1:=by intro id _;omega
 have hqv:∀l,v ≠ .ref q 0 l:=λl e=>by have:=(B.lt e).2.2.1;rw[hqb]at this;simp at this
 rcases ha with ⟨rfl,rfl⟩|⟨rfl,rfl⟩
 all_goals
  first|simp[xy6,s6,s9,sb,e9,hkb] |simp[xy9,s6,s9,sb,e9,hkb]
  refine Jx (J2h md.System hw) (by simp) ?_;rintro r rfl;simp[I7,hqb,ne];refine Q7 (rows:=acc.map Kv) (rows2:=[[.int .i64 md.System.N,.us 2 (md.System.Rows.map Ja),.int .i64 t.Const,.us 1 (Ji t.Coeffs)]]) (B.keep (n':=n+1+1) (by omega) λid _ hid e=>?_) (by simp) (λl e=>by have:=(B.lt e).2.1;omega) (by omega) (by simp;unfold Jd;omega) ?_
  ·have:¬id=q:=λe'=>hqv _ (by rw[<-e'];exact e)
   simp[fr id hid,this]
  intro h1 f1 f2;simp;refine hK _ _ _ (by simp) (by omega) ?_ ?_
  ·intro id z rows h1' h3';have:¬id=q:=by rintro rfl;rw[hqb]at h3';simp at h3'
   rw[f2 id (by omega) (by omega) λl e=>B.not_box h3' e];simp[fr id h1',this]
  ·simp;exact .inr ⟨n+2,by omega,by have:=B;rcases this with ⟨hz,hv⟩|⟨i,h1,h2,_⟩ <;>omega,by simp,by simp[f1,Kv]⟩
end
structure Np (p:Jo) (x:Xk) (a b i0:Nat):Prop where
 hpo:Ym p=true
 ha:a<p.Rules.length
 hb:b<(p.Rules[a]).Calls.length
 hf:(Xc p.Functions (p.Rules[a]).Func).isSome=true
 hg:(Xc p.Functions ((p.Rules[a]).Calls[b]).Func).isSome=true
 he:i0<x.Edges.length
 hn:0<=x.Edges[i0]/\x.Edges[i0]<=x.Levels.length
 hL:x.Levels.length<=3
 lv:∀l∈x.Levels,l.length=p.Functions.length
theorem Jid{fs:List K3}{l:List Jc}(h:Qc fs l=true):l.length=fs.length:=by unfold Qc at h;simp only[Bool.and_eq_true,decide_eq_true_eq]at h;exact h.1
theorem J6t{p:Jo}{x:Xk}{i0:Nat}(h:Gc p x=true)(hi:i0<(K1 p).length):∃a b:Nat,(K1 p)[i0]=⟨(a:Int),(b:Int)⟩/\Np p x a b i0:=by
 obtain⟨h1,h2,h3,h4,h5⟩:=Te h;obtain⟨_,a,b,ha,hb,he⟩:=J5d (getElem_mem hi);obtain⟨f,hff,RI⟩:=Fk h1 (getElem_mem ha);have hfc:=Jag RI.calls;have hie:i0<x.Edges.length:=by omega
 have hz:((K1 p)[i0],x.Edges[i0])∈(K1 p).zip x.Edges:=by rw[List.mem_iff_getElem];exact⟨i0,by simp;omega,by simp⟩
 exact⟨a,b,he,h1,ha,hb,by rw[hff];rfl,hfc _ (getElem_mem hb),hie,Jkp (h5 _ hz),h2,λl hl=>Jid (h4 l hl)⟩
section
variable {ks:List Kt}{s:Jm}{h h':J8}{n:Nat}{Q:Xb}
theorem Jqb{p:Jo}{x:Xk}{md:X5}{a b i0 k8 k9:Nat}{lv:List Jc}{K:Int}(E:Np p x a b i0)(hl:lv.length=p.Functions.length)(s2:s 2 = .ptr 0 0 0)(s8:s 8 = .ptr k8 0 0)(s9:s 9 = .ptr k9 0 0)(s12:s 12 = .sl 2 (lv.map Jb))(s13:s 13 = .int .i64 K)(e0:h 0=some ⟨true,2,[Jg p]⟩)(e8:h k8=some ⟨true,2,[Kr ⟨a,b⟩]⟩)(e9:h k9=some ⟨true,6,[Kz md]⟩)
 (hK:∀s' h' n' k,(∀j∈[2,3,6,7,8,9,11,12,13,23,24,25],s' j=s j)->n<=n'->(∀id,id<n->h' id=h id)->s' 15 = .bool (Ib md (U6 p (Uj lv) (p.Rules[a]'E.ha).Func) b (U6 p (Uj lv) ((p.Rules[a]'E.ha).Calls[b]'E.hb).Func) K).isSome->s' 14 = .ptr k 0 0->V3 ((Ib md (U6 p (Uj lv) (p.Rules[a]'E.ha).Func) b (U6 p (Uj lv) ((p.Rules[a]'E.ha).Calls[b]'E.hb).Func) K).getD Jj) k h' n'->Jt prog ks .normal s' h' n' Q):rC prog xy4 ks s h n Q:=by
 have fr:∀id,id<n->¬id=n/\¬id=n+1:=by intro id _;omega
 simp[xy4,s2,s8,s9,s12,s13,e0,e8,e9];refine Je (J2n p md E.ha E.hb lv hl E.hf E.hg K) (by simp) ?_;rintro r rfl;rw[Xm];generalize Ib md (U6 p (Uj lv) (p.Rules[a]'E.ha).Func) b (U6 p (Uj lv) ((p.Rules[a]'E.ha).Calls[b]'E.hb).Func) K=T at *;simp[Ja];exact hK _ _ _ (n+1) (by simp) (by omega) (λid hid=>by simp[fr id hid]) (by simp) (by simp) ⟨n,by omega,by omega,by simp,by simp⟩
theorem Jpw{p:Jo}{x:Xk}{md:X5}{a b i0 k8 k9:Nat}{lv:List Jc}(E:Np p x a b i0)(hl:lv.length=p.Functions.length)(s2:s 2 = .ptr 0 0 0)(s8:s 8 = .ptr k8 0 0)(s9:s 9 = .ptr k9 0 0)(s12:s 12 = .sl 2 (lv.map Jb))(e0:h 0=some ⟨true,2,[Jg p]⟩)(e8:h k8=some ⟨true,2,[Kr ⟨a,b⟩]⟩)(e9:h k9=some ⟨true,6,[Kz md]⟩)
 (hK:∀s' h' n' k,(∀j∈[2,3,6,7,8,9,11,23,24,25],s' j=s j)->n<=n'->(∀id,id<n->h' id=h id)->s' 17 = .bool (Yb (U6 p (Uj lv) (p.Rules[a]'E.ha).Func) md.Params md.System.N).isSome->s' 16 = .ptr k 0 0->V3 ((Yb (U6 p (Uj lv) (p.Rules[a]'E.ha).Func) md.Params md.System.N).getD Jj) k h' n'->Jt prog ks .normal s' h' n' Q):rC prog xy8 ks s h n Q:=by
 have fr:∀id,id<n->¬id=n/\¬id=n+1:=by intro id _;omega
 simp[xy8,s2,s8,s9,s12,e0,e8,e9];refine Je (Jge p md E.ha E.hb lv hl E.hf) (by simp) ?_;rintro r rfl;rw[Xm];generalize Yb (U6 p (Uj lv) (p.Rules[a]'E.ha).Func) md.Params md.System.N=T at *;simp[Ja];exact hK _ _ _ (n+1) (by simp) (by omega) (λid hid=>by simp[fr id hid]) (by simp) (by simp) ⟨n,by omega,by omega,by simp,by simp⟩
theorem Jki{p:Jo}{md:X5}{a b:Nat}(ha:a<p.Rules.length)(hb:b<(p.Rules[a]).Calls.length)(l:List Jc)(K:Int):Mi p md ⟨a,b⟩ l K=(Ib md (U6 p (Uj l) (p.Rules[a]).Func) b (U6 p (Uj l) ((p.Rules[a]).Calls[b]).Func) K).map λt=>⟨md.System,t⟩:=by unfold Mi;rw[Ml ha,P3 ha hb]
theorem Jk9{p:Jo}{md:X5}{a b:Nat}(ha:a<p.Rules.length)(l:List Jc):My p md ⟨a,(b:Int)⟩ l=(Yb (U6 p (Uj l) (p.Rules[a]).Func) md.Params md.System.N).map λt=>⟨md.System,t⟩:=by unfold My;rw[Ml ha]
theorem Jmq{p:Jo}{x:Xk}{a b i0 k8 k9:Nat}{acc0:List X1}{l2:List (Option X1)}{F:Option (List X1)}(E:Np p x a b i0)(s2:s 2 = .ptr 0 0 0)(s3:s 3 = .ptr 1 0 0)(s7:s 7 = .int .i64 i0)(s8:s 8 = .ptr k8 0 0)(s9:s 9 = .ptr k9 0 0)(s11:s 11 = .int .i64 1)(hk8:1<k8/\k8<n)(hk9:1<k9/\k9<n)
 (e0:h 0=some ⟨true,2,[Jg p]⟩) (e1:h 1=some ⟨true,2,[X3 x]⟩) (e8:h k8=some ⟨true,2,[Kr ⟨a,b⟩]⟩) (e9:h k9=some ⟨true,6,[Kz (Uc p ⟨a,b⟩)]⟩) (B0:Kj 1 4 (acc0.map Kv) (s 6) h n) (hal0:acc0.length<=1000) (hF:Yo acc0 (Il p x.Levels ⟨a,b⟩ (x.Edges[i0]'E.he)++l2)=F)
 (hret:F=Option.none->∀s' h' n',s' 4 = .nil 4->s' 5 = .bool false->Jt prog ks .ret s' h' n' Q)
 (hK:∀s' h' n' acc,(∀j∈[2,3,23,24,25],s' j=s j)->n<=n'->h' 0=some ⟨true,2,[Jg p]⟩->h' 1=some ⟨true,2,[X3 x]⟩->acc.length<=acc0.length+6->Kj 1 4 (acc.map Kv) (s' 6) h' n'->Yo acc l2=F->Jt prog ks .normal s' h' n' Q):rC prog xin ks s h n Q:=by
 have hE:=E;obtain⟨hpo,ha,hb,hf,hg,he,hnn,hL,hlv⟩:=E;have hsz:=Sn hpo (k:=b) ha;generalize hmd:Uc p ⟨a,b⟩=md at *;unfold Il at hF;rw[hmd]at hF;refine Xd ?_;rw[J8f];refine Jed [2,3,7,8,9,23,24,25] 11 (x.Edges[i0]).toNat 1 (λi s h m=>n<=m/\h 0=some ⟨true,2,[Jg p]⟩/\h 1=some ⟨true,2,[X3 x]⟩/\h k8=some ⟨true,2,[Kr ⟨a,b⟩]⟩/\h k9=some ⟨true,6,[Kz md]⟩/\∃acc,acc.length<=acc0.length+2*i/\Kj 1 4 (acc.map Kv) (s 6) h m/\Yo acc (((List.range (x.Edges[i0]).toNat).drop i).flatMap (Ix p md ⟨a,b⟩ x.Levels x.Edges[i0])++l2)=F) (by unfold Jd;omega) (by simp[s11]) ⟨Nat.le_refl _,e0,e1,e8,e9,acc0,by omega,B0,by simpa using hF⟩ ?_ ?_
 ·rintro i st h1 m1 R hi hk s11 hw ⟨hm1,e0,e1,e8,e9,acc,hal,B,hJ⟩ hR hrt _;simp at hk;have hir:i<(List.range (x.Edges[i0]).toNat).length:=by simpa using hi
  rw[drop_eq_getElem_cons hir,flatMap_cons,List.append_assoc]at hJ;simp only[List.getElem_range]at hJ;have hil:i<x.Levels.length:=by omega
  have hlvi:=hlv _ (getElem_mem hil);have hgd:x.Levels.getD i []=x.Levels[i]:=by simp[hil]
  have hle:(i:Int)+1<=x.Edges[i0]:=by omega
  refine Jn (Jq [2,3,6,7,8,9,11,23,24,25] (λs=>s 43 = .bool true) (by simp[hk,s11,s3,s7,e1,X3,he,hle]) ?_);intro Jv hk1 s43;simp at hk1;refine U2 s43 (Jn (Xd ?_));have hwi:IntKind.i64.wrap (i:Int)=(i:Int):=Km (by omega);refine Jq [2,3,6,7,8,9,11,23,24,25] (λs=>s 12 = .sl 2 (x.Levels[i].map Jb)) ?_ ?_
  ·simp[xy1,hk1,hk,s11,s3,e1,X3,hwi,hil,Uo]
  intro st2 hk2 s12;simp at hk2;refine Jq [2,3,6,7,8,9,11,12,23,24,25] (λs=>s 13 = .int .i64 0) (by simp) ?_;intro Kq hk3 s13;simp at hk3;refine Jq [2,3,6,7,8,9,11,12,23,24,25] (λs=>s 13 = .int .i64 (if (i:Int)+1=x.Edges[i0]then 1 else 0)) ?_ ?_
  ·by_cases hq:(i:Int)+1=x.Edges[i0]
   ·simp[hk3,hk2,hk1,hk,s11,s3,s7,e1,X3,he,hq]
   ·simp[hk3,hk2,hk1,hk,s11,s3,s7,e1,X3,he,hq,s13]
  intro st4 hk4 s13';simp at hk4;obtain⟨K,hKd⟩:∃K:Int,(if (i:Int)+1=x.Edges[i0]then(1:Int)else 0)=K:=⟨_,rfl⟩;rw[hKd]at s13';refine Jn (Jqb (md:=md) (k8:=k8) (k9:=k9) (lv:=x.Levels[i]) (K:=K) hE hlvi (by simp[hk4,hk3,hk2,hk1,hk,s2]) (by simp[hk4,hk3,hk2,hk1,hk,s8]) (by simp[hk4,hk3,hk2,hk1,hk,s9]) (by simp[hk4,hk3,s12]) s13' e0 e8 e9 ?_);intro Yz h5 m5 k14 hk5 hm5 hf5 s15 s14 L14;simp at hk5;rw[Wd];generalize hT:Ib md (U6 p (Uj x.Levels[i]) (p.Rules[a]'ha).Func) b (U6 p (Uj x.Levels[i]) ((p.Rules[a]'ha).Calls[b]'hb).Func) K=T at *;have hobd:Mi p md ⟨a,b⟩ (x.Levels.getD i []) K=T.map λt=>⟨md.System,t⟩:=by rw[hgd,Jki ha hb,hT]
  have z0:h5 0=some ⟨true,2,[Jg p]⟩:=by rw[hf5 0 (by omega),e0]
  have z1:h5 1=some ⟨true,2,[X3 x]⟩:=by rw[hf5 1 (by omega),e1]
  have z8:h5 k8=some ⟨true,2,[Kr ⟨a,b⟩]⟩:=by rw[hf5 k8 (by omega),e8]
  have z9:h5 k9=some ⟨true,6,[Kz md]⟩:=by rw[hf5 k9 (by omega),e9]
  have B5:Kj 1 4 (acc.map Kv) (st 6) h5 m5:=B.keep hm5 λid _ hid _=>hf5 id hid
  cases T with
  |none=>
   simp only[Option.map_none]at hobd
   have hnone:F=Option.none:=by
    rw[<-hJ];unfold Ix;by_cases hq:(i:Int)+1=x.Edges[i0]
    ·rw[if_pos hq]at hKd;rw[<-hKd]at hobd;rw[if_pos hq,hobd];rfl
    ·rw[if_neg hq]at hKd;rw[<-hKd]at hobd;rw[if_neg hq,hobd];rfl
   simp[s15]
   exact hrt _ _ _ (hret hnone _ _ _ (by simp) (by simp))
  |some t=>
   simp only[Option.map_some]at hobd;simp only[Option.getD_some]at L14;simp[s15];refine Kcc (md:=md) (t:=t) (acc:=acc) (v:=st 6) (k9:=k9) (k:=k14) (.inl ⟨rfl,rfl⟩) (by simp[hk5,hk4,hk3,hk2,hk1]) (by simp[hk5,hk4,hk3,hk2,hk1,hk,s9]) (by simp[s14]) z9 L14 B5 (by omega) (by omega) ?_;intro st6 h6 m6 hk6 hm6 bx6 B6;simp at hk6;have y0:=bx6 0 _ _ (by omega) z0;have y1:=bx6 1 _ _ (by omega) z1;have y8:=bx6 k8 _ _ (by omega) z8;have y9:=bx6 k9 _ _ (by omega) z9;rw[z0]at y0;rw[z1]at y1;rw[z8]at y8;rw[z9]at y9;rw[Wd];by_cases hq:(i:Int)+1=x.Edges[i0]
   ·rw[if_pos hq]at hKd;subst hKd;have hrk:Ix p md ⟨a,b⟩ x.Levels x.Edges[i0] i=[some ⟨md.System,t⟩,My p md ⟨a,b⟩ (x.Levels.getD i [])]:=by unfold Ix;rw[if_pos hq,hobd]
    rw[hrk]at hJ;simp only[cons_append,nil_append,Yo]at hJ;refine Jn ?_;simp[hk6,hk5,s13'];refine Jpw (md:=md) (k8:=k8) (k9:=k9) (lv:=x.Levels[i]) hE hlvi (by simp[hk6,hk5,hk4,hk3,hk2,hk1,hk,s2]) (by simp[hk6,hk5,hk4,hk3,hk2,hk1,hk,s8]) (by simp[hk6,hk5,hk4,hk3,hk2,hk1,hk,s9]) (by simp[hk6,hk5,hk4,hk3,s12]) y0 y8 y9 ?_;intro st7 h7 m7 k16 hk7 hm7 hf7 s17 s16 L16;simp at hk7;rw[Wd];rw[hgd,Jk9 ha]at hJ;generalize Yb (U6 p (Uj x.Levels[i]) (p.Rules[a]'ha).Func) md.Params md.System.N=U at *;have B7:Kj 1 4 ((acc++[(⟨md.System,t⟩:X1)]).map Kv) (st6 6) h7 m7:=B6.keep hm7 λid _ hid _=>hf7 id hid
    have w0:h7 0=some ⟨true,2,[Jg p]⟩:=by rw[hf7 0 (by omega),y0]
    have w1:h7 1=some ⟨true,2,[X3 x]⟩:=by rw[hf7 1 (by omega),y1]
    have w8:h7 k8=some ⟨true,2,[Kr ⟨a,b⟩]⟩:=by rw[hf7 k8 (by omega),y8]
    have w9:h7 k9=some ⟨true,6,[Kz md]⟩:=by rw[hf7 k9 (by omega),y9]
    cases U with
    |none=>
     simp[Yo]at hJ;simp[s17]
     exact hrt _ _ _ (hret hJ.symm _ _ _ (by simp) (by simp))
    |some u=>
     simp only[Option.map_some,Yo]at hJ;simp only[Option.getD_some]at L16;simp[s17];refine Kcc (md:=md) (t:=u) (acc:=acc++[⟨md.System,t⟩]) (v:=st6 6) (k9:=k9) (k:=k16) (.inr ⟨rfl,rfl⟩) (by simp[hk7]) (by simp[hk7,hk6,hk5,hk4,hk3,hk2,hk1,hk,s9]) (by simp[s16]) w9 L16 B7 (by omega) (by simp;omega) ?_;intro st8 h8 m8 hk8' hm8 bx8 B8;simp at hk8';have v0:=bx8 0 _ _ (by omega) w0;have v1:=bx8 1 _ _ (by omega) w1;have v8:=bx8 k8 _ _ (by omega) w8;have v9:=bx8 k9 _ _ (by omega) w9;rw[w0]at v0;rw[w1]at v1;rw[w8]at v8;rw[w9]at v9;have hw':IntKind.i64.wrap ((i:Int)+1+1)=(i:Int)+1+1:=by simpa using hw
     simp[hk8',hk7,hk6,hk5,hk4,hk3,hk2,hk1,s11,hw'];exact hR _ _ _ (by simp[hk8',hk7,hk6,hk5,hk4,hk3,hk2,hk1,hk]) (by simp) ⟨by omega,v0,v1,v8,v9,_,by simp;omega,by simpa using B8,hJ⟩
   ·rw[if_neg hq]at hKd;subst hKd;have hrk:Ix p md ⟨a,b⟩ x.Levels x.Edges[i0] i=[some ⟨md.System,t⟩]:=by unfold Ix;rw[if_neg hq,hobd]
    rw[hrk]at hJ;simp only[cons_append,nil_append,Yo]at hJ;have hw':IntKind.i64.wrap ((i:Int)+1+1)=(i:Int)+1+1:=by simpa using hw
    simp[hk6,hk5,s13',hk4,hk3,hk2,hk1,s11,hw'];exact hR _ _ _ (by simp[hk6,hk5,hk4,hk3,hk2,hk1,hk]) (by simp) ⟨by omega,y0,y1,y8,y9,_,by simp;omega,by simpa using B6,hJ⟩
 ·rintro st h1 m1 R hk s11 ⟨hm1,e0,e1,e8,e9,acc,hal,B,hJ⟩ hrt hX;simp at hk;rw[drop_eq_nil_of_le (by simp)]at hJ;simp only[flatMap_nil,nil_append]at hJ;have hle:¬((x.Edges[i0]).toNat:Int)+1<=x.Edges[i0]:=by omega
  refine Jn (Jq [2,3,6,23,24,25] (λs=>s 43 = .bool false) (by simp[hk,s11,s3,s7,e1,X3,he];omega) ?_);intro Jv hk1 s43;simp at hk1;refine U1 s43 ?_;refine hX _ _ _ _ ?_;simp;exact hK _ _ _ acc (by simp[hk1,hk]) hm1 e0 e1 (by omega) (by simpa[hk1]using B) hJ
end
theorem J51{p:Jo}{x:Xk}{i:Nat}(hi:i<(K1 p).length)(he:x.Edges.length=(K1 p).length):(((K1 p).zip x.Edges).drop i).flatMap (λy=>Il p x.Levels y.1 y.2)=Il p x.Levels (K1 p)[i] (x.Edges[i]'(by omega))++(((K1 p).zip x.Edges).drop (i+1)).flatMap (λy=>Il p x.Levels y.1 y.2):=by
 have hz:i<((K1 p).zip x.Edges).length:=by simp;omega
 rw[drop_eq_getElem_cons hz,flatMap_cons];simp
def Ff(p:Jo)(x:Xk)(i:Nat):List (Option X1):=(((K1 p).zip x.Edges).drop i).flatMap λy=>Il p x.Levels y.1 y.2
section
variable {ks:List Kt}{s:Jm}{h h':J8}{n:Nat}{Q:Xb}
theorem Jr1{p:Jo}(hp:X2 p<=1048576){x:Xk}(hR:Gc p x=true){F:Option (List X1)}(hn:1<n)(s2:s 2 = .ptr 0 0 0)(s3:s 3 = .ptr 1 0 0)(s6:s 6 = .nil 4)(e0:h 0=some ⟨true,2,[Jg p]⟩)(e1:h 1=some ⟨true,2,[X3 x]⟩)(hF:Yo [] (C6 p x)=F)
 (hret:F=Option.none->∀s' h' n',s' 4 = .nil 4->s' 5 = .bool false->Jt prog ks .ret s' h' n' Q)
 (hK:∀s' h' n' acc,Kj 1 4 (acc.map Kv) (s' 6) h' n'->some acc=F->Jt prog ks .normal s' h' n' Q):rC prog xa3 ks s h n Q:=by
 have h16:=Fb (p:=p);obtain⟨hpo,hL,hE,_,_⟩:=Te hR;simp[xa3,s2,e0];refine E2 (Rn p hp) (by simp) ?_;rintro _ rfl;simp;intro _;refine Ka [2,3,23,24] 25 (K1 p).length (λi s h m=>1<m/\h 0=some ⟨true,2,[Jg p]⟩/\h 1=some ⟨true,2,[X3 x]⟩/\∃acc,acc.length<=6*i/\Kj 1 4 (acc.map Kv) (s 6) h m/\Yo acc (Ff p x i)=F) (by unfold Jd;omega) (by simp) ⟨hn,e0,e1,[],by simp,.inl ⟨rfl,by simp[s6]⟩,by simpa[Ff,C6]using hF⟩ ?_ ?_
 ·rintro i st h m R hi hg hk s25 hw' ⟨m1,e0,e1,acc,hal,B,hJ⟩ hRr hrt _;simp at hk;unfold Ff at hJ;rw[J51 hi hE]at hJ;obtain⟨a,b,hab,E⟩:=J6t hR hi;rw[hab]at hJ;refine Jq [2,3,6,23,24,25] (λs=>s 26 = .bool true) (by simp[hk,s25,hi]) ?_;intro Jv hk1 s26;simp at hk1;refine W3 s26 (Jn (Xd ?_));have fr:∀id,id<m->¬id=m:=by intro id _;omega
  refine Xu [2,3,6,23,24,25] (λs h2 n2=>n2=m+1/\s 8 = .ptr m 0 0/\s 7 = .int .i64 i/\h2 m=some ⟨true,2,[Kr ⟨a,b⟩]⟩/\∀id,id<m->h2 id=h id) ?_ ?_
  ·simp[xb1,hk1,hk,s25,hi,hab];exact λid hid=>by simp[fr id hid]
  rintro st2 h2 n2 hk2 ⟨rfl,s8,s7,em,hfr2⟩;simp at hk2;have c0:h2 0=some ⟨true,2,[Jg p]⟩:=by rw[hfr2 0 (by omega),e0]
  have c1:h2 1=some ⟨true,2,[X3 x]⟩:=by rw[hfr2 1 (by omega),e1]
  refine Xu [2,3,6,7,8,23,24,25] (λs h3 n3=>n3=m+2/\s 9 = .ptr (m+1) 0 0/\h3 (m+1)=some ⟨true,6,[Kz (Uc p ⟨a,b⟩)]⟩/\∀id,id<m+1->h3 id=h2 id) ?_ ?_
  ·simp[xb2,hk2,hk1,hk,s2,s8,em,c0,Kr];refine E2 (J7e p hp a) (by simp[Jg]) ?_;rintro _ rfl;have hmd:(Hf p a).getD Dd=Uc p ⟨a,b⟩:=rfl;unfold Hp;rw[hmd];generalize Uc p ⟨a,b⟩=md;simp;intro id hid;have:¬id=m+1:=by omega
   simp[this]
  rintro Kq h3 n3 hk3 ⟨rfl,s9,e9,hfr3⟩;simp at hk3;have d0:h3 0=some ⟨true,2,[Jg p]⟩:=by rw[hfr3 0 (by omega),c0]
  have d1:h3 1=some ⟨true,2,[X3 x]⟩:=by rw[hfr3 1 (by omega),c1]
  have d8:h3 m=some ⟨true,2,[Kr ⟨a,b⟩]⟩:=by rw[hfr3 m (by omega),em]
  have B3:Kj 1 4 (acc.map Kv) (st 6) h3 (m+2):=B.keep (by omega) λid _ hid _=>by rw[hfr3 id (by omega),hfr2 id hid]
  simp;refine Jmq (acc0:=acc) (k8:=m) (k9:=m+1) E (by simp[hk3,hk2,hk1,hk,s2]) (by simp[hk3,hk2,hk1,hk,s3]) (by simp[hk3,s7]) (by simp[hk3,s8]) (by simp[s9]) (by simp) (by omega) (by omega) d0 d1 d8 e9 (by simpa[hk3,hk2,hk1]using B3) (by omega) hJ ?_ ?_
  ·intro hno s' h' n' x4 x5;simp;exact hrt _ _ _ (hret hno _ _ _ x4 x5)
  ·intro st4 h4 m4 acc4 hk4 hm4 y0 y1 hal4 B4 hJ4;simp at hk4;simp[hk4,hk3,hk2,hk1,s25,hw'];exact hRr _ _ _ (by simp[hk4,hk3,hk2,hk1,hk]) (by simp) ⟨by omega,y0,y1,acc4,by omega,by simpa using B4,hJ4⟩
 ·rintro st h m R hk s25 ⟨m1,e0,e1,acc,hal,B,hJ⟩ hrt hX;simp at hk;unfold Ff at hJ;rw[drop_eq_nil_of_le (by simp;omega)]at hJ;simp only[flatMap_nil,Yo]at hJ;refine Jq [6] (λs=>s 26 = .bool false) (by simp[hk,s25]) ?_;intro Jv hk1 s26;simp at hk1;refine Uv s26 ?_;refine hX _ _ _ _ ?_;simp;exact hK _ _ _ acc (by rw[hk1];exact B) hJ
end
theorem J02(p:Jo)(hp:X2 p<=1048576)(x:Xk):Holds prog 50 [.agg (Jg p),.agg (X3 x)] (λr=>r = .tup [.us 4 (((Vb p x).getD []).map Kv),.bool (Vb p x).isSome]):=by
 refine Jp func50 Jy4 rfl (by simp[a50]) ?_;simp[a50,xa0,xa1];refine Je (J8w p hp x) (by simp) ?_;rintro r rfl;generalize hO:Vb p x=O;unfold Vb at hO;cases hB:Gc p x
 ·rw[hB]at hO;simp at hO;subst hO;simp
 rw[hB,if_pos rfl]at hO;simp[xa2];refine Jr1 hp hB (by omega) (by simp) (by simp) (by simp) (by simp) (by simp) hO ?_ ?_
 ·intro hno s' h' n' x4 x5;subst hno;simp[x4,x5]
 ·intro s' h' n' acc B hs;obtain⟨h2,hd,_⟩:=B.dt;rw[<-hs];simp[xa4,hd]
def le0:AC:=(.reg [ZB 4 0,ZB 6 2,Zz 8 4,Zt 9 false])
def le1:AC:=(.reg [Zl 20 true 2 4,Zf 21 0 6,Zl 22 false 1 21,Zc 23 184 [.t 20,.t 22],ZV 10,Zs 6 10 23])
def le2:AC:=(.reg [Zo 24 (.bsl 4 []),Zv 11 24])
def lea:AC:=(.draw (.op (Zl 30 true 2 4) (.op (Zv 31 1) (.op (Zv 32 12) (.op (Zk 33 .sub 32 1) (.op (Zx 34 1 31 33) (.op (Zl 35 false 1 34) (.op (Zl 36 true 2 4) (.op (Zl 37 true 2 6) (.both (.op (Zc 38 199 [.t 36,.t 37]) (.both (.op (Zc 39 186 [.t 30,.t 35,.t 38]) (.op (ZR 13) (.hop (Zs 2 13 39) [] .fin))) (.op (ZR 13) (.op (Zc 39 186 [.t 30,.t 35,.t 38]) (.hop (Zs 2 13 39) [] .fin))))) (.op (ZR 13) (.op (Zc 38 199 [.t 36,.t 37]) (.op (Zc 39 186 [.t 30,.t 35,.t 38]) (.hop (Zs 2 13 39) [] .fin))))))))))))))
def leb:AC:=(.draw (.op (Zl 40 true 2 4) (.op (Zv 41 1) (.op (Zv 42 12) (.op (Zk 43 .sub 42 1) (.op (Zx 44 1 41 43) (.op (Zl 45 false 1 44) (.op (Zl 46 true 2 4) (.op (Zl 47 true 2 6) (.both (.op (Zc 48 173 [.t 46,.t 47]) (.both (.op (Zc 49 186 [.t 40,.t 45,.t 48]) (.op (ZR 14) (.hop (Zs 2 14 49) [] .fin))) (.op (ZR 14) (.op (Zc 49 186 [.t 40,.t 45,.t 48]) (.hop (Zs 2 14 49) [] .fin))))) (.op (ZR 14) (.op (Zc 48 173 [.t 46,.t 47]) (.op (Zc 49 186 [.t 40,.t 45,.t 48]) (.hop (Zs 2 14 49) [] .fin))))))))))))))
def led:AC:=(.reg [Zl 54 true 6 10,Zl 55 true 2 13,Zf 56 1 6,Zl 57 false 1 56,Zl 58 true 2 14,Zv 59 15,Zc 60 200 [.t 54,.t 55,.t 57,.t 58,.t 59],Zv 53 60,Ze 61 53 0,Ze 62 53 1,ZR 16,Zs 2 16 61,Zv 17 62])
def leo:AC:=(.draw (.op (Zv 66 11) (.op (Zf 67 0 10) (.op (Zl 68 true 2 67) (.op (Zl 70 true 2 16) (.op (Zc 69 175 [.t 68]) (.op (Zo 71 (.build [(.int .i64 0),(.nil 2),(.int .i64 0),(.nil 1)] [(0,(2,(.t 69))),(2,(2,(.t 70)))])) (.hop (ZS 72 4 71) [] (.hop (ZA 73 64 4 66 72) [] (.hop (Zv 11 73) [] .fin))))))))))
def lep:AC:=(.reg [Zl 78 true 6 10,Zl 79 true 2 13,Zf 80 2 10,Zl 81 false 1 80,Zc 82 185 [.t 78,.t 79,.t 81],Zv 77 82,Ze 83 77 0,Ze 84 77 1,ZR 18,Zs 2 18 83,Zv 19 84])
def leq:AC:=(.draw (.op (Zv 88 11) (.op (Zf 89 0 10) (.op (Zl 90 true 2 89) (.op (Zl 92 true 2 18) (.op (Zc 91 175 [.t 90]) (.op (Zo 93 (.build [(.int .i64 0),(.nil 2),(.int .i64 0),(.nil 1)] [(0,(2,(.t 91))),(2,(2,(.t 92)))])) (.hop (ZS 94 4 93) [] (.hop (ZA 95 64 4 88 94) [] (.hop (Zv 11 95) [] .fin))))))))))
def le3:AC:=(Zq [Zi 12 1] (.blk 0 (.loop (.seq (Zq [Zv 25 12,Zv 26 3,Zb 27 .leq 25 26] (Zw 27 0)) (.seq (.blk 1 (.seq lea (.seq leb (Zq [Zi 15 0] (.seq (Zq [Zv 50 12,Zv 51 3,Zb 52 .eql 50 51] (.cond (.t 52) (.reg [Zi 15 1]) .skip)) (.seq  led (.seq (Zq [Zv 63 17,ZN 64 63] (.cond (.t 64) (Zq [Zv 65 11,Zv 8 65,Zt 9 false] .ret) .skip)) (.seq leo (Zq [Zv 74 12,Zv 75 3,Zb 76 .eql 74 75] (.cond (.t 76) (.seq  lep (.seq (Zq [Zv 85 19,ZN 86 85] (.cond (.t 86) (Zq [Zv 87 11,Zv 8 87,Zt 9 false] .ret) .skip)) leq)) .skip)))))))))) (.reg [Zv 28 12,Zk 29 .add 28 1,Zv 12 29]))))))
def le4:AC:=(.reg [Zv 96 11,Zv 8 96,Zt 9 true])
def K6p:Jl:=⟨97,[.t 8,.t 9],(.seq le0 (.seq le1 (.seq le2 (.seq le3 (.seq le4 .ret)))))⟩
theorem Jn8:Jh prog f123=some K6p:=by kernel_rfl
structure N3 (p:Jo) (Ls:List (List Jc)) (a b:Nat) (nE:Int):Prop where
 hp:X2 p<=1048576
 hpo:Ym p=true
 ha:a<p.Rules.length
 hb:b<(p.Rules[a]).Calls.length
 hf:(Xc p.Functions (p.Rules[a]).Func).isSome=true
 hg:(Xc p.Functions ((p.Rules[a]).Calls[b]).Func).isSome=true
 hn:0<=nE/\nE<=Ls.length
 hL:Ls.length<=3
 lv:∀l∈Ls,l.length=p.Functions.length
section
variable {ks:List Kt}{s:Jm}{h h':J8}{n:Nat}{Q:Xb}
theorem Jpp{p:Jo}{Ls:List (List Jc)}{a b i:Nat}{nE:Int}(E:N3 p Ls a b nE)(hi:i<Ls.length)(s4:s 4 = .ptr 0 0 0)(s6:s 6 = .ptr 1 0 0)(s1:s 1 = .sl 1 (Ls.map Uo))(s12:s 12 = .int .i64 ((i:Int)+1))(e0:h 0=some ⟨true,2,[Jg p]⟩)(e1:h 1=some ⟨true,2,[Kr ⟨a,b⟩]⟩)
 (hK:∀s' h',(∀j∈[1,3,4,6,10,11,12],s' j=s j)->(∀id,id<n->h' id=h id)->s' 13 = .ptr n 0 0->h' n=some ⟨true,2,[Jb (U6 p (Uj Ls[i]) (p.Rules[a]'E.ha).Func)]⟩->Jt prog ks .normal s' h' (n+1) Q) (h0:1<n):rC prog lea ks s h n Q:=by
 obtain⟨hp,hpo,ha,hb,hf,hg,hn,hL,hlv⟩:=E;have hwi:IntKind.i64.wrap (i:Int)=(i:Int):=Km (by omega);have fr:∀id,id<n->¬id=n:=by intro id _;omega
 have ne:¬0=n/\¬1=n:=by omega
 have hlb:(Uj Ls[i]).Lins.length=p.Functions.length:=hlv _ (getElem_mem hi);simp[lea,s4,s6,s1,s12,e0,e1,hwi,hi,Uo];refine⟨?_,?_⟩
 ·refine Jx (Tp p ha (k:=b)) (by simp) ?_;rintro r rfl;simp;refine⟨?_,?_⟩
  ·refine Mf hp hf hlb ?_;simp[Jb];exact hK _ _ (by simp[s1,s12]) (λid hid=>by simp[fr id hid]) (by simp) (by simp[Jb])
  ·refine Mf hp hf hlb ?_;simp[Jb];exact hK _ _ (by simp[s1,s12]) (λid hid=>by simp[fr id hid]) (by simp) (by simp[Jb])
 ·refine Jx (Tp p ha (k:=b)) (by simp) ?_;rintro r rfl;simp;refine Mf hp hf hlb ?_;simp[Jb];exact hK _ _ (by simp[s1,s12]) (λid hid=>by simp[fr id hid]) (by simp) (by simp[Jb])
theorem Jpd{p:Jo}{Ls:List (List Jc)}{a b i:Nat}{nE:Int}(E:N3 p Ls a b nE)(hi:i<Ls.length)(s4:s 4 = .ptr 0 0 0)(s6:s 6 = .ptr 1 0 0)(s1:s 1 = .sl 1 (Ls.map Uo))(s12:s 12 = .int .i64 ((i:Int)+1))(e0:h 0=some ⟨true,2,[Jg p]⟩)(e1:h 1=some ⟨true,2,[Kr ⟨a,b⟩]⟩)
 (hK:∀s' h',(∀j∈[1,3,4,6,10,11,12,13],s' j=s j)->(∀id,id<n->h' id=h id)->s' 14 = .ptr n 0 0->h' n=some ⟨true,2,[Jb (U6 p (Uj Ls[i]) ((p.Rules[a]'E.ha).Calls[b]'E.hb).Func)]⟩->Jt prog ks .normal s' h' (n+1) Q) (h0:1<n):rC prog leb ks s h n Q:=by
 obtain⟨hp,hpo,ha,hb,hf,hg,hn,hL,hlv⟩:=E;have hwi:IntKind.i64.wrap (i:Int)=(i:Int):=Km (by omega);have fr:∀id,id<n->¬id=n:=by intro id _;omega
 have ne:¬0=n/\¬1=n:=by omega
 have hlb:(Uj Ls[i]).Lins.length=p.Functions.length:=hlv _ (getElem_mem hi);simp[leb,s4,s6,s1,s12,e0,e1,hwi,hi,Uo];refine⟨?_,?_⟩
 ·refine Jx (Fq p ha hb) (by simp) ?_;rintro r rfl;simp;refine⟨?_,?_⟩
  ·refine Mf hp hg hlb ?_;simp[Jb];exact hK _ _ (by simp[s1,s12]) (λid hid=>by simp[fr id hid]) (by simp) (by simp[Jb])
  ·refine Mf hp hg hlb ?_;simp[Jb];exact hK _ _ (by simp[s1,s12]) (λid hid=>by simp[fr id hid]) (by simp) (by simp[Jb])
 ·refine Jx (Fq p ha hb) (by simp) ?_;rintro r rfl;simp;refine Mf hp hg hlb ?_;simp[Jb];exact hK _ _ (by simp[s1,s12]) (λid hid=>by simp[fr id hid]) (by simp) (by simp[Jb])
theorem Kc3{a:AC}{md:X5}{t:Jc}{acc:List X1}{v:AV}{k10 k b:Nat}(ha:a=leo/\b=16\/a=leq/\b=18)(s11:s 11=v)(s10:s 10 = .ptr k10 0 0)(sb:s b = .ptr k 0 0)(e10:h k10=some ⟨true,6,[Kz md]⟩)(L:V3 t k h n)(B:Kj 2 4 (acc.map Kv) v h n)(hw:U9 md.System.Rows<=1048576)(hl:acc.length<=3000000)(hn2:2<n)
 (hK:∀s' h' n',(∀j∈[1,3,4,6,10,12,13,15],s' j=s j)->n<=n'->(∀id z rows,id<n->h id=some ⟨true,z,rows⟩->h' id=h id)->Kj 2 4 ((acc++[(⟨md.System,t⟩:X1)]).map Kv) (s' 11) h' n'->Jt prog ks .normal s' h' n' Q):rC prog a ks s h n Q:=by
 obtain⟨q,hkn,hqn,hkb,hqb⟩:=L;have ne:¬q=n/\¬n=q/\¬n=n+1/\¬n+1=n/\¬n+1=q/\¬q=n+1:=by omega
 have fr:∀id,id<n->¬id=n/\¬id=n+1/\¬id=n+1+1:=by intro id _;omega
 have hqv:∀l,v ≠ .ref q 0 l:=λl e=>by have:=(B.lt e).2.2.1;rw[hqb]at this;simp at this
 rcases ha with ⟨rfl,rfl⟩|⟨rfl,rfl⟩
 all_goals
  first|simp[leo,s11,s10,sb,e10,hkb] |simp[leq,s11,s10,sb,e10,hkb]
  refine Jx (J6u md.System hw) (by simp) ?_;rintro r rfl;simp[I7,hqb,ne];refine Q7 (rows:=acc.map Kv) (rows2:=[[.int .i64 md.System.N,.us 2 (md.System.Rows.map Ja),.int .i64 t.Const,.us 1 (Ji t.Coeffs)]]) (B.keep (n':=n+1+1) (by omega) λid _ hid e=>?_) (by simp) (λl e=>by have:=(B.lt e).2.1;omega) (by omega) (by simp;unfold Jd;omega) ?_
  ·have:¬id=q:=λe'=>hqv _ (by rw[<-e'];exact e)
   simp[fr id hid,this]
  intro h1 f1 f2;simp;refine hK _ _ _ (by simp) (by omega) ?_ ?_
  ·intro id z rows h1' h3';have:¬id=q:=by rintro rfl;rw[hqb]at h3';simp at h3'
   rw[f2 id (by omega) (by omega) λl e=>B.not_box h3' e];simp[fr id h1',this]
  ·simp;exact .inr ⟨n+2,by omega,by omega,by simp,by simp[f1,Kv]⟩
end
section
variable {ks:List Kt}{s:Jm}{h h':J8}{n:Nat}{Q:Xb}
theorem Jsl{md:X5}{la lb:Jc}{a b k10 k13 k14:Nat}{K:Int}(s6:s 6 = .ptr 1 0 0)(s10:s 10 = .ptr k10 0 0)(s13:s 13 = .ptr k13 0 0)(s14:s 14 = .ptr k14 0 0)(s15:s 15 = .int .i64 K)(e1:h 1=some ⟨true,2,[Kr ⟨a,b⟩]⟩)(e10:h k10=some ⟨true,6,[Kz md]⟩)(e13:h k13=some ⟨true,2,[Jb la]⟩)(e14:h k14=some ⟨true,2,[Jb lb]⟩)
 (hK:∀s' h' n' k,(∀j∈[1,3,4,6,10,11,12,13,15],s' j=s j)->n<=n'->(∀id,id<n->h' id=h id)->s' 17 = .bool (Ib md la b lb K).isSome->s' 16 = .ptr k 0 0->V3 ((Ib md la b lb K).getD Jj) k h' n'->Jt prog ks .normal s' h' n' Q):rC prog led ks s h n Q:=by
 have fr:∀id,id<n->¬id=n/\¬id=n+1:=by intro id _;omega
 simp[led,s6,s10,s13,s14,s15,e1,e10,e13,e14,Kr];refine Je (J67 md la b lb K) (by simp) ?_;rintro r rfl;rw[Xm];generalize Ib md la b lb K=T at *;simp[Ja];exact hK _ _ _ (n+1) (by simp) (by omega) (λid hid=>by simp[fr id hid]) (by simp) (by simp) ⟨n,by omega,by omega,by simp,by simp⟩
theorem Jpl{md:X5}{la:Jc}{k10 k13:Nat}(s10:s 10 = .ptr k10 0 0)(s13:s 13 = .ptr k13 0 0)(e10:h k10=some ⟨true,6,[Kz md]⟩)(e13:h k13=some ⟨true,2,[Jb la]⟩)
 (hK:∀s' h' n' k,(∀j∈[1,3,4,6,10,11,12],s' j=s j)->n<=n'->(∀id,id<n->h' id=h id)->s' 19 = .bool (Yb la md.Params md.System.N).isSome->s' 18 = .ptr k 0 0->V3 ((Yb la md.Params md.System.N).getD Jj) k h' n'->Jt prog ks .normal s' h' n' Q):rC prog lep ks s h n Q:=by
 have fr:∀id,id<n->¬id=n/\¬id=n+1:=by intro id _;omega
 simp[lep,s10,s13,e10,e13,Kz];refine Je (J0q md la md.Params) (by simp[Kz]) ?_;rintro r rfl;rw[Xm];generalize Yb la md.Params md.System.N=T at *;simp[Ja];exact hK _ _ _ (n+1) (by simp) (by omega) (λid hid=>by simp[fr id hid]) (by simp) (by simp) ⟨n,by omega,by omega,by simp,by simp⟩
theorem Jt7{p:Jo}{Ls:List (List Jc)}{a b k10:Nat}{nE:Int}{F:Option (List X1)}(E:N3 p Ls a b nE)(s1:s 1 = .sl 1 (Ls.map Uo))(s3:s 3 = .int .i64 nE)(s4:s 4 = .ptr 0 0 0)(s6:s 6 = .ptr 1 0 0)(s10:s 10 = .ptr k10 0 0)(hk10:1<k10/\k10<n)(hn2:2<n)
 (e0:h 0=some ⟨true,2,[Jg p]⟩) (e1:h 1=some ⟨true,2,[Kr ⟨a,b⟩]⟩) (e10:h k10=some ⟨true,6,[Kz (Uc p ⟨a,b⟩)]⟩) (B0:Kj 2 4 [] (s 11) h n) (hF:Yo [] (Il p Ls ⟨a,b⟩ nE)=F)
 (hret:F=Option.none->∀s' h' n' (acc:List X1),acc.length<=6->Kj 2 4 (acc.map Kv) (s' 8) h' n'->s' 9 = .bool false->Jt prog ks .ret s' h' n' Q)
 (hK:∀s' h' n' (acc:List X1),acc.length<=6->Kj 2 4 (acc.map Kv) (s' 11) h' n'->some acc=F->Jt prog ks .normal s' h' n' Q):rC prog le3 ks s h n Q:=by
 have hE:=E;obtain⟨hp,hpo,ha,hb,hf,hg,hnn,hL,hlv⟩:=E;have hsz:=Sn hpo (k:=b) ha;generalize hmd:Uc p ⟨a,b⟩=md at *;unfold Il at hF;rw[hmd]at hF;simp[le3];refine Jed [1,3,4,6,10] 12 nE.toNat 1 (λi s h m=>n<=m/\h 0=some ⟨true,2,[Jg p]⟩/\h 1=some ⟨true,2,[Kr ⟨a,b⟩]⟩/\h k10=some ⟨true,6,[Kz md]⟩/\∃acc,acc.length<=2*i/\Kj 2 4 (acc.map Kv) (s 11) h m/\Yo acc (((List.range nE.toNat).drop i).flatMap (Ix p md ⟨a,b⟩ Ls nE))=F) (by unfold Jd;omega) (by simp) ⟨Nat.le_refl _,e0,e1,e10,[],by simp,by simpa using B0,by simpa using hF⟩ ?_ ?_
 ·rintro i st h1 m1 R hi hk s12 hw ⟨hm1,e0,e1,e10,acc,hal,B,hJ⟩ hR hrt _;simp at hk;have s12:st 12 = .int .i64 ((i:Int)+1):=by simpa using s12
  have hir:i<(List.range nE.toNat).length:=by simpa using hi
  rw[drop_eq_getElem_cons hir,flatMap_cons]at hJ;simp only[List.getElem_range]at hJ;have hil:i<Ls.length:=by omega
  have hgd:Ls.getD i []=Ls[i]:=by simp[hil]
  have hle:(i:Int)+1<=nE:=by omega
  refine Jn (Jq [1,3,4,6,10,11,12] (λs=>s 27 = .bool true) (by simp[hk,s12,s3,hle]) ?_);intro Jv hk1 s27;simp at hk1;refine U2 s27 (Jn (Xd ?_));refine Jn (Jpp hE hil (by simp[hk1,hk,s4]) (by simp[hk1,hk,s6]) (by simp[hk1,hk,s1]) (by simp[hk1,s12]) e0 e1 ?_ (by omega));intro st2 h2 hk2 hf2 s13 e13;simp at hk2;rw[Wd];have z0:h2 0=some ⟨true,2,[Jg p]⟩:=by rw[hf2 0 (by omega),e0]
  have z1:h2 1=some ⟨true,2,[Kr ⟨a,b⟩]⟩:=by rw[hf2 1 (by omega),e1]
  refine Jn (Jpd hE hil (by simp[hk2,hk1,hk,s4]) (by simp[hk2,hk1,hk,s6]) (by simp[hk2,hk1,hk,s1]) (by simp[hk2,hk1,s12]) z0 z1 ?_ (by omega));intro Kq h3 hk3 hf3 s14 e14;simp at hk3;rw[Wd];have hf30:∀id,id<m1->h3 id=h1 id:=λid hid=>by rw[hf3 id (by omega),hf2 id hid]
  have y0:h3 0=some ⟨true,2,[Jg p]⟩:=by rw[hf30 0 (by omega),e0]
  have y1:h3 1=some ⟨true,2,[Kr ⟨a,b⟩]⟩:=by rw[hf30 1 (by omega),e1]
  have y10:h3 k10=some ⟨true,6,[Kz md]⟩:=by rw[hf30 k10 (by omega),e10]
  have y13:h3 m1=some ⟨true,2,[Jb (U6 p (Uj Ls[i]) (p.Rules[a]'ha).Func)]⟩:=by rw[hf3 m1 (by omega),e13]
  have B3:Kj 2 4 (acc.map Kv) (st 11) h3 (m1+1+1):=B.keep (by omega) λid _ hid _=>hf30 id hid
  refine Jq [1,3,4,6,10,11,12,13,14] (λs=>s 15 = .int .i64 0) (by simp) ?_;intro st4 hk4 s15;simp at hk4;refine Jq [1,3,4,6,10,11,12,13,14] (λs=>s 15 = .int .i64 (if (i:Int)+1=nE then 1 else 0)) ?_ ?_
  ·by_cases hq:(i:Int)+1=nE
   ·simp[hk4,hk3,hk2,hk1,hk,s12,s3,hq]
   ·simp[hk4,hk3,hk2,hk1,hk,s12,s3,hq,s15]
  intro Yz hk5 s15';simp at hk5;obtain⟨K,hKd⟩:∃K:Int,(if (i:Int)+1=nE then(1:Int)else 0)=K:=⟨_,rfl⟩;rw[hKd]at s15';have x13:Yz 13 = .ptr m1 0 0:=by simp[hk5,hk4,hk3,s13]
  have x14:Yz 14 = .ptr (m1+1) 0 0:=by simp[hk5,hk4,s14]
  have x6:Yz 6 = .ptr 1 0 0:=by simp[hk5,hk4,hk3,hk2,hk1,hk,s6]
  have x10:Yz 10 = .ptr k10 0 0:=by simp[hk5,hk4,hk3,hk2,hk1,hk,s10]
  refine Jn (Jsl (md:=md) (K:=K) x6 x10 x13 x14 s15' y1 y10 y13 e14 ?_);intro st6 h6 m6 k16 hk6 hm6 hf6 s17 s16 L16;simp at hk6;rw[Wd];generalize hT:Ib md (U6 p (Uj Ls[i]) (p.Rules[a]'ha).Func) b (U6 p (Uj Ls[i]) ((p.Rules[a]'ha).Calls[b]'hb).Func) K=T at *;have hobd:Mi p md ⟨a,b⟩ (Ls.getD i []) K=T.map λt=>⟨md.System,t⟩:=by rw[hgd,Jki ha hb,hT]
  have w0:h6 0=some ⟨true,2,[Jg p]⟩:=by rw[hf6 0 (by omega),y0]
  have w1:h6 1=some ⟨true,2,[Kr ⟨a,b⟩]⟩:=by rw[hf6 1 (by omega),y1]
  have w10:h6 k10=some ⟨true,6,[Kz md]⟩:=by rw[hf6 k10 (by omega),y10]
  have w13:h6 m1=some ⟨true,2,[Jb (U6 p (Uj Ls[i]) (p.Rules[a]'ha).Func)]⟩:=by rw[hf6 m1 (by omega),y13]
  have B6:Kj 2 4 (acc.map Kv) (st 11) h6 m6:=B3.keep hm6 λid _ hid _=>hf6 id hid
  have x11:st6 11=st 11:=by simp[hk6,hk5,hk4,hk3,hk2,hk1]
  cases T with
  |none=>
   simp only[Option.map_none]at hobd
   have hnone:F=Option.none:=by
    rw[<-hJ];unfold Ix;by_cases hq:(i:Int)+1=nE
    ·rw[if_pos hq]at hKd;rw[<-hKd]at hobd;rw[if_pos hq,hobd];rfl
    ·rw[if_neg hq]at hKd;rw[<-hKd]at hobd;rw[if_neg hq,hobd];rfl
   simp[s17]
   exact hrt _ _ _ (hret hnone _ _ _ acc (by omega) (by simpa[x11]using B6) (by simp))
  |some t=>
   simp only[Option.map_some]at hobd;simp only[Option.getD_some]at L16;simp[s17];refine Kc3 (md:=md) (t:=t) (acc:=acc) (v:=st 11) (k10:=k10) (k:=k16) (.inl ⟨rfl,rfl⟩) (by simp[x11]) (by simp[hk6,x10]) (by simp[s16]) w10 L16 B6 (by omega) (by omega) (by omega) ?_;intro st7 h7 m7 hk7 hm7 bx7 B7;simp at hk7;have u0:=bx7 0 _ _ (by omega) w0;have u1:=bx7 1 _ _ (by omega) w1;have u10:=bx7 k10 _ _ (by omega) w10;have u13:=bx7 m1 _ _ (by omega) w13;rw[w0]at u0;rw[w1]at u1;rw[w10]at u10;rw[w13]at u13;rw[Wd];have hw':IntKind.i64.wrap ((i:Int)+1+1)=(i:Int)+1+1:=by simpa using hw
   have x12:st7 12 = .int .i64 ((i:Int)+1):=by simp[hk7,hk6,hk5,hk4,hk3,hk2,hk1,s12]
   have x3:st7 3 = .int .i64 nE:=by simp[hk7,hk6,hk5,hk4,hk3,hk2,hk1,hk,s3]
   by_cases hq:(i:Int)+1=nE
   ·rw[if_pos hq]at hKd;subst hKd;have hrk:Ix p md ⟨a,b⟩ Ls nE i=[some ⟨md.System,t⟩,My p md ⟨a,b⟩ (Ls.getD i [])]:=by unfold Ix;rw[if_pos hq,hobd]
    rw[hrk]at hJ;simp only[cons_append,nil_append,Yo]at hJ;refine Jn ?_;simp[x12,x3,hq];refine Jpl (md:=md) (la:=U6 p (Uj Ls[i]) (p.Rules[a]'ha).Func) (k10:=k10) (k13:=m1) (by simp[hk7,hk6,x10]) (by simp[hk7,hk6,x13]) u10 u13 ?_;intro st8 h8 m8 k18 hk8 hm8 hf8 s19 s18 L18;simp at hk8;rw[Wd];rw[hgd,Jk9 ha]at hJ;generalize Yb (U6 p (Uj Ls[i]) (p.Rules[a]'ha).Func) md.Params md.System.N=U at *;have B8:Kj 2 4 ((acc++[(⟨md.System,t⟩:X1)]).map Kv) (st7 11) h8 m8:=B7.keep hm8 λid _ hid _=>hf8 id hid
    have v0:h8 0=some ⟨true,2,[Jg p]⟩:=by rw[hf8 0 (by omega),u0]
    have v1:h8 1=some ⟨true,2,[Kr ⟨a,b⟩]⟩:=by rw[hf8 1 (by omega),u1]
    have v10:h8 k10=some ⟨true,6,[Kz md]⟩:=by rw[hf8 k10 (by omega),u10]
    cases U with
    |none=>
     simp[Yo]at hJ;simp[s19]
     exact hrt _ _ _ (hret hJ.symm _ _ _ (acc++[⟨md.System,t⟩]) (by simp;omega) (by simpa[hk8]using B8) (by simp))
    |some u=>
     simp only[Option.map_some,Yo]at hJ;simp only[Option.getD_some]at L18;simp[s19];refine Kc3 (md:=md) (t:=u) (acc:=acc++[⟨md.System,t⟩]) (v:=st7 11) (k10:=k10) (k:=k18) (.inr ⟨rfl,rfl⟩) (by simp[hk8]) (by simp[hk8,hk7,hk6,x10]) (by simp[s18]) v10 L18 B8 (by omega) (by simp;omega) (by omega) ?_;intro st9 h9 m9 hk9 hm9 bx9 B9;simp at hk9;have t0:=bx9 0 _ _ (by omega) v0;have t1:=bx9 1 _ _ (by omega) v1;have t10:=bx9 k10 _ _ (by omega) v10;rw[v0]at t0;rw[v1]at t1;rw[v10]at t10;have hw2:IntKind.i64.wrap (nE+1)=nE+1:=by rw[<-hq];exact hw'
     simp[hk9,hk8,hq,x12,hw2];exact hR _ _ _ (by simp[hk9,hk8,hk7,hk6,hk5,hk4,hk3,hk2,hk1,hk]) (by simp[<-hq]) ⟨by omega,t0,t1,t10,_,by simp;omega,by simpa using B9,hJ⟩
   ·rw[if_neg hq]at hKd;subst hKd;have hrk:Ix p md ⟨a,b⟩ Ls nE i=[some ⟨md.System,t⟩]:=by unfold Ix;rw[if_neg hq,hobd]
    rw[hrk]at hJ;simp only[cons_append,nil_append,Yo]at hJ;simp[x12,x3,hq,hw'];exact hR _ _ _ (by simp[hk7,hk6,hk5,hk4,hk3,hk2,hk1,hk]) (by simp) ⟨by omega,u0,u1,u10,_,by simp;omega,by simpa using B7,hJ⟩
 ·rintro st h1 m1 R hk s12 ⟨hm1,e0,e1,e10,acc,hal,B,hJ⟩ hrt hX;simp at hk;rw[drop_eq_nil_of_le (by simp)]at hJ;simp only[flatMap_nil,Yo]at hJ;refine Jn (Jq [11] (λs=>s 27 = .bool false) (by simp[hk,s12,s3];omega) ?_);intro Jv hk1 s27;simp at hk1;refine U1 s27 ?_;refine hX _ _ _ _ ?_;simp;exact hK _ _ _ acc (by omega) (by simpa[hk1]using B) hJ
end
theorem Jc8{p:Jo}{Ls:List (List Jc)}{a b:Nat}{nE:Int}(E:N3 p Ls a b nE):Holds prog 123 [.agg (Jg p),.sl 1 (Ls.map Uo),.agg (Kr ⟨a,b⟩),i64 nE] (λr=>∃o:List X1,r = .tup [.us 4 (o.map Kv),.bool (Yo [] (Il p Ls ⟨a,b⟩ nE)).isSome]/\o.length<=6/\∀y,Yo [] (Il p Ls ⟨a,b⟩ nE)=some y->o=y):=by
 obtain⟨f,hff,_⟩:=Fk E.hpo (getElem_mem E.ha)
 have hmd:Qj (p.Rules[a]'E.ha) (Iv p (p.Rules[a]'E.ha))=Uc p ⟨a,b⟩:=by
  have:=Jx6 E.hpo E.ha hff;have hfa:Iv p (p.Rules[a]'E.ha)=f:=by unfold Iv;rw[hff];rfl
  rw[hfa,<-this];rfl
 refine Jp func123 Jn8 rfl (by simp[K6p]) ?_;simp[K6p,le0,le1,Kr];refine E2 (J3c p E.hp E.hpo E.ha) (by simp) ?_;rintro _ rfl;rw[hmd];generalize hF:Yo [] (Il p Ls ⟨a,b⟩ nE)=F;have hEF:=hF;simp[le2];refine Jt7 (k10:=2) (F:=F) E (by simp) (by simp) (by simp) (by simp) (by simp) (by omega) (by omega) (by simp) (by simp[Kr]) (by simp) (.inr ⟨3,by omega,by omega,by simp,by simp⟩) hF ?_ ?_
 ·intro hno s' h' n' acc hal B s9;obtain⟨h2,hd,_⟩:=B.dt;subst hno;simp[s9,hd];exact⟨acc,rfl,hal⟩
 ·intro s' h' n' acc hal B hs;obtain⟨h2,hd,_⟩:=B.dt;subst hs;simp[le4,hd];exact hal
def lq0:AC:=(.reg [ZB 2 0,ZB 3 1,Zz 4 4,Zt 5 false])
def lq1:AC:=(Zq [Zl 11 true 2 2,Zl 12 true 2 3,Zc 13 121 [.t 11,.t 12],ZN 14 13] (.cond (.t 14) (Zq [Zo 15 (.bsl 4 []),Zv 4 15,Zt 5 false] .ret) .skip))
def lq2:AC:=(.reg [Zo 16 (.bsl 4 []),Zv 6 16])
def lq3:AC:=(.reg [Zl 17 true 2 2,Zc 18 122 [.t 17],Zv 7 18])
def lqd:AC:=(.draw (.op (Zl 26 true 2 2) (.op (Zf 27 0 3) (.op (Zl 28 false 1 27) (.op (Zv 29 7) (.op (Zv 30 8) (.op (Zx 31 2 29 30) (.op (Zl 32 true 2 31) (.op (Zf 33 1 3) (.op (Zl 34 false 1 33) (.op (Zv 35 8) (.op (Zx 36 1 34 35) (.op (Zl 37 false 1 36) (.op (Zc 38 123 [.t 26,.t 28,.t 32,.t 37]) (.op (Zv 25 38) (.op (Ze 39 25 0) (.op (Ze 40 25 1) (.op (Zv 9 39) (.op (Zv 10 40) .fin)))))))))))))))))))
def lq4:AC:=(Zq [Zi 8 0] (.blk 0 (.loop (.seq (Zq [Zv 19 8,Zv 20 7,Zn 21 20,Zb 22 .lss 19 21] (Zw 22 0)) (.seq (.blk 1 (.seq lqd (.seq (Zq [Zv 41 10,ZN 42 41] (.cond (.t 42) (Zq [Zo 43 (.bsl 4 []),Zv 4 43,Zt 5 false] .ret) .skip)) (.reg [Zv 44 6,Zv 45 9,ZA 46 64 4 44 45,Zv 6 46])))) (.reg [Zv 23 8,Zk 24 .add 23 1,Zv 8 24]))))))
def lq5:AC:=(.reg [Zv 47 6,Zv 4 47,Zt 5 true])
def a49:Jl:=⟨48,[.t 4,.t 5],(.seq lq0 (.seq lq1 (.seq lq2 (.seq lq3 (.seq lq4 (.seq lq5 .ret))))))⟩
theorem Jzj:Jh prog f49=some a49:=by kernel_rfl
theorem Jir{p:Jo}{x:Xk}{a b i0:Nat}(hp:X2 p<=1048576)(E:Np p x a b i0):N3 p x.Levels a b (x.Edges[i0]'E.he):=⟨hp,E.hpo,E.ha,E.hb,E.hf,E.hg,E.hn,E.hL,E.lv⟩
section
variable {ks:List Kt}{s:Jm}{h h':J8}{n:Nat}{Q:Xb}
theorem Jq6{p:Jo}(hp:X2 p<=1048576){x:Xk}(hR:Gc p x=true){F:Option (List X1)}(hn:3<n)(s2:s 2 = .ptr 0 0 0)(s3:s 3 = .ptr 1 0 0)(s7:s 7 = .ref 3 0 (K1 p).length)(B0:Kj 1 4 [] (s 6) h n)(e0:h 0=some ⟨true,2,[Jg p]⟩)(e1:h 1=some ⟨true,2,[X3 x]⟩)(e3:h 3=some ⟨false,2,(K1 p).map Yd⟩)(hF:Yo [] (C6 p x)=F)
 (hret:F=Option.none->∀s' h' n' k,s' 4 = .ref k 0 0->h' k=some ⟨false,4,[]⟩->s' 5 = .bool false->Jt prog ks .ret s' h' n' Q)
 (hK:∀s' h' n' acc,Kj 1 4 (acc.map Kv) (s' 6) h' n'->some acc=F->Jt prog ks .normal s' h' n' Q):rC prog lq4 ks s h n Q:=by
 have h16:=Fb (p:=p);obtain⟨hpo,hL,hE,_,_⟩:=Te hR;simp[lq4];refine Ka [2,3,7] 8 (K1 p).length (λi s h m=>3<m/\h 0=some ⟨true,2,[Jg p]⟩/\h 1=some ⟨true,2,[X3 x]⟩/\h 3=some ⟨false,2,(K1 p).map Yd⟩/\∃acc,acc.length<=6*i/\Kj 1 4 (acc.map Kv) (s 6) h m/\Yo acc (Ff p x i)=F) (by unfold Jd;omega) (by simp) ⟨hn,e0,e1,e3,[],by simp,by simpa using B0,by simpa[Ff,C6]using hF⟩ ?_ ?_
 ·rintro i st h m R hi hg hk s8 hw' ⟨m1,e0,e1,e3,acc,hal,B,hJ⟩ hRr hrt _;simp at hk;unfold Ff at hJ;rw[J51 hi hE]at hJ;obtain⟨a,b,hab,E⟩:=J6t hR hi;rw[hab]at hJ;have hie:=E.he;refine Jn (Jq [2,3,6,7,8] (λs=>s 22 = .bool true) (by simp[hk,s8,s7,hi,e3]) ?_);intro Jv hk1 s22;simp at hk1;refine U2 s22 (Jn (Xd ?_));generalize hG:Yo [] (Il p x.Levels ⟨a,b⟩ x.Edges[i])=G;refine Xu [2,3,6,7,8] (λs h2 n2=>(∀id,id<m->h2 id=h id)/\s 10 = .bool G.isSome/\∃o:List X1,Kj 1 4 (o.map Kv) (s 9) h2 n2/\(∀j l,s 9 = .ref j 0 l->m<=j)/\m<=n2/\o.length<=6/\∀y,G=some y->o=y) ?_ ?_
  ·simp[lqd,hk1,hk,s2,s3,s7,s8,e0,e1,e3,hi,hab,hie,Yd,X3];refine Jx (Jc8 (Jir hp E)) (by simp[Kr]) ?_;rintro r ⟨o,rfl,ho,hy⟩;simp;refine⟨λid hid e=>by omega,by rw[hG],o,.inr ⟨m,by omega,by omega,by simp,by simp⟩,ho,λy e=>hy y (by rw[hG];exact e)⟩
  rintro st2 h2 n2 hk2 ⟨hf2,s10,o,Bo,Bm,hn2,ho,hoy⟩;simp at hk2;have c0:h2 0=some ⟨true,2,[Jg p]⟩:=by rw[hf2 0 (by omega),e0]
  have c1:h2 1=some ⟨true,2,[X3 x]⟩:=by rw[hf2 1 (by omega),e1]
  have c3:h2 3=some ⟨false,2,(K1 p).map Yd⟩:=by rw[hf2 3 (by omega),e3]
  have B2:Kj 1 4 (acc.map Kv) (st2 6) h2 n2:=by rw[hk2.2.2.1,hk1.2.2.1];exact B.keep hn2 λid _ hid _=>hf2 id hid
  rw[Jnk,J31]at hJ;change((Yo [] (Il p x.Levels ⟨a,b⟩ x.Edges[i])).map _).bind _=F at hJ;rw[hG]at hJ
  cases G with
  |none=>
   simp at hJ;simp[s10]
   exact hrt _ _ _ (hret hJ.symm _ _ _ n2 (by simp) (by simp) (by simp))
  |some y=>
   have:=hoy y rfl;subst this;simp at hJ;simp[s10];refine J6l B2 Bo ?_ (by simp;unfold Jd;omega) ?_
   ·intro j k l e1 e2;have g1:=B.lt (i:=j) (k:=k) (by rw[<-hk1.2.2.1,<-hk2.2.2.1];exact e1);have g2:=Bm _ _ e2;omega
   intro h3 hn3 hf3;have bx0:∀id z rows,h2 id=some ⟨true,z,rows⟩->id<n2->h3 id=h2 id:=λid z rows e hid=>hf3 id (by omega) (λl e'=>B2.not_box e e') (λl e'=>Bo.not_box e e')
   have bx3:h3 3=h2 3:=by
    refine hf3 3 (by omega) (λl e'=>?_) (λl e'=>?_)
    ·have g:=(B2.lt e').2.2.1;rw[c3]at g;simp at g
    ·have g:=Bm _ _ e';omega
   have d0:h3 0=some ⟨true,2,[Jg p]⟩:=by rw[bx0 0 _ _ c0 (by omega),c0]
   have d1:h3 1=some ⟨true,2,[X3 x]⟩:=by rw[bx0 1 _ _ c1 (by omega),c1]
   have d3:h3 3=some ⟨false,2,(K1 p).map Yd⟩:=by rw[bx3,c3]
   simp[hk2,hk1,s8,hw'];exact hRr _ _ _ (by simp[hk2,hk1,hk]) (by simp) ⟨by omega,d0,d1,d3,acc++o,by simp;omega,.inr ⟨n2,by omega,by omega,by simp,by simpa using hn3⟩,hJ⟩
 ·rintro st h m R hk s8 ⟨m1,e0,e1,e3,acc,hal,B,hJ⟩ hrt hX;simp at hk;unfold Ff at hJ;rw[drop_eq_nil_of_le (by simp;omega)]at hJ;simp only[flatMap_nil,Yo]at hJ;refine Jn (Jq [6] (λs=>s 22 = .bool false) (by simp[hk,s8,s7,e3]) ?_);intro Jv hk1 s22;simp at hk1;refine U1 s22 ?_;refine hX _ _ _ _ ?_;simp;exact hK _ _ _ acc (by rw[hk1];exact B) hJ
end
theorem J1j(p:Jo)(hp:X2 p<=1048576)(x:Xk):Holds prog 49 [.agg (Jg p),.agg (X3 x)] (λr=>r = .tup [.us 4 (((Vb p x).getD []).map Kv),.bool (Vb p x).isSome]):=by
 refine Jp func49 Jzj rfl (by simp[a49]) ?_;simp[a49,lq0,lq1];refine Je (Jc4 p hp x) (by simp) ?_;rintro r rfl;generalize hO:Vb p x=O;unfold Vb at hO;cases hB:Gc p x
 ·rw[hB]at hO;simp at hO;subst hO;simp
 rw[hB,if_pos rfl]at hO;simp[lq2,lq3];refine Je (Sz p hp) (by simp) ?_;rintro r rfl;simp;refine Jq6 hp hB (by omega) (by simp) (by simp) (by simp) (.inr ⟨2,by omega,by omega,by simp,by simp⟩) (by simp) (by simp) (by simp) hO ?_ ?_
 ·intro hno s' h' n' k x4 hk4 x5;subst hno;simp[x4,x5,hk4]
 ·intro s' h' n' acc B hs;obtain⟨h2,hd,_⟩:=B.dt;rw[<-hs];simp[lq5,hd]
def K4p:Jl:= ⟨6,[.t 2],(Zq [Zt 2 false] (Zq [Zv 3 0,Zc 4 102 [.t 3,(.k (.int .i64 0)),(.k (.int .i64 1000000000))],ZN 5 4,Zv 2 5] .ret))⟩
theorem Joo:Jh prog f309=some K4p:=by kernel_rfl
def K5q:Jl:= ⟨52,[(.c 4 true 2),.t 5],(Zq [ZB 2 0,ZR 4,Zt 5 false] (.seq (Zq [Zl 10 true 2 2,Zc 11 277 [.t 10],ZN 12 11,Zv 13 12,Zg 14 13 false (.mv (.t 1)),Zg 15 13 false (.len false (.t 14)),Zg 16 13 false (.fld 1 (.t 2)),Zg 17 13 false (.ld false 1 (.t 16)),Zg 18 13 false (.len false (.t 17)),Zg 19 13 false (.bin .neq (.t 15) (.t 18)),ZP 20 13 19,Zv 21 20,Zg 22 21 false (.mv (.t 1)),Zg 23 21 false (.call (.k (.fn (.func 233) [] [])) [.t 22,(.k (.fn (.func 309) [] []))]),ZP 24 21 23] (.cond (.t 24) (Zq [Zo 25 (.build [(.int .i64 0),(.nil 1)] []),Zs 2 4 25,Zt 5 false] .ret) .skip)) (Zq [Zf 26 0 2,Zl 27 false 1 26,Zc 28 178 [(.k (.int .i64 0)),.t 27],ZR 6,Zs 2 6 28] (Zq [Zt 7 true] (.seq (Zq [Zv 29 1,Zn 30 29,Zi 31 0] (.blk 0 (.loop (Zq [Zb 32 .lss 31 30] (.seq (Zw 32 0) (.seq (.blk 1 (Zq [Zv 33 31,Zx 34 1 29 31,Zl 35 false 1 34,Zv 8 33,Zv 9 35] (.seq (.draw (.op (Zl 37 true 2 6) (.op (Zv 38 9) (.op (Zf 39 1 2) (.op (Zl 40 false 1 39) (.op (Zv 41 8) (.op (Zx 42 2 40 41) (.op (Zl 43 true 2 42) (.op (Zc 44 193 [.t 37,.t 38,.t 43]) (.op (Zv 36 44) (.op (Ze 45 36 0) (.op (Ze 46 36 1) (.hop (Zs 2 6 45) [] (.op (Zv 7 46) .fin)))))))))))))) (Zq [Zv 47 7,ZN 48 47] (.cond (.t 48) (Zq [Zo 49 (.build [(.int .i64 0),(.nil 1)] []),Zs 2 4 49,Zt 5 false] .ret) .skip))))) (.reg [Zk 50 .add 31 1,Zv 31 50]))))))) (Zq [Zl 51 true 2 6,Zs 2 4 51,Zt 5 true] .ret))))))⟩
theorem Jtw:Jh prog f278=some K5q:=by kernel_rfl
def K70:Jl:= ⟨57,[(.c 4 true 2),.t 5],(Zq [ZB 2 0,ZR 4,Zt 5 false] (.seq (Zq [Zl 10 true 2 2,Zc 11 258 [.t 10],ZN 12 11,Zv 13 12,Zg 14 13 false (.mv (.t 1)),Zg 15 13 false (.len false (.t 14)),Zg 16 13 false (.fld 1 (.t 2)),Zg 17 13 false (.ld false 1 (.t 16)),Zg 18 13 false (.len false (.t 17)),Zg 19 13 false (.bin .neq (.t 15) (.t 18)),ZP 20 13 19] (.cond (.t 20) (Zq [Zo 21 (.build [(.int .i64 0),(.nil 1)] []),Zs 2 4 21,Zt 5 false] .ret) .skip)) (Zq [Zf 22 0 2,Zl 23 false 1 22,Zc 24 99 [(.k (.int .i64 0)),.t 23],ZR 6,Zs 2 6 24] (.seq (Zq [Zi 7 0] (.blk 0 (.loop (.seq (Zq [Zv 25 7,Zv 26 1,Zn 27 26,Zb 28 .lss 25 27] (Zw 28 0)) (.seq (.blk 1 (.seq (.draw (.op (Zl 32 true 2 6) (.op (Zv 33 1) (.op (Zv 34 7) (.op (Zx 35 1 33 34) (.op (Zl 36 false 1 35) (.op (Zf 37 1 2) (.op (Zl 38 false 1 37) (.op (Zv 39 7) (.op (Zx 40 2 38 39) (.op (Zl 41 true 2 40) (.both (.op (Zc 42 98 [.t 32,.t 36,.t 41]) (.op (Zv 31 42) (.op (Ze 43 31 0) (.op (Ze 44 31 1) (.op (ZR 8) (.hop (Zs 2 8 43) [] (.op (Zv 9 44) .fin))))))) (.op (ZR 8) (.op (Zc 42 98 [.t 32,.t 36,.t 41]) (.op (Zv 31 42) (.op (Ze 43 31 0) (.op (Ze 44 31 1) (.hop (Zs 2 8 43) [] (.op (Zv 9 44) .fin))))))))))))))))))) (.seq (Zq [Zv 45 9,ZN 46 45,Zv 47 46,Zg 48 47 false (.mv (.t 1)),Zg 49 47 false (.mv (.t 7)),Zg 50 47 false (.ixa 1 (.t 48) (.t 49)),Zg 51 47 false (.ld false 1 (.t 50)),Zg 52 47 false (.bin .lss (.t 51) (.k (.int .i64 0))),ZP 53 47 52] (.cond (.t 53) (Zq [Zo 54 (.build [(.int .i64 0),(.nil 1)] []),Zs 2 4 54,Zt 5 false] .ret) .skip)) (.reg [Zl 55 true 2 8,Zs 2 6 55])))) (.reg [Zv 29 7,Zk 30 .add 29 1,Zv 7 30])))))) (Zq [Zl 56 true 2 6,Zs 2 4 56,Zt 5 true] .ret)))))⟩
theorem Jp4:Jh prog f275=some K70:=by kernel_rfl
def H4:List (Int×Jc)->Jc->Option Jc
 | [],o=>some o
 |p::l,o=>match K9 o p.1 p.2 with
  |some o'=>if p.1<0 then Option.none else H4 l o'
  |Option.none=>Option.none
def Iq(x:Xx)(m:List Int):Option Jc:=
 if Q3 x&&decide (m.length=x.Rows.length)then H4 (m.zip x.Rows) (Jr 0 x.N)else Option.none
theorem J4p:∀(l:List (Int×Jc)) (o:Jc),(∃p∈l,Kh p.1 0 1000000000=false)->H4 l o=Option.none
 | [],o,h=>by obtain⟨p,hp,_⟩:=h;cases hp
 |q::l,o,h=>by
  obtain⟨p,hp,hb⟩:=h;simp only[H4];split
  ·rename_i o' ho;split
   ·rfl
   ·rename_i hq;rcases List.mem_cons.1 hp with rfl|hp
    ·exfalso
     have hk:Kx p.1=true:=by
      cases hc:Kx p.1
      ·unfold K9 at ho;rw[hc]at ho;simp at ho
      ·rfl
     rw[Oh]at hk;simp[Kh]at hb;omega
    ·exact J4p l o' ⟨p,hp,hb⟩
  ·rfl
theorem Jts{m:List Int}{rows:List Jc}(hl:m.length=rows.length)(h:m.all (λv=>Kh v 0 1000000000)=false):∃p∈m.zip rows,Kh p.1 0 1000000000=false:=by rw[List.all_eq_false]at h;obtain⟨v,hv,hb⟩:=h;obtain⟨i,hi,rfl⟩:=List.mem_iff_getElem.1 hv;exact⟨(m[i],rows[i]),List.mem_iff_getElem.2 ⟨i,by simp;omega,by simp⟩,by simpa using hb⟩
theorem J4e(n:Int):Holds prog 309 [i64 n] (λr=>r = .bool (!(Kh n 0 1000000000))):=by refine Jp func309 Joo rfl (by simp[K4p]) ?_;simp[K4p];refine Je (O4 n 0 1000000000) (by simp) ?_;rintro r rfl;simp
set_option maxHeartbeats 1000000 in
theorem J5z(x:Xx)(m:List Int):Holds prog 278 [.agg (Ky x),.sl 1 (Ji m)] (λr=>r=Ku (Iq x m)):=by
 refine Jp func278 Jtw rfl (by simp[K5q]) ?_;simp[K5q,Ky];refine Je (J00 x) (by simp[Ky]) ?_;rintro r rfl;unfold Iq;cases h1:Q3 x
 ·simp[Ku,Jj,Ja,Ji]
 simp;intro hlm hlr;by_cases h2:m.length=x.Rows.length
 case neg=>simp[h2,Ku,Jj,Ja,Ji];omega
 simp[h2]
 refine Bk (p:=λn => !(Kh n 0 1000000000)) (rowOf:=λn=>[i64 n]) (eltOf:=i64) func233 J8q rfl func292 J8m rfl (λx=>by simp) m
  (λx _=>Nh (J4e x) rfl rfl) ?_
 rw[Ek (λn:Int=>Kh n 0 1000000000)];cases h3:m.all (λn=>Kh n 0 1000000000)
 ·rw[J4p _ _ (Jts h2 h3)];simp[Ku,Jj,Ja,Ji]
 simp;refine Je (On 0 x.N) (by simp) ?_;rintro r rfl;simp[Ja];intro _;have hzl:(m.zip x.Rows).length=m.length:=by simp[h2]
 refine Ka [2,4,6,29,30] 31 m.length (λi s h n=>h 0=some ⟨true,2,[[.int .i64 x.N,.sl 2 (x.Rows.map Jb)]]⟩/\h 1=some ⟨true,2,[[.int .i64 0,.nil 1]]⟩/\3<n /\
  ∃(o:Jc) (id:Nat),h 3=some ⟨true,2,[[.int .i64 o.Const,.ref id 0 o.Coeffs.length]]⟩/\h id=some ⟨false,1,Ji o.Coeffs⟩/\id<n/\(id=2\/3<id)/\H4 ((m.zip x.Rows).drop i) o=H4 (m.zip x.Rows) (Jr 0 x.N))
  hlm (by simp) ⟨by simp,by simp,by simp,Jr 0 x.N,2,by simp,by simp,by omega,by omega,rfl⟩ ?_ ?_
 ·rintro i s h n R hi hg hk s31 hw ⟨e0,e1,hn,o,id,e3,eid,hidn,hid,hJ⟩ hR hret _;simp at hk;have hir:i<x.Rows.length:=by omega
  rw[drop_eq_getElem_cons (by omega:i<(m.zip x.Rows).length)]at hJ;simp only[H4,List.getElem_zip]at hJ;have hm:=List.all_eq_true.1 h3 _ (getElem_mem hi);simp[Kh]at hm;have n0:¬0=n:=by omega
  have n1:¬1=n:=by omega
  have n3:¬3=n:=by omega
  have n3':¬n=3:=by omega
  have nid:¬id=n:=by omega
  simp[hk,s31,hi,hir,e0,e3];refine Jx (If o (m[i]'hi) (x.Rows[i]'hir)) (by simp[Jb,eid]) ?_;rintro r rfl;cases ho:K9 o m[i] x.Rows[i]
  ·rw[ho]at hJ;simp[Ku,Jj,Ja,hk,e1,e3,n1,n3];refine hret _ _ _ ?_;simp[hk,<-hJ,Ku,Jj,Ja,Ji]
  ·rename_i o';rw[ho]at hJ;simp only at hJ;rw[if_neg (by omega)]at hJ;simp[Ku,Ja,hk,s31,hw,e3,n3];exact hR _ _ _ (by simp[hk]) (by simp) ⟨by simp[e0,n0],by simp[e1,n1],by omega,o',n,by simp,by simp[n3'],by omega,by omega,hJ⟩
 ·rintro s h n R hk s31 ⟨e0,e1,hn,o,id,e3,eid,hidn,hid,hJ⟩ hret hX;simp at hk;rw[drop_eq_nil_of_le (by omega)]at hJ;simp only[H4]at hJ;simp[hk,s31];refine hX _ _ _ _ ?_;have i1:¬1=id:=by omega
  have i1':¬id=1:=by omega
  simp[hk,e1,e3,eid,<-hJ,Ku,Ja,i1']
theorem J4d(x:Xx)(m:List Int):Holds prog 275 [.agg (Ky x),.sl 1 (Ji m)] (λr=>r=Ku (Iq x m)):=by
 refine Vm func275 rfl rfl λhlm=>?_
 simp[Ky]at hlm;refine Jp func275 Jp4 rfl (by simp[K70]) ?_;simp[K70,Ky];refine Je (J08 x) (by simp[Ky]) ?_;rintro r rfl;unfold Iq;cases h1:Q3 x
 ·simp[Ku,Jj,Ja,Ji]
 simp;intro _ _;by_cases h2:m.length=x.Rows.length
 case neg=>simp[h2,Ku,Jj,Ja,Ji];omega
 simp[h2];refine Je (Gi 0 x.N) (by simp) ?_;rintro r rfl;simp[Ja];have hzl:(m.zip x.Rows).length=m.length:=by simp[h2]
 refine Ka [1,2,4,6] 7 m.length (λi s h n=>h 0=some ⟨true,2,[[.int .i64 x.N,.sl 2 (x.Rows.map Jb)]]⟩/\h 1=some ⟨true,2,[[.int .i64 0,.nil 1]]⟩/\3<n /\
  ∃(o:Jc) (id:Nat),h 3=some ⟨true,2,[[.int .i64 o.Const,.ref id 0 o.Coeffs.length]]⟩/\h id=some ⟨false,1,Ji o.Coeffs⟩/\id<n/\(id=2\/3<id)/\H4 ((m.zip x.Rows).drop i) o=H4 (m.zip x.Rows) (Jr 0 x.N))
  hlm.2 (by simp) ⟨by simp,by simp,by simp,Jr 0 x.N,2,by simp,by simp,by omega,by omega,rfl⟩ ?_ ?_
 ·rintro i s h n R hi hg hk s7 hw ⟨e0,e1,hn,o,id,e3,eid,hidn,hid,hJ⟩ hR hret _;simp at hk;have hir:i<x.Rows.length:=by omega
  rw[drop_eq_getElem_cons (by omega:i<(m.zip x.Rows).length)]at hJ;simp only[H4,List.getElem_zip]at hJ;have n0:¬0=n:=by omega
  have n1:¬1=n:=by omega
  have n3:¬3=n:=by omega
  have n3':¬n=3:=by omega
  have nid:¬id=n:=by omega
  have m0:¬0=n+1:=by omega
  have m1:¬1=n+1:=by omega
  have m3:¬3=n+1:=by omega
  have m3':¬n+1=3:=by omega
  have mid:¬id=n+1:=by omega
  have z0:¬n=0:=by omega
  have z2:¬n=2:=by omega
  simp[hk,s7,hi,hir,e0,e3];intro _;constructor
  ·skip;refine Jx (Vp o (m[i]'hi) (x.Rows[i]'hir)) (by simp[Jb,eid]) ?_;rintro r rfl;cases ho:K9 o m[i] x.Rows[i]
   ·rw[ho]at hJ;simp[Ku,Jj,Ja,hk,s7,e1,e3,n1,n3,z0,z2];refine hret _ _ _ ?_;simp[hk,<-hJ,Ku,Jj,Ja,Ji]
   ·rename_i o';rw[ho]at hJ;simp only at hJ;simp[Ku,Ja,hk,s7,hi,hw,e1,e3,n1,n3,z0,z2];refine⟨λhm=>?_,λhm=>?_⟩
    ·rw[if_pos hm]at hJ;refine hret _ _ _ ?_;simp[hk,<-hJ,Ku,Jj,Ja,Ji]
    ·rw[if_neg (by omega)]at hJ;exact hR _ _ _ (by simp[hk]) (by simp) ⟨by simp[e0,n0],by simp[e1,n1,z0],by omega,o',n,by simp,by simp[n3'],by omega,by omega,hJ⟩
  ·skip;refine Jx (Vp o (m[i]'hi) (x.Rows[i]'hir)) (by simp[Jb,eid,nid]) ?_;rintro r rfl;cases ho:K9 o m[i] x.Rows[i]
   ·rw[ho]at hJ;simp[Ku,Jj,Ja,hk,s7,e1,e3,n1,n3,z0,z2];refine hret _ _ _ ?_;simp[hk,<-hJ,Ku,Jj,Ja,Ji]
   ·rename_i o';rw[ho]at hJ;simp only at hJ;simp[Ku,Ja,hk,s7,hi,hw,e1,e3,n1,n3,z0,z2];refine⟨λhm=>?_,λhm=>?_⟩
    ·rw[if_pos hm]at hJ;refine hret _ _ _ ?_;simp[hk,<-hJ,Ku,Jj,Ja,Ji]
    ·rw[if_neg (by omega)]at hJ;exact hR _ _ _ (by simp[hk]) (by simp) ⟨by simp[e0,n0],by simp[e1,n1,z0],by omega,o',n+1,by simp,by simp[z2],by omega,by omega,hJ⟩
 ·rintro s h n R hk s7 ⟨e0,e1,hn,o,id,e3,eid,hidn,hid,hJ⟩ hret hX;simp at hk;rw[drop_eq_nil_of_le (by omega)]at hJ;simp only[H4]at hJ;simp[hk,s7];intro _;refine hX _ _ _ _ ?_;have i1:¬1=id:=by omega
  have i1':¬id=1:=by omega
  simp[hk,e1,e3,eid,<-hJ,Ku,Ja,i1']
def K75:Jl:= ⟨66,[.t 6],(Zq [ZB 3 0,ZB 4 1,ZB 5 2,Zt 6 false] (.seq (Zq [Zl 13 true 2 3,Zc 14 277 [.t 13],ZN 15 14,Zv 16 15,Zg 17 16 false (.ld true 2 (.t 4)),Zg 18 16 false (.fld 0 (.t 3)),Zg 19 16 false (.ld false 1 (.t 18)),Zg 20 16 false (.call (.k (.fn (.func 146) [] [])) [.t 17,.t 19]),Zg 21 16 false (.un .not (.t 20)),ZP 22 16 21,Zv 23 22,Zg 24 23 false (.fld 0 (.t 5)),Zg 25 23 false (.ld false 1 (.t 24)),Zg 26 23 false (.call (.k (.fn (.func 102) [] [])) [.t 25,(.k (.int .i64 0)),(.k (.int .i64 1000000000))]),Zg 27 23 false (.un .not (.t 26)),ZP 28 23 27] (.cond (.t 28) (Zq [Zt 6 false] .ret) .skip)) (Zq [Zl 30 true 2 3,Zf 31 1 5,Zl 32 false 1 31,Zc 33 278 [.t 30,.t 32],Zv 29 33,Ze 34 29 0,Ze 35 29 1,ZR 7,Zs 2 7 34,Zv 8 35] (Zq [Zl 37 true 2 4,Zc 38 189 [.t 37,(.k (.int .i64 1))],Zv 36 38,Ze 39 36 0,Ze 40 36 1,ZR 9,Zs 2 9 39,Zv 10 40] (.seq (Zq [Zv 41 8,ZN 42 41,Zv 43 42,Zg 44 43 false (.mv (.t 10)),Zg 45 43 false (.un .not (.t 44)),ZP 46 43 45] (.cond (.t 46) (Zq [Zt 6 false] .ret) .skip)) (Zq [Zl 48 true 2 7,Zf 49 0 5,Zl 50 false 1 49,Zo 51 (.un .neg (.t 50)),Zl 52 true 2 9,Zc 53 193 [.t 48,.t 51,.t 52],Zv 47 53,Ze 54 47 0,Ze 55 47 1,ZR 11,Zs 2 11 54,Zv 12 55] (Zq [Zv 56 12,Zv 57 56,Zg 58 57 true (.ld true 2 (.t 11)),Zg 59 57 true (.call (.k (.fn (.func 279) [] [])) [.t 58]),ZQ 60 57 59,Zv 61 60,Zg 62 61 true (.fld 0 (.t 11)),Zg 63 61 true (.ld false 1 (.t 62)),Zg 64 61 true (.bin .lss (.t 63) (.k (.int .i64 0))),ZQ 65 61 64,Zv 6 65] .ret)))))))⟩
theorem Jrq:Jh prog f196=some K75:=by kernel_rfl
def Tw:Jl:= ⟨65,[.t 6],(Zq [ZB 3 0,ZB 4 1,ZB 5 2,Zt 6 false] (Zq [Zl 14 true 2 3,Zf 15 1 5,Zl 16 false 1 15,Zc 17 275 [.t 14,.t 16],Zv 13 17,Ze 18 13 0,Ze 19 13 1,ZR 7,Zs 2 7 18,Zv 8 19] (.seq (Zq [Zv 20 8,ZN 21 20,Zv 22 21,Zg 23 22 false (.ld true 2 (.t 4)),Zg 24 22 false (.fld 0 (.t 3)),Zg 25 22 false (.ld false 1 (.t 24)),Zg 26 22 false (.call (.k (.fn (.func 179) [] [])) [.t 23,.t 25]),Zg 27 22 false (.un .not (.t 26)),ZP 28 22 27,Zv 29 28,Zg 30 29 false (.fld 0 (.t 5)),Zg 31 29 false (.ld false 1 (.t 30)),Zg 32 29 false (.call (.k (.fn (.func 183) [] [])) [.t 31,(.k (.int .i64 0)),(.k (.int .i64 1000000000))]),Zg 33 29 false (.un .not (.t 32)),ZP 34 29 33] (.cond (.t 34) (Zq [Zt 6 false] .ret) .skip)) (.seq (.draw (.op (Zl 36 true 2 4) (.op (Zf 37 0 3) (.op (Zl 38 false 1 37) (.both (.op (Zc 39 99 [(.k (.int .i64 1)),.t 38]) (.both (.op (Zc 40 98 [.t 36,(.k (.int .i64 1)),.t 39]) (.op (Zv 35 40) (.op (Ze 41 35 0) (.op (Ze 42 35 1) (.op (ZR 9) (.hop (Zs 2 9 41) [] (.op (Zv 10 42) .fin))))))) (.op (ZR 9) (.op (Zc 40 98 [.t 36,(.k (.int .i64 1)),.t 39]) (.op (Zv 35 40) (.op (Ze 41 35 0) (.op (Ze 42 35 1) (.hop (Zs 2 9 41) [] (.op (Zv 10 42) .fin))))))))) (.op (ZR 9) (.op (Zc 39 99 [(.k (.int .i64 1)),.t 38]) (.op (Zc 40 98 [.t 36,(.k (.int .i64 1)),.t 39]) (.op (Zv 35 40) (.op (Ze 41 35 0) (.op (Ze 42 35 1) (.hop (Zs 2 9 41) [] (.op (Zv 10 42) .fin))))))))))))) (Zq [Zl 44 true 2 7,Zf 45 0 5,Zl 46 false 1 45,Zo 47 (.bin .sub (.k (.int .i64 0)) (.t 46)),Zl 48 true 2 9,Zc 49 98 [.t 44,.t 47,.t 48],Zv 43 49,Ze 50 43 0,Ze 51 43 1,ZR 11,Zs 2 11 50,Zv 12 51] (Zq [Zv 52 10,Zv 53 52,Zg 54 53 true (.mv (.t 12)),ZQ 55 53 54,Zv 56 55,Zg 57 56 true (.ld true 2 (.t 11)),Zg 58 56 true (.call (.k (.fn (.func 276) [] [])) [.t 57]),ZQ 59 56 58,Zv 60 59,Zg 61 60 true (.fld 0 (.t 11)),Zg 62 60 true (.ld false 1 (.t 61)),Zg 63 60 true (.bin .lss (.t 62) (.k (.int .i64 0))),ZQ 64 60 63,Zv 6 64] .ret))))))⟩
theorem Jo4:Jh prog f195=some Tw:=by kernel_rfl
def Bp(x:Xx)(t:Jc)(f:Y7):Option Jc:=K9 ((Iq x f.Mult).getD Jj) (-f.Scale) ((Vs t 1).getD Jj)
def I6(x:Xx)(t:Jc)(f:Y7):Bool:=
 (Iq x f.Mult).isSome&&K8 t x.N&&Kh f.Scale 0 1000000000&&(Vs t 1).isSome&&(Bp x t f).isSome&&Es ((Bp x t f).getD Jj)&&decide (((Bp x t f).getD Jj).Const<0)
theorem Ji7{x:Xx}{m:List Int}(h:(Iq x m).isSome=true):Q3 x=true:=by
 unfold Iq at h;cases hs:Q3 x
 ·rw[hs]at h;simp at h
 ·rfl
theorem Jj6{t:Jc}{n:Int}(h:K8 t n=true):K9 t 1 (Jr 1 n)=Vs t 1:=by
 have hl:=Wj h
 have hc:Jr 1 n=⟨1,List.replicate n.toNat 0⟩:=by unfold Jr;rw[if_pos (by simp[Kh,Kx];omega)]
 have hz:∀c,Kx c=true->U3 c 1 0=some c:=λc hc=>by
  have h0:Kx 0=true:=by decide
  have h1:Kx 1=true:=by decide
  simp[U3,Y1,Uz,h0,h1,hc]
 have h1:U3 t.Const 1 1=if (Uz t.Const 1).2 then some (Uz t.Const 1).1 else Option.none:=by
  have h1:Kx 1=true:=by decide
  simp[U3,Y1,h1]
 have hok:K8 t t.Coeffs.length=true:=by rw[hl.1];exact h
 have hok2:K8 (Jr 1 n) t.Coeffs.length=true:=by rw[hc];unfold K8;simp[Kh];exact⟨⟨⟨by omega,by omega⟩,by decide⟩,.inr (by decide)⟩
 have hall:t.Coeffs.all Kx=true:=by unfold K8 at h;simp at h;simpa using h.2
 have hZ:U4 t 1 (Jr 1 n)=t.Coeffs.map some:=by
  rw[hc];unfold U4;refine List.ext_getElem (by simp;omega) λi h1 h2=>?_
  simp;exact hz _ (List.all_eq_true.1 hall _ (getElem_mem _))
 have hO:Dg t 1 (Jr 1 n)=true:=by unfold Dg;rw[hZ];simp
 unfold K9 Vs;rw[hok,hok2,hO,hZ];have hc1:(Jr 1 n).Const=1:=by rw[hc]
 rw[hc1,h1];have h11:Kx 1=true:=by decide
 rw[h11];cases(Uz t.Const 1).2 <;>simp[Function.comp_def]
theorem J04(x:Xx)(t:Jc)(f:Y7):Holds prog 196 [.agg (Ky x),.agg (Jb t),.agg (Uu f)] (λr=>r = .bool (I6 x t f)):=by
 refine Jp func196 Jrq rfl (by simp[K75]) ?_;simp[K75,Ky,Jb,Uu];refine Je (J00 x) (by simp[Ky]) ?_;rintro r rfl;unfold I6;cases h1:Q3 x
 ·have h1':(Iq x f.Mult).isSome=false:=by
   cases hc:(Iq x f.Mult).isSome
   ·rfl
   ·rw[Ji7 hc]at h1;cases h1
  simp[h1']
 simp;refine Je (Gz t x.N) (by simp[Jb]) ?_;rintro r rfl;cases h2:K8 t x.N
 ·simp
 simp;refine Je (O4 f.Scale 0 1000000000) (by simp) ?_;rintro r rfl;cases h3:Kh f.Scale 0 1000000000
 ·simp
 have hs:0<=f.Scale/\f.Scale<=1000000000:=by simpa[Kh]using h3
 simp;refine Je (J5z x f.Mult) (by simp[Ky]) ?_;rintro r rfl;rw[Xm];generalize hb1:(Iq x f.Mult).isSome=b1;simp[Ja];refine Je (Jcy t 1) (by simp[Jb]) ?_;rintro r rfl;rw[Xm];generalize hb2:(Vs t 1).isSome=b2;cases b1
 ·simp[Ja]
 cases b2
 ·simp[Ja]
 simp[Ja];rw[Km (by omega)];refine Je (If ((Iq x f.Mult).getD Jj) (-f.Scale) ((Vs t 1).getD Jj)) (by simp[Jb]) ?_;rintro r rfl;rw[show K9 ((Iq x f.Mult).getD Jj) (-f.Scale) ((Vs t 1).getD Jj)=Bp x t f from rfl,Xm];generalize hb3:(Bp x t f).isSome=b3;cases b3
 ·simp[Ja]
 simp[Ja];refine Je (J7z ((Bp x t f).getD Jj)) (by simp[Jb]) ?_;rintro r rfl;cases h7:Es ((Bp x t f).getD Jj) <;>simp
theorem J4c(x:Xx)(t:Jc)(f:Y7):Holds prog 195 [.agg (Ky x),.agg (Jb t),.agg (Uu f)] (λr=>r = .bool (I6 x t f)):=by
 refine Jp func195 Jo4 rfl (by simp[Tw]) ?_;simp[Tw,Ky,Jb,Uu];refine Je (J4d x f.Mult) (by simp[Ky]) ?_;rintro r rfl;rw[Xm];unfold I6;generalize hb1:(Iq x f.Mult).isSome=b1;cases b1
 ·simp[Ja]
 simp[Ja];refine Je (Gj t x.N) (by simp[Jb]) ?_;rintro r rfl;cases h2:K8 t x.N
 ·simp
 simp;refine Je (Gb f.Scale 0 1000000000) (by simp) ?_;rintro r rfl;cases h3:Kh f.Scale 0 1000000000
 ·simp
 have hs:0<=f.Scale/\f.Scale<=1000000000:=by simpa[Kh]using h3
 simp;refine⟨?_,?_⟩
 all_goals
  refine Jx (Gi 1 x.N) (by simp) ?_;rintro r rfl;simp[Ja]
 refine And.intro ?_ ?_
 all_goals
  refine Jx (Vp t 1 (Jr 1 x.N)) (by simp[Jb]) ?_;rintro r rfl;rw[Jj6 h2,Xm];generalize hb2:(Vs t 1).isSome=b2;simp[Ja];rw[Km (by omega)];refine Je (Vp ((Iq x f.Mult).getD Jj) (-f.Scale) ((Vs t 1).getD Jj)) (by simp[Jb]) ?_;rintro r rfl;rw[show K9 ((Iq x f.Mult).getD Jj) (-f.Scale) ((Vs t 1).getD Jj)=Bp x t f from rfl,Xm];generalize hb3:(Bp x t f).isSome=b3;cases b2
  ·simp[Ja]
  cases b3
  ·simp[Ja]
  simp[Ja];refine Je (J6e ((Bp x t f).getD Jj)) (by simp[Jb]) ?_;rintro r rfl;cases h7:Es ((Bp x t f).getD Jj) <;>simp
end Go.Proofs.YtoclolkigjbcgaaGreat
