/- Contracts: differences. -/
import Derived.Test.YtoclolkigjbcgaaGreatXC1
import Derived.Test.YtoclolkigjbcgaaGreatXHSD
namespace Go.Proofs.YtoclolkigjbcgaaGreat
set_option maxRecDepth 40000
set_option maxHeartbeats 4000000
open Go Go.RowKit Go.Proofs
set_option linter.all false
def a208:AFn:= ⟨62,[(.c 10 true 2),.t 11],(.seq (.reg [Zo 5 (.boxv (.t 0)),Zo 6 (.boxv (.t 1)),Zo 8 (.boxv (.t 3)),Zo 10 (.box [(.int .i64 0),(.nil 1)]),Zo 11 (.mv (.k (.bool false)))]) (.seq (.reg [Zl 19 true 2 6,Zf 20 2 5,Zl 21 false 1 20,Zf 22 0 5,Zf 23 0 22,Zl 24 false 1 23,Zc 25 191 [.t 19,.t 21,.t 24],Zv 18 25,Zo 26 (.ext (.t 18) 0),Zo 27 (.ext (.t 18) 1),Zo 12 (.box [(.int .i64 0),(.nil 1)]),⟨no,.st 2 (.t 12) (.t 26),no⟩,Zv 13 27]) (.seq (.reg [Zl 29 true 6 5,Zl 30 true 2 8,Zv 31 2,Zc 32 177 [.t 29,.t 30,.t 31],Zv 28 32,Zo 33 (.ext (.t 28) 0),Zo 34 (.ext (.t 28) 1),Zo 14 (.box [(.int .i64 0),(.nil 1)]),⟨no,.st 2 (.t 14) (.t 33),no⟩,Zv 15 34]) (.seq (.seq (.reg [Zv 35 13,Zo 36 (.un .not (.t 35)),Zv 37 36,⟨some 38,.mv (.t 15),(some (37,false))⟩,⟨some 39,.un .not (.t 38),(some (37,false))⟩,Zo 40 (.pick (.t 37) (.k (.bool true)) (.t 39)),Zv 41 40,⟨some 42,.mv (.t 4),(some (41,false))⟩,⟨some 43,.call (.k (.fn (.func 232) [] [])) [.t 42],(some (41,false))⟩,⟨some 44,.un .not (.t 43),(some (41,false))⟩,Zo 45 (.pick (.t 41) (.k (.bool true)) (.t 44))]) (.cond (.t 45) (.seq (.reg [Zo 46 (.build [(.int .i64 0),(.nil 1)] []),⟨no,.st 2 (.t 10) (.t 46),no⟩,Zo 11 (.mv (.k (.bool false)))]) .ret) .skip)) (.seq (.reg [Zl 48 true 2 12,Zl 49 true 2 14,Zc 50 193 [.t 48,(.k (.int .i64 (-1))),.t 49],Zv 47 50,Zo 51 (.ext (.t 47) 0),Zo 52 (.ext (.t 47) 1),Zo 16 (.box [(.int .i64 0),(.nil 1)]),⟨no,.st 2 (.t 16) (.t 51),no⟩,Zv 17 52]) (.seq (.seq (.reg [Zv 53 17,Zo 54 (.un .not (.t 53))]) (.cond (.t 54) (.seq (.reg [Zo 55 (.build [(.int .i64 0),(.nil 1)] []),⟨no,.st 2 (.t 10) (.t 55),no⟩,Zo 11 (.mv (.k (.bool false)))]) .ret) .skip)) (.seq (.reg [Zl 56 true 2 16,Zv 57 4,Zo 58 (.un .neg (.t 57)),Zc 59 189 [.t 56,.t 58],Zo 60 (.ext (.t 59) 0),Zo 61 (.ext (.t 59) 1),⟨no,.st 2 (.t 10) (.t 60),no⟩,Zv 11 61]) .ret)))))))⟩
theorem a208_ok:J06 Tryz.prog Tryz.f208=some a208:=by kernel_rfl
def a200:AFn:= ⟨68,[(.c 10 true 2),.t 11],(.seq (.reg [Zo 5 (.boxv (.t 0)),Zo 6 (.boxv (.t 1)),Zo 8 (.boxv (.t 3)),Zo 10 (.box [(.int .i64 0),(.nil 1)]),Zo 11 (.mv (.k (.bool false)))]) (.seq (.reg [Zl 21 true 6 5,Zl 22 true 2 6,Zf 23 2 5,Zl 24 false 1 23,Zc 25 185 [.t 21,.t 22,.t 24],Zv 20 25,Zo 26 (.ext (.t 20) 0),Zo 27 (.ext (.t 20) 1),Zo 12 (.box [(.int .i64 0),(.nil 1)]),⟨no,.st 2 (.t 12) (.t 26),no⟩,Zv 13 27]) (.seq (.reg [Zl 29 true 6 5,Zl 30 true 2 8,Zv 31 2,Zc 32 174 [.t 29,.t 30,.t 31],Zv 28 32,Zo 33 (.ext (.t 28) 0),Zo 34 (.ext (.t 28) 1),Zo 14 (.box [(.int .i64 0),(.nil 1)]),⟨no,.st 2 (.t 14) (.t 33),no⟩,Zv 15 34]) (.seq (.reg [Zl 36 true 2 12,Zl 37 true 2 14,Zc 38 98 [.t 36,(.k (.int .i64 (-1))),.t 37],Zv 35 38,Zo 39 (.ext (.t 35) 0),Zo 40 (.ext (.t 35) 1),Zo 16 (.box [(.int .i64 0),(.nil 1)]),⟨no,.st 2 (.t 16) (.t 39),no⟩,Zv 17 40]) (.seq (.draw (.op (Zl 42 true 2 16) (.op (Zv 43 4) (.op (Zf 44 1 16) (.op (Zl 45 false 1 44) (.op (Zo 46 (.len false (.t 45))) (.both (.op (Zo 47 (.mks 8 [(.int .i64 0)] (.t 46) (.t 46))) (.op (Zo 48 (.build [(.int .i64 0),(.nil 1)] [(0,(1,(.t 43))),(1,(1,(.t 47)))])) (.both (.op (Zc 49 98 [.t 42,(.k (.int .i64 (-1))),.t 48]) (.op (Zv 41 49) (.op (Zo 50 (.ext (.t 41) 0)) (.op (Zo 51 (.ext (.t 41) 1)) (.op (Zo 18 (.box [(.int .i64 0),(.nil 1)])) (.hop ⟨no,.st 2 (.t 18) (.t 50),no⟩ [] (.op (Zv 19 51) .fin))))))) (.op (Zo 18 (.box [(.int .i64 0),(.nil 1)])) (.op (Zc 49 98 [.t 42,(.k (.int .i64 (-1))),.t 48]) (.op (Zv 41 49) (.op (Zo 50 (.ext (.t 41) 0)) (.op (Zo 51 (.ext (.t 41) 1)) (.hop ⟨no,.st 2 (.t 18) (.t 50),no⟩ [] (.op (Zv 19 51) .fin)))))))))) (.op (Zo 18 (.box [(.int .i64 0),(.nil 1)])) (.op (Zo 47 (.mks 8 [(.int .i64 0)] (.t 46) (.t 46))) (.op (Zo 48 (.build [(.int .i64 0),(.nil 1)] [(0,(1,(.t 43))),(1,(1,(.t 47)))])) (.op (Zc 49 98 [.t 42,(.k (.int .i64 (-1))),.t 48]) (.op (Zv 41 49) (.op (Zo 50 (.ext (.t 41) 0)) (.op (Zo 51 (.ext (.t 41) 1)) (.hop ⟨no,.st 2 (.t 18) (.t 50),no⟩ [] (.op (Zv 19 51) .fin)))))))))))))))) (.seq (.seq (.reg [Zv 52 13,Zo 53 (.un .not (.t 52)),Zv 54 53,⟨some 55,.mv (.t 15),(some (54,false))⟩,⟨some 56,.un .not (.t 55),(some (54,false))⟩,Zo 57 (.pick (.t 54) (.k (.bool true)) (.t 56)),Zv 58 57,⟨some 59,.mv (.t 17),(some (58,false))⟩,⟨some 60,.un .not (.t 59),(some (58,false))⟩,Zo 61 (.pick (.t 58) (.k (.bool true)) (.t 60)),Zv 62 61,⟨some 63,.mv (.t 19),(some (62,false))⟩,⟨some 64,.un .not (.t 63),(some (62,false))⟩,Zo 65 (.pick (.t 62) (.k (.bool true)) (.t 64))]) (.cond (.t 65) (.seq (.reg [Zo 66 (.build [(.int .i64 0),(.nil 1)] []),⟨no,.st 2 (.t 10) (.t 66),no⟩,Zo 11 (.mv (.k (.bool false)))]) .ret) .skip)) (.seq (.reg [Zl 67 true 2 18,⟨no,.st 2 (.t 10) (.t 67),no⟩,Zo 11 (.mv (.k (.bool true)))]) .ret)))))))⟩
theorem a200_ok:J06 Tryz.prog Tryz.f200=some a200:=by kernel_rfl
@[simp] theorem K9u (m:Nat):drr (List.replicate m [AV.int .i64 0])=List.replicate m [AV.int .i64 0]:=by rw [J4n];simp [drl,dr]
theorem K0j (z:DLin) (k:Int):J0j z (-1) ⟨k,List.replicate z.Coeffs.length 0⟩=if okC k then Jbs z (-k) else Option.none:=by
 cases hz:J1q z z.Coeffs.length
 ·unfold J0j Jbs;simp [hz]
 have hl:=J1z hz
 cases hk:okC k
 ·have hb:J1q ⟨k,List.replicate z.Coeffs.length 0⟩ z.Coeffs.length=false:=by simp [J1q,hk]
  unfold J0j;simp [hb]
 have hm1:okC (-1)=true:=by decide
 have hk':okC (-k)=true:=by rw [Jg5] at hk ⊢;omega
 have hall:z.Coeffs.all okC=true:=by
  unfold J1q at hz;simp only [Bool.and_eq_true] at hz;exact hz.2
 have hmul:Je5 (-1) k=(-k,true):=by
  have h:(-1:Int)*k = -k:=by omega
  unfold Je5;rw [h,hm1,hk,hk'];rfl
 have h1:J2f z.Const (-1) k=if (Jh2 z.Const (-k)).2 then some (Jh2 z.Const (-k)).1 else Option.none:=by
  unfold J2f;rw [hmul];simp
 have hb:J1q ⟨k,List.replicate z.Coeffs.length 0⟩ z.Coeffs.length=true:=by
  simp [J1q,inR,hk]
  exact ⟨by omega,.inr (by decide)⟩
 have h0:okC 0=true:=by decide
 have hzero:∀ c,okC c=true→J2f c (-1) 0=some c:=fun c hc=>by
  have hmul0:Je5 (-1) 0=(0,true):=by decide
  unfold J2f;rw [hmul0];simp [Jh2,hc,h0]
 have hZ:J59 z (-1) ⟨k,List.replicate z.Coeffs.length 0⟩=z.Coeffs.map some:=by
  unfold J59
  refine List.ext_getElem (by simp) fun i h1 h2 => ?_
  simp
  exact hzero _ (List.all_eq_true.1 hall _ (List.getElem_mem _))
 have hO:Jdm z (-1) ⟨k,List.replicate z.Coeffs.length 0⟩=true:=by unfold Jdm;rw [hZ];simp
 unfold J0j Jbs
 rw [hz,hb,hO,hZ,hm1]
 simp only [h1]
 cases (Jh2 z.Const (-k)).2 <;> simp [Function.comp_def]
set_option maxHeartbeats 1000000 in
theorem Jdr (m:DModel) (a:DLin) (call:Int) (b:DLin) (k:Int):Holds Tryz.prog 208 [.agg (J0o m),.agg (J05 a),i64 call,.agg (J05 b),i64 k] (fun r=>r=J18 (J84 m a call b k)):=by
 refine J03 Tryz.func208 a208_ok rfl (by simp [a208]) ?_
 simp [a208,J05,J0o]
 unfold J84
 first|refine J01 (J3f a m.Params m.System.N) (by first|simp [J05];done|rfl) ?_|refine J02 (J3f a m.Params m.System.N) (by first|simp [J05];done|rfl) ?_
 rintro r rfl
 rw [J0u (J0s a m.Params m.System.N)]
 generalize hb1:(J0s a m.Params m.System.N).isSome=b1
 simp [J08]
 first|refine J01 (Jgh m b call) (by first|simp [J05,J0o];done|rfl) ?_|refine J02 (Jgh m b call) (by first|simp [J05,J0o];done|rfl) ?_
 rintro r rfl
 rw [J0u (J3u m b call)]
 generalize hb2:(J3u m b call).isSome=b2
 simp [J08]
 cases b1
 ·simp [J18,J1g,J08,J0m]
 cases b2
 ·simp [J18,J1g,J08,J0m]
 simp
 first|refine J01 (J20 k) (by first|simp;done|rfl) ?_|refine J02 (J20 k) (by first|simp;done|rfl) ?_
 rintro r rfl
 cases h3:okC k
 ·simp [J18,J1g,J08,J0m]
 simp
 first|refine J01 (J22 ((J0s a m.Params m.System.N).getD J1g) (-1) ((J3u m b call).getD J1g)) (by first|simp [J05];done|rfl) ?_|refine J02 (J22 ((J0s a m.Params m.System.N).getD J1g) (-1) ((J3u m b call).getD J1g)) (by first|simp [J05];done|rfl) ?_
 rintro r rfl
 rw [J0u (J0j ((J0s a m.Params m.System.N).getD J1g) (-1) ((J3u m b call).getD J1g))]
 generalize hb4:(J0j ((J0s a m.Params m.System.N).getD J1g) (-1) ((J3u m b call).getD J1g)).isSome=b4
 simp [J08]
 cases b4
 ·simp [J18,J1g,J08,J0m]
 rw [Jg5] at h3
 simp
 rw [J0r (by omega)]
 first|refine J01 (Jnd ((J0j ((J0s a m.Params m.System.N).getD J1g) (-1) ((J3u m b call).getD J1g)).getD J1g) (-k)) (by first|simp [J05];done|rfl) ?_|refine J02 (Jnd ((J0j ((J0s a m.Params m.System.N).getD J1g) (-1) ((J3u m b call).getD J1g)).getD J1g) (-k)) (by first|simp [J05];done|rfl) ?_
 rintro r rfl
 simp [J0u,J08]
def K0p (m:DModel) (a:DLin) (call:Int) (b:DLin) (k:Int):Option DLin:=
 J0j ((J0j ((J0s a m.Params m.System.N).getD J1g) (-1) ((J3u m b call).getD J1g)).getD J1g) (-1)
  ⟨k,List.replicate ((J0j ((J0s a m.Params m.System.N).getD J1g) (-1) ((J3u m b call).getD J1g)).getD J1g).Coeffs.length 0⟩
theorem K0l (m:DModel) (a:DLin) (call:Int) (b:DLin) (k:Int):J84 m a call b k =
 if (J0s a m.Params m.System.N).isSome&&(J3u m b call).isSome&&(J0j ((J0s a m.Params m.System.N).getD J1g) (-1) ((J3u m b call).getD J1g)).isSome then K0p m a call b k else Option.none:=by
 unfold J84 K0p
 rw [K0j]
 cases (J0s a m.Params m.System.N).isSome <;> cases (J3u m b call).isSome <;> cases okC k <;> cases (J0j ((J0s a m.Params m.System.N).getD J1g) (-1) ((J3u m b call).getD J1g)).isSome <;> simp
theorem Jx9 (o:Option DLin) (h:∀ r,o=some r→r.Coeffs.length≤8):(o.getD J1g).Coeffs.length≤8:=by
 cases o with
 | none=>simp [J1g]
 | some r=>exact h r rfl
theorem Jgs (a b:DLin) (k:Int):((J0j a k b).getD J1g).Coeffs.length≤8:=by
 refine Jx9 _ fun r hr => ?_
 rw [(J6e hr).1]
 unfold J0j at hr
 split at hr
 ·rename_i hc
  simp only [Bool.and_eq_true] at hc
  have:=J1z hc.1.1.1.1
  omega
 ·cases hr
def K3c:AC:=(.seq (.seq (.reg [Zv 52 13,Zo 53 (.un .not (.t 52)),Zv 54 53,⟨some 55,.mv (.t 15),(some (54,false))⟩,⟨some 56,.un .not (.t 55),(some (54,false))⟩,Zo 57 (.pick (.t 54) (.k (.bool true)) (.t 56)),Zv 58 57,⟨some 59,.mv (.t 17),(some (58,false))⟩,⟨some 60,.un .not (.t 59),(some (58,false))⟩,Zo 61 (.pick (.t 58) (.k (.bool true)) (.t 60)),Zv 62 61,⟨some 63,.mv (.t 19),(some (62,false))⟩,⟨some 64,.un .not (.t 63),(some (62,false))⟩,Zo 65 (.pick (.t 62) (.k (.bool true)) (.t 64))]) (.cond (.t 65) (.seq (.reg [Zo 66 (.build [(.int .i64 0),(.nil 1)] []),⟨no,.st 2 (.t 10) (.t 66),no⟩,Zo 11 (.mv (.k (.bool false)))]) .ret) .skip)) (.seq (.reg [Zl 67 true 2 18,⟨no,.st 2 (.t 10) (.t 67),no⟩,Zo 11 (.mv (.k (.bool true)))]) .ret))
theorem Jf5 {b1 b2 b3 b5:Bool}{G:DLin}{s:Env}{h:Heap}{n id bid:Nat}{Q:AV→Prop}(s10:s 10 = .ptr 3 0 0) (s13:s 13 = .bool b1) (s15:s 15 = .bool b2) (s17:s 17 = .bool b3) (s18:s 18 = .ptr bid 0 0) (s19:s 19 = .bool b5)
 (h3:h 3=some ⟨true,2,[[.int .i64 0,.nil 1]]⟩) (hb:h bid=some ⟨true,2,[[.int .i64 G.Const,.ref id 0 G.Coeffs.length]]⟩) (hi:h id=some ⟨false,1,J0m G.Coeffs⟩) (n1:¬bid=3) (n2:¬id=3)
 (hQ:Q (if b1&&b2&&b3&&b5 then .tup [.agg (J08 G),.bool true] else .tup [.agg (J08 J1g),.bool false])):J2u Tryz.prog [Kt.seq K3c] .normal s h n (K4b [(.c 10 true 2),.t 11] Q):=by
 unfold K3c
 have n1':¬3=bid:=fun e=>n1 e.symm
 have n2':¬3=id:=fun e=>n2 e.symm
 cases b1
 ·simp [s10,s13,h3];simpa [J08,J1g,J0m] using hQ
 cases b2
 ·simp [s10,s13,s15,h3];simpa [J08,J1g,J0m] using hQ
 cases b3
 ·simp [s10,s13,s15,s17,h3];simpa [J08,J1g,J0m] using hQ
 cases b5
 ·simp [s10,s13,s15,s17,s19,h3];simpa [J08,J1g,J0m] using hQ
 simp [s10,s13,s15,s17,s18,s19,h3,hb,hi,n1,n2,n1',n2']
 simpa [J08] using hQ
set_option maxHeartbeats 1000000 in
theorem Jji (m:DModel) (a:DLin) (call:Int) (b:DLin) (k:Int):Holds Tryz.prog 200 [.agg (J0o m),.agg (J05 a),i64 call,.agg (J05 b),i64 k] (fun r=>r=J18 (J84 m a call b k)):=by
 refine J03 Tryz.func200 a200_ok rfl (by simp [a200]) ?_
 simp [a200,J05,J0o]
 rw [K0l]
 first|refine J01 (J7h m a m.Params) (by first|simp [J05,J0o];done|rfl) ?_|refine J02 (J7h m a m.Params) (by first|simp [J05,J0o];done|rfl) ?_
 rintro r rfl
 rw [J0u (J0s a m.Params m.System.N)]
 generalize hb1:(J0s a m.Params m.System.N).isSome=b1
 simp [J08]
 first|refine J01 (Jdw m b call) (by first|simp [J05,J0o];done|rfl) ?_|refine J02 (Jdw m b call) (by first|simp [J05,J0o];done|rfl) ?_
 rintro r rfl
 rw [J0u (J3u m b call)]
 generalize hb2:(J3u m b call).isSome=b2
 simp [J08]
 first|refine J01 (J0w ((J0s a m.Params m.System.N).getD J1g) (-1) ((J3u m b call).getD J1g)) (by first|simp [J05];done|rfl) ?_|refine J02 (J0w ((J0s a m.Params m.System.N).getD J1g) (-1) ((J3u m b call).getD J1g)) (by first|simp [J05];done|rfl) ?_
 rintro r rfl
 rw [J0u (J0j ((J0s a m.Params m.System.N).getD J1g) (-1) ((J3u m b call).getD J1g))]
 have hlen:=Jgs ((J0s a m.Params m.System.N).getD J1g) ((J3u m b call).getD J1g) (-1)
 unfold K0p
 generalize hb3:(J0j ((J0s a m.Params m.System.N).getD J1g) (-1) ((J3u m b call).getD J1g)).isSome=b3
 generalize hZ:(J0j ((J0s a m.Params m.System.N).getD J1g) (-1) ((J3u m b call).getD J1g)).getD J1g=Z at *
 simp [J08]
 have hL:(Z.Coeffs.length:Int)*8≤(LIM:Int):=by unfold LIM;omega
 refine ⟨⟨hL,?_,?_⟩,hL,?_⟩
 ·skip
  first|refine J01 (J0w Z (-1) ⟨k,List.replicate Z.Coeffs.length 0⟩) (by first|simp [J05];done|rfl) ?_|refine J02 (J0w Z (-1) ⟨k,List.replicate Z.Coeffs.length 0⟩) (by first|simp [J05];done|rfl) ?_
  rintro r rfl
  generalize hV:J0j Z (-1) ⟨k,List.replicate Z.Coeffs.length 0⟩=V
  rw [J0u V]
  generalize hb5:V.isSome=b5
  generalize hG:V.getD J1g=G
  generalize hKS:(List.cons (Kt.seq _) _:List Kt)=KS
  simp [J08]
  subst hKS
  refine Jf5 (b1:=b1) (b2:=b2) (b3:=b3) (b5:=b5) (G:=G) (bid:=12) (id:=11) (by simp) (by simp) (by simp) (by simp) (by simp) (by simp) (by simp) (by simp) (by simp) (by decide) (by decide) ?_
  subst hG hb5
  cases V <;> cases b1 <;> cases b2 <;> cases b3 <;> simp [J18]
 ·skip
  first|refine J01 (J0w Z (-1) ⟨k,List.replicate Z.Coeffs.length 0⟩) (by first|simp [J05];done|rfl) ?_|refine J02 (J0w Z (-1) ⟨k,List.replicate Z.Coeffs.length 0⟩) (by first|simp [J05];done|rfl) ?_
  rintro r rfl
  generalize hV:J0j Z (-1) ⟨k,List.replicate Z.Coeffs.length 0⟩=V
  rw [J0u V]
  generalize hb5:V.isSome=b5
  generalize hG:V.getD J1g=G
  generalize hKS:(List.cons (Kt.seq _) _:List Kt)=KS
  simp [J08]
  subst hKS
  refine Jf5 (b1:=b1) (b2:=b2) (b3:=b3) (b5:=b5) (G:=G) (bid:=11) (id:=12) (by simp) (by simp) (by simp) (by simp) (by simp) (by simp) (by simp) (by simp) (by simp) (by decide) (by decide) ?_
  subst hG hb5
  cases V <;> cases b1 <;> cases b2 <;> cases b3 <;> simp [J18]
 ·skip
  first|refine J01 (J0w Z (-1) ⟨k,List.replicate Z.Coeffs.length 0⟩) (by first|simp [J05];done|rfl) ?_|refine J02 (J0w Z (-1) ⟨k,List.replicate Z.Coeffs.length 0⟩) (by first|simp [J05];done|rfl) ?_
  rintro r rfl
  generalize hV:J0j Z (-1) ⟨k,List.replicate Z.Coeffs.length 0⟩=V
  rw [J0u V]
  generalize hb5:V.isSome=b5
  generalize hG:V.getD J1g=G
  generalize hKS:(List.cons (Kt.seq _) _:List Kt)=KS
  simp [J08]
  subst hKS
  refine Jf5 (b1:=b1) (b2:=b2) (b3:=b3) (b5:=b5) (G:=G) (bid:=10) (id:=12) (by simp) (by simp) (by simp) (by simp) (by simp) (by simp) (by simp) (by simp) (by simp) (by decide) (by decide) ?_
  subst hG hb5
  cases V <;> cases b1 <;> cases b2 <;> cases b3 <;> simp [J18]
theorem Jz5 (l:DLin) (k:Int):Jpt ((Jbs l k).getD J1g)≤8:=by
 unfold Jpt;rw [J4z]
 refine Jx9 _ fun r hr => ?_
 unfold Jbs at hr
 split at hr
 ·rename_i hc
  simp only [Bool.and_eq_true] at hc
  have:=J1z hc.2
  cases hr
  simp only;omega
 ·cases hr
theorem Jy3 (m:DModel) (a:DLin) (call:Int) (b:DLin) (k:Int):Jpt ((J84 m a call b k).getD J1g)≤8:=by
 unfold J84
 split
 ·split
  ·exact Jz5 _ _
  ·unfold Jpt;rw [J4z];simp [J1g]
 ·unfold Jpt;rw [J4z];simp [J1g]
def a68:AFn:= ⟨27,[.t 4],(.seq (.reg [Zo 2 (.boxv (.t 0)),Zo 4 (.mv (.k (.nil 1)))]) (.seq (.reg [Zo 5 (.mv (.k (.nil 1)))]) (.seq (.seq (.reg [Zl 8 true 2 2,Zv 9 1,Zc 10 70 [.t 8,.t 9],Zo 11 (.len false (.t 10)),Zo 12 (.mv (.k (.int .i64 0)))]) (.blk 0 (.loop (.seq (.reg [Zo 13 (.bin .lss (.t 12) (.t 11))]) (.seq (.cond (.t 13) .skip (.exit 0)) (.seq (.blk 1 (.seq (.reg [Zo 14 (.ixa 1 (.t 10) (.t 12)),Zl 15 false 1 14,Zv 7 15]) (.seq (.reg [Zl 16 true 2 2,Zv 17 7,Zc 18 70 [.t 16,.t 17],Zv 19 1,Zc 20 72 [.t 18,.t 19]]) (.cond (.t 20) (.reg [Zv 21 5,Zv 22 7,Zo 23 (.bsl 1 [.t 22]),Zo 24 (.app 16 1 (.t 21) (.t 23)),Zv 5 24]) .skip)))) (.reg [Zo 25 (.bin .add (.t 12) (.k (.int .i64 1))),Zv 12 25]))))))) (.seq (.reg [Zv 26 5,Zv 4 26]) .ret))))⟩
theorem a68_ok:J06 Tryz.prog Tryz.f68=some a68:=by kernel_rfl
theorem Jpi (p:DProgram) (name:Str) (hp:J0k p≤1048576):(J34 p name).length≤1048576:=by
 have hfl:p.Functions.length≤1048576:=by have:=J2b J0v p.Functions;unfold J0k J1x at hp;omega
 unfold J34
 split
 ·have h2:(J82 (J57 p) (J10 p) name).length≤(J10 p).length:=List.length_filter_le _ _
  have h3:(J10 p).length=p.Functions.length:=by simp [J10]
  omega
 ·simp
def Jw0 (p:DProgram) (name g:Str):Bool:=J2p (J34 p g) name
theorem Jsc (p:DProgram) (name:Str):Jh1 p name=(J34 p name).filter (Jw0 p name):=rfl
theorem Jbt (p:DProgram) (hp:J0k p≤1048576) (name:Str):Holds Tryz.prog 68 [.agg (J00 p),.str name] (fun x=>x = .us 1 (J0a (Jh1 p name))):=by
 have hrl:=Jpi p name hp
 refine J03 Tryz.func68 a68_ok rfl (by simp [a68]) ?_
 simp [a68,J00]
 first|refine J01 (J5y p hp name) (by first|simp [J00];done|rfl) ?_|refine J02 (J5y p hp name) (by first|simp [J00];done|rfl) ?_
 rintro r rfl
 simp
 intro _
 rw [Jsc]
 generalize hT:(J34 p name).filter (Jw0 p name)=T
 have hTl:T.length≤1048576:=by rw [←hT];exact Nat.le_trans (List.length_filter_le _ _) hrl
 refine J0l [1,2,10,11] 12 (J34 p name).length (fun i s h n=>1<n∧h 0=some ⟨true,2,[J00 p]⟩∧h 1=some ⟨false,1,J0a (J34 p name)⟩∧∃ acc:List Str,acc++((J34 p name).drop i).filter (Jw0 p name)=T∧Jtk 1 1 (J0a acc) (s 5) h n) (by unfold LIM;omega) (by simp) ⟨by simp,by simp [J00],by simp,[],by simpa using hT,.inl (by simp [J0a])⟩ ?_ ?_
 ·rintro i st h n R hi hg hk s12 hw ⟨hn,e0,e1,acc,hJ,hA⟩ hR hret _
  simp at hk
  rw [List.drop_eq_getElem_cons hi,List.filter_cons,Jw0] at hJ
  have z0:¬0=n:=by omega
  have z1:¬1=n:=by omega
  have z2:¬n=0:=by omega
  have z3:¬n=1:=by omega
  refine J0i [1,2,5,10,11,12] (fun s=>s 13 = .bool true) (by simp [hk,s12,hi]) ?_
  intro st1 hk1 s13
  simp at hk1
  refine J3x s13 (J0b (J1h ?_))
  refine J0i [1,2,5,10,11,12] (fun s=>s 7 = .str (J34 p name)[i]) (by simp [hk,hk1,s12,hi,e1]) ?_
  intro st2 hk2 s7
  simp at hk2
  generalize (J34 p name)[i]=g at *
  have ht:List.take (J34 p g).length (J0a (J34 p g))=J0a (J34 p g):=List.take_of_length_le (by simp [J0a])
  refine J1n [1,2,5,7,10,11,12] (fun s h' n'=>n'=n+1∧s 20 = .bool (J2p (J34 p g) name)∧h' 0=some ⟨true,2,[J00 p]⟩∧h' 1=some ⟨false,1,J0a (J34 p name)⟩∧Jtk 1 1 (J0a acc) (st 5) h' n) ?_ ?_
  ·simp [hk2,hk1,hk,e0,s7,J00]
   first|refine J01 (J5y p hp g) (by first|simp [J00];done|rfl) ?_|refine J02 (J5y p hp g) (by first|simp [J00];done|rfl) ?_
   rintro r rfl
   simp [hk2,hk1,hk,s7]
   first|refine J01 (J4k (J34 p g) name) (by first|simp [ht];done|rfl) ?_|refine J02 (J4k (J34 p g) name) (by first|simp [ht];done|rfl) ?_
   rintro r rfl
   simp [hk2,hk1,hk,s7,e0,e1,z0,z1,z2,z3,J00]
   exact hA.keep _
  rintro st3 h3 n3 hk3 ⟨rfl,s20,e0',e1',hA'⟩
  simp at hk3
  have y0:¬0=n+1:=by omega
  have y1:¬1=n+1:=by omega
  have y2:¬0=n+1+1:=by omega
  have y3:¬1=n+1+1:=by omega
  cases c1:J2p (J34 p g) name
  ·rw [c1] at hJ s20
   simp only [Bool.false_eq_true,if_false] at hJ
   simp [hk3,hk2,hk1,hk,s20,s12,hw]
   exact hR _ _ _ (by simp [hk3,hk2,hk1,hk]) (by simp) ⟨by omega,e0',e1',acc,hJ,by simpa [hk3,hk2,hk1] using hA'.mono (Nat.le_succ n)⟩
  rw [c1] at hJ s20
  simp only [if_true] at hJ
  have hal:=congrArg List.length hJ
  simp only [List.length_append,List.length_cons] at hal
  rcases hA' with ⟨hz,hv⟩|⟨id,hid,hid',hv,hc⟩
  ·have hz':acc=[]:=by simpa [J0a] using hz
   subst hz'
   simp [hk3,hk2,hk1,hk,hv,s7,s20,s12,hw,y0,y1,y2,y3,z0,z1,z2,z3]
   refine ⟨by unfold LIM;omega,?_⟩
   exact hR _ _ _ (by simp [hk3,hk2,hk1,hk]) (by simp) ⟨by omega,by simp [e0',y0,y1,y2,y3,z0,z1,z2,z3],by simp [e1',y0,y1,y2,y3,z0,z1,z2,z3],[g],by simpa using hJ,.inr ⟨n+1+1,by omega,by omega,by simp [J0a],by simp [J0a]⟩⟩
  ·simp [J0a] at hv
   have x0:¬id=n:=by omega
   have x1:¬id=n+1:=by omega
   have x2:¬n+1=id:=by omega
   have x3:¬n=id:=by omega
   have x4:¬1=id:=by omega
   have x5:¬0=id:=by omega
   simp [hk3,hk2,hk1,hk,hv,hc,s7,s20,s12,hw,y0,y1,y2,y3,z0,z1,z2,z3,x0,x1,x2,x3]
   refine ⟨by unfold LIM;omega,?_⟩
   exact hR _ _ _ (by simp [hk3,hk2,hk1,hk]) (by simp) ⟨by omega,by simp [e0',y0,y1,y2,y3,z0,z1,z2,z3,x4,x5],by simp [e1',y0,y1,y2,y3,z0,z1,z2,z3,x4,x5],acc++[g],by simpa using hJ,.inr ⟨n+1+1,by omega,by omega,by simp [J0a],by simp [J0a,List.take_of_length_le]⟩⟩
 rintro st h n R hk s12 ⟨hn,e0,e1,acc,hJ,hA⟩ hret hX
 simp at hk
 rw [List.drop_eq_nil_of_le (by omega)] at hJ
 simp at hJ
 subst hJ
 refine J0i [5] (fun s=>s 13 = .bool false) (by simp [hk,s12]) ?_
 intro st1 hk1 s13
 simp at hk1
 refine J3s s13 ?_
 refine hX _ _ _ _ ?_
 rcases hA with ⟨hz,hv⟩|⟨id,hid,hid',hv,hc⟩
 ·simp [hk1,hv,hz]
 ·simp at hv
  simp [hk1,hv,hc]
def a311:AFn:= ⟨19,[.t 4],(.seq (.reg [Zo 3 (.boxv (.t 1)),Zo 4 (.mv (.k (.int .i64 0)))]) (.seq (.seq (.reg [Zv 6 0,Zo 7 (.len false (.t 6)),Zo 8 (.mv (.k (.int .i64 0)))]) (.blk 0 (.loop (.seq (.reg [Zo 9 (.bin .lss (.t 8) (.t 7))]) (.seq (.cond (.t 9) .skip (.exit 0)) (.seq (.blk 1 (.seq (.reg [Zv 10 8,Zv 5 10]) (.seq (.draw (.op (Zl 11 true 2 3) (.op (Zv 12 0) (.op (Zv 13 5) (.op (Zo 14 (.ixa 2 (.t 12) (.t 13))) (.op (Zl 15 true 2 14) (.op (Zo 16 (.aeq false [0,0] (.t 11) (.t 15))) .fin))))))) (.cond (.t 16) (.seq (.reg [Zv 17 5,Zv 4 17]) .ret) .skip)))) (.reg [Zo 18 (.bin .add (.t 8) (.k (.int .i64 1))),Zv 8 18]))))))) (.seq (.reg [Zo 4 (.mv (.k (.int .i64 (-1))))]) .ret)))⟩
theorem a311_ok:J06 Tryz.prog Tryz.f311=some a311:=by kernel_rfl
def a280:AFn:= ⟨9,[.t 4],(.seq (.reg [Zo 3 (.boxv (.t 1)),Zo 4 (.mv (.k (.bool false)))]) (.seq (.reg [Zv 5 0,Zl 6 true 2 3,Zc 7 311 [.t 5,.t 6],Zo 8 (.bin .geq (.t 7) (.k (.int .i64 0))),Zv 4 8]) .ret))⟩
theorem a280_ok:J06 Tryz.prog Tryz.f280=some a280:=by kernel_rfl
def a198:AFn:= ⟨15,[.t 4],(.seq (.reg [Zo 2 (.boxv (.t 0)),Zo 3 (.boxv (.t 1)),Zo 4 (.mv (.k (.bool false)))]) (.seq (.draw (.op (Zl 5 true 2 2) (.op (Zl 6 true 2 2) (.op (Zl 7 true 2 3) (.op (Zl 10 true 2 2) (.op (Zl 11 true 2 3) (.op (Zc 8 173 [.t 6,.t 7]) (.op (Zc 9 136 [.t 5,.t 8]) (.op (Zc 12 199 [.t 10,.t 11]) (.op (Zc 13 63 [.t 9,.t 12]) (.op (Zo 14 (.bin .geq (.t 13) (.k (.int .i64 0)))) (.op (Zv 4 14) .fin)))))))))))) .ret))⟩
theorem a198_ok:J06 Tryz.prog Tryz.f198=some a198:=by kernel_rfl
def a201:AFn:= ⟨23,[.t 4],(.seq (.reg [Zo 2 (.boxv (.t 0)),Zo 3 (.boxv (.t 1)),Zo 4 (.mv (.k (.bool false)))]) (.seq (.seq (.draw (.op (Zl 7 true 2 2) (.op (Zl 9 true 2 3) (.op (Zc 8 125 [.t 7]) (.op (Zc 10 280 [.t 8,.t 9]) (.op (Zo 11 (.un .not (.t 10))) .fin)))))) (.cond (.t 11) (.seq (.reg [Zo 4 (.mv (.k (.bool false)))]) .ret) .skip)) (.seq (.reg [Zl 13 true 2 2,Zl 14 true 2 3,Zc 15 152 [.t 13,.t 14],Zv 12 15,Zo 16 (.ext (.t 12) 0),Zo 17 (.ext (.t 12) 1),Zv 5 16,Zv 6 17]) (.seq (.reg [Zl 18 true 2 2,Zv 19 5,Zc 20 68 [.t 18,.t 19],Zv 21 6,Zc 22 72 [.t 20,.t 21],Zv 4 22]) .ret))))⟩
theorem a201_ok:J06 Tryz.prog Tryz.f201=some a201:=by kernel_rfl
theorem Jov {p:DProgram}(h:J2s p=true) {e:DEdge}(he:e∈J0h p):J2p (Jh1 p (Jcu p e)) (toE p e)=Jav p e:=by
 obtain ⟨f1,f2,f3,f4⟩:=Jdb h
 have hE2:∀ e∈J57 p,e.2∈J10 p:=fun e he=>(f2 e he).2
 have hm:(Jcu p e,toE p e)∈J57 p:=by
  rw [Jd3]
  unfold J0h at he
  rw [h] at he
  exact List.mem_map.2 ⟨e,he,rfl⟩
 have hF:=(f2 _ hm).1
 have hT:=(f2 _ hm).2
 have hr:J34 p (toE p e)=J82 (J57 p) (J10 p) (toE p e):=by unfold J34;rw [h,J3d.2 hT];rfl
 unfold Jav
 rw [hr,Jw3 h hF,Bool.eq_iff_iff,J3d,J3d,Js1 hE2 hF,Ja3 hE2 hT]
 exact ⟨fun ⟨_,_,g⟩=>⟨hF,g⟩,fun ⟨_,g⟩=>⟨hT,(RT.refl _).step hm,g⟩⟩
theorem Jnz (l:List DEdge) (e:DEdge):Holds Tryz.prog 311 [.sl 2 (l.map J0q),.agg (J0q e)] (fun r=>r=i64 (J0t (fun x=>decide (x=e)) l 0)):=by
 refine J1l Tryz.func311 rfl rfl fun hl => ?_
 simp at hl
 refine J03 Tryz.func311 a311_ok rfl (by simp [a311]) ?_
 simp [a311,J0q]
 intro _
 generalize hB:J0t (fun x=>decide (x=e)) l 0=B
 refine J0l [0,3,7] 8 l.length (fun i s h n=>0<n∧h 0=some ⟨true,2,[J0q e]⟩∧J0t (fun x=>decide (x=e)) (l.drop i) i=B) (by first|exact hl|exact hl.1) (by simp) ⟨by simp,by simp [J0q],by simpa using hB⟩ ?_ ?_
 ·rintro i st h n R hi hg hk s8 hw ⟨hn,e0,hJ⟩ hR hret _
  simp at hk
  rw [List.drop_eq_getElem_cons hi] at hJ
  simp only [J0t] at hJ
  by_cases hx:l[i]=e
  ·rw [if_pos (by simp [hx])] at hJ
   simp [hk,s8,hi,e0,J0q,hx]
   refine hret _ _ _ ?_
   simp [hJ]
  ·rw [if_neg (by simpa using hx)] at hJ
   simp [hk,s8,hi,e0,J0q]
   refine ⟨fun g1 g2=>(hx ?_).elim,fun _ => ?_⟩
   ·generalize l[i]=q at g1 g2
    cases q;cases e;simp_all
   simp [hk,s8,hw]
   exact hR _ _ _ (by simp [hk]) (by simp) ⟨hn,e0,hJ⟩
 rintro st h n R hk s8 ⟨hn,e0,hJ⟩ hret hX
 simp at hk
 rw [List.drop_eq_nil_of_le (by omega)] at hJ
 simp [hk,s8]
 refine hX _ _ _ _ ?_
 simp [←hJ,J0t]
theorem Jer (l:List DEdge) (e:DEdge):Holds Tryz.prog 280 [.sl 2 (l.map J0q),.agg (J0q e)] (fun r=>r = .bool (decide (e∈l))):=by
 refine J03 Tryz.func280 a280_ok rfl (by simp [a280]) ?_
 simp [a280,J0q]
 first|refine J01 (Jnz l e) (by first|simp [J0q];done|rfl) ?_|refine J02 (Jnz l e) (by first|simp [J0q];done|rfl) ?_
 rintro r rfl
 have:=J6c (p:=fun x=>decide (x=e)) (l:=l) (i:=0)
 simp only [ge_iff_le] at this
 simp [this]
 rw [Bool.eq_iff_iff]
 simp
theorem Jfp (p:DProgram) (hp:J0k p≤1048576) {a b:Nat}(ha:a<p.Rules.length) (hb:b<(p.Rules[a]).Calls.length):Holds Tryz.prog 198 [.agg (J00 p),.agg (J0q ⟨a,b⟩)] (fun r=>r = .bool (Jav p ⟨a,b⟩)):=by
 refine J03 Tryz.func198 a198_ok rfl (by simp [a198]) ?_
 simp [a198,J00,J0q]
 first|refine J01 (J6g p ha hb) (by first|simp [J00,J0q];done|rfl) ?_|refine J02 (J6g p ha hb) (by first|simp [J00,J0q];done|rfl) ?_
 rintro r rfl
 simp
 first|refine J01 (J97 p hp ((p.Rules[a]).Calls[b]).Func) (by first|simp [J00];done|rfl) ?_|refine J02 (J97 p hp ((p.Rules[a]).Calls[b]).Func) (by first|simp [J00];done|rfl) ?_
 rintro r rfl
 simp
 first|refine J01 (J5o p ha (k:=b)) (by first|simp [J00,J0q];done|rfl) ?_|refine J02 (J5o p ha (k:=b)) (by first|simp [J00,J0q];done|rfl) ?_
 rintro r rfl
 simp
 have ht:∀ l:List Str,List.take l.length (J0a l)=J0a l:=fun l=>List.take_of_length_le (by simp [J0a])
 first|refine J01 (J28 (J34 p ((p.Rules[a]).Calls[b]).Func) (p.Rules[a]).Func) (by first|simp [ht];done|rfl) ?_|refine J02 (J28 (J34 p ((p.Rules[a]).Calls[b]).Func) (p.Rules[a]).Func) (by first|simp [ht];done|rfl) ?_
 rintro r rfl
 have g:=Jim (J34 p ((p.Rules[a]).Calls[b]).Func) (p.Rules[a]).Func
 simp [g,Jav,Ja4 ha,Jks ha hb]
theorem Jka (p:DProgram) (hp:J0k p≤1048576) (e:DEdge):Holds Tryz.prog 201 [.agg (J00 p),.agg (J0q e)] (fun r=>r = .bool (Jj1 p e)):=by
 refine J03 Tryz.func201 a201_ok rfl (by simp [a201]) ?_
 simp [a201,J00,J0q]
 first|refine J01 (J9i p hp) (by first|simp [J00];done|rfl) ?_|refine J02 (J9i p hp) (by first|simp [J00];done|rfl) ?_
 rintro r rfl
 have ht:List.take (J0h p).length ((J0h p).map J1y)=(J0h p).map J1y:=List.take_of_length_le (by simp)
 simp
 first|refine J01 (Jer (J0h p) e) (by first|simp [J0q,ht];done|rfl) ?_|refine J02 (Jer (J0h p) e) (by first|simp [J0q,ht];done|rfl) ?_
 rintro r rfl
 unfold Jj1
 by_cases hm:e∈J0h p
 case neg=>simp [hm]
 have hpo:J2s p=true:=by
  unfold J0h at hm
  split at hm
  ·assumption
  ·cases hm
 obtain ⟨i,hi,rfl⟩:=List.getElem_of_mem hm
 obtain ⟨a,b,ha,hb,he,hf,ht0⟩:=Jhu hi
 have hin:=Jov hpo hm
 rw [he] at hm hin ⊢
 rw [hf,ht0] at hin
 simp [hm]
 first|refine J01 (Jds p ha hb) (by first|simp [J00,J0q];done|rfl) ?_|refine J02 (Jds p ha hb) (by first|simp [J00,J0q];done|rfl) ?_
 rintro r rfl
 simp
 have ht1:List.take (Jh1 p (p.Rules[a]).Func).length (J0a (Jh1 p (p.Rules[a]).Func))=J0a (Jh1 p (p.Rules[a]).Func):=List.take_of_length_le (by simp [J0a])
 first|refine J01 (Jbt p hp (p.Rules[a]).Func) (by first|simp [J00];done|rfl) ?_|refine J02 (Jbt p hp (p.Rules[a]).Func) (by first|simp [J00];done|rfl) ?_
 rintro r rfl
 simp
 first|refine J01 (J4k (Jh1 p (p.Rules[a]).Func) ((p.Rules[a]).Calls[b]).Func) (by first|simp [ht1];done|rfl) ?_|refine J02 (J4k (Jh1 p (p.Rules[a]).Func) ((p.Rules[a]).Calls[b]).Func) (by first|simp [ht1];done|rfl) ?_
 rintro r rfl
 simp [hin]
def lvB (l:List DLin):DBounds:=⟨1,l⟩
def J6k (p:DProgram) (n:Nat) (e:DEdge) (k:Int):Bool:=if Jav p e then inR k 1 n else decide (k=0)
def Jct (p:DProgram) (x:DRanking):Bool:=J2s p&&decide (x.Levels.length≤3)&&decide (x.Edges.length=(J0h p).length)&&(x.Levels.all (J8l p.Functions)&&((J0h p).zip x.Edges).all fun y=>J6k p x.Levels.length y.1 y.2)
def obD (p:DProgram) (md:DModel) (e:DEdge) (l:List DLin) (k:Int):Option DObligation:=(J84 md (J4f p (lvB l) (Jcu p e)) e.Call (J4f p (lvB l) (toE p e)) k).map fun t=>⟨md.System,t⟩
def obC (p:DProgram) (md:DModel) (e:DEdge) (l:List DLin):Option DObligation:=(J0s (J4f p (lvB l) (Jcu p e)) md.Params md.System.N).map fun t=>⟨md.System,t⟩
def rk1 (p:DProgram) (md:DModel) (e:DEdge) (Ls:List (List DLin)) (n:Int) (i:Nat):List (Option DObligation):=
 if (i:Int)+1=n then [obD p md e (Ls.getD i []) 1,obC p md e (Ls.getD i [])] else [obD p md e (Ls.getD i []) 0]
def rkE (p:DProgram) (Ls:List (List DLin)) (e:DEdge) (n:Int):List (Option DObligation):=(List.range n.toNat).flatMap (rk1 p (Jdt p e) e Ls n)
def J9q (p:DProgram) (x:DRanking):List (Option DObligation):=((J0h p).zip x.Edges).flatMap fun y=>rkE p x.Levels y.1 y.2
def J2l (p:DProgram) (x:DRanking):Option (List DObligation):=if Jct p x then goO [] (J9q p x) else Option.none
theorem Jg4:∀ {l:List (Option DObligation)}{acc:List DObligation},goO acc l=(goO [] l).map (acc ++ ·)
 | [],acc=>by simp [goO]
 | Option.none::_,_=>by simp [goO]
 | some x::l,acc=>by
  simp only [goO,List.nil_append]
  rw [Jg4 (acc:=acc++[x]),Jg4 (acc:=[x])]
  cases goO [] l <;> simp
theorem Jxx {l1 l2:List (Option DObligation)}{acc:List DObligation} : goO acc (l1++l2)=(goO acc l1).bind fun a=>goO a l2:=by
 induction l1 generalizing acc with
 | nil=>simp [goO]
 | cons o l1 ih=>cases o <;> simp [goO,ih]
theorem Jfh {p:DProgram}{x:DRanking}(h:Jct p x=true):J2s p=true∧x.Levels.length≤3∧x.Edges.length=(J0h p).length∧(∀ l∈x.Levels,J8l p.Functions l=true)∧∀ y∈(J0h p).zip x.Edges,J6k p x.Levels.length y.1 y.2=true:=by
 unfold Jct at h
 simp only [Bool.and_eq_true,decide_eq_true_eq,List.all_eq_true] at h
 exact ⟨h.1.1.1,h.1.1.2,h.1.2,h.2.1,h.2.2⟩
theorem Jws {p:DProgram}{m:Nat}{e:DEdge}{k:Int}(h:J6k p m e k=true):0≤k∧k≤m:=by
 unfold J6k at h
 split at h
 ·simp [inR] at h;omega
 ·simp at h;omega
theorem Jzj {p:DProgram}{md:DModel}{e:DEdge}{Ls:List (List DLin)}{n:Int}{i:Nat} : (rk1 p md e Ls n i).length≤2:=by unfold rk1;split <;> simp
theorem Jxv {p:DProgram}{Ls:List (List DLin)}{e:DEdge}{n:Int} : (rkE p Ls e n).length≤2*n.toNat:=by
 have key:∀ l:List Nat,(l.flatMap (rk1 p (Jdt p e) e Ls n)).length≤2*l.length:=by
  intro l
  induction l with
  | nil=>simp
  | cons i l ih=>
   have:=Jzj (p:=p) (md:=Jdt p e) (e:=e) (Ls:=Ls) (n:=n) (i:=i)
   simp only [List.flatMap_cons,List.length_append,List.length_cons];omega
 have:=key (List.range n.toNat)
 unfold rkE;simpa using this
theorem Jm0 {p:DProgram}{x:DRanking}(h:Jct p x=true):(J9q p x).length≤96:=by
 obtain ⟨hpo,h1,h2,h3,h4⟩:=Jfh h
 have key:∀ l:List (DEdge×Int),(∀ y∈l,J6k p x.Levels.length y.1 y.2=true)→(l.flatMap fun y=>rkE p x.Levels y.1 y.2).length≤6*l.length:=by
  intro l
  induction l with
  | nil=>simp
  | cons y l ih=>
   intro hl
   have g1:=ih fun z hz=>hl z (List.mem_cons_of_mem _ hz)
   have g2:=Jws (hl y List.mem_cons_self)
   have g3:=Jxv (p:=p) (Ls:=x.Levels) (e:=y.1) (n:=y.2)
   simp only [List.flatMap_cons,List.length_append,List.length_cons];omega
 have:=key _ h4
 have h5:=Jb7 (p:=p)
 have h6:((J0h p).zip x.Edges).length≤16:=by simp;omega
 unfold J9q;omega
theorem Jp0 (p:DProgram) (x:DRanking):((J2l p x).getD []).length≤96:=by
 cases h:J2l p x with
 | none=>simp
 | some o=>
  unfold J2l at h
  split at h
  case isFalse=>cases h
  rename_i hB
  have h1:=Jrg h
  have h2:=Jm0 hB
  simp at h1 ⊢;omega
theorem K17 {md:DModel}{a b t:DLin}{c k:Int}(h:J84 md a c b k=some t):t.Coeffs.length≤8:=by
 have:=Jy3 md a c b k
 rw [h] at this
 unfold Jpt at this
 rw [J4z] at this
 exact this
theorem Jp2 {l t:DLin}{args:List DLin}{n:Int}(h:J0s l args n=some t):t.Coeffs.length≤8:=by
 have:=Jp3 l args n
 rw [h] at this
 unfold Jpt at this
 rw [J4z] at this
 exact this
theorem Jcz {p:DProgram}{e:DEdge}(h:e∈J0h p):J2s p=true∧∃ i k:Nat,∃ hi:i<p.Rules.length,k<(p.Rules[i]).Calls.length∧e=⟨(i:Int),(k:Int)⟩:=by
 unfold J0h at h
 split at h
 ·exact ⟨by assumption,Ja2 h⟩
 ·cases h
theorem Jvt (p:DProgram) (x:DRanking):J2e ((J2l p x).getD [])≤8388608:=by
 have hl:=Jp0 p x
 cases h:J2l p x with
 | none=>simp [J2e,cL]
 | some o=>
  rw [h] at hl
  simp only [Option.getD_some] at hl ⊢
  unfold J2l at h
  split at h
  case isFalse=>cases h
  rename_i hB
  obtain ⟨hpo,_⟩:=Jfh hB
  have key:∀ x∈o,J2y x≤2000:=by
   refine Js7 h (by simp) fun y hy => ?_
   unfold J9q at hy
   obtain ⟨z,hz,hy⟩:=List.mem_flatMap.1 hy
   have hze:z.1∈J0h p:=(List.of_mem_zip hz).1
   obtain ⟨_,i,k,hi,hk,he⟩:=Jcz hze
   obtain ⟨q1,q2⟩:=Jqu hpo (k:=k) hi
   have q4:=Ju0 _ q2
   rw [←he] at q1 q4
   have hs:y.System=(Jdt p z.1).System∧y.Target.Coeffs.length≤8:=by
    unfold rkE at hy
    obtain ⟨j,_,hy⟩:=List.mem_flatMap.1 hy
    have hd:∀ k',some y=obD p (Jdt p z.1) z.1 (x.Levels.getD j []) k'→y.System=(Jdt p z.1).System∧y.Target.Coeffs.length≤8:=by
     intro k' e1
     unfold obD at e1
     cases ht:J84 (Jdt p z.1) (J4f p (lvB (x.Levels.getD j [])) (Jcu p z.1)) z.1.Call (J4f p (lvB (x.Levels.getD j [])) (toE p z.1)) k' with
     | none=>rw [ht] at e1;cases e1
     | some t=>
      rw [ht,Option.map_some,Option.some.injEq] at e1
      subst e1
      exact ⟨rfl,K17 ht⟩
    have hc:some y=obC p (Jdt p z.1) z.1 (x.Levels.getD j [])→y.System=(Jdt p z.1).System∧y.Target.Coeffs.length≤8:=by
     intro e1
     unfold obC at e1
     cases ht:J0s (J4f p (lvB (x.Levels.getD j [])) (Jcu p z.1)) (Jdt p z.1).Params (Jdt p z.1).System.N with
     | none=>rw [ht] at e1;cases e1
     | some t=>
      rw [ht,Option.map_some,Option.some.injEq] at e1
      subst e1
      exact ⟨rfl,Jp2 ht⟩
    unfold rk1 at hy
    split at hy
    ·simp only [List.mem_cons,List.not_mem_nil,or_false] at hy
     rcases hy with hy|hy
     ·exact hd _ hy
     ·exact hc hy
    ·simp only [List.mem_cons,List.not_mem_nil,or_false] at hy
     exact hd _ hy
   unfold J2y
   rw [hs.1]
   simp only [J4z]
   omega
  have:=K58 _ key
  omega
def a127:AFn:= ⟨39,[(.c 10 true 2),.t 11],(.seq (.reg [Zo 5 (.boxv (.t 0)),Zo 6 (.boxv (.t 1)),Zo 7 (.boxv (.t 2)),Zo 10 (.box [(.int .i64 0),(.nil 1)]),Zo 11 (.mv (.k (.bool false)))]) (.seq (.reg [Zl 15 true 2 5,Zl 16 true 2 7,Zc 17 152 [.t 15,.t 16],Zv 14 17,Zo 18 (.ext (.t 14) 0),Zo 19 (.ext (.t 14) 1),Zv 12 18,Zv 13 19]) (.seq (.draw (.op (Zl 20 true 6 6) (.op (Zv 21 3) (.op (Zl 22 true 2 5) (.op (Zv 23 12) (.op (Zf 27 1 7) (.op (Zl 28 false 1 27) (.op (Zv 29 3) (.op (Zl 30 true 2 5) (.op (Zv 31 13) (.op (Zv 35 4) (.op (Zc 24 84 [.t 22,.t 23]) (.op (Zo 25 (.ixa 2 (.t 21) (.t 24))) (.op (Zl 26 true 2 25) (.op (Zc 32 84 [.t 30,.t 31]) (.op (Zo 33 (.ixa 2 (.t 29) (.t 32))) (.op (Zl 34 true 2 33) (.op (Zc 36 208 [.t 20,.t 26,.t 28,.t 34,.t 35]) (.op (Zo 37 (.ext (.t 36) 0)) (.op (Zo 38 (.ext (.t 36) 1)) (.hop ⟨no,.st 2 (.t 10) (.t 37),no⟩ [] (.op (Zv 11 38) .fin)))))))))))))))))))))) .ret)))⟩
theorem a127_ok:J06 Tryz.prog Tryz.f127=some a127:=by kernel_rfl
def a129:AFn:= ⟨32,[(.c 8 true 2),.t 9],(.seq (.reg [Zo 4 (.boxv (.t 0)),Zo 5 (.boxv (.t 1)),Zo 6 (.boxv (.t 2)),Zo 8 (.box [(.int .i64 0),(.nil 1)]),Zo 9 (.mv (.k (.bool false)))]) (.seq (.reg [Zl 13 true 2 4,Zl 14 true 2 6,Zc 15 152 [.t 13,.t 14],Zv 12 15,Zo 16 (.ext (.t 12) 0),Zo 17 (.ext (.t 12) 1),Zv 10 16,Zv 11 17]) (.seq (.draw (.op (Zv 18 3) (.op (Zl 19 true 2 4) (.op (Zv 20 10) (.op (Zf 24 2 5) (.op (Zl 25 false 1 24) (.op (Zf 26 0 5) (.op (Zf 27 0 26) (.op (Zl 28 false 1 27) (.op (Zc 21 84 [.t 19,.t 20]) (.op (Zo 22 (.ixa 2 (.t 18) (.t 21))) (.op (Zl 23 true 2 22) (.op (Zc 29 191 [.t 23,.t 25,.t 28]) (.op (Zo 30 (.ext (.t 29) 0)) (.op (Zo 31 (.ext (.t 29) 1)) (.hop ⟨no,.st 2 (.t 8) (.t 30),no⟩ [] (.op (Zv 9 31) .fin))))))))))))))))) .ret)))⟩
theorem a129_ok:J06 Tryz.prog Tryz.f129=some a129:=by kernel_rfl
theorem Jqa {p:DProgram}{lv:List DLin}{name:Str}(hl:lv.length=p.Functions.length) (hf:(J1o p.Functions name).isSome=true):∃ j:Nat,∃ hj:j<lv.length,J0t (fun f=>f.Name==name) p.Functions 0=(j:Int)∧J4f p (lvB lv) name=lv[j]:=by
 obtain ⟨j,hj,hji⟩:=Jwv hf
 have hjl:j<lv.length:=by omega
 exact ⟨j,hjl,hji,by unfold J4f lvB;rw [hji];simp [hjl]⟩
theorem Je4 (p:DProgram) (md:DModel) {i k:Nat}(hi:i<p.Rules.length) (hk:k<(p.Rules[i]).Calls.length) (lv:List DLin) (hl:lv.length=p.Functions.length) (hf:(J1o p.Functions (p.Rules[i]).Func).isSome=true) (hg:(J1o p.Functions ((p.Rules[i]).Calls[k]).Func).isSome=true) (K:Int) :
 Holds Tryz.prog 127 [.agg (J00 p),.agg (J0o md),.agg (J0q ⟨i,k⟩),.sl 2 (lv.map J05),i64 K] (fun r=>r=J18 (J84 md (J4f p (lvB lv) (p.Rules[i]).Func) k (J4f p (lvB lv) ((p.Rules[i]).Calls[k]).Func) K)):=by
 obtain ⟨j1,h1,g1,e1⟩:=Jqa hl hf
 obtain ⟨j2,h2,g2,e2⟩:=Jqa hl hg
 rw [e1,e2]
 refine J03 Tryz.func127 a127_ok rfl (by simp [a127]) ?_
 simp [a127,J00,J0o,J0q]
 first|refine J01 (Jds p hi hk) (by first|simp [J00,J0q];done|rfl) ?_|refine J02 (Jds p hi hk) (by first|simp [J00,J0q];done|rfl) ?_
 rintro r rfl
 simp
 first|refine J01 (J2r p (p.Rules[i]).Func) (by first|simp [J00];done|rfl) ?_|refine J02 (J2r p (p.Rules[i]).Func) (by first|simp [J00];done|rfl) ?_
 rintro r rfl
 rw [g1]
 simp [h1]
 first|refine J01 (J2r p ((p.Rules[i]).Calls[k]).Func) (by first|simp [J00];done|rfl) ?_|refine J02 (J2r p ((p.Rules[i]).Calls[k]).Func) (by first|simp [J00];done|rfl) ?_
 rintro r rfl
 rw [g2]
 simp [h2,J05]
 first|refine J01 (Jdr md (lv[j1]'h1) k (lv[j2]'h2) K) (by first|simp [J0o,J05];done|rfl) ?_|refine J02 (Jdr md (lv[j1]'h1) k (lv[j2]'h2) K) (by first|simp [J0o,J05];done|rfl) ?_
 rintro r rfl
 rw [J0u]
 generalize J84 md (lv[j1]'h1) k (lv[j2]'h2) K=T
 simp [J08]
theorem Jrs (p:DProgram) (md:DModel) {i k:Nat}(hi:i<p.Rules.length) (hk:k<(p.Rules[i]).Calls.length) (lv:List DLin) (hl:lv.length=p.Functions.length) (hf:(J1o p.Functions (p.Rules[i]).Func).isSome=true) :
 Holds Tryz.prog 129 [.agg (J00 p),.agg (J0o md),.agg (J0q ⟨i,k⟩),.sl 2 (lv.map J05)] (fun r=>r=J18 (J0s (J4f p (lvB lv) (p.Rules[i]).Func) md.Params md.System.N)):=by
 obtain ⟨j1,h1,g1,e1⟩:=Jqa hl hf
 rw [e1]
 refine J03 Tryz.func129 a129_ok rfl (by simp [a129]) ?_
 simp [a129,J00,J0o,J0q]
 first|refine J01 (Jds p hi hk) (by first|simp [J00,J0q];done|rfl) ?_|refine J02 (Jds p hi hk) (by first|simp [J00,J0q];done|rfl) ?_
 rintro r rfl
 simp
 first|refine J01 (J2r p (p.Rules[i]).Func) (by first|simp [J00];done|rfl) ?_|refine J02 (J2r p (p.Rules[i]).Func) (by first|simp [J00];done|rfl) ?_
 rintro r rfl
 rw [g1]
 simp [h1,J05]
 first|refine J01 (J3f (lv[j1]'h1) md.Params md.System.N) (by first|simp [J05];done|rfl) ?_|refine J02 (J3f (lv[j1]'h1) md.Params md.System.N) (by first|simp [J05];done|rfl) ?_
 rintro r rfl
 rw [J0u]
 generalize J0s (lv[j1]'h1) md.Params md.System.N=T
 simp [J08]
def rg0:AC:=(.reg [Zo 2 (.boxv (.t 0)),Zo 3 (.boxv (.t 1)),Zo 4 (.mv (.k (.bool false)))])
def rg1:AC:=(.reg [Zl 10 true 2 2,Zc 11 125 [.t 10],Zv 5 11])
def rg2:AC:=(.seq (.reg [Zl 12 true 2 2,Zc 13 67 [.t 12],Zo 14 (.un .not (.t 13)),Zv 15 14,⟨some 16,.fld 0 (.t 3),(some (15,false))⟩,⟨some 17,.ld false 1 (.t 16),(some (15,false))⟩,⟨some 18,.len false (.t 17),(some (15,false))⟩,⟨some 19,.bin .gtr (.t 18) (.k (.int .i64 3)),(some (15,false))⟩,Zo 20 (.pick (.t 15) (.k (.bool true)) (.t 19)),Zv 21 20,⟨some 22,.fld 1 (.t 3),(some (21,false))⟩,⟨some 23,.ld false 1 (.t 22),(some (21,false))⟩,⟨some 24,.len false (.t 23),(some (21,false))⟩,⟨some 25,.mv (.t 5),(some (21,false))⟩,⟨some 26,.len false (.t 25),(some (21,false))⟩,⟨some 27,.bin .neq (.t 24) (.t 26),(some (21,false))⟩,Zo 28 (.pick (.t 21) (.k (.bool true)) (.t 27))]) (.cond (.t 28) (.seq (.reg [Zo 4 (.mv (.k (.bool false)))]) .ret) .skip))
def rg3:AC:=(.seq (.reg [Zf 29 0 3,Zl 30 false 1 29,Zo 31 (.len false (.t 30)),Zo 32 (.mv (.k (.int .i64 0)))]) (.blk 0 (.loop (.seq (.reg [Zo 33 (.bin .lss (.t 32) (.t 31))]) (.seq (.cond (.t 33) .skip (.exit 0)) (.seq (.blk 1 (.seq (.reg [Zo 34 (.ixa 1 (.t 30) (.t 32)),Zl 35 false 1 34,Zv 7 35]) (.seq (.reg [Zl 36 true 2 2,Zv 37 7,Zc 38 103 [.t 36,.t 37],Zo 39 (.un .not (.t 38))]) (.cond (.t 39) (.seq (.reg [Zo 4 (.mv (.k (.bool false)))]) .ret) .skip)))) (.reg [Zo 40 (.bin .add (.t 32) (.k (.int .i64 1))),Zv 32 40])))))))
def rg4:AC:=(.seq (.reg [Zv 41 5,Zo 42 (.len false (.t 41)),Zo 43 (.mv (.k (.int .i64 0)))]) (.blk 2 (.loop (.seq (.reg [Zo 44 (.bin .lss (.t 43) (.t 42))]) (.seq (.cond (.t 44) .skip (.exit 2)) (.seq (.blk 3 (.seq (.reg [Zv 45 43,Zo 46 (.ixa 2 (.t 41) (.t 43)),Zl 47 true 2 46,Zo 9 (.box [(.int .i64 0),(.int .i64 0)]),Zv 8 45,⟨no,.st 2 (.t 9) (.t 47),no⟩]) (.seq (.reg [Zl 48 true 2 2,Zl 49 true 2 9,Zc 50 201 [.t 48,.t 49]]) (.cond (.t 50) (.seq (.draw (.op (Zf 51 1 3) (.op (Zl 52 false 1 51) (.op (Zv 53 8) (.op (Zo 54 (.ixa 1 (.t 52) (.t 53))) (.op (Zl 55 false 1 54) (.op (Zf 56 0 3) (.op (Zl 57 false 1 56) (.op (Zo 58 (.len false (.t 57))) (.op (Zc 59 102 [.t 55,(.k (.int .i64 1)),.t 58]) (.op (Zo 60 (.un .not (.t 59))) .fin))))))))))) (.cond (.t 60) (.seq (.reg [Zo 4 (.mv (.k (.bool false)))]) .ret) .skip)) (.seq (.reg [Zf 61 1 3,Zl 62 false 1 61,Zv 63 8,Zo 64 (.ixa 1 (.t 62) (.t 63)),Zl 65 false 1 64,Zo 66 (.bin .neq (.t 65) (.k (.int .i64 0)))]) (.cond (.t 66) (.seq (.reg [Zo 4 (.mv (.k (.bool false)))]) .ret) .skip)))))) (.reg [Zo 67 (.bin .add (.t 43) (.k (.int .i64 1))),Zv 43 67])))))))
def rg5:AC:=(.reg [Zo 4 (.mv (.k (.bool true)))])
def a124:AFn:=⟨68,[.t 4],(.seq rg0 (.seq rg1 (.seq rg2 (.seq rg3 (.seq rg4 (.seq rg5 .ret))))))⟩
theorem a124_ok:J06 Tryz.prog Tryz.f124=some a124:=by kernel_rfl
theorem Jf2 {p:DProgram}{es:List DEdge}{ks:List Int}{n i:Nat}(hi:i<es.length) (hk:ks.length=es.length):((es.drop i).zip (ks.drop i)).all (fun y=>J6k p n y.1 y.2)=(J6k p n es[i] (ks[i]'(by omega))&&((es.drop (i+1)).zip (ks.drop (i+1))).all (fun y=>J6k p n y.1 y.2)):=by
 rw [List.drop_eq_getElem_cons hi,List.drop_eq_getElem_cons (show i<ks.length by omega),List.zip_cons_cons,List.all_cons]
theorem Jp1 {p:DProgram}{e:DEdge}(h:e∈J0h p):Jj1 p e=Jav p e:=by unfold Jj1;rw [decide_eq_true h,Bool.true_and]
section
variable {ks:List Kt}{s:Env}{h h':Heap}{n:Nat}{Q:Fin}
theorem K12 {p:DProgram}{x:DRanking}(hn:2<n) (s2:s 2 = .ptr 0 0 0) (s3:s 3 = .ptr 1 0 0) (e0:h 0=some ⟨true,2,[J00 p]⟩) (e1:h 1=some ⟨true,2,[J0e x]⟩) (hL:x.Levels.length≤3)
 (hret:x.Levels.all (J8l p.Functions)=false→∀ s' h' n',s' 4 = .bool false→J2u Tryz.prog ks .ret s' h' n' Q)
 (hK:∀ s',(∀ j∈[2,3,5],s' j=s j)→x.Levels.all (J8l p.Functions)=true→J2u Tryz.prog ks .normal s' h n Q):rC Tryz.prog rg3 ks s h n Q:=by
 generalize hF:x.Levels.all (J8l p.Functions)=F at *
 simp [rg3,s3,e1,J0e]
 intro _
 refine J0l [2,3,5,30,31] 32 x.Levels.length (fun i s h' m=>h'=h∧m=n∧(x.Levels.drop i).all (J8l p.Functions)=F) (by unfold LIM;omega) (by simp) ⟨rfl,rfl,by simpa using hF⟩ ?_ ?_
 ·rintro i st h1 m1 R hi hgi hk s32 hw ⟨rfl,rfl,hJ⟩ hR hrt _
  simp at hk
  rw [List.drop_eq_getElem_cons hi,List.all_cons] at hJ
  simp [hk,s32,hi,s2,e0,J2x]
  first|refine J01 (Jnr p (x.Levels[i]'hi)) (by first|simp;done|rfl) ?_|refine J02 (Jnr p (x.Levels[i]'hi)) (by first|simp;done|rfl) ?_
  rintro r rfl
  cases hc:J8l p.Functions x.Levels[i]
  ·rw [hc,Bool.false_and] at hJ
   simp
   exact hrt _ _ _ (hret hJ.symm _ _ _ (by simp))
  ·rw [hc,Bool.true_and] at hJ
   simp [s32,hw]
   exact hR _ _ _ (by simp [hk]) (by simp) ⟨rfl,rfl,hJ⟩
 ·rintro st h1 m1 R hk s32 ⟨rfl,rfl,hJ⟩ hrt hX
  simp at hk
  rw [List.drop_eq_nil_of_le (by omega)] at hJ
  simp [hk,s32]
  refine hX _ _ _ _ ?_
  simp
  exact hK _ (by simp [hk]) (by rw [←hJ];rfl)
theorem K02 {p:DProgram}(hp:J0k p≤1048576) {x:DRanking}(hn:2<n) (s2:s 2 = .ptr 0 0 0) (s3:s 3 = .ptr 1 0 0) (s5:s 5 = .ref 2 0 (J0h p).length) (e0:h 0=some ⟨true,2,[J00 p]⟩) (e1:h 1=some ⟨true,2,[J0e x]⟩) (e2:h 2=some ⟨false,2,(J0h p).map J1y⟩) (hL:x.Levels.length≤3) (hE:x.Edges.length=(J0h p).length)
 (hret:(((J0h p).zip x.Edges).all fun y=>J6k p x.Levels.length y.1 y.2)=false→∀ s' h' n',s' 4 = .bool false→J2u Tryz.prog ks .ret s' h' n' Q)
 (hK:∀ s' h' n',(((J0h p).zip x.Edges).all fun y=>J6k p x.Levels.length y.1 y.2)=true→J2u Tryz.prog ks .normal s' h' n' Q):rC Tryz.prog rg4 ks s h n Q:=by
 have h16:=Jb7 (p:=p)
 generalize hF:(((J0h p).zip x.Edges).all fun y=>J6k p x.Levels.length y.1 y.2)=F at *
 simp [rg4,s5,e2]
 intro _
 refine J0l [2,3,41,42] 43 (J0h p).length (fun i s h' m=>n≤m∧(∀ id,id<n→h' id=h id)∧(((J0h p).drop i).zip (x.Edges.drop i)).all (fun y=>J6k p x.Levels.length y.1 y.2)=F) (by unfold LIM;omega) (by simp) ⟨Nat.le_refl _,fun _ _=>rfl,by simpa using hF⟩ ?_ ?_
 ·rintro i st h1 m1 R hi hgi hk s43 hw ⟨hm1,hf,hJ⟩ hR hrt _
  simp at hk
  rw [Jf2 hi hE] at hJ
  have hie:i<x.Edges.length:=by omega
  have z0:h1 0=some ⟨true,2,[J00 p]⟩:=by rw [hf 0 (by omega),e0]
  have z1:h1 1=some ⟨true,2,[J0e x]⟩:=by rw [hf 1 (by omega),e1]
  have z2:h1 2=some ⟨false,2,(J0h p).map J1y⟩:=by rw [hf 2 (by omega),e2]
  have ne:¬0=m1∧¬1=m1∧¬2=m1:=by omega
  have fr:∀ id,id<n→¬id=m1:=by intro id _;omega
  have hin:=Jp1 (List.getElem_mem hi)
  have hf':∀ H:Heap,H=upd h1 m1 (some ⟨true,2,[J0q (J0h p)[i]]⟩)→∀ id,id<n→H id=h id:=fun H hH id hid=>by rw [hH];simp [fr id hid,hf id hid]
  simp [hk,s43,hi,s2,z0,z2,ne,J1y]
  first|refine J01 (Jka p hp ((J0h p)[i]'hi)) (by first|simp [J0q];done|rfl) ?_|refine J02 (Jka p hp ((J0h p)[i]'hi)) (by first|simp [J0q];done|rfl) ?_
  rintro r rfl
  rw [hin]
  cases hc:Jav p (J0h p)[i]
  ·have hev:J6k p x.Levels.length (J0h p)[i] (x.Edges[i]'hie)=decide ((x.Edges[i]'hie)=0):=by unfold J6k;rw [hc];rfl
   rw [hev] at hJ
   by_cases hz:(x.Edges[i]'hie)=0
   ·simp [hz] at hJ
    simp [hk,s3,z1,ne,J0e,hie,hz,s43,hw]
    exact hR _ _ _ (by simp [hk]) (by simp) ⟨by omega,fun id hid=>by simp [fr id hid,hf id hid],by simpa using hJ⟩
   ·simp [hz] at hJ
    simp [hk,s3,z1,ne,J0e,hie,hz]
    exact hrt _ _ _ (hret hJ _ _ _ (by simp))
  ·have hev:J6k p x.Levels.length (J0h p)[i] (x.Edges[i]'hie)=inR (x.Edges[i]'hie) 1 x.Levels.length:=by unfold J6k;rw [hc];rfl
   rw [hev] at hJ
   simp [hk,s3,z1,ne,J0e,hie]
   first|refine J01 (J24 (x.Edges[i]'hie) 1 x.Levels.length) (by first|simp;done|rfl) ?_|refine J02 (J24 (x.Edges[i]'hie) 1 x.Levels.length) (by first|simp;done|rfl) ?_
   rintro r rfl
   cases hz:inR (x.Edges[i]'hie) 1 x.Levels.length
   ·rw [hz,Bool.false_and] at hJ
    simp
    exact hrt _ _ _ (hret hJ.symm _ _ _ (by simp))
   ·rw [hz,Bool.true_and] at hJ
    simp [s43,hw]
    exact hR _ _ _ (by simp [hk]) (by simp) ⟨by omega,fun id hid=>by simp [fr id hid,hf id hid],hJ⟩
 ·rintro st h1 m1 R hk s43 ⟨hm1,hf,hJ⟩ hrt hX
  simp at hk
  rw [List.drop_eq_nil_of_le (by omega)] at hJ
  simp [hk,s43]
  refine hX _ _ _ _ ?_
  simp
  exact hK _ _ _ (by rw [←hJ];rfl)
end
theorem Jfa (p:DProgram) (hp:J0k p≤1048576) (x:DRanking):Holds Tryz.prog 124 [.agg (J00 p),.agg (J0e x)] (fun r=>r = .bool (Jct p x)):=by
 have h16:=Jb7 (p:=p)
 refine J03 Tryz.func124 a124_ok rfl (by simp [a124]) ?_
 simp [a124,rg0,rg1]
 first|refine J01 (J9i p hp) (by first|simp;done|rfl) ?_|refine J02 (J9i p hp) (by first|simp;done|rfl) ?_
 rintro r rfl
 simp [rg2]
 first|refine J01 (J2q p hp) (by first|simp;done|rfl) ?_|refine J02 (J2q p hp) (by first|simp;done|rfl) ?_
 rintro r rfl
 have hrk:Jct p x=(J2s p&&decide (x.Levels.length≤3)&&decide (x.Edges.length=(J0h p).length)&&(x.Levels.all (J8l p.Functions)&&((J0h p).zip x.Edges).all fun y=>J6k p x.Levels.length y.1 y.2)):=rfl
 cases h1:J2s p
 ·rw [h1] at hrk
  simp at hrk
  simp [hrk]
 rw [h1] at hrk
 by_cases h2:x.Levels.length≤3
 case neg=>
  have h2':(3:Int)<x.Levels.length:=by omega
  have h2'':3<x.Levels.length:=by omega
  simp [h2] at hrk
  simp [J0e,h2',h2'',hrk]
 have h2':¬(3:Int)<x.Levels.length:=by omega
 have h2'':¬3<x.Levels.length:=by omega
 by_cases h3:x.Edges.length=(J0h p).length
 case neg=>
  have h3':¬(x.Edges.length:Int)=(J0h p).length:=by omega
  simp [h3] at hrk
  simp [J0e,h2',h2'',h3,h3',hrk]
 simp [h2,h3] at hrk
 simp [J0e,h2',h2'',h3]
 intros
 refine K12 (p:=p) (x:=x) (by omega) (by simp) (by simp) (by simp) (by simp [J0e]) h2 ?_ ?_
 ·intro hF s' h' n' s4
  rw [hF] at hrk
  simp at hrk
  simp [s4,hrk]
 ·intro s' hk' hF
  simp at hk'
  rw [hF] at hrk
  simp
  refine K02 hp (x:=x) (by omega) (by simp [hk']) (by simp [hk']) (by simp [hk']) (by simp) (by simp [J0e]) (by simp) h2 h3 ?_ ?_
  ·intro hF2 s' h' n' s4
   rw [hF2] at hrk
   simp at hrk
   simp [s4,hrk]
  ·intro s' h' n' hF2
   rw [hF2] at hrk
   simp at hrk
   simp [rg5,hrk]
def a197:AFn:= ⟨31,[.t 4],(.seq (.reg [Zo 2 (.boxv (.t 0)),Zo 4 (.mv (.k (.bool false)))]) (.seq (.seq (.reg [Zv 6 1,Zo 7 (.len false (.t 6)),Zf 8 0 2,Zl 9 false 1 8,Zo 10 (.len false (.t 9)),Zo 11 (.bin .neq (.t 7) (.t 10))]) (.cond (.t 11) (.seq (.reg [Zo 4 (.mv (.k (.bool false)))]) .ret) .skip)) (.seq (.seq (.reg [Zo 5 (.mv (.k (.int .i64 0)))]) (.blk 0 (.loop (.seq (.seq (.reg [Zv 12 5,Zv 13 1,Zo 14 (.len false (.t 13)),Zo 15 (.bin .lss (.t 12) (.t 14))]) (.cond (.t 15) .skip (.exit 0))) (.seq (.blk 1 (.seq (.draw (.op (Zv 18 1) (.op (Zv 19 5) (.op (Zo 20 (.ixa 2 (.t 18) (.t 19))) (.op (Zl 21 true 2 20) (.op (Zf 22 0 2) (.op (Zl 23 false 1 22) (.op (Zv 24 5) (.op (Zo 25 (.ixa 4 (.t 23) (.t 24))) (.op (Zf 26 1 25) (.op (Zl 27 false 1 26) (.op (Zo 28 (.len false (.t 27))) (.op (Zc 29 179 [.t 21,.t 28]) (.op (Zo 30 (.un .not (.t 29))) .fin)))))))))))))) (.cond (.t 30) (.seq (.reg [Zo 4 (.mv (.k (.bool false)))]) .ret) .skip))) (.reg [Zv 16 5,Zo 17 (.bin .add (.t 16) (.k (.int .i64 1))),Zv 5 17])))))) (.seq (.reg [Zo 4 (.mv (.k (.bool true)))]) .ret))))⟩
theorem a197_ok:J06 Tryz.prog Tryz.f197=some a197:=by kernel_rfl
def lh0:AC:=(.reg [Zo 2 (.boxv (.t 0)),Zo 3 (.boxv (.t 1)),Zo 4 (.mv (.k (.bool false)))])
def lh1:AC:=(.reg [Zl 9 true 2 2,Zc 10 122 [.t 9],Zv 5 10])
def lh2:AC:=(.seq (.reg [Zl 11 true 2 2,Zc 12 61 [.t 11],Zo 13 (.un .not (.t 12)),Zv 14 13,⟨some 15,.fld 0 (.t 3),(some (14,false))⟩,⟨some 16,.ld false 1 (.t 15),(some (14,false))⟩,⟨some 17,.len false (.t 16),(some (14,false))⟩,⟨some 18,.bin .gtr (.t 17) (.k (.int .i64 3)),(some (14,false))⟩,Zo 19 (.pick (.t 14) (.k (.bool true)) (.t 18)),Zv 20 19,⟨some 21,.fld 1 (.t 3),(some (20,false))⟩,⟨some 22,.ld false 1 (.t 21),(some (20,false))⟩,⟨some 23,.len false (.t 22),(some (20,false))⟩,⟨some 24,.mv (.t 5),(some (20,false))⟩,⟨some 25,.len false (.t 24),(some (20,false))⟩,⟨some 26,.bin .neq (.t 23) (.t 25),(some (20,false))⟩,Zo 27 (.pick (.t 20) (.k (.bool true)) (.t 26))]) (.cond (.t 27) (.seq (.reg [Zo 4 (.mv (.k (.bool false)))]) .ret) .skip))
def lh3:AC:=(.seq (.reg [Zo 6 (.mv (.k (.int .i64 0)))]) (.blk 0 (.loop (.seq (.seq (.reg [Zv 28 6,Zf 29 0 3,Zl 30 false 1 29,Zo 31 (.len false (.t 30)),Zo 32 (.bin .lss (.t 28) (.t 31))]) (.cond (.t 32) .skip (.exit 0))) (.seq (.blk 1 (.seq (.draw (.op (Zl 35 true 2 2) (.op (Zf 36 0 3) (.op (Zl 37 false 1 36) (.op (Zv 38 6) (.op (Zo 39 (.ixa 1 (.t 37) (.t 38))) (.op (Zl 40 false 1 39) (.op (Zc 41 197 [.t 35,.t 40]) (.op (Zo 42 (.un .not (.t 41))) .fin))))))))) (.cond (.t 42) (.seq (.reg [Zo 4 (.mv (.k (.bool false)))]) .ret) .skip))) (.reg [Zv 33 6,Zo 34 (.bin .add (.t 33) (.k (.int .i64 1))),Zv 6 34]))))))
def lh4:AC:=(.seq (.reg [Zo 7 (.mv (.k (.int .i64 0)))]) (.blk 2 (.loop (.seq (.seq (.reg [Zv 43 7,Zv 44 5,Zo 45 (.len false (.t 44)),Zo 46 (.bin .lss (.t 43) (.t 45))]) (.cond (.t 46) .skip (.exit 2))) (.seq (.blk 3 (.seq (.draw (.op (Zl 49 true 2 2) (.op (Zv 50 5) (.op (Zv 51 7) (.op (Zo 52 (.ixa 2 (.t 50) (.t 51))) (.op (Zl 53 true 2 52) (.op (Zc 54 198 [.t 49,.t 53]) (.op (Zv 8 54) .fin)))))))) (.seq (.draw (.op (Zv 55 8) (.op (Zv 56 55) (.op ⟨some 57,.fld 1 (.t 3),(some (56,true))⟩ (.op ⟨some 58,.ld false 1 (.t 57),(some (56,true))⟩ (.op ⟨some 59,.mv (.t 7),(some (56,true))⟩ (.op ⟨some 60,.ixa 1 (.t 58) (.t 59),(some (56,true))⟩ (.op ⟨some 61,.ld false 1 (.t 60),(some (56,true))⟩ (.op ⟨some 62,.fld 0 (.t 3),(some (56,true))⟩ (.op ⟨some 63,.ld false 1 (.t 62),(some (56,true))⟩ (.op ⟨some 64,.len false (.t 63),(some (56,true))⟩ (.op ⟨some 65,.call (.k (.fn (.func 183) [] [])) [.t 61,(.k (.int .i64 1)),.t 64],(some (56,true))⟩ (.op ⟨some 66,.un .not (.t 65),(some (56,true))⟩ (.op (Zo 67 (.pick (.t 56) (.t 66) (.k (.bool false)))) (.op (Zv 68 67) (.op ⟨some 69,.mv (.t 8),(some (68,false))⟩ (.op ⟨some 70,.un .not (.t 69),(some (68,false))⟩ (.op ⟨some 71,.mv (.t 70),(some (68,false))⟩ (.op ⟨some 72,.fld 1 (.t 3),(some (71,true))⟩ (.op ⟨some 73,.ld false 1 (.t 72),(some (71,true))⟩ (.op ⟨some 74,.mv (.t 7),(some (71,true))⟩ (.op ⟨some 75,.ixa 1 (.t 73) (.t 74),(some (71,true))⟩ (.op ⟨some 76,.ld false 1 (.t 75),(some (71,true))⟩ (.op ⟨some 77,.bin .neq (.t 76) (.k (.int .i64 0)),(some (71,true))⟩ (.op ⟨some 78,.pick (.t 71) (.t 77) (.k (.bool false)),(some (68,false))⟩ (.op (Zo 79 (.pick (.t 68) (.k (.bool true)) (.t 78))) .fin)))))))))))))))))))))))))) (.cond (.t 79) (.seq (.reg [Zo 4 (.mv (.k (.bool false)))]) .ret) .skip)))) (.reg [Zv 47 7,Zo 48 (.bin .add (.t 47) (.k (.int .i64 1))),Zv 7 48]))))))
def lh5:AC:=(.reg [Zo 4 (.mv (.k (.bool true)))])
def a121:AFn:=⟨80,[.t 4],(.seq lh0 (.seq lh1 (.seq lh2 (.seq lh3 (.seq lh4 (.seq lh5 .ret))))))⟩
theorem a121_ok:J06 Tryz.prog Tryz.f121=some a121:=by kernel_rfl
theorem Jf0 (p:DProgram) (ls:List DLin):Holds Tryz.prog 197 [.agg (J00 p),.sl 2 (ls.map J05)] (fun x=>x = .bool (J8l p.Functions ls)):=by
 refine J03 Tryz.func197 a197_ok rfl (by simp [a197]) ?_
 simp [a197,J00]
 unfold J8l
 by_cases hl:ls.length=p.Functions.length
 case neg=>
  have hl':¬(ls.length:Int)=p.Functions.length:=by omega
  simp [hl,hl']
 simp [hl]
 intro hlm
 refine J0l [1,2] 5 ls.length (fun i s h n=>0<n∧h 0=some ⟨true,2,[J00 p]⟩∧((ls.drop i).zip (p.Functions.drop i)).all (fun x=>J1q x.1 x.2.Params.length)=(ls.zip p.Functions).all (fun x=>J1q x.1 x.2.Params.length)) (by omega) (by simp) ⟨by simp,by simp [J00],rfl⟩ ?_ ?_
 ·rintro i s h n R hi hg hk s5 hw ⟨hn,e0,hJ⟩ hR hret _
  have hi':i<p.Functions.length:=by omega
  simp at hk
  rw [List.drop_eq_getElem_cons hi,List.drop_eq_getElem_cons hi',List.zip_cons_cons,List.all_cons] at hJ
  simp [hk,s5,hi,hi',hw,e0,J05,J00,J04,hl]
  try intro _
  first|refine J01 (J1a (ls[i]'hi) (p.Functions[i]'hi').Params.length) (by first|simp [J05];done|rfl) ?_|refine J02 (J1a (ls[i]'hi) (p.Functions[i]'hi').Params.length) (by first|simp [J05];done|rfl) ?_
  rintro r rfl
  cases h0:J1q ls[i] (p.Functions[i]).Params.length
  ·rw [h0] at hJ
   have hJ:(ls.zip p.Functions).all (fun x=>J1q x.1 x.2.Params.length)=false:=by rw [←hJ];rfl
   simp
   refine hret _ _ _ ?_
   simp [hJ]
  ·rw [h0,Bool.true_and] at hJ
   simp [hk,s5,hi,hw]
   exact hR _ _ _ (by simp [hk]) (by simp) ⟨by omega,by simp [e0,J00],hJ⟩
 ·rintro s h n R hk s5 ⟨hn,e0,hJ⟩ hret hX
  simp at hk
  rw [List.drop_eq_nil_of_le (Nat.le_refl _)] at hJ
  simp [hk,s5,hl]
  try intro _
  refine hX _ _ _ _ ?_
  rw [←hJ]
  simp
section
variable {ks:List Kt}{s:Env}{h h':Heap}{n:Nat}{Q:Fin}
theorem Jzu {p:DProgram}{x:DRanking}(hn:2<n) (s2:s 2 = .ptr 0 0 0) (s3:s 3 = .ptr 1 0 0) (e0:h 0=some ⟨true,2,[J00 p]⟩) (e1:h 1=some ⟨true,2,[J0e x]⟩) (hL:x.Levels.length≤3)
 (hret:x.Levels.all (J8l p.Functions)=false→∀ s' h' n',s' 4 = .bool false→J2u Tryz.prog ks .ret s' h' n' Q)
 (hK:∀ s',(∀ j∈[2,3,5],s' j=s j)→x.Levels.all (J8l p.Functions)=true→J2u Tryz.prog ks .normal s' h n Q):rC Tryz.prog lh3 ks s h n Q:=by
 generalize hF:x.Levels.all (J8l p.Functions)=F at *
 simp [lh3]
 refine J0l [2,3,5] 6 x.Levels.length (fun i s h' m=>h'=h∧m=n∧(x.Levels.drop i).all (J8l p.Functions)=F) (by unfold LIM;omega) (by simp) ⟨rfl,rfl,by simpa using hF⟩ ?_ ?_
 ·rintro i st h1 m1 R hi hgi hk s6 hw ⟨rfl,rfl,hJ⟩ hR hrt _
  simp at hk
  rw [List.drop_eq_getElem_cons hi,List.all_cons] at hJ
  simp [hk,s6,hi,s2,s3,e0,e1,J2x,J0e]
  try intro _
  first|refine J01 (Jf0 p (x.Levels[i]'hi)) (by simp) ?_|refine J02 (Jf0 p (x.Levels[i]'hi)) (by simp) ?_
  rintro r rfl
  cases hc:J8l p.Functions x.Levels[i]
  ·rw [hc,Bool.false_and] at hJ
   simp
   exact hrt _ _ _ (hret hJ.symm _ _ _ (by simp))
  ·rw [hc,Bool.true_and] at hJ
   simp [s6,hw]
   exact hR _ _ _ (by simp [hk]) (by simp) ⟨rfl,rfl,hJ⟩
 ·rintro st h1 m1 R hk s6 ⟨rfl,rfl,hJ⟩ hrt hX
  simp at hk
  rw [List.drop_eq_nil_of_le (by omega)] at hJ
  simp [hk,s6,s3,e1,J0e]
  try intro _
  refine hX _ _ _ _ ?_
  simp
  exact hK _ (by simp [hk]) (by rw [←hJ];rfl)
theorem K0b {p:DProgram}(hp:J0k p≤1048576) {x:DRanking}(hn:2<n) (s2:s 2 = .ptr 0 0 0) (s3:s 3 = .ptr 1 0 0) (s5:s 5 = .ref 2 0 (J0h p).length) (e0:h 0=some ⟨true,2,[J00 p]⟩) (e1:h 1=some ⟨true,2,[J0e x]⟩) (e2:h 2=some ⟨false,2,(J0h p).map J1y⟩) (hL:x.Levels.length≤3) (hE:x.Edges.length=(J0h p).length)
 (hret:(((J0h p).zip x.Edges).all fun y=>J6k p x.Levels.length y.1 y.2)=false→∀ s' h' n',s' 4 = .bool false→J2u Tryz.prog ks .ret s' h' n' Q)
 (hK:∀ s' h' n',(((J0h p).zip x.Edges).all fun y=>J6k p x.Levels.length y.1 y.2)=true→J2u Tryz.prog ks .normal s' h' n' Q):rC Tryz.prog lh4 ks s h n Q:=by
 have h16:=Jb7 (p:=p)
 generalize hF:(((J0h p).zip x.Edges).all fun y=>J6k p x.Levels.length y.1 y.2)=F at *
 simp [lh4]
 refine J0l [2,3,5] 7 (J0h p).length (fun i s h' m=>h'=h∧m=n∧(((J0h p).drop i).zip (x.Edges.drop i)).all (fun y=>J6k p x.Levels.length y.1 y.2)=F) (by unfold LIM;omega) (by simp) ⟨rfl,rfl,by simpa using hF⟩ ?_ ?_
 ·rintro i st h1 m1 R hi hgi hk s7 hw ⟨rfl,rfl,hJ⟩ hR hrt _
  simp at hk
  rw [Jf2 hi hE] at hJ
  have hie:i<x.Edges.length:=by omega
  obtain ⟨_,a,b,ha,hb,hab⟩:=Jcz (List.getElem_mem hi)
  refine J0b (J0i [2,3,5,7] (fun s=>s 46 = .bool true) ?_ ?_)
  ·simp [hk,s7,s5,e2,hi]
  intro st1 hk1 s46
  simp at hk1
  refine J25 s46 (J0b (J1h ?_))
  refine J0i [2,3,5,7] (fun s=>s 8 = .bool (Jav p (J0h p)[i])) ?_ ?_
  ·simp [hk1,hk,s7,s5,s2,e0,e2,hi,J1y]
   rw [hab]
   first|refine J01 (Jfp p hp ha hb) (by simp [J0q]) ?_|refine J02 (Jfp p hp ha hb) (by simp [J0q]) ?_
   rintro r rfl
   simp
  intro st2 hk2 s8
  simp at hk2
  cases hc:Jav p (J0h p)[i]
  ·have hev:J6k p x.Levels.length (J0h p)[i] (x.Edges[i]'hie)=decide ((x.Edges[i]'hie)=0):=by unfold J6k;rw [hc];rfl
   rw [hev] at hJ
   rw [hc] at s8
   by_cases hz:(x.Edges[i]'hie)=0
   ·simp [hz] at hJ
    simp [hk2,hk1,hk,s8,s3,e1,J0e,hie,hz,s7,hw]
    exact hR _ _ _ (by simp [hk2,hk1,hk]) (by simp) ⟨rfl,rfl,by simpa using hJ⟩
   ·simp [hz] at hJ
    simp [hk2,hk1,hk,s8,s3,e1,J0e,hie,hz,s7]
    exact hrt _ _ _ (hret hJ _ _ _ (by simp))
  ·have hev:J6k p x.Levels.length (J0h p)[i] (x.Edges[i]'hie)=inR (x.Edges[i]'hie) 1 x.Levels.length:=by unfold J6k;rw [hc];rfl
   rw [hev] at hJ
   rw [hc] at s8
   simp [hk2,hk1,hk,s8,s3,e1,J0e,hie,s7]
   first|refine J01 (J5m (x.Edges[i]'hie) 1 x.Levels.length) (by simp) ?_|refine J02 (J5m (x.Edges[i]'hie) 1 x.Levels.length) (by simp) ?_
   rintro r rfl
   cases hz:inR (x.Edges[i]'hie) 1 x.Levels.length
   ·rw [hz,Bool.false_and] at hJ
    simp [s8]
    exact hrt _ _ _ (hret hJ.symm _ _ _ (by simp))
   ·rw [hz,Bool.true_and] at hJ
    simp [s8,hk2,hk1,s7,hw]
    exact hR _ _ _ (by simp [hk2,hk1,hk]) (by simp) ⟨rfl,rfl,hJ⟩
 ·rintro st h1 m1 R hk s7 ⟨rfl,rfl,hJ⟩ hrt hX
  simp at hk
  rw [List.drop_eq_nil_of_le (by omega)] at hJ
  simp [hk,s7,s5,e2]
  try intro _
  refine hX _ _ _ _ ?_
  simp
  exact hK _ _ _ (by rw [←hJ];rfl)
end
theorem Jhl (p:DProgram) (hp:J0k p≤1048576) (x:DRanking):Holds Tryz.prog 121 [.agg (J00 p),.agg (J0e x)] (fun r=>r = .bool (Jct p x)):=by
 have h16:=Jb7 (p:=p)
 refine J03 Tryz.func121 a121_ok rfl (by simp [a121]) ?_
 simp [a121,lh0,lh1]
 first|refine J01 (J7b p hp) (by first|simp;done|rfl) ?_|refine J02 (J7b p hp) (by first|simp;done|rfl) ?_
 rintro r rfl
 simp [lh2]
 first|refine J01 (J3g p hp) (by first|simp;done|rfl) ?_|refine J02 (J3g p hp) (by first|simp;done|rfl) ?_
 rintro r rfl
 have hrk:Jct p x=(J2s p&&decide (x.Levels.length≤3)&&decide (x.Edges.length=(J0h p).length)&&(x.Levels.all (J8l p.Functions)&&((J0h p).zip x.Edges).all fun y=>J6k p x.Levels.length y.1 y.2)):=rfl
 cases h1:J2s p
 ·rw [h1] at hrk
  simp at hrk
  simp [hrk]
 rw [h1] at hrk
 by_cases h2:x.Levels.length≤3
 case neg=>
  have h2':(3:Int)<x.Levels.length:=by omega
  have h2'':3<x.Levels.length:=by omega
  simp [h2] at hrk
  simp [J0e,h2',h2'',hrk]
 have h2':¬(3:Int)<x.Levels.length:=by omega
 have h2'':¬3<x.Levels.length:=by omega
 by_cases h3:x.Edges.length=(J0h p).length
 case neg=>
  have h3':¬(x.Edges.length:Int)=(J0h p).length:=by omega
  simp [h3] at hrk
  simp [J0e,h2',h2'',h3,h3',hrk]
 simp [h2,h3] at hrk
 simp [J0e,h2',h2'',h3]
 intros
 refine Jzu (p:=p) (x:=x) (by omega) (by simp) (by simp) (by simp) (by simp [J0e]) h2 ?_ ?_
 ·intro hF s' h' n' s4
  rw [hF] at hrk
  simp at hrk
  simp [s4,hrk]
 ·intro s' hk' hF
  simp at hk'
  rw [hF] at hrk
  simp
  refine K0b hp (x:=x) (by omega) (by simp [hk']) (by simp [hk']) (by simp [hk']) (by simp) (by simp [J0e]) (by simp) h2 h3 ?_ ?_
  ·intro hF2 s' h' n' s4
   rw [hF2] at hrk
   simp at hrk
   simp [s4,hrk]
  ·intro s' h' n' hF2
   rw [hF2] at hrk
   simp at hrk
   simp [lh5,hrk]
def xa0:AC:=(.reg [Zo 2 (.boxv (.t 0)),Zo 3 (.boxv (.t 1)),Zo 4 (.mv (.k (.nil 4))),Zo 5 (.mv (.k (.bool false)))])
def xa1:AC:=(.seq (.reg [Zl 18 true 2 2,Zl 19 true 2 3,Zc 20 124 [.t 18,.t 19],Zo 21 (.un .not (.t 20))]) (.cond (.t 21) (.seq (.reg [Zo 4 (.mv (.k (.nil 4))),Zo 5 (.mv (.k (.bool false)))]) .ret) .skip))
def xa2:AC:=(.reg [Zo 6 (.mv (.k (.nil 4)))])
def xb1:AC:=(.reg [Zv 27 25,Zo 28 (.ixa 2 (.t 23) (.t 25)),Zl 29 true 2 28,Zo 8 (.box [(.int .i64 0),(.int .i64 0)]),Zv 7 27,⟨no,.st 2 (.t 8) (.t 29),no⟩])
def xb2:AC:=(.reg [Zl 31 true 2 2,Zf 32 0 8,Zl 33 false 1 32,Zc 34 126 [.t 31,.t 33],Zv 30 34,Zo 35 (.ext (.t 30) 0),Zo 36 (.ext (.t 30) 1),Zo 9 (.box [(.int .i64 0),(.nil 2),(.nil 2),(.nil 1),(.int .i64 0),(.nil 1)]),⟨no,.st 6 (.t 9) (.t 35),no⟩,Zv 10 36])
def xy1:AC:=(.reg [Zf 46 0 3,Zl 47 false 1 46,Zv 48 11,Zo 49 (.bin .sub (.t 48) (.k (.int .i64 1))),Zo 50 (.ixa 1 (.t 47) (.t 49)),Zl 51 false 1 50,Zv 12 51])
def xy4:AC:=(.reg [Zl 60 true 2 2,Zl 61 true 6 9,Zl 62 true 2 8,Zv 63 12,Zv 64 13,Zc 65 127 [.t 60,.t 61,.t 62,.t 63,.t 64],Zv 59 65,Zo 66 (.ext (.t 59) 0),Zo 67 (.ext (.t 59) 1),Zo 14 (.box [(.int .i64 0),(.nil 1)]),⟨no,.st 2 (.t 14) (.t 66),no⟩,Zv 15 67])
def xy6:AC:=(.draw (.op (Zv 70 6) (.op (Zf 71 0 9) (.op (Zl 72 true 2 71) (.op (Zl 74 true 2 14) (.op (Zc 73 128 [.t 72]) (.op (Zo 75 (.build [(.int .i64 0),(.nil 2),(.int .i64 0),(.nil 1)] [(0,(2,(.t 73))),(2,(2,(.t 74)))])) (.hop (Zo 76 (.bsl 4 [.t 75])) [] (.hop (Zo 77 (.app 64 4 (.t 70) (.t 76))) [] (.hop (Zv 6 77) [] .fin))))))))))
def xy8:AC:=(.reg [Zl 81 true 2 2,Zl 82 true 6 9,Zl 83 true 2 8,Zv 84 12,Zc 85 129 [.t 81,.t 82,.t 83,.t 84],Zv 80 85,Zo 86 (.ext (.t 80) 0),Zo 87 (.ext (.t 80) 1),Zo 16 (.box [(.int .i64 0),(.nil 1)]),⟨no,.st 2 (.t 16) (.t 86),no⟩,Zv 17 87])
def xy9:AC:=(.draw (.op (Zv 90 6) (.op (Zf 91 0 9) (.op (Zl 92 true 2 91) (.op (Zl 94 true 2 16) (.op (Zc 93 128 [.t 92]) (.op (Zo 95 (.build [(.int .i64 0),(.nil 2),(.int .i64 0),(.nil 1)] [(0,(2,(.t 93))),(2,(2,(.t 94)))])) (.hop (Zo 96 (.bsl 4 [.t 95])) [] (.hop (Zo 97 (.app 64 4 (.t 90) (.t 96))) [] (.hop (Zv 6 97) [] .fin))))))))))
def xin:AC:=(.blk 2 (.loop (.seq (.seq (.reg [Zv 37 11,Zf 38 1 3,Zl 39 false 1 38,Zv 40 7,Zo 41 (.ixa 1 (.t 39) (.t 40)),Zl 42 false 1 41,Zo 43 (.bin .leq (.t 37) (.t 42))]) (.cond (.t 43) .skip (.exit 2))) (.seq (.blk 3 (.seq  xy1 (.seq (.reg [Zo 13 (.mv (.k (.int .i64 0)))]) (.seq (.seq (.reg [Zv 52 11,Zf 53 1 3,Zl 54 false 1 53,Zv 55 7,Zo 56 (.ixa 1 (.t 54) (.t 55)),Zl 57 false 1 56,Zo 58 (.bin .eql (.t 52) (.t 57))]) (.cond (.t 58) (.reg [Zo 13 (.mv (.k (.int .i64 1)))]) .skip)) (.seq  xy4 (.seq (.seq (.reg [Zv 68 15,Zo 69 (.un .not (.t 68))]) (.cond (.t 69) (.seq (.reg [Zo 4 (.mv (.k (.nil 4))),Zo 5 (.mv (.k (.bool false)))]) .ret) .skip)) (.seq xy6 (.seq (.reg [Zv 78 13,Zo 79 (.bin .eql (.t 78) (.k (.int .i64 1)))]) (.cond (.t 79) (.seq  xy8 (.seq (.seq (.reg [Zv 88 17,Zo 89 (.un .not (.t 88))]) (.cond (.t 89) (.seq (.reg [Zo 4 (.mv (.k (.nil 4))),Zo 5 (.mv (.k (.bool false)))]) .ret) .skip)) xy9)) .skip))))))))) (.reg [Zv 44 11,Zo 45 (.bin .add (.t 44) (.k (.int .i64 1))),Zv 11 45])))))
def xa3:AC:=(.seq (.reg [Zl 22 true 2 2,Zc 23 125 [.t 22],Zo 24 (.len false (.t 23)),Zo 25 (.mv (.k (.int .i64 0)))]) (.blk 0 (.loop (.seq (.reg [Zo 26 (.bin .lss (.t 25) (.t 24))]) (.seq (.cond (.t 26) .skip (.exit 0)) (.seq (.blk 1 (.seq  xb1 (.seq  xb2 (.seq (.reg [Zo 11 (.mv (.k (.int .i64 1)))]) xin)))) (.reg [Zo 98 (.bin .add (.t 25) (.k (.int .i64 1))),Zv 25 98])))))))
def xa4:AC:=(.reg [Zv 99 6,Zv 4 99,Zo 5 (.mv (.k (.bool true)))])
def a50:AFn:=⟨100,[.t 4,.t 5],(.seq xa0 (.seq xa1 (.seq xa2 (.seq xa3 (.seq xa4 .ret)))))⟩
theorem a50_ok:J06 Tryz.prog Tryz.f50=some a50:=by kernel_rfl
section
variable {P:Program}{a:AC}{ks:List Kt}{s:Env}{h:Heap}{n:Nat}{Q:Fin}
theorem Jsv (keep:List Nat) (ic N c:Nat) (J:Nat→Env→Heap→Nat→Prop) (hN:N+c≤LIM) (hi0:s ic = .int .i64 c) (hJ0:J 0 s h n)
 (hstep:∀ i s' h' n' (R:Fin),i<N→(∀ j∈keep,s' j=s j)→s' ic = .int .i64 ((i:Int)+c)→IntKind.i64.wrap ((i:Int)+c+1)=(i:Int)+c+1→J i s' h' n' →
  (∀ s'' h'' n'',(∀ j∈keep,s'' j=s j)→s'' ic = .int .i64 ((i:Int)+c+1)→J (i+1) s'' h'' n''→R .normal s'' h'' n'') →
  (∀ s'' h'' n'',J2u P ks .ret s'' h'' n'' Q→R .ret s'' h'' n'')→(∀ x s'' h'' n'',J2u P ks (.exit x) s'' h'' n'' Q→R (.exit x) s'' h'' n'')→rC P a [] s' h' n' R)
 (hend:∀ s' h' n' (R:Fin),(∀ j∈keep,s' j=s j)→s' ic = .int .i64 ((N:Int)+c)→J N s' h' n' →
  (∀ s'' h'' n'',J2u P ks .ret s'' h'' n'' Q→R .ret s'' h'' n'')→(∀ x s'' h'' n'',J2u P ks (.exit x) s'' h'' n'' Q→R (.exit x) s'' h'' n'')→rC P a [] s' h' n' R):rL P a ks s h n Q:=by
 refine Jd6 (fun k s' h' n'=>∃ i,k=N - i∧i≤N∧(∀ j∈keep,s' j=s j)∧s' ic = .int .i64 ((i:Int)+c)∧J i s' h' n') N ⟨0,rfl,Nat.zero_le _,fun _ _=>rfl,by simpa using hi0,hJ0⟩ ?_
 rintro k s' h' n' ⟨i,rfl,hi,hk,hic,hJ⟩
 by_cases hlt:i<N
 ·exact hstep i s' h' n' _ hlt hk hic (J0r (by unfold LIM at hN;omega)) hJ (fun s'' h'' n'' g1 g2 g3=>⟨N - (i+1),by omega,i+1,rfl,by omega,g1,by rw [g2];congr 1;omega,g3⟩) (fun _ _ _ h=>h) (fun _ _ _ _ h=>h)
 ·have:i=N:=by omega
  subst this
  exact hend s' h' n' _ hk hic hJ (fun _ _ _ h=>h) (fun _ _ _ _ h=>h)
end
section
variable {ks:List Kt}{s:Env}{h h':Heap}{n:Nat}{Q:Fin}
theorem Kcd {a:AC}{md:DModel}{t:DLin}{acc:List DObligation}{v:AV}{k9 k b:Nat}(ha:a=xy6∧b=14∨a=xy9∧b=16) (s6:s 6=v) (s9:s 9 = .ptr k9 0 0) (sb:s b = .ptr k 0 0) (e9:h k9=some ⟨true,6,[J0o md]⟩) (L:J67 t k h n) (B:J41 1 4 (acc.map J0d) v h n) (hw:J5h md.System.Rows≤1048576) (hl:acc.length≤3000000)
 (hK:∀ s' h' n',(∀ j∈[2,3,7,8,9,11,12,13,23,24,25],s' j=s j)→n≤n'→(∀ id z rows,id<n→h id=some ⟨true,z,rows⟩→h' id=h id)→J41 1 4 ((acc++[(⟨md.System,t⟩:DObligation)]).map J0d) (s' 6) h' n'→J2u Tryz.prog ks .normal s' h' n' Q):rC Tryz.prog a ks s h n Q:=by
 obtain ⟨q,hkn,hqn,hkb,hqb⟩:=L
 have ne:¬q=n∧¬n=q∧¬n=n+1∧¬n+1=n∧¬n+1=q∧¬q=n+1:=by omega
 have fr:∀ id,id<n→¬id=n∧¬id=n+1∧¬id=n+1+1:=by intro id _;omega
 have hqv:∀ l,v ≠ .ref q 0 l:=fun l e=>by have:=(B.lt e).2.2.1;rw [hqb] at this;simp at this
 rcases ha with ⟨rfl,rfl⟩|⟨rfl,rfl⟩
 all_goals
  first|simp [xy6,s6,s9,sb,e9,hkb] | simp [xy9,s6,s9,sb,e9,hkb]
  refine J01 (Jkv md.System hw) (by simp) ?_
  rintro r rfl
  simp [J42,hqb,ne]
  refine J3w (rows:=acc.map J0d) (rows2:=[[.int .i64 md.System.N,.us 2 (md.System.Rows.map J08),.int .i64 t.Const,.us 1 (J0m t.Coeffs)]]) (B.keep (n':=n+1+1) (by omega) fun id _ hid e => ?_) (by simp) (fun l e=>by have:=(B.lt e).2.1;omega) (by omega) (by simp;unfold LIM;omega) ?_
  ·have:¬id=q:=fun e'=>hqv _ (by rw [←e'];exact e)
   simp [fr id hid,this]
  intro h1 f1 f2
  simp
  refine hK _ _ _ (by simp) (by omega) ?_ ?_
  ·intro id z rows h1' h3'
   have:¬id=q:=by rintro rfl;rw [hqb] at h3';simp at h3'
   rw [f2 id (by omega) (by omega) fun l e=>B.not_box h3' e];simp [fr id h1',this]
  ·simp
   exact .inr ⟨n+2,by omega,by have:=B;rcases this with ⟨hz,hv⟩|⟨i,h1,h2,_⟩ <;> omega,by simp,by simp [f1,J0d]⟩
end
structure EdgeAt (p:DProgram) (x:DRanking) (a b i0:Nat):Prop where
 hpo:J2s p=true
 ha:a<p.Rules.length
 hb:b<(p.Rules[a]).Calls.length
 hf:(J1o p.Functions (p.Rules[a]).Func).isSome=true
 hg:(J1o p.Functions ((p.Rules[a]).Calls[b]).Func).isSome=true
 he:i0<x.Edges.length
 hn:0≤x.Edges[i0]∧x.Edges[i0]≤x.Levels.length
 hL:x.Levels.length≤3
 lv:∀ l∈x.Levels,l.length=p.Functions.length
theorem Jve {fs:List DFunction}{l:List DLin}(h:J8l fs l=true):l.length=fs.length:=by
 unfold J8l at h
 simp only [Bool.and_eq_true,decide_eq_true_eq] at h
 exact h.1
theorem Jk8 {p:DProgram}{x:DRanking}{i0:Nat}(h:Jct p x=true) (hi:i0<(J0h p).length):∃ a b:Nat,(J0h p)[i0]=⟨(a:Int),(b:Int)⟩∧EdgeAt p x a b i0:=by
 obtain ⟨h1,h2,h3,h4,h5⟩:=Jfh h
 obtain ⟨_,a,b,ha,hb,he⟩:=Jcz (List.getElem_mem hi)
 obtain ⟨f,hff,RI⟩:=Jb8 h1 (List.getElem_mem ha)
 have hfc:=Jod RI.calls
 have hie:i0<x.Edges.length:=by omega
 have hz:((J0h p)[i0],x.Edges[i0])∈(J0h p).zip x.Edges:=by
  rw [List.mem_iff_getElem]
  exact ⟨i0,by simp;omega,by simp⟩
 exact ⟨a,b,he,h1,ha,hb,by rw [hff];rfl,hfc _ (List.getElem_mem hb),hie,Jws (h5 _ hz),h2,fun l hl=>Jve (h4 l hl)⟩
section
variable {ks:List Kt}{s:Env}{h h':Heap}{n:Nat}{Q:Fin}
theorem Jyl {p:DProgram}{x:DRanking}{md:DModel}{a b i0 k8 k9:Nat}{lv:List DLin}{K:Int}(E:EdgeAt p x a b i0) (hl:lv.length=p.Functions.length) (s2:s 2 = .ptr 0 0 0) (s8:s 8 = .ptr k8 0 0) (s9:s 9 = .ptr k9 0 0) (s12:s 12 = .sl 2 (lv.map J05)) (s13:s 13 = .int .i64 K) (e0:h 0=some ⟨true,2,[J00 p]⟩) (e8:h k8=some ⟨true,2,[J0q ⟨a,b⟩]⟩) (e9:h k9=some ⟨true,6,[J0o md]⟩)
 (hK:∀ s' h' n' k,(∀ j∈[2,3,6,7,8,9,11,12,13,23,24,25],s' j=s j)→n≤n'→(∀ id,id<n→h' id=h id)→s' 15 = .bool (J84 md (J4f p (lvB lv) (p.Rules[a]'E.ha).Func) b (J4f p (lvB lv) ((p.Rules[a]'E.ha).Calls[b]'E.hb).Func) K).isSome→s' 14 = .ptr k 0 0→J67 ((J84 md (J4f p (lvB lv) (p.Rules[a]'E.ha).Func) b (J4f p (lvB lv) ((p.Rules[a]'E.ha).Calls[b]'E.hb).Func) K).getD J1g) k h' n'→J2u Tryz.prog ks .normal s' h' n' Q):rC Tryz.prog xy4 ks s h n Q:=by
 have fr:∀ id,id<n→¬id=n∧¬id=n+1:=by intro id _;omega
 simp [xy4,s2,s8,s9,s12,s13,e0,e8,e9]
 refine J02 (Je4 p md E.ha E.hb lv hl E.hf E.hg K) (by simp) ?_
 rintro r rfl
 rw [J0u]
 generalize J84 md (J4f p (lvB lv) (p.Rules[a]'E.ha).Func) b (J4f p (lvB lv) ((p.Rules[a]'E.ha).Calls[b]'E.hb).Func) K=T at *
 simp [J08]
 exact hK _ _ _ (n+1) (by simp) (by omega) (fun id hid=>by simp [fr id hid]) (by simp) (by simp) ⟨n,by omega,by omega,by simp,by simp⟩
theorem K0o {p:DProgram}{x:DRanking}{md:DModel}{a b i0 k8 k9:Nat}{lv:List DLin}(E:EdgeAt p x a b i0) (hl:lv.length=p.Functions.length) (s2:s 2 = .ptr 0 0 0) (s8:s 8 = .ptr k8 0 0) (s9:s 9 = .ptr k9 0 0) (s12:s 12 = .sl 2 (lv.map J05)) (e0:h 0=some ⟨true,2,[J00 p]⟩) (e8:h k8=some ⟨true,2,[J0q ⟨a,b⟩]⟩) (e9:h k9=some ⟨true,6,[J0o md]⟩)
 (hK:∀ s' h' n' k,(∀ j∈[2,3,6,7,8,9,11,23,24,25],s' j=s j)→n≤n'→(∀ id,id<n→h' id=h id)→s' 17 = .bool (J0s (J4f p (lvB lv) (p.Rules[a]'E.ha).Func) md.Params md.System.N).isSome→s' 16 = .ptr k 0 0→J67 ((J0s (J4f p (lvB lv) (p.Rules[a]'E.ha).Func) md.Params md.System.N).getD J1g) k h' n'→J2u Tryz.prog ks .normal s' h' n' Q):rC Tryz.prog xy8 ks s h n Q:=by
 have fr:∀ id,id<n→¬id=n∧¬id=n+1:=by intro id _;omega
 simp [xy8,s2,s8,s9,s12,e0,e8,e9]
 refine J02 (Jrs p md E.ha E.hb lv hl E.hf) (by simp) ?_
 rintro r rfl
 rw [J0u]
 generalize J0s (J4f p (lvB lv) (p.Rules[a]'E.ha).Func) md.Params md.System.N=T at *
 simp [J08]
 exact hK _ _ _ (n+1) (by simp) (by omega) (fun id hid=>by simp [fr id hid]) (by simp) (by simp) ⟨n,by omega,by omega,by simp,by simp⟩
theorem Jxj {p:DProgram}{md:DModel}{a b:Nat}(ha:a<p.Rules.length) (hb:b<(p.Rules[a]).Calls.length) (l:List DLin) (K:Int):obD p md ⟨a,b⟩ l K=(J84 md (J4f p (lvB l) (p.Rules[a]).Func) b (J4f p (lvB l) ((p.Rules[a]).Calls[b]).Func) K).map fun t=>⟨md.System,t⟩:=by
 unfold obD;rw [Ja4 ha,Jks ha hb]
theorem Jwl {p:DProgram}{md:DModel}{a b:Nat}(ha:a<p.Rules.length) (l:List DLin):obC p md ⟨a,(b:Int)⟩ l=(J0s (J4f p (lvB l) (p.Rules[a]).Func) md.Params md.System.N).map fun t=>⟨md.System,t⟩:=by
 unfold obC;rw [Ja4 ha]
theorem Jy5 {p:DProgram}{x:DRanking}{a b i0 k8 k9:Nat}{acc0:List DObligation}{l2:List (Option DObligation)}{F:Option (List DObligation)}(E:EdgeAt p x a b i0) (s2:s 2 = .ptr 0 0 0) (s3:s 3 = .ptr 1 0 0) (s7:s 7 = .int .i64 i0) (s8:s 8 = .ptr k8 0 0) (s9:s 9 = .ptr k9 0 0) (s11:s 11 = .int .i64 1) (hk8:1<k8∧k8<n) (hk9:1<k9∧k9<n)
 (e0:h 0=some ⟨true,2,[J00 p]⟩) (e1:h 1=some ⟨true,2,[J0e x]⟩) (e8:h k8=some ⟨true,2,[J0q ⟨a,b⟩]⟩) (e9:h k9=some ⟨true,6,[J0o (Jdt p ⟨a,b⟩)]⟩) (B0:J41 1 4 (acc0.map J0d) (s 6) h n) (hal0:acc0.length≤1000) (hF:goO acc0 (rkE p x.Levels ⟨a,b⟩ (x.Edges[i0]'E.he)++l2)=F)
 (hret:F=Option.none→∀ s' h' n',s' 4 = .nil 4→s' 5 = .bool false→J2u Tryz.prog ks .ret s' h' n' Q)
 (hK:∀ s' h' n' acc,(∀ j∈[2,3,23,24,25],s' j=s j)→n≤n'→h' 0=some ⟨true,2,[J00 p]⟩→h' 1=some ⟨true,2,[J0e x]⟩→acc.length≤acc0.length+6→J41 1 4 (acc.map J0d) (s' 6) h' n'→goO acc l2=F→J2u Tryz.prog ks .normal s' h' n' Q):rC Tryz.prog xin ks s h n Q:=by
 have hE:=E
 obtain ⟨hpo,ha,hb,hf,hg,he,hnn,hL,hlv⟩:=E
 have hsz:=Jqn hpo (k:=b) ha
 generalize hmd:Jdt p ⟨a,b⟩=md at *
 unfold rkE at hF
 rw [hmd] at hF
 refine J1h ?_
 rw [Jzv]
 refine Jsv [2,3,7,8,9,23,24,25] 11 (x.Edges[i0]).toNat 1 (fun i s h m=>n≤m∧h 0=some ⟨true,2,[J00 p]⟩∧h 1=some ⟨true,2,[J0e x]⟩∧h k8=some ⟨true,2,[J0q ⟨a,b⟩]⟩∧h k9=some ⟨true,6,[J0o md]⟩∧∃ acc,acc.length≤acc0.length+2*i∧J41 1 4 (acc.map J0d) (s 6) h m∧goO acc (((List.range (x.Edges[i0]).toNat).drop i).flatMap (rk1 p md ⟨a,b⟩ x.Levels x.Edges[i0])++l2)=F) (by unfold LIM;omega) (by simp [s11]) ⟨Nat.le_refl _,e0,e1,e8,e9,acc0,by omega,B0,by simpa using hF⟩ ?_ ?_
 ·rintro i st h1 m1 R hi hk s11 hw ⟨hm1,e0,e1,e8,e9,acc,hal,B,hJ⟩ hR hrt _
  simp at hk
  have hir:i<(List.range (x.Edges[i0]).toNat).length:=by simpa using hi
  rw [List.drop_eq_getElem_cons hir,List.flatMap_cons,List.append_assoc] at hJ
  simp only [List.getElem_range] at hJ
  have hil:i<x.Levels.length:=by omega
  have hlvi:=hlv _ (List.getElem_mem hil)
  have hgd:x.Levels.getD i []=x.Levels[i]:=by simp [hil]
  have hle:(i:Int)+1≤x.Edges[i0]:=by omega
  refine J0b (J0i [2,3,6,7,8,9,11,23,24,25] (fun s=>s 43 = .bool true) (by simp [hk,s11,s3,s7,e1,J0e,he,hle]) ?_)
  intro st1 hk1 s43
  simp at hk1
  refine J25 s43 (J0b (J1h ?_))
  have hwi:IntKind.i64.wrap (i:Int)=(i:Int):=J0r (by omega)
  refine J0i [2,3,6,7,8,9,11,23,24,25] (fun s=>s 12 = .sl 2 (x.Levels[i].map J05)) ?_ ?_
  ·simp [xy1,hk1,hk,s11,s3,e1,J0e,hwi,hil,J2x]
  intro st2 hk2 s12
  simp at hk2
  refine J0i [2,3,6,7,8,9,11,12,23,24,25] (fun s=>s 13 = .int .i64 0) (by simp) ?_
  intro st3 hk3 s13
  simp at hk3
  refine J0i [2,3,6,7,8,9,11,12,23,24,25] (fun s=>s 13 = .int .i64 (if (i:Int)+1=x.Edges[i0] then 1 else 0)) ?_ ?_
  ·by_cases hq:(i:Int)+1=x.Edges[i0]
   ·simp [hk3,hk2,hk1,hk,s11,s3,s7,e1,J0e,he,hq]
   ·simp [hk3,hk2,hk1,hk,s11,s3,s7,e1,J0e,he,hq,s13]
  intro st4 hk4 s13'
  simp at hk4
  obtain ⟨K,hKd⟩:∃ K:Int,(if (i:Int)+1=x.Edges[i0] then (1:Int) else 0)=K:=⟨_,rfl⟩
  rw [hKd] at s13'
  refine J0b (Jyl (md:=md) (k8:=k8) (k9:=k9) (lv:=x.Levels[i]) (K:=K) hE hlvi (by simp [hk4,hk3,hk2,hk1,hk,s2]) (by simp [hk4,hk3,hk2,hk1,hk,s8]) (by simp [hk4,hk3,hk2,hk1,hk,s9]) (by simp [hk4,hk3,s12]) s13' e0 e8 e9 ?_)
  intro st5 h5 m5 k14 hk5 hm5 hf5 s15 s14 L14
  simp at hk5
  rw [J5u]
  generalize hT:J84 md (J4f p (lvB x.Levels[i]) (p.Rules[a]'ha).Func) b (J4f p (lvB x.Levels[i]) ((p.Rules[a]'ha).Calls[b]'hb).Func) K=T at *
  have hobd:obD p md ⟨a,b⟩ (x.Levels.getD i []) K=T.map fun t=>⟨md.System,t⟩:=by rw [hgd,Jxj ha hb,hT]
  have z0:h5 0=some ⟨true,2,[J00 p]⟩:=by rw [hf5 0 (by omega),e0]
  have z1:h5 1=some ⟨true,2,[J0e x]⟩:=by rw [hf5 1 (by omega),e1]
  have z8:h5 k8=some ⟨true,2,[J0q ⟨a,b⟩]⟩:=by rw [hf5 k8 (by omega),e8]
  have z9:h5 k9=some ⟨true,6,[J0o md]⟩:=by rw [hf5 k9 (by omega),e9]
  have B5:J41 1 4 (acc.map J0d) (st 6) h5 m5:=B.keep hm5 fun id _ hid _=>hf5 id hid
  cases T with
  | none=>
   simp only [Option.map_none] at hobd
   have hnone:F=Option.none:=by
    rw [←hJ]
    unfold rk1
    by_cases hq:(i:Int)+1=x.Edges[i0]
    ·rw [if_pos hq] at hKd
     rw [←hKd] at hobd
     rw [if_pos hq,hobd];rfl
    ·rw [if_neg hq] at hKd
     rw [←hKd] at hobd
     rw [if_neg hq,hobd];rfl
   simp [s15]
   exact hrt _ _ _ (hret hnone _ _ _ (by simp) (by simp))
  | some t=>
   simp only [Option.map_some] at hobd
   simp only [Option.getD_some] at L14
   simp [s15]
   refine Kcd (md:=md) (t:=t) (acc:=acc) (v:=st 6) (k9:=k9) (k:=k14) (.inl ⟨rfl,rfl⟩) (by simp [hk5,hk4,hk3,hk2,hk1]) (by simp [hk5,hk4,hk3,hk2,hk1,hk,s9]) (by simp [s14]) z9 L14 B5 (by omega) (by omega) ?_
   intro st6 h6 m6 hk6 hm6 bx6 B6
   simp at hk6
   have y0:=bx6 0 _ _ (by omega) z0
   have y1:=bx6 1 _ _ (by omega) z1
   have y8:=bx6 k8 _ _ (by omega) z8
   have y9:=bx6 k9 _ _ (by omega) z9
   rw [z0] at y0
   rw [z1] at y1
   rw [z8] at y8
   rw [z9] at y9
   rw [J5u]
   by_cases hq:(i:Int)+1=x.Edges[i0]
   ·rw [if_pos hq] at hKd
    subst hKd
    have hrk:rk1 p md ⟨a,b⟩ x.Levels x.Edges[i0] i=[some ⟨md.System,t⟩,obC p md ⟨a,b⟩ (x.Levels.getD i [])]:=by unfold rk1;rw [if_pos hq,hobd]
    rw [hrk] at hJ
    simp only [List.cons_append,List.nil_append,goO] at hJ
    refine J0b ?_
    simp [hk6,hk5,s13']
    refine K0o (md:=md) (k8:=k8) (k9:=k9) (lv:=x.Levels[i]) hE hlvi (by simp [hk6,hk5,hk4,hk3,hk2,hk1,hk,s2]) (by simp [hk6,hk5,hk4,hk3,hk2,hk1,hk,s8]) (by simp [hk6,hk5,hk4,hk3,hk2,hk1,hk,s9]) (by simp [hk6,hk5,hk4,hk3,s12]) y0 y8 y9 ?_
    intro st7 h7 m7 k16 hk7 hm7 hf7 s17 s16 L16
    simp at hk7
    rw [J5u]
    rw [hgd,Jwl ha] at hJ
    generalize J0s (J4f p (lvB x.Levels[i]) (p.Rules[a]'ha).Func) md.Params md.System.N=U at *
    have B7:J41 1 4 ((acc++[(⟨md.System,t⟩:DObligation)]).map J0d) (st6 6) h7 m7:=B6.keep hm7 fun id _ hid _=>hf7 id hid
    have w0:h7 0=some ⟨true,2,[J00 p]⟩:=by rw [hf7 0 (by omega),y0]
    have w1:h7 1=some ⟨true,2,[J0e x]⟩:=by rw [hf7 1 (by omega),y1]
    have w8:h7 k8=some ⟨true,2,[J0q ⟨a,b⟩]⟩:=by rw [hf7 k8 (by omega),y8]
    have w9:h7 k9=some ⟨true,6,[J0o md]⟩:=by rw [hf7 k9 (by omega),y9]
    cases U with
    | none=>
     simp [goO] at hJ
     simp [s17]
     exact hrt _ _ _ (hret hJ.symm _ _ _ (by simp) (by simp))
    | some u=>
     simp only [Option.map_some,goO] at hJ
     simp only [Option.getD_some] at L16
     simp [s17]
     refine Kcd (md:=md) (t:=u) (acc:=acc++[⟨md.System,t⟩]) (v:=st6 6) (k9:=k9) (k:=k16) (.inr ⟨rfl,rfl⟩) (by simp [hk7]) (by simp [hk7,hk6,hk5,hk4,hk3,hk2,hk1,hk,s9]) (by simp [s16]) w9 L16 B7 (by omega) (by simp;omega) ?_
     intro st8 h8 m8 hk8' hm8 bx8 B8
     simp at hk8'
     have v0:=bx8 0 _ _ (by omega) w0
     have v1:=bx8 1 _ _ (by omega) w1
     have v8:=bx8 k8 _ _ (by omega) w8
     have v9:=bx8 k9 _ _ (by omega) w9
     rw [w0] at v0
     rw [w1] at v1
     rw [w8] at v8
     rw [w9] at v9
     have hw':IntKind.i64.wrap ((i:Int)+1+1)=(i:Int)+1+1:=by simpa using hw
     simp [hk8',hk7,hk6,hk5,hk4,hk3,hk2,hk1,s11,hw']
     exact hR _ _ _ (by simp [hk8',hk7,hk6,hk5,hk4,hk3,hk2,hk1,hk]) (by simp) ⟨by omega,v0,v1,v8,v9,_,by simp;omega,by simpa using B8,hJ⟩
   ·rw [if_neg hq] at hKd
    subst hKd
    have hrk:rk1 p md ⟨a,b⟩ x.Levels x.Edges[i0] i=[some ⟨md.System,t⟩]:=by unfold rk1;rw [if_neg hq,hobd]
    rw [hrk] at hJ
    simp only [List.cons_append,List.nil_append,goO] at hJ
    have hw':IntKind.i64.wrap ((i:Int)+1+1)=(i:Int)+1+1:=by simpa using hw
    simp [hk6,hk5,s13',hk4,hk3,hk2,hk1,s11,hw']
    exact hR _ _ _ (by simp [hk6,hk5,hk4,hk3,hk2,hk1,hk]) (by simp) ⟨by omega,y0,y1,y8,y9,_,by simp;omega,by simpa using B6,hJ⟩
 ·rintro st h1 m1 R hk s11 ⟨hm1,e0,e1,e8,e9,acc,hal,B,hJ⟩ hrt hX
  simp at hk
  rw [List.drop_eq_nil_of_le (by simp)] at hJ
  simp only [List.flatMap_nil,List.nil_append] at hJ
  have hle:¬((x.Edges[i0]).toNat:Int)+1≤x.Edges[i0]:=by omega
  refine J0b (J0i [2,3,6,23,24,25] (fun s=>s 43 = .bool false) (by simp [hk,s11,s3,s7,e1,J0e,he];omega) ?_)
  intro st1 hk1 s43
  simp at hk1
  refine J29 s43 ?_
  refine hX _ _ _ _ ?_
  simp
  exact hK _ _ _ acc (by simp [hk1,hk]) hm1 e0 e1 (by omega) (by simpa [hk1] using B) hJ
end
end Go.Proofs.YtoclolkigjbcgaaGreat
