/- Contracts: CheckRanking, ProveRanking of both. -/
import Derived.Test.YtoclolkigjbcgaaGreatAN6
import Derived.Test.YtoclolkigjbcgaaGreatAFFK
import Derived.Test.YtoclolkigjbcgaaGreatARE
import Derived.Test.YtoclolkigjbcgaaGreatProg
import Derived.Test.YtoclolkigjbcgaaGreatAT1
import Derived.Test.YtoclolkigjbcgaaGreatRows
namespace Go.Proofs.YtoclolkigjbcgaaGreat
set_option maxRecDepth 40000
set_option maxHeartbeats 4000000
set_option linter.all false
open Go Go.RowKit Go.Proofs
def a47:Jl:= ⟨24,[.t 6],(Zq [ZB 3 0,ZB 4 1,Zt 6 false] (Zq [Zl 10 true 2 3,Zl 11 true 2 4,Zc 12 50 [.t 10,.t 11],Zv 9 12,Ze 13 9 0,Ze 14 9 1,Zv 7 13,Zv 8 14] (Zq [Zv 15 8,Zv 16 15,Zg 17 16 true (.ld true 2 (.t 3)),Zg 18 16 true (.call (.k (.fn (.func 94) [] [])) [.t 17]),Zg 19 16 true (.mv (.t 7)),Zg 20 16 true (.app 64 4 (.t 18) (.t 19)),Zg 21 16 true (.mv (.t 2)),Zg 22 16 true (.call (.k (.fn (.func 115) [] [])) [.t 20,.t 21]),ZQ 23 16 22,Zv 6 23] .ret)))⟩
theorem Jy0:Jh Tryz.prog Tryz.f47=some a47:=by kernel_rfl
def K77:Jl:= ⟨19,[.t 4,.t 5],(Zq [ZB 2 0,ZB 3 1,Zz 4 4,Zt 5 false] (Zq [Zl 9 true 2 2,Zl 10 true 2 3,Zc 11 49 [.t 9,.t 10],Zv 8 11,Ze 12 8 0,Ze 13 8 1,Zv 6 12,Zv 7 13] (Zq [Zl 14 true 2 2,Zc 15 92 [.t 14],Zv 16 6,ZA 17 64 4 15 16,Zv 18 7,Zv 4 17,Zv 5 18] .ret)))⟩
theorem Jp7:Jh Tryz.prog Tryz.f118=some K77:=by kernel_rfl
def a57:Jl:= ⟨23,[.t 4,.t 5],(Zq [ZB 2 0,ZB 3 1,Zz 4 2,Zt 5 false] (Zq [Zl 9 true 2 2,Zl 10 true 2 3,Zc 11 50 [.t 9,.t 10],Zv 8 11,Ze 12 8 0,Ze 13 8 1,Zv 6 12,Zv 7 13] (.seq (Zq [Zv 14 7,ZN 15 14] (.cond (.t 15) (Zq [Zz 4 2,Zt 5 false] .ret) .skip)) (Zq [Zl 16 true 2 2,Zc 17 94 [.t 16],Zv 18 6,ZA 19 64 4 17 18,Zc 20 131 [.t 19],Ze 21 20 0,Ze 22 20 1,Zv 4 21,Zv 5 22] .ret))))⟩
theorem Jyg:Jh Tryz.prog Tryz.f57=some a57:=by kernel_rfl
def a56:Jl:= ⟨21,[.t 4,.t 5],(Zq [ZB 2 0,ZB 3 1,Zz 4 2,Zt 5 false] (Zq [Zl 9 true 2 2,Zl 10 true 2 3,Zc 11 118 [.t 9,.t 10],Zv 8 11,Ze 12 8 0,Ze 13 8 1,Zv 6 12,Zv 7 13] (.seq (Zq [Zv 14 7,ZN 15 14] (.cond (.t 15) (Zq [Zo 16 (.bsl 2 []),Zv 4 16,Zt 5 false] .ret) .skip)) (Zq [Zv 17 6,Zc 18 91 [.t 17],Ze 19 18 0,Ze 20 18 1,Zv 4 19,Zv 5 20] .ret))))⟩
theorem Jz3:Jh Tryz.prog Tryz.f56=some a56:=by kernel_rfl
def Jek(p:Jo)(x:Xk)(fs:List Y7):Bool:=(Vb p x).isSome&&J30 (Qi p++(Vb p x).getD []) fs
theorem Jgw(p:Jo)(hp:X2 p<=1048576)(x:Xk)(fs:List Y7):Holds Tryz.prog 47 [.agg (Jg p),.agg (X3 x),.sl 2 (fs.map Uu)] (λr=>r = .bool (Jek p x fs)):=by
 have h1:=P1 p x;have h2:=Mj p hp;refine Jp Tryz.func47 Jy0 rfl (by simp[a47]) ?_;simp[a47];refine Je (J02 p hp x) (by simp) ?_;rintro r rfl;unfold Jek;generalize(Vb p x).isSome=ok at *;generalize(Vb p x).getD []=O at *;cases ok
 ·simp
 simp;refine Je (J0c p hp) (by simp) ?_;rintro r rfl;generalize Qi p=R at *;simp;refine⟨by unfold Jd;omega,?_⟩;have hm:R.map Kv++O.map Kv=(R++O).map Kv:=by simp
 have ht:List.take (R.length+O.length) ((R++O).map Kv)=(R++O).map Kv:=List.take_of_length_le (by simp);rw[hm];refine Je (Jbs (R++O) fs) (by simp[ht,-List.map_append]) ?_;rintro r rfl;simp
theorem Jgl(p:Jo)(hp:X2 p<=1048576)(x:Xk):Holds Tryz.prog 118 [.agg (Jg p),.agg (X3 x)] (λr=>r = .tup [.us 4 ((Qi p++(Vb p x).getD []).map Kv),.bool (Vb p x).isSome]):=by
 have h1:=P1 p x;have h2:=Mj p hp;refine Jp Tryz.func118 Jp7 rfl (by simp[K77]) ?_;simp[K77];refine Je (J1j p hp x) (by simp) ?_;rintro r rfl;generalize(Vb p x).isSome=ok at *;generalize(Vb p x).getD []=O at *;simp;refine Je (J1z p hp) (by simp) ?_;rintro r rfl;generalize Qi p=R at *;simp;have hm:R.map Kv++O.map Kv=(R++O).map Kv:=by simp
 have ht:List.take (R.length+O.length) ((R++O).map Kv)=(R++O).map Kv:=List.take_of_length_le (by simp);rw[hm,ht];exact⟨by unfold Jd;omega,J1k _,rfl⟩
def V7(p:Jo)(x:Xk):Option (List Y7):=(Vb p x).bind λos=>Be (Qi p++os)
theorem Jgj(p:Jo)(x:Xk):Ga ((V7 p x).getD [])<=33554432:=by
 cases h:Vb p x with
 |none=>simp[V7,h,Ga,cL]
 |some os=>
  have h1:=P1 p x;rw[h]at h1;have h2:=(J99 p).1;have h3:=J8z (Qi p++os);simp only[Option.getD_some]at h1;simp only[V7,h,Option.bind_some];simp only[List.length_append]at h3;omega
theorem J0n(p:Jo)(hp:X2 p<=1048576)(x:Xk):Holds Tryz.prog 57 [.agg (Jg p),.agg (X3 x)] (λr=>r = .tup [.us 2 (((V7 p x).getD []).map Ye),.bool (V7 p x).isSome]):=by
 have h1:=P1 p x;have h2:=Mj p hp;refine Jp Tryz.func57 Jyg rfl (by simp[a57]) ?_;simp[a57];refine Je (J02 p hp x) (by simp) ?_;rintro r rfl;unfold V7
 cases hb:Vb p x with
 |none=>simp
 |some O=>
  rw[hb]at h1;simp only[Option.getD_some]at h1;simp;refine Je (J0c p hp) (by simp) ?_;rintro r rfl;generalize Qi p=R at *;simp;refine⟨by unfold Jd;omega,?_⟩;have hm:R.map Kv++O.map Kv=(R++O).map Kv:=by simp
  have ht:List.take (R.length+O.length) ((R++O).map Kv)=(R++O).map Kv:=List.take_of_length_le (by simp);rw[hm];refine Je (Jbu (R++O) (by simp;omega)) (by simp[ht,-List.map_append]) ?_;rintro r rfl;simp[Eu]
theorem J41(p:Jo)(hp:X2 p<=1048576)(x:Xk):Holds Tryz.prog 56 [.agg (Jg p),.agg (X3 x)] (λr=>r = .tup [.us 2 (((V7 p x).getD []).map Ye),.bool (V7 p x).isSome]):=by
 have h1:=P1 p x;have h2:=Mj p hp;refine Jp Tryz.func56 Jz3 rfl (by simp[a56]) ?_;simp[a56];refine Je (Jgl p hp x) (by simp) ?_;rintro r rfl;unfold V7
 cases hb:Vb p x with
 |none=>simp
 |some O=>
  rw[hb]at h1;simp only[Option.getD_some]at h1;simp only[Option.getD_some,Option.isSome_some,Option.bind_some];have hx:(Qi p++O).length<=3000000:=by simp;omega
  generalize Qi p++O=X at *;have ht:List.take X.length (X.map Kv)=X.map Kv:=List.take_of_length_le (by simp);simp;refine Je (J9z X hx) (by simp[ht]) ?_;rintro r rfl;simp[Eu]
end Go.Proofs.YtoclolkigjbcgaaGreat
namespace Go.Proofs.YtoclolkigjbcgaaGreat
set_option linter.all false
open Go Go.RowKit Go.Proofs
def K5f:Jl:= ⟨20,[.t 2],(Zq [Zo 2 (.mv (.k (.str [])))] (.seq (Zq [Zv 4 0,Zk 5 .leq 4 0] (.cond (.t 5) (Zq [Zo 2 (.mv (.k (.str [109,48])))] .ret) .skip)) (Zq [Zo 3 (.mv (.k (.str [])))] (.seq (.blk 0 (.loop (.seq (Zq [Zv 6 0,Zk 7 .gtr 6 0] (Zw 7 0)) (.blk 1 (Zq [Zv 8 0,Zk 9 .rem 8 10,Zo 10 (.bin .add (.k (.int .i64 48)) (.t 9)),Zo 11 (.cvi .u8 (.t 10)),ZS 12 1 11,Zo 13 (.cvb (.t 12)),Zv 14 3,Zb 15 .add 13 14,Zv 3 15] (.reg [Zv 16 0,Zk 17 .quo 16 10,Zv 0 17])))))) (Zq [Zv 18 3,Zo 19 (.bin .add (.k (.str [109])) (.t 18)),Zv 2 19] .ret)))))⟩
theorem Ju4:Jh Tryz.prog Tryz.f156=some K5f:=by kernel_rfl
theorem Jt6{n:Nat}(h:¬n=0):Ed n=Ed (n / 10)++[UInt8.ofNat (48+n % 10)]:=by rw[Ed];simp[h]
theorem Jh4:Ed 0=[]:=by rw[Ed];simp
theorem Hy(k:Int)(h0:0<=k/\k<=4611686018427387904):Holds Tryz.prog 156 [i64 k] (λr=>r = .str (W9 k)):=by
 refine Jp Tryz.func156 Ju4 rfl (by simp[K5f]) ?_;simp[K5f];refine⟨λh1=>by simp[h1,W9],λh1=>?_⟩;refine O0 (λj s h n=>∃(l:List UInt8),s 0=i64 j/\s 3 = .str l/\Ed j++l=Ed k.toNat/\l.length<=20/\j*10 ^ (l.length)<=4611686018427387904) k.toNat ⟨[],by simp;rw[Int.max_eq_left h0.1],by simp,by simp,by simp,by simp;omega⟩ ?_;rintro j s h n ⟨l,s0,s3,hd,hl,hb⟩;by_cases hj:j=0
 ·subst hj;rw[Jh4,List.nil_append]at hd;simp[s0,s3];refine⟨by unfold Jd;omega,?_⟩;rw[hd,W9,if_neg (by omega)]
 ·have hj':0<j:=by omega
  simp[s0,s3,hj'];have hj2:j<=4611686018427387904:=Nat.le_trans (Nat.le_mul_of_pos_right j (Nat.pow_pos (by decide))) hb;have e1:((j:Int)).tmod 10=((j % 10:Nat):Int):=rfl;rw[e1,Km (by omega)]
  have e2:IntKind.u8.wrap (48+((j % 10:Nat):Int))=((48+j % 10:Nat):Int):=by
   have:48+j % 10<256:=by omega
   unfold IntKind.wrap;simp[IntKind.bits,IntKind.signed];omega
  rw[e2];simp[bytesOf]
  have hl20:l.length<20:=by
   apply Classical.byContradiction;intro hc;have h20:l.length=20:=by omega
   rw[h20]at hb;omega
  refine⟨by unfold Jd;omega,j / 10,by omega,by rw[Km (by omega)];omega,?_,by omega,?_⟩
  ·have e3:UInt8.ofNat (48+(j:Int) % 10).toNat=UInt8.ofNat (48+j % 10):=by congr 1
   rw[<-hd,Jt6 hj];simp[e3]
  ·rw[Nat.add_comm,Nat.pow_succ];refine Nat.le_trans ?_ hb;rw[Nat.mul_comm (10 ^ l.length) 10,<-Nat.mul_assoc];exact Nat.mul_le_mul_right _ (by omega)
end Go.Proofs.YtoclolkigjbcgaaGreat
namespace Go.Proofs.YtoclolkigjbcgaaGreat
set_option linter.all false
open Go Go.RowKit Go.Proofs
def a88:Jl:= ⟨19,[.t 4],(Zq [Zi 4 0] (.seq (Zq [Zi 5 0] (.blk 0 (.loop (.seq (Zq [Zv 6 5,Zv 7 0,Zn 8 7,Zb 9 .lss 6 8] (Zw 9 0)) (.seq (.blk 1 (Zq [Zv 12 0,Zv 13 5,Zv 14 1,Zx 15 1 12 13,Zs 1 15 14] (.reg [Zv 16 1,Zk 17 .add 16 1,Zv 1 17]))) (.reg [Zv 10 5,Zk 11 .add 10 1,Zv 5 11])))))) (Zq [Zv 18 1,Zv 4 18] .ret)))⟩
theorem Jy9:Jh Tryz.prog Tryz.f88=some a88:=by kernel_rfl
def K62:Jl:= ⟨21,[.t 4],(Zq [Zi 4 0] (.seq (Zq [Zi 5 0] (.blk 0 (.loop (.seq (Zq [Zv 6 5,Zv 7 0,Zn 8 7,Zb 9 .lss 6 8] (Zw 9 0)) (.seq (.blk 1 (.seq (Zq [Zv 12 0,Zv 13 5,Zx 14 1 12 13,Zl 15 false 1 14,Zv 16 1,Zb 17 .neq 15 16] (.cond (.t 17) (Zq [Zi 4 (-1)] .ret) .skip)) (.reg [Zv 18 1,Zk 19 .add 18 1,Zv 1 19]))) (.reg [Zv 10 5,Zk 11 .add 10 1,Zv 5 11])))))) (Zq [Zv 20 1,Zv 4 20] .ret)))⟩
theorem Jqk:Jh Tryz.prog Tryz.f110=some K62:=by kernel_rfl
def K7f:Jl:= ⟨27,[.t 4],(Zq [Zi 4 0] (.seq (Zq [Zi 5 0] (.blk 0 (.loop (.seq (Zq [Zv 6 5,Zv 7 0,Zn 8 7,Zb 9 .lss 6 8] (Zw 9 0)) (.seq (.blk 1 (Zq [Zv 12 0,Zv 13 5,Zv 14 1,Zx 15 2 12 13,Zf 16 0 15,Zs 1 16 14] (Zq [Zv 17 1,Zk 18 .add 17 1,Zv 1 18] (.reg [Zv 19 0,Zv 20 5,Zx 21 2 19 20,Zf 22 1 21,Zl 23 false 1 22,Zv 24 1,Zc 25 88 [.t 23,.t 24],Zv 1 25])))) (.reg [Zv 10 5,Zk 11 .add 10 1,Zv 5 11])))))) (Zq [Zv 26 1,Zv 4 26] .ret)))⟩
theorem Jtl:Jh Tryz.prog Tryz.f108=some K7f:=by kernel_rfl
def a54:Jl:= ⟨27,[.t 4],(Zq [Zi 4 0] (.seq (Zq [Zi 5 0] (.blk 0 (.loop (.seq (Zq [Zv 6 5,Zv 7 0,Zn 8 7,Zb 9 .lss 6 8] (Zw 9 0)) (.seq (.blk 1 (Zq [Zv 12 0,Zv 13 5,Zv 14 1,Zx 15 2 12 13,Zf 16 0 15,Zs 1 16 14] (Zq [Zv 17 1,Zk 18 .add 17 1,Zv 1 18] (.reg [Zv 19 0,Zv 20 5,Zx 21 2 19 20,Zf 22 1 21,Zl 23 false 1 22,Zv 24 1,Zc 25 88 [.t 23,.t 24],Zv 1 25])))) (.reg [Zv 10 5,Zk 11 .add 10 1,Zv 5 11])))))) (Zq [Zv 26 1,Zv 4 26] .ret)))⟩
theorem Jxl:Jh Tryz.prog Tryz.f54=some a54:=by kernel_rfl
def a55:Jl:= ⟨31,[.t 4],(Zq [Zi 4 0] (.seq (Zq [Zi 5 0] (.blk 0 (.loop (.seq (Zq [Zv 6 5,Zv 7 0,Zn 8 7,Zb 9 .lss 6 8] (Zw 9 0)) (.seq (.blk 1 (.seq (Zq [Zv 12 0,Zv 13 5,Zx 14 2 12 13,Zf 15 0 14,Zl 16 false 1 15,Zv 17 1,Zb 18 .neq 16 17] (.cond (.t 18) (Zq [Zi 4 (-1)] .ret) .skip)) (Zq [Zv 19 1,Zk 20 .add 19 1,Zv 1 20] (Zq [Zv 21 0,Zv 22 5,Zx 23 2 21 22,Zf 24 1 23,Zl 25 false 1 24,Zv 26 1,Zc 27 110 [.t 25,.t 26],Zv 1 27] (Zq [Zv 28 1,Zk 29 .lss 28 0] (.cond (.t 29) (Zq [Zi 4 (-1)] .ret) .skip)))))) (.reg [Zv 10 5,Zk 11 .add 10 1,Zv 5 11])))))) (Zq [Zv 30 1,Zv 4 30] .ret)))⟩
theorem Jzg:Jh Tryz.prog Tryz.f55=some a55:=by kernel_rfl
def a78:Jl:= ⟨20,[.t 4],(Zq [Zi 4 0] (.seq (Zq [Zi 5 0] (.blk 0 (.loop (.seq (Zq [Zv 6 5,Zv 7 0,Zn 8 7,Zb 9 .lss 6 8] (Zw 9 0)) (.seq (.blk 1 (Zq [Zv 12 0,Zv 13 5,Zv 14 1,Zc 15 156 [.t 14],Zx 16 1 12 13,Zs 1 16 15] (.reg [Zv 17 1,Zk 18 .add 17 1,Zv 1 18]))) (.reg [Zv 10 5,Zk 11 .add 10 1,Zv 5 11])))))) (Zq [Zv 19 1,Zv 4 19] .ret)))⟩
theorem Jxs:Jh Tryz.prog Tryz.f78=some a78:=by kernel_rfl
set_option maxHeartbeats 1000000 in
theorem J1o(l:List Int)(k:Int)(h0:0<=k/\k+G5 l<=4611686018427387904):Ih Tryz.prog 88 (.us 1 (Ji l)) k (.us 1 (Ji (Fv l k))) (k+G5 l):=by
 intro h n a I K hT hI hn hK;obtain⟨id,rows0,I0,rfl,_,hB,_⟩:=Ou hT;simp only[Ji,List.length_map]at hT hB hK⊢;refine Hq Tryz.func88 rfl rfl (by rw[hB];simp) λhlim=>?_
 refine U8 Tryz.func88 Jy9 rfl (by simp[a88]) ?_;simp[a88];unfold G5 at *;refine Ka [0] 5 l.length (λi s h1 n1=>MJ (λ_ k=>k) (λ_=>1) (λn=>[i64 n]) 1 h n id I l k i (s 1) h1 n1) hlim (by simp) (by simpa using MJ.start hT) ?_ ?_
 ·rintro i s h1 n1 R hi hg hk s5 hw hJ hR hret _;simp at hk;obtain⟨x,ki,rows,cells,I2,s1,hki,hki2,hlen,hc0,hnd,hI2,hstart,hclose⟩:=hJ.step2 hI hn hi;obtain⟨_,rfl,hc1⟩:=Ds.1 hc0;obtain⟨rfl,rfl⟩:=Wf.1 hc1;have S:=hstart _ Yq.nil;have e:=S.e;have w0:IntKind.i64.wrap (ki+1)=ki+1:=Km (by omega);simp[hk,s5,hi,hw,s1,e,hlen,w0];intro _;refine hR _ _ _ (by simp[hk]) (by simp) (hclose _ _ [.int .i64 (ki)] _ _ S.store (Ds.2 ⟨_,rfl,(Wf.2 ⟨rfl,rfl⟩)⟩) (by simp[i64];try omega))
 ·rintro s h1 n1 R hk s5 hJ hret hX;simp at hk;obtain⟨s1,hn1,hf,ht⟩:=hJ.fin;simp[hk,s5,s1];refine⟨Hi ht,λ_=>?_⟩;refine hX _ _ _ _ ?_;simp[s1];exact hK _ _ hn1 hf ht
set_option maxHeartbeats 1000000 in
theorem Jcq(l:List Int)(k:Int)(h0:0<=k/\k+G5 l<=4611686018427387904):Holds Tryz.prog 110 [.sl 1 (Ji (Fv l k)),i64 k] (λr=>r=i64 (k+G5 l)):=by
 refine Vm Tryz.func110 rfl rfl λhlim=>?_
 simp at hlim;generalize hM:Fv l k=M at *;refine Jp Tryz.func110 Jqk rfl (by simp[K62]) ?_;simp[K62];unfold G5 at *;refine Ka [0] 5 M.length (λi s h1 n1=>HJ (λ_ k=>k) (λ_=>1) M l k i (s 1)) hlim (by simp) (by rw[<-hM];simp;exact HJ.start) ?_ ?_
 ·rintro i s h1 n1 R hi hg hk s5 hw hJ hR hret _;simp at hk;obtain⟨x,ki,s1,hki,hki2,hx,hclose⟩:=hJ.step hi;have w0:IntKind.i64.wrap (ki+1)=ki+1:=Km (by omega);simp[hk,s5,hi,hw,s1,hx,w0];intro _;refine hR _ _ _ (by simp[hk]) (by simp) (hclose _ (by simp[i64];try omega))
 ·rintro s h1 n1 R hk s5 hJ hret hX;simp at hk;have s1:=hJ.fin (Nat.le_refl _);simp[hk,s5,s1]
  (intro _;refine hX _ _ _ _ ?_)
  simp[s1]
set_option maxHeartbeats 1000000 in
theorem J4u(l:List Jc)(k:Int)(h0:0<=k/\k+H5 l<=4611686018427387904):Ih Tryz.prog 108 (.us 2 (l.map Ja)) k (.us 2 ((Py l k).map Ja)) (k+H5 l):=by
 intro h n a I K hT hI hn hK;obtain⟨id,rows0,I0,rfl,_,hB,_⟩:=Ou hT;simp only[List.length_map]at hT hB hK⊢;refine Hq Tryz.func108 rfl rfl (by rw[hB];simp) λhlim=>?_
 refine U8 Tryz.func108 Jtl rfl (by simp[K7f]) ?_;simp[K7f];unfold H5 at *;refine Ka [0] 5 l.length (λi s h1 n1=>MJ Jd3 F7 Ja 2 h n id I l k i (s 1) h1 n1) hlim (by simp) (by simpa using MJ.start hT) ?_ ?_
 ·rintro i s h1 n1 R hi hg hk s5 hw hJ hR hret _;simp at hk;obtain⟨x,ki,rows,cells,I2,s1,hki,hki2,hlen,hc0,hnd,hI2,hstart,hclose⟩:=hJ.step2 hI hn hi;simp only[Ja]at hc0;simp only[F7]at hki2;obtain⟨_,rfl,hc1⟩:=Ds.1 hc0;obtain⟨d1,len1,_,J1,_,rfl,rfl,hl1,ht1,hc2⟩:=Iu hc1;have hq1:len1=(x.Coeffs).length:=by simpa using hl1
  subst hq1;obtain⟨rfl,rfl⟩:=Wf.1 hc2;have S:=hstart _ (Yq.cons ht1 hnd hI2 λhnd hI2=>Yq.nil);have e:=S.e;have w0:IntKind.i64.wrap (ki+1)=ki+1:=Km (by omega);simp[hk,s5,hi,s1,e,hlen,w0];intro _;refine RS.mark (T1:=[]) (J1o _ _ (by omega)) S.store ?_;clear S e;intro h2 n2 S;have e:=S.e;simp[s5,hw];refine hR _ _ _ (by simp[hk]) (by simp) (hclose _ _ [.int .i64 (ki),.ref d1 0 (x.Coeffs).length] _ _ S (Ds.2 ⟨_,rfl,(Iz (S.live.ids (_,.ref d1 0 _,J1) (by simp[Jd3])).1 (Wf.2 ⟨rfl,rfl⟩))⟩) (by simp[i64,F7];try omega))
 ·rintro s h1 n1 R hk s5 hJ hret hX;simp at hk;obtain⟨s1,hn1,hf,ht⟩:=hJ.fin;simp[hk,s5,s1];refine⟨Hi ht,λ_=>?_⟩;refine hX _ _ _ _ ?_;simp[s1];exact hK _ _ hn1 hf ht
set_option maxHeartbeats 1000000 in
theorem J6f(l:List Y7)(k:Int)(h0:0<=k/\k+Ga l<=4611686018427387904):Ih Tryz.prog 54 (.us 2 (l.map Ye)) k (.us 2 ((J33 l k).map Ye)) (k+Ga l):=by
 intro h n a I K hT hI hn hK;obtain⟨id,rows0,I0,rfl,_,hB,_⟩:=Ou hT;simp only[List.length_map]at hT hB hK⊢;refine Hq Tryz.func54 rfl rfl (by rw[hB];simp) λhlim=>?_
 refine U8 Tryz.func54 Jxl rfl (by simp[a54]) ?_;simp[a54];unfold Ga at *;refine Ka [0] 5 l.length (λi s h1 n1=>MJ Nd Du Ye 2 h n id I l k i (s 1) h1 n1) hlim (by simp) (by simpa using MJ.start hT) ?_ ?_
 ·rintro i s h1 n1 R hi hg hk s5 hw hJ hR hret _;simp at hk;obtain⟨x,ki,rows,cells,I2,s1,hki,hki2,hlen,hc0,hnd,hI2,hstart,hclose⟩:=hJ.step2 hI hn hi;simp only[Ye]at hc0;simp only[Du]at hki2;obtain⟨_,rfl,hc1⟩:=Ds.1 hc0;obtain⟨d1,len1,_,J1,_,rfl,rfl,hl1,ht1,hc2⟩:=Iu hc1;have hq1:len1=(x.Mult).length:=by simpa using hl1
  subst hq1;obtain⟨rfl,rfl⟩:=Wf.1 hc2;have S:=hstart _ (Yq.cons ht1 hnd hI2 λhnd hI2=>Yq.nil);have e:=S.e;have w0:IntKind.i64.wrap (ki+1)=ki+1:=Km (by omega);simp[hk,s5,hi,s1,e,hlen,w0];intro _;refine RS.mark (T1:=[]) (J1o _ _ (by omega)) S.store ?_;clear S e;intro h2 n2 S;have e:=S.e;simp[s5,hw];refine hR _ _ _ (by simp[hk]) (by simp) (hclose _ _ [.int .i64 (ki),.ref d1 0 (x.Mult).length] _ _ S (Ds.2 ⟨_,rfl,(Iz (S.live.ids (_,.ref d1 0 _,J1) (by simp[Nd])).1 (Wf.2 ⟨rfl,rfl⟩))⟩) (by simp[i64,Du];try omega))
 ·rintro s h1 n1 R hk s5 hJ hret hX;simp at hk;obtain⟨s1,hn1,hf,ht⟩:=hJ.fin;simp[hk,s5,s1];refine⟨Hi ht,λ_=>?_⟩;refine hX _ _ _ _ ?_;simp[s1];exact hK _ _ hn1 hf ht
set_option maxHeartbeats 1000000 in
theorem J14(l:List Y7)(k:Int)(h0:0<=k/\k+Ga l<=4611686018427387904):Holds Tryz.prog 55 [.sl 2 ((J33 l k).map Uu),i64 k] (λr=>r=i64 (k+Ga l)):=by
 refine Vm Tryz.func55 rfl rfl λhlim=>?_
 simp at hlim;generalize hM:J33 l k=M at *;refine Jp Tryz.func55 Jzg rfl (by simp[a55]) ?_;simp[a55];unfold Ga at *;refine Ka [0] 5 M.length (λi s h1 n1=>HJ Nd Du M l k i (s 1)) hlim (by simp) (by rw[<-hM];simp;exact HJ.start) ?_ ?_
 ·rintro i s h1 n1 R hi hg hk s5 hw hJ hR hret _;simp at hk;obtain⟨x,ki,s1,hki,hki2,hx,hclose⟩:=hJ.step hi;simp only[Du]at hki2;have w0:IntKind.i64.wrap (ki+1)=ki+1:=Km (by omega);simp[hk,s5,hi,s1,hx,Nd,w0];intro _;refine Je (Jcq (x.Mult) (ki+1) (by omega)) (by simp) ?_;rintro r rfl;have g1:¬ki+1+(G5 x.Mult:Int)<0:=by omega
  simp[s5,hw,g1];refine hR _ _ _ (by simp[hk]) (by simp) (hclose _ (by simp[i64,Du];try omega))
 ·rintro s h1 n1 R hk s5 hJ hret hX;simp at hk;have s1:=hJ.fin (Nat.le_refl _);simp[hk,s5,s1]
  (intro _;refine hX _ _ _ _ ?_)
  simp[s1]
set_option maxHeartbeats 1000000 in
theorem J62(l:List J9)(k:Int)(h0:0<=k/\k+Bu l<=4611686018427387904):Ih Tryz.prog 78 (.us 1 (Jf l)) k (.us 1 (Jf (J7h l k))) (k+Bu l):=by
 intro h n a I K hT hI hn hK;obtain⟨id,rows0,I0,rfl,_,hB,_⟩:=Ou hT;simp only[Jf,List.length_map]at hT hB hK⊢;refine Hq Tryz.func78 rfl rfl (by rw[hB];simp) λhlim=>?_
 refine U8 Tryz.func78 Jxs rfl (by simp[a78]) ?_;simp[a78];unfold Bu at *;refine Ka [0] 5 l.length (λi s h1 n1=>MJ (λ_ k=>W9 k) (λ_=>1) (λs=>[.str s]) 1 h n id I l k i (s 1) h1 n1) hlim (by simp) (by simpa using MJ.start hT) ?_ ?_
 ·rintro i s h1 n1 R hi hg hk s5 hw hJ hR hret _;simp at hk;obtain⟨x,ki,rows,cells,I2,s1,hki,hki2,hlen,hc0,hnd,hI2,hstart,hclose⟩:=hJ.step2 hI hn hi;obtain⟨_,rfl,hc1⟩:=Vl.1 hc0;obtain⟨rfl,rfl⟩:=Wf.1 hc1;have S:=hstart _ Yq.nil;have e:=S.e;have w0:IntKind.i64.wrap (ki+1)=ki+1:=Km (by omega);simp[hk,s5,hi,s1,e];intro _;refine Je (Hy (ki) (by omega)) (by simp) ?_;rintro r rfl;simp[s5,hi,hw,s1,e,hlen,w0];refine hR _ _ _ (by simp[hk]) (by simp) (hclose _ _ [.str (W9 (ki))] _ _ S.store (Vl.2 ⟨_,rfl,(Wf.2 ⟨rfl,rfl⟩)⟩) (by simp[i64];try omega))
 ·rintro s h1 n1 R hk s5 hJ hret hX;simp at hk;obtain⟨s1,hn1,hf,ht⟩:=hJ.fin;simp[hk,s5,s1];refine⟨Hi ht,λ_=>?_⟩;refine hX _ _ _ _ ?_;simp[s1];exact hK _ _ hn1 hf ht
end Go.Proofs.YtoclolkigjbcgaaGreat
namespace Go.Proofs.YtoclolkigjbcgaaGreat
set_option linter.all false
open Go Go.RowKit Go.Proofs
def K7v:Jl:= ⟨28,[.t 4],(Zq [Zi 4 0] (.seq (Zq [Zi 5 0] (.blk 0 (.loop (.seq (Zq [Zv 6 5,Zv 7 0,Zn 8 7,Zb 9 .lss 6 8] (Zw 9 0)) (.seq (.blk 1 (Zq [Zv 12 0,Zv 13 5,Zv 14 1,Zx 15 2 12 13,Zf 16 0 15,Zs 1 16 14] (Zq [Zv 17 1,Zk 18 .add 17 1,Zv 1 18] (Zq [Zv 19 0,Zv 20 5,Zv 21 1,Zc 22 156 [.t 21],Zx 23 2 19 20,Zf 24 1 23,Zs 1 24 22] (.reg [Zv 25 1,Zk 26 .add 25 1,Zv 1 26]))))) (.reg [Zv 10 5,Zk 11 .add 10 1,Zv 5 11])))))) (Zq [Zv 27 1,Zv 4 27] .ret)))⟩
theorem Jr3:Jh Tryz.prog Tryz.f248=some K7v:=by kernel_rfl
def Tr:Jl:= ⟨27,[.t 4],(Zq [Zi 4 0] (.seq (Zq [Zi 5 0] (.blk 0 (.loop (.seq (Zq [Zv 6 5,Zv 7 0,Zn 8 7,Zb 9 .lss 6 8] (Zw 9 0)) (.seq (.blk 1 (Zq [Zv 12 0,Zv 13 5,Zv 14 1,Zx 15 2 12 13,Zf 16 0 15,Zs 1 16 14] (Zq [Zv 17 1,Zk 18 .add 17 1,Zv 1 18] (.reg [Zv 19 0,Zv 20 5,Zx 21 2 19 20,Zf 22 1 21,Zl 23 false 1 22,Zv 24 1,Zc 25 248 [.t 23,.t 24],Zv 1 25])))) (.reg [Zv 10 5,Zk 11 .add 10 1,Zv 5 11])))))) (Zq [Zv 26 1,Zv 4 26] .ret)))⟩
theorem Jpv:Jh Tryz.prog Tryz.f158=some Tr:=by kernel_rfl
def K8o:Jl:= ⟨37,[.t 4],(Zq [Zi 4 0] (.seq (Zq [Zi 5 0] (.blk 0 (.loop (.seq (Zq [Zv 6 5,Zv 7 0,Zn 8 7,Zb 9 .lss 6 8] (Zw 9 0)) (.seq (.blk 1 (Zq [Zv 12 0,Zv 13 5,Zv 14 1,Zk 15 .rem 14 3,Zk 16 .eql 15 0,Zx 17 3 12 13,Zf 18 0 17,Zs 1 18 16] (Zq [Zv 19 1,Zk 20 .add 19 1,Zv 1 20] (Zq [Zv 21 0,Zv 22 5,Zx 23 3 21 22,Zf 24 1 23,Zl 25 false 1 24,Zv 26 1,Zc 27 158 [.t 25,.t 26],Zv 1 27] (Zq [Zv 28 0,Zv 29 5,Zv 30 1,Zc 31 156 [.t 30],Zx 32 3 28 29,Zf 33 2 32,Zs 1 33 31] (.reg [Zv 34 1,Zk 35 .add 34 1,Zv 1 35])))))) (.reg [Zv 10 5,Zk 11 .add 10 1,Zv 5 11])))))) (Zq [Zv 36 1,Zv 4 36] .ret)))⟩
theorem Jrn:Jh Tryz.prog Tryz.f249=some K8o:=by kernel_rfl
def a76:Jl:= ⟨44,[.t 4],(Zq [Zi 4 0] (.seq (Zq [Zi 5 0] (.blk 0 (.loop (.seq (Zq [Zv 6 5,Zv 7 0,Zn 8 7,Zb 9 .lss 6 8] (Zw 9 0)) (.seq (.blk 1 (Zq [Zv 12 0,Zv 13 5,Zv 14 1,Zc 15 156 [.t 14],Zx 16 4 12 13,Zf 17 0 16,Zs 1 17 15] (Zq [Zv 18 1,Zk 19 .add 18 1,Zv 1 19] (Zq [Zv 20 0,Zv 21 5,Zx 22 4 20 21,Zf 23 1 22,Zl 24 false 1 23,Zv 25 1,Zc 26 78 [.t 24,.t 25],Zv 1 26] (Zq [Zv 27 0,Zv 28 5,Zv 29 1,Zk 30 .rem 29 3,Zk 31 .eql 30 0,Zx 32 4 27 28,Zf 33 2 32,Zs 1 33 31] (Zq [Zv 34 1,Zk 35 .add 34 1,Zv 1 35] (.reg [Zv 36 0,Zv 37 5,Zx 38 4 36 37,Zf 39 3 38,Zl 40 false 1 39,Zv 41 1,Zc 42 108 [.t 40,.t 41],Zv 1 42]))))))) (.reg [Zv 10 5,Zk 11 .add 10 1,Zv 5 11])))))) (Zq [Zv 43 1,Zv 4 43] .ret)))⟩
theorem Jya:Jh Tryz.prog Tryz.f76=some a76:=by kernel_rfl
def K8c:Jl:= ⟨46,[.t 4],(Zq [Zi 4 0] (.seq (Zq [Zi 5 0] (.blk 0 (.loop (.seq (Zq [Zv 6 5,Zv 7 0,Zn 8 7,Zb 9 .lss 6 8] (Zw 9 0)) (.seq (.blk 1 (Zq [Zv 12 0,Zv 13 5,Zv 14 1,Zc 15 156 [.t 14],Zx 16 4 12 13,Zf 17 0 16,Zs 1 17 15] (Zq [Zv 18 1,Zk 19 .add 18 1,Zv 1 19] (Zq [Zv 20 0,Zv 21 5,Zv 22 1,Zk 23 .rem 22 3,Zk 24 .eql 23 0,Zx 25 4 20 21,Zf 26 1 25,Zs 1 26 24] (Zq [Zv 27 1,Zk 28 .add 27 1,Zv 1 28] (Zq [Zv 29 0,Zv 30 5,Zv 31 1,Zc 32 156 [.t 31],Zx 33 4 29 30,Zf 34 2 33,Zs 1 34 32] (Zq [Zv 35 1,Zk 36 .add 35 1,Zv 1 36] (Zq [Zv 37 0,Zv 38 5,Zv 39 1,Zc 40 156 [.t 39],Zx 41 4 37 38,Zf 42 3 41,Zs 1 42 40] (.reg [Zv 43 1,Zk 44 .add 43 1,Zv 1 44]))))))))) (.reg [Zv 10 5,Zk 11 .add 10 1,Zv 5 11])))))) (Zq [Zv 45 1,Zv 4 45] .ret)))⟩
theorem Jsu:Jh Tryz.prog Tryz.f157=some K8c:=by kernel_rfl
def K5l:Jl:= ⟨36,[.t 4],(Zq [Zi 4 0] (.seq (Zq [Zi 5 0] (.blk 0 (.loop (.seq (Zq [Zv 6 5,Zv 7 0,Zn 8 7,Zb 9 .lss 6 8] (Zw 9 0)) (.seq (.blk 1 (Zq [Zv 12 0,Zv 13 5,Zv 14 1,Zc 15 156 [.t 14],Zx 16 3 12 13,Zf 17 0 16,Zs 1 17 15] (Zq [Zv 18 1,Zk 19 .add 18 1,Zv 1 19] (Zq [Zv 20 0,Zv 21 5,Zv 22 1,Zc 23 156 [.t 22],Zx 24 3 20 21,Zf 25 1 24,Zs 1 25 23] (Zq [Zv 26 1,Zk 27 .add 26 1,Zv 1 27] (.reg [Zv 28 0,Zv 29 5,Zx 30 3 28 29,Zf 31 2 30,Zl 32 false 1 31,Zv 33 1,Zc 34 249 [.t 32,.t 33],Zv 1 34])))))) (.reg [Zv 10 5,Zk 11 .add 10 1,Zv 5 11])))))) (Zq [Zv 35 1,Zv 4 35] .ret)))⟩
theorem Jqm:Jh Tryz.prog Tryz.f159=some K5l:=by kernel_rfl
def a77:Jl:= ⟨69,[.t 4],(Zq [Zi 4 0] (.seq (Zq [Zi 5 0] (.blk 0 (.loop (.seq (Zq [Zv 6 5,Zv 7 0,Zn 8 7,Zb 9 .lss 6 8] (Zw 9 0)) (.seq (.blk 1 (Zq [Zv 12 0,Zv 13 5,Zv 14 1,Zc 15 156 [.t 14],Zx 16 7 12 13,Zf 17 0 16,Zs 1 17 15] (Zq [Zv 18 1,Zk 19 .add 18 1,Zv 1 19] (Zq [Zv 20 0,Zv 21 5,Zx 22 7 20 21,Zf 23 1 22,Zl 24 false 1 23,Zv 25 1,Zc 26 157 [.t 24,.t 25],Zv 1 26] (Zq [Zv 27 0,Zv 28 5,Zx 29 7 27 28,Zf 30 2 29,Zl 31 false 1 30,Zv 32 1,Zc 33 158 [.t 31,.t 32],Zv 1 33] (Zq [Zv 34 0,Zv 35 5,Zx 36 7 34 35,Zf 37 3 36,Zl 38 false 1 37,Zv 39 1,Zc 40 159 [.t 38,.t 39],Zv 1 40] (Zq [Zv 41 0,Zv 42 5,Zv 43 1,Zk 44 .rem 43 3,Zk 45 .eql 44 0,Zx 46 7 41 42,Zf 47 4 46,Zf 48 0 47,Zs 1 48 45] (Zq [Zv 49 1,Zk 50 .add 49 1,Zv 1 50] (Zq [Zv 51 0,Zv 52 5,Zx 53 7 51 52,Zf 54 4 53,Zf 55 1 54,Zl 56 false 1 55,Zv 57 1,Zc 58 158 [.t 56,.t 57],Zv 1 58] (Zq [Zv 59 0,Zv 60 5,Zv 61 1,Zc 62 156 [.t 61],Zx 63 7 59 60,Zf 64 4 63,Zf 65 2 64,Zs 1 65 62] (.reg [Zv 66 1,Zk 67 .add 66 1,Zv 1 67]))))))))))) (.reg [Zv 10 5,Zk 11 .add 10 1,Zv 5 11])))))) (Zq [Zv 68 1,Zv 4 68] .ret)))⟩
theorem Jz1:Jh Tryz.prog Tryz.f77=some a77:=by kernel_rfl
def a18:Jl:= ⟨14,[.t 4],(Zq [ZB 2 0,Zi 4 0] (Zq [Zf 5 0 2,Zl 6 false 1 5,Zv 7 1,Zc 8 76 [.t 6,.t 7],Zv 1 8] (Zq [Zf 9 1 2,Zl 10 false 1 9,Zv 11 1,Zc 12 77 [.t 10,.t 11],Zv 1 12] (Zq [Zv 13 1,Zv 4 13] .ret))))⟩
theorem Jxw:Jh Tryz.prog Tryz.f18=some a18:=by kernel_rfl
set_option maxHeartbeats 1000000 in
theorem J8y(l:List Yj)(k:Int)(h0:0<=k/\k+Mv l<=4611686018427387904):Ih Tryz.prog 248 (.us 2 (l.map Wm)) k (.us 2 ((Jdr l k).map Wm)) (k+Mv l):=by
 intro h n a I K hT hI hn hK;obtain⟨id,rows0,I0,rfl,_,hB,_⟩:=Ou hT;simp only[List.length_map]at hT hB hK⊢;refine Hq Tryz.func248 rfl rfl (by rw[hB];simp) λhlim=>?_
 refine U8 Tryz.func248 Jr3 rfl (by simp[K7v]) ?_;simp[K7v];unfold Mv at *;refine Ka [0] 5 l.length (λi s h1 n1=>MJ Jd9 Fw Wm 2 h n id I l k i (s 1) h1 n1) hlim (by simp) (by simpa using MJ.start hT) ?_ ?_
 ·rintro i s h1 n1 R hi hg hk s5 hw hJ hR hret _;simp at hk;obtain⟨x,ki,rows,cells,I2,s1,hki,hki2,hlen,hc0,hnd,hI2,hstart,hclose⟩:=hJ.step2 hI hn hi;simp only[Wm]at hc0;simp only[Fw]at hki2;obtain⟨_,rfl,hc1⟩:=Ds.1 hc0;obtain⟨_,rfl,hc2⟩:=Vl.1 hc1;obtain⟨rfl,rfl⟩:=Wf.1 hc2;have S:=hstart _ Yq.nil;have e:=S.e;have w0:IntKind.i64.wrap (ki+1)=ki+1:=Km (by omega);have w1:IntKind.i64.wrap (ki+1+1)=ki+1+1:=Km (by omega);simp[hk,s5,hi,s1,e,hlen,w0];intro _;refine Je (Hy (ki+1) (by omega)) (by simp) ?_;rintro r rfl;simp[s5,hi,hw,hlen,w1];refine hR _ _ _ (by simp[hk]) (by simp) (hclose _ _ [.int .i64 (ki),.str (W9 (ki+1))] _ _ S.store (Ds.2 ⟨_,rfl,(Vl.2 ⟨_,rfl,(Wf.2 ⟨rfl,rfl⟩)⟩)⟩) (by simp[i64,Fw];try omega))
 ·rintro s h1 n1 R hk s5 hJ hret hX;simp at hk;obtain⟨s1,hn1,hf,ht⟩:=hJ.fin;simp[hk,s5,s1];refine⟨Hi ht,λ_=>?_⟩;refine hX _ _ _ _ ?_;simp[s1];exact hK _ _ hn1 hf ht
set_option maxHeartbeats 1000000 in
theorem J1x(l:List Xg)(k:Int)(h0:0<=k/\k+Ur l<=4611686018427387904):Ih Tryz.prog 158 (.us 2 (l.map Ul)) k (.us 2 ((Sd l k).map Ul)) (k+Ur l):=by
 intro h n a I K hT hI hn hK;obtain⟨id,rows0,I0,rfl,_,hB,_⟩:=Ou hT;simp only[List.length_map]at hT hB hK⊢;refine Hq Tryz.func158 rfl rfl (by rw[hB];simp) λhlim=>?_
 refine U8 Tryz.func158 Jpv rfl (by simp[Tr]) ?_;simp[Tr];unfold Ur at *;refine Ka [0] 5 l.length (λi s h1 n1=>MJ Jcw Cg Ul 2 h n id I l k i (s 1) h1 n1) hlim (by simp) (by simpa using MJ.start hT) ?_ ?_
 ·rintro i s h1 n1 R hi hg hk s5 hw hJ hR hret _;simp at hk;obtain⟨x,ki,rows,cells,I2,s1,hki,hki2,hlen,hc0,hnd,hI2,hstart,hclose⟩:=hJ.step2 hI hn hi;simp only[Ul]at hc0;simp only[Cg]at hki2;obtain⟨_,rfl,hc1⟩:=Ds.1 hc0;obtain⟨d1,len1,_,J1,_,rfl,rfl,hl1,ht1,hc2⟩:=Iu hc1;have hq1:len1=(x.Terms).length:=by simpa using hl1
  subst hq1;obtain⟨rfl,rfl⟩:=Wf.1 hc2;have S:=hstart _ (Yq.cons ht1 hnd hI2 λhnd hI2=>Yq.nil);have e:=S.e;have w0:IntKind.i64.wrap (ki+1)=ki+1:=Km (by omega);simp[hk,s5,hi,s1,e,hlen,w0];intro _;refine RS.mark (T1:=[]) (J8y _ _ (by omega)) S.store ?_;clear S e;intro h2 n2 S;have e:=S.e;simp[s5,hw];refine hR _ _ _ (by simp[hk]) (by simp) (hclose _ _ [.int .i64 (ki),.ref d1 0 (x.Terms).length] _ _ S (Ds.2 ⟨_,rfl,(Iz (S.live.ids (_,.ref d1 0 _,J1) (by simp[Jcw])).1 (Wf.2 ⟨rfl,rfl⟩))⟩) (by simp[i64,Cg];try omega))
 ·rintro s h1 n1 R hk s5 hJ hret hX;simp at hk;obtain⟨s1,hn1,hf,ht⟩:=hJ.fin;simp[hk,s5,s1];refine⟨Hi ht,λ_=>?_⟩;refine hX _ _ _ _ ?_;simp[s1];exact hK _ _ hn1 hf ht
set_option maxHeartbeats 1000000 in
theorem Jc7(l:List Xe)(k:Int)(h0:0<=k/\k+Nw l<=4611686018427387904):Ih Tryz.prog 249 (.us 3 (l.map Us)) k (.us 3 ((Jkj l k).map Us)) (k+Nw l):=by
 intro h n a I K hT hI hn hK;obtain⟨id,rows0,I0,rfl,_,hB,_⟩:=Ou hT;simp only[List.length_map]at hT hB hK⊢;refine Hq Tryz.func249 rfl rfl (by rw[hB];simp) λhlim=>?_
 refine U8 Tryz.func249 Jrn rfl (by simp[K8o]) ?_;simp[K8o];unfold Nw at *;refine Ka [0] 5 l.length (λi s h1 n1=>MJ Jcz Fr Us 3 h n id I l k i (s 1) h1 n1) hlim (by simp) (by simpa using MJ.start hT) ?_ ?_
 ·rintro i s h1 n1 R hi hg hk s5 hw hJ hR hret _;simp at hk;obtain⟨x,ki,rows,cells,I2,s1,hki,hki2,hlen,hc0,hnd,hI2,hstart,hclose⟩:=hJ.step2 hI hn hi;simp only[Us]at hc0;simp only[Fr]at hki2;obtain⟨_,rfl,hc1⟩:=Fa.1 hc0;obtain⟨d1,len1,_,J1,_,rfl,rfl,hl1,ht1,hc2⟩:=Iu hc1;have hq1:len1=(x.Heads).length:=by simpa using hl1
  subst hq1;obtain⟨_,rfl,hc3⟩:=Vl.1 hc2;obtain⟨rfl,rfl⟩:=Wf.1 hc3;have S:=hstart _ (Yq.cons ht1 hnd hI2 λhnd hI2=>Yq.nil);have e:=S.e;have w0:IntKind.i64.wrap (ki+1)=ki+1:=Km (by omega);have w1:IntKind.i64.wrap (ki+1+Ur x.Heads+1)=ki+1+Ur x.Heads+1:=Km (by omega);simp[hk,s5,hi,s1,e,hlen,w0];intro _;refine RS.mark (T1:=[]) (J1x _ _ (by omega)) S.store ?_;clear S e;intro h2 n2 S;have e:=S.e;simp[hk,s5];refine Je (Hy (ki+1+Ur x.Heads) (by omega)) (by simp) ?_;rintro r rfl;simp[s5,hi,hw,e,hlen,w1];have S:=S.store (cells':=[.bool ((ki).tmod 3==0),.ref d1 0 (x.Heads).length,.str (W9 (ki+1+Ur x.Heads))]);refine hR _ _ _ (by simp[hk]) (by simp) (hclose _ _ [.bool ((ki).tmod 3==0),.ref d1 0 (x.Heads).length,.str (W9 (ki+1+Ur x.Heads))] _ _ S (Fa.2 ⟨_,rfl,(Iz (S.live.ids (_,.ref d1 0 _,J1) (by simp[Jcz])).1 (Vl.2 ⟨_,rfl,(Wf.2 ⟨rfl,rfl⟩)⟩))⟩) (by simp[i64,Fr];try omega))
 ·rintro s h1 n1 R hk s5 hJ hret hX;simp at hk;obtain⟨s1,hn1,hf,ht⟩:=hJ.fin;simp[hk,s5,s1];refine⟨Hi ht,λ_=>?_⟩;refine hX _ _ _ _ ?_;simp[s1];exact hK _ _ hn1 hf ht
set_option maxHeartbeats 1000000 in
theorem J40(l:List K3)(k:Int)(h0:0<=k/\k+F5 l<=4611686018427387904):Ih Tryz.prog 76 (.us 4 (l.map Xr)) k (.us 4 ((J0y l k).map Xr)) (k+F5 l):=by
 intro h n a I K hT hI hn hK;obtain⟨id,rows0,I0,rfl,_,hB,_⟩:=Ou hT;simp only[List.length_map]at hT hB hK⊢;refine Hq Tryz.func76 rfl rfl (by rw[hB];simp) λhlim=>?_
 refine U8 Tryz.func76 Jya rfl (by simp[a76]) ?_;simp[a76];unfold F5 at *;refine Ka [0] 5 l.length (λi s h1 n1=>MJ Si C1 Xr 4 h n id I l k i (s 1) h1 n1) hlim (by simp) (by simpa using MJ.start hT) ?_ ?_
 ·rintro i s h1 n1 R hi hg hk s5 hw hJ hR hret _;simp at hk;obtain⟨x,ki,rows,cells,I2,s1,hki,hki2,hlen,hc0,hnd,hI2,hstart,hclose⟩:=hJ.step2 hI hn hi;simp only[Xr]at hc0;simp only[C1]at hki2;obtain⟨_,rfl,hc1⟩:=Vl.1 hc0;obtain⟨d1,len1,_,J1,_,rfl,rfl,hl1,ht1,hc2⟩:=Iu hc1;have hq1:len1=(x.Params).length:=by simpa using hl1
  subst hq1;obtain⟨_,rfl,hc3⟩:=Fa.1 hc2;obtain⟨d3,len3,_,J3,_,rfl,rfl,hl3,ht3,hc4⟩:=Iu hc3;have hq3:len3=(x.Pre).length:=by simpa using hl3
  subst hq3;obtain⟨rfl,rfl⟩:=Wf.1 hc4;have S:=hstart _ (Yq.cons ht1 hnd hI2 λhnd hI2=>(Yq.cons ht3 hnd hI2 λhnd hI2=>Yq.nil));have e:=S.e;have w0:IntKind.i64.wrap (ki+1)=ki+1:=Km (by omega);have w1:IntKind.i64.wrap (ki+1+Bu x.Params+1)=ki+1+Bu x.Params+1:=Km (by omega);simp[hk,s5,hi,s1,e];intro _;refine Je (Hy (ki) (by omega)) (by simp) ?_;rintro r rfl;simp[hk,s5,hi,s1,e,hlen,w0];refine RS.mark (T1:=[]) (J62 _ _ (by omega)) S.store ?_;clear S e;intro h2 n2 S;have e:=S.e;simp[hk,s5,hi,e,hlen,w1];refine RS.mark (T1:=[_]) (J4u _ _ (by omega)) S.store ?_;clear S e;intro h2 n2 S;have e:=S.e;simp[s5,hw];refine hR _ _ _ (by simp[hk]) (by simp) (hclose _ _ [.str (W9 (ki)),.ref d1 0 (x.Params).length,.bool ((ki+1+Bu x.Params).tmod 3==0),.ref d3 0 (x.Pre).length] _ _ S (Vl.2 ⟨_,rfl,(Iz (S.live.ids (_,.ref d1 0 _,J1) (by simp[Si])).1 (Fa.2 ⟨_,rfl,(Iz (S.live.ids (_,.ref d3 0 _,J3) (by simp[Si])).1 (Wf.2 ⟨rfl,rfl⟩))⟩))⟩) (by simp[i64,C1];try omega))
 ·rintro s h1 n1 R hk s5 hJ hret hX;simp at hk;obtain⟨s1,hn1,hf,ht⟩:=hJ.fin;simp[hk,s5,s1];refine⟨Hi ht,λ_=>?_⟩;refine hX _ _ _ _ ?_;simp[s1];exact hK _ _ hn1 hf ht
set_option maxHeartbeats 1000000 in
theorem J45(l:List X4)(k:Int)(h0:0<=k/\k+Qv l<=4611686018427387904):Ih Tryz.prog 157 (.us 4 (l.map Um)) k (.us 4 ((J55 l k).map Um)) (k+Qv l):=by
 intro h n a I K hT hI hn hK;obtain⟨id,rows0,I0,rfl,_,hB,_⟩:=Ou hT;simp only[List.length_map]at hT hB hK⊢;refine Hq Tryz.func157 rfl rfl (by rw[hB];simp) λhlim=>?_
 refine U8 Tryz.func157 Jsu rfl (by simp[K8c]) ?_;simp[K8c];unfold Qv at *;refine Ka [0] 5 l.length (λi s h1 n1=>MJ J4x Fy Um 4 h n id I l k i (s 1) h1 n1) hlim (by simp) (by simpa using MJ.start hT) ?_ ?_
 ·rintro i s h1 n1 R hi hg hk s5 hw hJ hR hret _;simp at hk;obtain⟨x,ki,rows,cells,I2,s1,hki,hki2,hlen,hc0,hnd,hI2,hstart,hclose⟩:=hJ.step2 hI hn hi;simp only[Um]at hc0;simp only[Fy]at hki2;obtain⟨_,rfl,hc1⟩:=Vl.1 hc0;obtain⟨_,rfl,hc2⟩:=Fa.1 hc1;obtain⟨_,rfl,hc3⟩:=Vl.1 hc2;obtain⟨_,rfl,hc4⟩:=Vl.1 hc3;obtain⟨rfl,rfl⟩:=Wf.1 hc4;have S:=hstart _ Yq.nil;have e:=S.e;have w0:IntKind.i64.wrap (ki+1)=ki+1:=Km (by omega);have w1:IntKind.i64.wrap (ki+1+1)=ki+1+1:=Km (by omega);have w2:IntKind.i64.wrap (ki+1+1+1)=ki+1+1+1:=Km (by omega);have w3:IntKind.i64.wrap (ki+1+1+1+1)=ki+1+1+1+1:=Km (by omega);simp[hk,s5,hi,s1,e];intro _;refine Je (Hy (ki) (by omega)) (by simp) ?_;rintro r rfl;simp[hk,s5,hi,s1,e,hlen,w0,w1];refine Je (Hy (ki+1+1) (by omega)) (by simp) ?_;rintro r rfl;simp[hk,s5,hi,hlen,w2];refine Je (Hy (ki+1+1+1) (by omega)) (by simp) ?_;rintro r rfl;simp[s5,hi,hw,hlen,w3];refine hR _ _ _ (by simp[hk]) (by simp) (hclose _ _ [.str (W9 (ki)),.bool ((ki+1).tmod 3==0),.str (W9 (ki+1+1)),.str (W9 (ki+1+1+1))] _ _ S.store (Vl.2 ⟨_,rfl,(Fa.2 ⟨_,rfl,(Vl.2 ⟨_,rfl,(Vl.2 ⟨_,rfl,(Wf.2 ⟨rfl,rfl⟩)⟩)⟩)⟩)⟩) (by simp[i64,Fy];try omega))
 ·rintro s h1 n1 R hk s5 hJ hret hX;simp at hk;obtain⟨s1,hn1,hf,ht⟩:=hJ.fin;simp[hk,s5,s1];refine⟨Hi ht,λ_=>?_⟩;refine hX _ _ _ _ ?_;simp[s1];exact hK _ _ hn1 hf ht
set_option maxHeartbeats 1000000 in
theorem Ja0(l:List Xq)(k:Int)(h0:0<=k/\k+Ia l<=4611686018427387904):Ih Tryz.prog 159 (.us 3 (l.map W2)) k (.us 3 ((Je6 l k).map W2)) (k+Ia l):=by
 intro h n a I K hT hI hn hK;obtain⟨id,rows0,I0,rfl,_,hB,_⟩:=Ou hT;simp only[List.length_map]at hT hB hK⊢;refine Hq Tryz.func159 rfl rfl (by rw[hB];simp) λhlim=>?_
 refine U8 Tryz.func159 Jqm rfl (by simp[K5l]) ?_;simp[K5l];unfold Ia at *;refine Ka [0] 5 l.length (λi s h1 n1=>MJ J8e Fj W2 3 h n id I l k i (s 1) h1 n1) hlim (by simp) (by simpa using MJ.start hT) ?_ ?_
 ·rintro i s h1 n1 R hi hg hk s5 hw hJ hR hret _;simp at hk;obtain⟨x,ki,rows,cells,I2,s1,hki,hki2,hlen,hc0,hnd,hI2,hstart,hclose⟩:=hJ.step2 hI hn hi;simp only[W2]at hc0;simp only[Fj]at hki2;obtain⟨_,rfl,hc1⟩:=Vl.1 hc0;obtain⟨_,rfl,hc2⟩:=Vl.1 hc1;obtain⟨d2,len2,_,J2,_,rfl,rfl,hl2,ht2,hc3⟩:=Iu hc2;have hq2:len2=(x.Args).length:=by simpa using hl2
  subst hq2;obtain⟨rfl,rfl⟩:=Wf.1 hc3;have S:=hstart _ (Yq.cons ht2 hnd hI2 λhnd hI2=>Yq.nil);have e:=S.e;have w0:IntKind.i64.wrap (ki+1)=ki+1:=Km (by omega);have w1:IntKind.i64.wrap (ki+1+1)=ki+1+1:=Km (by omega);simp[hk,s5,hi,s1,e];intro _;refine Je (Hy (ki) (by omega)) (by simp) ?_;rintro r rfl;simp[hk,s5,hi,s1,e,hlen,w0];refine Je (Hy (ki+1) (by omega)) (by simp) ?_;rintro r rfl;simp[hk,s5,hi,hlen,w1];refine RS.mark (T1:=[]) (Jc7 _ _ (by omega)) S.store ?_;clear S e;intro h2 n2 S;have e:=S.e;simp[s5,hw];refine hR _ _ _ (by simp[hk]) (by simp) (hclose _ _ [.str (W9 (ki)),.str (W9 (ki+1)),.ref d2 0 (x.Args).length] _ _ S (Vl.2 ⟨_,rfl,(Vl.2 ⟨_,rfl,(Iz (S.live.ids (_,.ref d2 0 _,J2) (by simp[J8e])).1 (Wf.2 ⟨rfl,rfl⟩))⟩)⟩) (by simp[i64,Fj];try omega))
 ·rintro s h1 n1 R hk s5 hJ hret hX;simp at hk;obtain⟨s1,hn1,hf,ht⟩:=hJ.fin;simp[hk,s5,s1];refine⟨Hi ht,λ_=>?_⟩;refine hX _ _ _ _ ?_;simp[s1];exact hK _ _ hn1 hf ht
set_option maxHeartbeats 1000000 in
theorem J9n(l:List K0)(k:Int)(h0:0<=k/\k+Ns l<=4611686018427387904):Ih Tryz.prog 77 (.us 7 (l.map Yh)) k (.us 7 ((J8j l k).map Yh)) (k+Ns l):=by
 intro h n a I K hT hI hn hK;obtain⟨id,rows0,I0,rfl,_,hB,_⟩:=Ou hT;simp only[List.length_map]at hT hB hK⊢;refine Hq Tryz.func77 rfl rfl (by rw[hB];simp) λhlim=>?_
 refine U8 Tryz.func77 Jz1 rfl (by simp[a77]) ?_;simp[a77];unfold Ns at *;refine Ka [0] 5 l.length (λi s h1 n1=>MJ Ma C2 Yh 7 h n id I l k i (s 1) h1 n1) hlim (by simp) (by simpa using MJ.start hT) ?_ ?_
 ·rintro i s h1 n1 R hi hg hk s5 hw hJ hR hret _;simp at hk;obtain⟨x,ki,rows,cells,I2,s1,hki,hki2,hlen,hc0,hnd,hI2,hstart,hclose⟩:=hJ.step2 hI hn hi;simp only[Yh]at hc0;simp only[C2]at hki2;obtain⟨_,rfl,hc1⟩:=Vl.1 hc0;obtain⟨d1,len1,_,J1,_,rfl,rfl,hl1,ht1,hc2⟩:=Iu hc1;have hq1:len1=(x.Patterns).length:=by simpa using hl1
  subst hq1;obtain⟨d2,len2,_,J2,_,rfl,rfl,hl2,ht2,hc3⟩:=Iu hc2;have hq2:len2=(x.Guards).length:=by simpa using hl2
  subst hq2;obtain⟨d3,len3,_,J3,_,rfl,rfl,hl3,ht3,hc4⟩:=Iu hc3;have hq3:len3=(x.Calls).length:=by simpa using hl3
  subst hq3;obtain⟨_,rfl,hc5⟩:=Fa.1 hc4;obtain⟨d5,len5,_,J5,_,rfl,rfl,hl5,ht5,hc6⟩:=Iu hc5;have hq5:len5=(x.Result.Heads).length:=by simpa using hl5
  subst hq5;obtain⟨_,rfl,hc7⟩:=Vl.1 hc6;obtain⟨rfl,rfl⟩:=Wf.1 hc7;have S:=hstart _ (Yq.cons ht1 hnd hI2 λhnd hI2=>(Yq.cons ht2 hnd hI2 λhnd hI2=>(Yq.cons ht3 hnd hI2 λhnd hI2=>(Yq.cons ht5 hnd hI2 λhnd hI2=>Yq.nil))));have e:=S.e;have w0:IntKind.i64.wrap (ki+1)=ki+1:=Km (by omega);have w1:IntKind.i64.wrap (ki+1+Qv x.Patterns+Ur x.Guards+Ia x.Calls+1)=ki+1+Qv x.Patterns+Ur x.Guards+Ia x.Calls+1:=Km (by omega);have w2:IntKind.i64.wrap (ki+1+Qv x.Patterns+Ur x.Guards+Ia x.Calls+1+Ur x.Result.Heads+1)=ki+1+Qv x.Patterns+Ur x.Guards+Ia x.Calls+1+Ur x.Result.Heads+1:=Km (by omega);simp[hk,s5,hi,s1,e];intro _;refine Je (Hy (ki) (by omega)) (by simp) ?_;rintro r rfl;simp[hk,s5,hi,s1,e,hlen,w0];refine RS.mark (T1:=[]) (J45 _ _ (by omega)) S.store ?_;clear S e;intro h2 n2 S;have e:=S.e;simp[hk,s5,hi,e,hlen];refine RS.mark (T1:=[_]) (J1x _ _ (by omega)) S ?_;clear S e;intro h2 n2 S;have e:=S.e;simp[hk,s5,hi,e,hlen];refine RS.mark (T1:=[_,_]) (Ja0 _ _ (by omega)) S ?_;clear S e;intro h2 n2 S;have e:=S.e;simp[hk,s5,hi,e,hlen,w1];refine RS.mark (T1:=[_,_,_]) (J1x _ _ (by omega)) S.store ?_;clear S e;intro h2 n2 S;have e:=S.e;simp[hk,s5];refine Je (Hy (ki+1+Qv x.Patterns+Ur x.Guards+Ia x.Calls+1+Ur x.Result.Heads) (by omega)) (by simp) ?_;rintro r rfl;simp[s5,hi,hw,e,hlen,w2];have S:=S.store (cells':=[.str (W9 (ki)),.ref d1 0 (x.Patterns).length,.ref d2 0 (x.Guards).length,.ref d3 0 (x.Calls).length,.bool ((ki+1+Qv x.Patterns+Ur x.Guards+Ia x.Calls).tmod 3==0),.ref d5 0 (x.Result.Heads).length,.str (W9 (ki+1+Qv x.Patterns+Ur x.Guards+Ia x.Calls+1+Ur x.Result.Heads))]);refine hR _ _ _ (by simp[hk]) (by simp) (hclose _ _ [.str (W9 (ki)),.ref d1 0 (x.Patterns).length,.ref d2 0 (x.Guards).length,.ref d3 0 (x.Calls).length,.bool ((ki+1+Qv x.Patterns+Ur x.Guards+Ia x.Calls).tmod 3==0),.ref d5 0 (x.Result.Heads).length,.str (W9 (ki+1+Qv x.Patterns+Ur x.Guards+Ia x.Calls+1+Ur x.Result.Heads))] _ _ S (Vl.2 ⟨_,rfl,(Iz (S.live.ids (_,.ref d1 0 _,J1) (by simp[Ma])).1 (Iz (S.live.ids (_,.ref d2 0 _,J2) (by simp[Ma])).1 (Iz (S.live.ids (_,.ref d3 0 _,J3) (by simp[Ma])).1 (Fa.2 ⟨_,rfl,(Iz (S.live.ids (_,.ref d5 0 _,J5) (by simp[Ma])).1 (Vl.2 ⟨_,rfl,(Wf.2 ⟨rfl,rfl⟩)⟩))⟩))))⟩) (by simp[i64,C2];try omega))
 ·rintro s h1 n1 R hk s5 hJ hret hX;simp at hk;obtain⟨s1,hn1,hf,ht⟩:=hJ.fin;simp[hk,s5,s1];refine⟨Hi ht,λ_=>?_⟩;refine hX _ _ _ _ ?_;simp[s1];exact hK _ _ hn1 hf ht
set_option maxHeartbeats 1000000 in
theorem J6b(x:Jo)(k:Int)(h0:0<=k/\k+E4 x<=4611686018427387904):Ih Tryz.prog 18 (.agg (Qh x)) k (.agg (Qh (J6w x k))) (k+E4 x):=by
 intro h n a I K hT hI hn hK;obtain⟨cs,rfl,hc0⟩:=Jka.1 hT;simp only[E4]at h0;obtain⟨d0,len0,_,J0,_,rfl,rfl,hl0,ht0,hc1⟩:=Iu hc0;have hq0:len0=(x.Functions).length:=by simpa using hl0
 subst hq0;obtain⟨d1,len1,_,J1,_,rfl,rfl,hl1,ht1,hc2⟩:=Iu hc1;have hq1:len1=(x.Rules).length:=by simpa using hl1
 subst hq1;obtain⟨rfl,rfl⟩:=Wf.1 hc2;refine U8 Tryz.func18 Jxw rfl (by simp[a18]) ?_;simp[a18];have S:=RS.box (sz:=2) (cells:=[.ref d0 0 (x.Functions).length,.ref d1 0 (x.Rules).length]) (Yq.cons (ht0) hI hn λhI hn=>(Yq.cons (ht1) hI hn λhI hn=>Yq.nil)) hn;refine RS.mark (T1:=[]) (J40 x.Functions (k) (by omega)) S ?_;clear S;intro h2 n2 S;have e:=S.e;simp[e];refine RS.mark (T1:=[_]) (J9n x.Rules (k+F5 x.Functions) (by omega)) S ?_;clear S;intro h2 n2 S;have e:=S.e;simp;have hb:=S.unbox;have ht:TR h2 (.agg (Qh (J6w x k))) _ _:=Jd8.2 (Iz (S.live.ids (.us 4 ((J0y x.Functions (k)).map Xr),.ref d0 0 (x.Functions).length,J0) (by simp)).1 (Iz (S.live.ids (.us 7 ((J8j x.Rules (k+F5 x.Functions)).map Yh),.ref d1 0 (x.Rules).length,J1) (by simp)).1 (Wf.2 ⟨rfl,rfl⟩)));have hk:=hK _ _ hb.1 hb.2 ht;simp only[E4]at hk;refine cast ?_ hk;congr 2
 (simp;try omega)
end Go.Proofs.YtoclolkigjbcgaaGreat
namespace Go.Proofs.YtoclolkigjbcgaaGreat
set_option linter.all false
open Go Go.RowKit Go.Proofs
def K8j:Jl:= ⟨19,[.t 4],(Zq [Zi 4 0] (.seq (Zq [Zi 5 0] (.blk 0 (.loop (.seq (Zq [Zv 6 5,Zv 7 0,Zn 8 7,Zb 9 .lss 6 8] (Zw 9 0)) (.seq (.blk 1 (.reg [Zv 12 0,Zv 13 5,Zx 14 1 12 13,Zl 15 false 1 14,Zv 16 1,Zc 17 108 [.t 15,.t 16],Zv 1 17])) (.reg [Zv 10 5,Zk 11 .add 10 1,Zv 5 11])))))) (Zq [Zv 18 1,Zv 4 18] .ret)))⟩
theorem Jse:Jh Tryz.prog Tryz.f130=some K8j:=by kernel_rfl
set_option maxHeartbeats 1000000 in
theorem J9u(l:List (List Jc))(k:Int)(h0:0<=k/\k+Em l<=4611686018427387904):Ih Tryz.prog 130 (.us 1 (l.map Y3)) k (.us 1 ((J8n l k).map Y3)) (k+Em l):=by
 intro h n a I K hT hI hn hK;obtain⟨id,rows0,I0,rfl,_,hB,_⟩:=Ou hT;simp only[List.length_map]at hT hB hK⊢;refine Hq Tryz.func130 rfl rfl (by rw[hB];simp) λhlim=>?_
 refine U8 Tryz.func130 Jse rfl (by simp[K8j]) ?_;simp[K8j];unfold Em at *;refine Ka [0] 5 l.length (λi s h1 n1=>MJ Py H5 Y3 1 h n id I l k i (s 1) h1 n1) hlim (by simp) (by simpa using MJ.start hT) ?_ ?_
 ·rintro i s h1 n1 R hi hg hk s5 hw hJ hR hret _;simp at hk;obtain⟨x,ki,rows,cells,I2,s1,hki,hki2,hlen,hc0,hnd,hI2,hstart,hclose⟩:=hJ.step2 hI hn hi;simp only[Y3]at hc0;obtain⟨d0,len0,_,J0,_,rfl,rfl,hl0,ht0,hc1⟩:=Iu hc0;have hq0:len0=(x).length:=by simpa using hl0
  subst hq0;obtain⟨rfl,rfl⟩:=Wf.1 hc1;have S:=hstart _ (Yq.cons ht0 hnd hI2 λhnd hI2=>Yq.nil);have e:=S.e;simp[hk,s5,hi,s1,e,hlen];intro _;refine RS.mark (T1:=[]) (J4u _ _ (by omega)) S ?_;clear S e;intro h2 n2 S;have e:=S.e;simp[s5,hw];refine hR _ _ _ (by simp[hk]) (by simp) (hclose _ _ [.ref d0 0 (x).length] _ _ S (Iz (S.live.ids (_,.ref d0 0 _,J0) (by simp)).1 (Wf.2 ⟨rfl,rfl⟩)) (by simp[i64];try omega))
 ·rintro s h1 n1 R hk s5 hJ hret hX;simp at hk;obtain⟨s1,hn1,hf,ht⟩:=hJ.fin;simp[hk,s5,s1];refine⟨Hi ht,λ_=>?_⟩;refine hX _ _ _ _ ?_;simp[s1];exact hK _ _ hn1 hf ht
end Go.Proofs.YtoclolkigjbcgaaGreat
namespace Go.Proofs.YtoclolkigjbcgaaGreat
set_option linter.all false
open Go Go.RowKit Go.Proofs
def a51:Jl:= ⟨14,[.t 4],(Zq [ZB 2 0,Zi 4 0] (Zq [Zf 5 0 2,Zl 6 false 1 5,Zv 7 1,Zc 8 130 [.t 6,.t 7],Zv 1 8] (Zq [Zf 9 1 2,Zl 10 false 1 9,Zv 11 1,Zc 12 88 [.t 10,.t 11],Zv 1 12] (Zq [Zv 13 1,Zv 4 13] .ret))))⟩
theorem Jyr:Jh Tryz.prog Tryz.f51=some a51:=by kernel_rfl
set_option maxHeartbeats 1000000 in
theorem J6j(x:Xk)(k:Int)(h0:0<=k/\k+Ft x<=4611686018427387904):Ih Tryz.prog 51 (.agg (Qx x)) k (.agg (Qx (J70 x k))) (k+Ft x):=by
 intro h n a I K hT hI hn hK;obtain⟨cs,rfl,hc0⟩:=Jka.1 hT;simp only[Ft]at h0;obtain⟨d0,len0,_,J0,_,rfl,rfl,hl0,ht0,hc1⟩:=Iu hc0;have hq0:len0=(x.Levels).length:=by simpa using hl0
 subst hq0;obtain⟨d1,len1,_,J1,_,rfl,rfl,hl1,ht1,hc2⟩:=Iu hc1;have hq1:len1=(x.Edges).length:=by simpa using hl1
 subst hq1;obtain⟨rfl,rfl⟩:=Wf.1 hc2;refine U8 Tryz.func51 Jyr rfl (by simp[a51]) ?_;simp[a51];have S:=RS.box (sz:=2) (cells:=[.ref d0 0 (x.Levels).length,.ref d1 0 (x.Edges).length]) (Yq.cons (ht0) hI hn λhI hn=>(Yq.cons (ht1) hI hn λhI hn=>Yq.nil)) hn;refine RS.mark (T1:=[]) (J9u x.Levels (k) (by omega)) S ?_;clear S;intro h2 n2 S;have e:=S.e;simp[e];refine RS.mark (T1:=[_]) (J1o x.Edges (k+Em x.Levels) (by omega)) S ?_;clear S;intro h2 n2 S;have e:=S.e;simp;have hb:=S.unbox;have ht:TR h2 (.agg (Qx (J70 x k))) _ _:=Jd8.2 (Iz (S.live.ids (.us 1 ((J8n x.Levels (k)).map Y3),.ref d0 0 (x.Levels).length,J0) (by simp)).1 (Iz (S.live.ids (.us 1 (Ji (Fv x.Edges (k+Em x.Levels))),.ref d1 0 (x.Edges).length,J1) (by simp)).1 (Wf.2 ⟨rfl,rfl⟩)));have hk:=hK _ _ hb.1 hb.2 ht;simp only[Ft]at hk;refine cast ?_ hk;congr 2
 (simp;try omega)
end Go.Proofs.YtoclolkigjbcgaaGreat
namespace Go.Proofs.YtoclolkigjbcgaaGreat
set_option linter.all false
open Go Go.RowKit Go.Proofs
def a44:Jl:= ⟨18,[.t 4],(Zq [ZB 2 0,Zi 4 0] (Zq [Zf 5 0 2,Zl 6 false 1 5,Zv 7 1,Zc 8 117 [.t 6,.t 7],Zv 1 8] (.seq (Zq [Zv 9 1,Zk 10 .lss 9 0] (.cond (.t 10) (Zq [Zi 4 (-1)] .ret) .skip)) (Zq [Zf 11 1 2,Zl 12 false 1 11,Zv 13 1,Zc 14 80 [.t 12,.t 13],Zv 1 14] (.seq (Zq [Zv 15 1,Zk 16 .lss 15 0] (.cond (.t 16) (Zq [Zi 4 (-1)] .ret) .skip)) (Zq [Zv 17 1,Zv 4 17] .ret))))))⟩
theorem Jys:Jh Tryz.prog Tryz.f44=some a44:=by kernel_rfl
def a46:Jl:= ⟨13,[(.c 2 true 2)],(Zq [ZB 1 0,Zo 2 (.box [(.nil 1),(.nil 1)])] (Zq [Zo 3 (.box [(.nil 1),(.nil 1)])] (Zq [Zf 4 0 1,Zl 5 false 1 4,Zc 6 119 [.t 5],Zf 7 0 3,Zs 1 7 6] (Zq [Zf 8 1 1,Zl 9 false 1 8,Zc 10 83 [.t 9],Zf 11 1 3,Zs 1 11 10] (Zq [Zl 12 true 2 3,Zs 2 2 12] .ret)))))⟩
theorem Jyo:Jh Tryz.prog Tryz.f46=some a46:=by kernel_rfl
def a48:Jl:= ⟨17,[.t 4],(Zq [ZB 2 0,ZB 3 1,Zt 4 false] (.seq (Zq [Zf 5 0 2,Zl 6 false 1 5,Zf 7 0 3,Zl 8 false 1 7,Zc 9 120 [.t 6,.t 8],ZN 10 9] (.cond (.t 10) (Zq [Zt 4 false] .ret) .skip)) (.seq (Zq [Zf 11 1 2,Zl 12 false 1 11,Zf 13 1 3,Zl 14 false 1 13,Zc 15 87 [.t 12,.t 14],ZN 16 15] (.cond (.t 16) (Zq [Zt 4 false] .ret) .skip)) (Zq [Zt 4 true] .ret))))⟩
theorem Jyy:Jh Tryz.prog Tryz.f48=some a48:=by kernel_rfl
theorem J9y(x:Xk)(left:Int)(h0:0<=left/\left<=4611686018427387904):Holds Tryz.prog 44 [.agg (X3 x),i64 left] (λr=>r=i64 (Kw left (Gw x))):=by
 refine Jp Tryz.func44 Jys rfl (by simp[a44]) ?_;simp[a44,X3];have e0:Gw x=Gw x:=rfl
 conv at e0=>rhs;unfold Gw
 refine Je (Jfi x.Levels left (by omega)) (by simp) ?_;rintro r rfl;by_cases h1:left - (D3 x.Levels:Nat)<0
 case pos=>
  have q:left - (Gw x:Int)<0:=by omega
  simp[Kw,h1,q];try first|omega|(constructor <;>intros <;>omega)
 simp[Kw,h1];refine Je (Jbo x.Edges (left - (D3 x.Levels:Nat)) (by omega)) (by simp) ?_;rintro r rfl;by_cases h2:(left - (D3 x.Levels:Nat)) - (Dk x.Edges:Nat)<0
 case pos=>
  have q:left - (Gw x:Int)<0:=by omega
  simp[Kw,h2,q];try first|omega|(constructor <;>intros <;>omega)
 simp[Kw,h2];try(rw[if_neg (by omega)];omega)
theorem Rl(x:Xk)(_hw:Gw x<=1048576):Holds Tryz.prog 46 [.agg (X3 x)] (λr=>r = .agg (Qx x)):=by have hw:=_hw;unfold Gw at hw;refine Jp Tryz.func46 Jyo rfl (by simp[a46]) ?_;simp[a46,X3];refine Je (Jfx x.Levels (by omega)) (by simp[]) ?_;rintro r rfl;simp[];refine Je (Jb8 x.Edges (by omega)) (by simp[]) ?_;rintro r rfl;simp[];try simp[Qx]
theorem J95(x y:Xk):Holds Tryz.prog 48 [.agg (X3 x),.agg (X3 y)] (λr=>r = .bool (decide (x=y))):=by
 refine Jp Tryz.func48 Jyy rfl (by simp[a48]) ?_;simp[a48,X3];refine Je (Jg8 x.Levels y.Levels) (by simp[]) ?_;rintro r rfl;by_cases h0:x.Levels=y.Levels
 case neg=>simp[h0];try exact λe=>h0 (by rw[e])
 simp[h0];refine Je (J5y x.Edges y.Edges) (by simp[]) ?_;rintro r rfl;by_cases h1:x.Edges=y.Edges
 case neg=>simp[h1];try exact λe=>h1 (by rw[e])
 simp[h1];cases x;cases y;simp_all
end Go.Proofs.YtoclolkigjbcgaaGreat
namespace Go.Proofs.YtoclolkigjbcgaaGreat
set_option linter.all false
open Go Go.RowKit Go.Proofs
def a11:Jl:= ⟨119,[.t 4],(Zq [ZB 2 0,ZB 3 1,Zt 4 false] (Zq [Zi 5 1048576] (Zq [Zl 17 true 2 2,Zv 18 5,Zc 19 12 [.t 17,.t 18],Zv 5 19] (.seq (Zq [Zv 20 5,Zk 21 .lss 20 0] (.cond (.t 21) (Zq [Zt 4 true] .ret) .skip)) (Zq [Zl 22 true 2 3,Zv 23 5,Zc 24 44 [.t 22,.t 23],Zv 5 24] (.seq (Zq [Zv 25 5,Zk 26 .lss 25 0] (.cond (.t 26) (Zq [Zt 4 true] .ret) .skip)) (.seq (.draw (.op (Zl 28 true 2 2) (.op (Zl 30 true 2 3) (.op (Zc 29 14 [.t 28]) (.op (Zc 31 46 [.t 30]) (.op (Zc 32 56 [.t 29,.t 31]) (.op (Zv 27 32) (.op (Ze 33 27 0) (.op (Ze 34 27 1) (.op (Zv 6 33) (.op (Zv 7 34) .fin))))))))))) (Zq [Zl 35 true 2 2,Zc 36 14 [.t 35],Zo 8 (.box [(.nil 4),(.nil 7)]),Zs 2 8 36] (Zq [Zl 37 true 2 3,Zc 38 46 [.t 37],Zo 9 (.box [(.nil 1),(.nil 1)]),Zs 2 9 38] (Zq [Zl 40 true 2 8,Zl 41 true 2 9,Zc 42 57 [.t 40,.t 41],Zv 39 42,Ze 43 39 0,Ze 44 39 1,Zv 10 43,Zv 11 44] (.seq (Zq [Zv 45 10,Zv 46 6,Zc 47 43 [.t 45,.t 46],ZN 48 47,Zv 49 48,Zg 50 49 false (.mv (.t 11)),Zg 51 49 false (.mv (.t 7)),Zg 52 49 false (.beq true (.t 50) (.t 51)),ZP 53 49 52] (.cond (.t 53) (Zq [Zt 4 false] .ret) .skip)) (.seq (.seq (.draw (.op (Zl 54 true 2 8) (.op (Zl 55 true 2 2) (.op (Zc 56 14 [.t 55]) (.op (Zc 57 17 [.t 54,.t 56]) (.op (ZN 58 57) .fin)))))) (.cond (.t 58) (Zq [Zt 4 false] .ret) .skip)) (.seq (.seq (.draw (.op (Zl 59 true 2 9) (.op (Zl 60 true 2 3) (.op (Zc 61 46 [.t 60]) (.op (Zc 62 48 [.t 59,.t 61]) (.op (ZN 63 62) .fin)))))) (.cond (.t 63) (Zq [Zt 4 false] .ret) .skip)) (Zq [Zi 12 1] (Zq [Zl 64 true 2 8,Zv 65 12,Zc 66 18 [.t 64,.t 65],Zv 12 66] (Zq [Zl 67 true 2 9,Zv 68 12,Zc 69 51 [.t 67,.t 68],Zv 12 69] (.seq (Zq [Zv 70 12,Zk 71 .lss 70 0,Zv 72 71,Zg 73 72 false (.mv (.t 10)),Zg 74 72 false (.mv (.t 6)),Zg 75 72 false (.call (.k (.fn (.func 43) [] [])) [.t 73,.t 74]),Zg 76 72 false (.un .not (.t 75)),ZP 77 72 76,Zv 78 77,Zg 79 78 false (.mv (.t 11)),Zg 80 78 false (.mv (.t 7)),Zg 81 78 false (.beq true (.t 79) (.t 80)),ZP 82 78 81] (.cond (.t 82) (Zq [Zt 4 false] .ret) .skip)) (Zq [Zi 13 1] (Zq [Zv 83 10,Zv 84 13,Zc 85 54 [.t 83,.t 84],Zv 13 85] (Zq [Zi 14 1] (Zq [Zv 86 10,Zv 87 14,Zc 88 55 [.t 86,.t 87],Zv 14 88] (.seq (Zq [Zv 89 14,Zk 90 .lss 89 0] (.cond (.t 90) (Zq [Zt 4 false] .ret) .skip)) (.seq (Zq [Zv 91 14,Zv 92 13,Zb 93 .neq 91 92] (.cond (.t 93) (Zq [Zt 4 false] .ret) .skip)) (.seq (.draw (.op (Zl 95 true 2 2) (.op (Zl 97 true 2 3) (.op (Zc 96 14 [.t 95]) (.op (Zc 98 46 [.t 97]) (.op (Zc 99 57 [.t 96,.t 98]) (.op (Zv 94 99) (.op (Ze 100 94 0) (.op (Ze 101 94 1) (.op (Zv 15 100) (.op (Zv 16 101) .fin))))))))))) (.seq (Zq [Zv 102 15,Zv 103 6,Zc 104 43 [.t 102,.t 103],ZN 105 104,Zv 106 105,Zg 107 106 false (.mv (.t 16)),Zg 108 106 false (.mv (.t 7)),Zg 109 106 false (.beq true (.t 107) (.t 108)),ZP 110 106 109] (.cond (.t 110) (Zq [Zt 4 false] .ret) .skip)) (Zq [Zi 14 1] (Zq [Zv 111 10,Zv 112 14,Zc 113 55 [.t 111,.t 112],Zv 14 113] (.seq (Zq [Zv 114 14,Zk 115 .lss 114 0] (.cond (.t 115) (Zq [Zt 4 false] .ret) .skip)) (.seq (Zq [Zv 116 14,Zv 117 13,Zb 118 .neq 116 117] (.cond (.t 118) (Zq [Zt 4 false] .ret) .skip)) (Zq [Zt 4 true] .ret))))))))))))))))))))))))))))))⟩
theorem Jx7:Jh Tryz.prog Tryz.f11=some a11:=by kernel_rfl
theorem J2p(aP:Jo)(aX:Xk):Holds Tryz.prog 11 [.agg (Jg aP),.agg (X3 aX)] (λx=>x = .bool true):=by
 refine Jp Tryz.func11 Jx7 rfl (by simp[a11]) ?_;simp[a11];refine Je (J9g aP 1048576 (by omega)) (by simp) ?_;rintro r rfl;by_cases h1:1048576 - (X2 aP:Int)<0
 ·simp[Kw,h1]
 simp[Kw,h1];refine Je (J9y aX (1048576 - (X2 aP:Int)) (by omega)) (by simp) ?_;rintro r rfl;by_cases h2:1048576 - (X2 aP:Int) - (Gw aX:Int)<0
 ·simp[Kw,h2]
 simp[Kw,h2];have hw_aP:X2 aP<=1048576:=by omega
 have hw_aX:Gw aX<=1048576:=by omega
 have hb_aP:=Jbr aP;have hb_aX:=Jcj aX;refine Cx (Pk aP hw_aP) (((LS.start).push).push) (by simp) ⟨.inl (λh=>by rfl),trivial⟩ ?_;intro c0 h0x n0 J0 S0 hl0 hc0;have e:=S0.eqs;have ne:=S0.nes;simp only[Iw,O5,Nat.zero_add]at e ne;simp only[Rh]at hl0;have ht0:List.take 2 c0=c0:=List.take_of_length_le (by omega);simp;refine Cx (Rl aX hw_aX) (S0) (by simp) ⟨.inl (λh=>by rfl),trivial⟩ ?_;intro c1 h1x n1 J1 S1 hl1 hc1;have e:=S1.eqs;have ne:=S1.nes;simp only[Iw,O5,Nat.zero_add]at e ne;simp only[Sk]at hl1;have ht1:List.take 2 c1=c1:=List.take_of_length_le (by omega);simp;refine Jeg (len:=(((V7 aP aX).getD [])).length) (J41 aP hw_aP aX) (S1) rfl (by simp) ⟨.inr ⟨_,.tail _ (.head _),rfl,by simp[dr]⟩,.inr ⟨_,.head _,rfl,by simp[dr]⟩,trivial⟩ ?_;intro d2 h2x n2 J2 S2;have e:=S2.eqs;have ne:=S2.nes;simp only[Iw,O5,Nat.zero_add]at e ne;simp[e];refine Jkw (Pk aP hw_aP) (S2) (by simp) ⟨.inl (λh=>by rfl),trivial⟩ ?_;intro c3 h3x n3 J3 S3 hl3 hc3;have e:=S3.eqs;have ne:=S3.nes;simp only[Iw,O5,Nat.zero_add]at e ne;simp only[Rh]at hl3;have ht3:List.take 2 c3=c3:=List.take_of_length_le (by omega);simp[e,ne,hl3,hc3];refine Jkw (Rl aX hw_aX) ((S3).push) (by simp) ⟨.inl (λh=>by rfl),trivial⟩ ?_;intro c4 h4x n4 J4 S4 hl4 hc4;have e:=S4.eqs;have ne:=S4.nes;simp only[Iw,O5,Nat.zero_add]at e ne;simp only[Sk]at hl4;have ht4:List.take 2 c4=c4:=List.take_of_length_le (by omega);simp[e,ne,hl3,ht3,hl4,ht4,hc4];refine Jx4 (len:=(((V7 aP aX).getD [])).length) (J0n aP hw_aP aX) ((S4).push) rfl (by simp) ⟨.inr ⟨_,.tail _ (.head _),rfl,by simp[dr]⟩,.inr ⟨_,.head _,rfl,by simp[dr]⟩,trivial⟩ ?_;intro d5 h5x n5 J5 S5;have e:=S5.eqs;have ne:=S5.nes;simp only[Iw,O5,Nat.zero_add]at e ne;simp;refine N6 (J0p (((V7 aP aX).getD [])) (((V7 aP aX).getD []))) (S5) rfl ⟨.inr ⟨_,.head _,rfl,by simp[dr]⟩,.inr ⟨_,.tail _ (.tail _ (.tail _ (.head _))),rfl,by simp[dr]⟩,trivial⟩ ?_;simp[e,hl3,ht3];refine Cx (Pk aP hw_aP) (S5) (by simp) ⟨.inl (λh=>by rfl),trivial⟩ ?_;intro c6 h6x n6 J6 S6 hl6 hc6;have e:=S6.eqs;have ne:=S6.nes;simp only[Iw,O5,Nat.zero_add]at e ne;simp only[Rh]at hl6;have ht6:List.take 2 c6=c6:=List.take_of_length_le (by omega);simp;refine Jbm (J9h (aP) (aP)) (S6) rfl ⟨.inr ⟨_,.tail _ (.tail _ (.tail _ (.head _))),rfl,by simp[dr]⟩,.inr ⟨_,.head _,rfl,by simp[dr]⟩,trivial⟩ ?_;simp[e,hl4,ht4];refine Cx (Rl aX hw_aX) (S6) (by simp) ⟨.inl (λh=>by rfl),trivial⟩ ?_;intro c7 h7x n7 J7 S7 hl7 hc7;have e:=S7.eqs;have ne:=S7.nes;simp only[Iw,O5,Nat.zero_add]at e ne;simp only[Sk]at hl7;have ht7:List.take 2 c7=c7:=List.take_of_length_le (by omega);simp;refine Jbm (J95 (aX) (aX)) (S7) rfl ⟨.inr ⟨_,.tail _ (.tail _ (.tail _ (.head _))),rfl,by simp[dr]⟩,.inr ⟨_,.head _,rfl,by simp[dr]⟩,trivial⟩ ?_;simp[e,hl3,ht3];refine J8d (T1:=[_,_,_,_]) (J6b (aP) (1) (by omega)) (S7) ?_;intro h8x n8 S8;have e:=S8.eqs;have ne:=S8.nes;simp only[Iw,O5,Nat.zero_add]at e ne;have hq1:¬1+E4 aP<(0:Int):=by omega
 simp[e,hl4,ht4];refine J8d (T1:=[_,_,_]) (J6j (aX) (1+E4 aP) (by omega)) (S8) ?_;intro h9x n9 S9;have e:=S9.eqs;have ne:=S9.nes;simp only[Iw,O5,Nat.zero_add]at e ne;have hq2:¬1+E4 aP+Ft aX<(0:Int):=by omega
 simp[hq2];refine N6 (J0p (((V7 aP aX).getD [])) (((V7 aP aX).getD []))) (S9) rfl ⟨.inr ⟨_,.tail _ (.tail _ (.head _)),rfl,by simp[dr]⟩,.inr ⟨_,.tail _ (.tail _ (.tail _ (.tail _ (.tail _ (.head _))))),rfl,by simp[dr]⟩,trivial⟩ ?_;simp;have hg:=Jgj aP aX;have hm:¬1+(Ga (((V7 aP aX).getD [])):Int)<0:=by omega
 refine J8d (T1:=[_,_]) (J6f (((V7 aP aX).getD [])) (1) (by omega)) (S9) ?_;intro h10x n10 S10;have e:=S10.eqs;have ne:=S10.nes;simp only[Iw,O5,Nat.zero_add]at e ne;have hq3:¬1+Ga (((V7 aP aX).getD []))<(0:Int):=by omega
 simp;refine N6 (J14 (((V7 aP aX).getD [])) (1) (by omega)) (S10) rfl ⟨.inr ⟨_,.tail _ (.tail _ (.head _)),rfl,by simp[dr]⟩,.inl (λh=>by rfl),trivial⟩ ?_;simp[e,hm];refine Cx (Pk aP hw_aP) (S10) (by simp) ⟨.inl (λh=>by rfl),trivial⟩ ?_;intro c11 h11x n11 J11 S11 hl11 hc11;have e:=S11.eqs;have ne:=S11.nes;simp only[Iw,O5,Nat.zero_add]at e ne;simp only[Rh]at hl11;have ht11:List.take 2 c11=c11:=List.take_of_length_le (by omega);simp;refine Cx (Rl aX hw_aX) (S11) (by simp) ⟨.inl (λh=>by rfl),trivial⟩ ?_;intro c12 h12x n12 J12 S12 hl12 hc12;have e:=S12.eqs;have ne:=S12.nes;simp only[Iw,O5,Nat.zero_add]at e ne;simp only[Sk]at hl12;have ht12:List.take 2 c12=c12:=List.take_of_length_le (by omega);simp;refine Jeg (len:=(((V7 aP aX).getD [])).length) (J0n aP hw_aP aX) (S12) rfl (by simp) ⟨.inr ⟨_,.tail _ (.head _),rfl,by simp[dr]⟩,.inr ⟨_,.head _,rfl,by simp[dr]⟩,trivial⟩ ?_;intro d13 h13x n13 J13 S13;have e:=S13.eqs;have ne:=S13.nes;simp only[Iw,O5,Nat.zero_add]at e ne;simp;refine N6 (J0p (((V7 aP aX).getD [])) (((V7 aP aX).getD []))) (S13) rfl ⟨.inr ⟨_,.head _,rfl,by simp[dr]⟩,.inr ⟨_,.tail _ (.tail _ (.tail _ (.tail _ (.tail _ (.tail _ (.tail _ (.tail _ (.head _)))))))),rfl,by simp[dr]⟩,trivial⟩ ?_;simp;refine N6 (J14 (((V7 aP aX).getD [])) (1) (by omega)) (S13) rfl ⟨.inr ⟨_,.tail _ (.tail _ (.tail _ (.tail _ (.tail _ (.head _))))),rfl,by simp[dr]⟩,.inl (λh=>by rfl),trivial⟩ ?_;simp[hm]
end Go.Proofs.YtoclolkigjbcgaaGreat
namespace Go.Proofs.YtoclolkigjbcgaaGreat
set_option linter.all false
open Go Go.RowKit Go.Proofs Go.ChangeShapes Go.WideShapes
theorem Tryz.own:ownKnob Tryz.prog.godebug=none:=by kernel_rfl
theorem Tryz.laidOut:laidOutB Tryz.prog=true:=by kernel_rfl
theorem Bd{α:Type}{P:List AV->Prop}{f:α->List AV}(hP:∀r,P r->∃x,r=f x):∀{rows:List (List AV)},(∀r∈rows,P r)->∃l:List α,rows=l.map f
 | [],_=>⟨[],rfl⟩
 |r::rows,h=>by
  obtain⟨x,rfl⟩:=hP r (h _ List.mem_cons_self);obtain⟨l,rfl⟩:=Bd hP λr hr=>h r (List.mem_cons_of_mem _ hr)
  exact⟨x::l,rfl⟩
set_option maxRecDepth 100000
theorem Jdp{f:Nat}{r:List AV}(h:Y4 Tryz.prog (f+2) 39 r):∃x:List Int,r=[.sl 1 (Ji x)]:=by obtain⟨l,rfl⟩:=Jmo Tryz.underlying39 Tryz.underlying3 (by kernel_rfl) h;exact⟨l,rfl⟩
theorem Jxi{f:Nat}{r:List AV}(h:Y4 Tryz.prog (f+3) 41 r):∃x:Jc,r=Jb x:=by obtain⟨parts,rfl,g0⟩:=D1 Tryz.underlying41 h;obtain⟨x0,m1,rfl,h0,g1⟩:=Uw g0;obtain⟨x1,m2,rfl,h1,g2⟩:=Uw g1;cases Br g2;obtain⟨v0,rfl,_⟩:=Rp Tryz.underlying3 h0;obtain⟨v1,rfl⟩:=Jdp h1;exact⟨⟨v0,v1⟩,rfl⟩
theorem Jea{f:Nat}{r:List AV}(h:Y4 Tryz.prog (f+4) 51 r):∃x:List Jc,r=[.sl 2 (x.map Jb)]:=by obtain⟨rows,rfl,_,hr⟩:=Bh Tryz.underlying51 h;obtain⟨l,rfl⟩:=Bd (f:=Jb) (λr h=>Jxi h) hr;exact⟨l,by rw[show Tryz.prog.cellsOf 41=2 by kernel_rfl]⟩
theorem Jmi{f:Nat}{r:List AV}(h:Y4 Tryz.prog (f+2) 339 r):∃x:Yj,r=Xh x:=by obtain⟨parts,rfl,g0⟩:=D1 Tryz.underlying339 h;obtain⟨x0,m1,rfl,h0,g1⟩:=Uw g0;obtain⟨x1,m2,rfl,h1,g2⟩:=Uw g1;cases Br g2;obtain⟨v0,rfl,_⟩:=Rp Tryz.underlying3 h0;obtain⟨v1,rfl,_⟩:=Dh Tryz.underlying9 h1;exact⟨⟨v0,v1⟩,rfl⟩
theorem Jhi{f:Nat}{r:List AV}(h:Y4 Tryz.prog (f+3) 303 r):∃x:List Yj,r=[.sl 2 (x.map Xh)]:=by obtain⟨rows,rfl,_,hr⟩:=Bh Tryz.underlying303 h;obtain⟨l,rfl⟩:=Bd (f:=Xh) (λr h=>Jmi h) hr;exact⟨l,by rw[show Tryz.prog.cellsOf 339=2 by kernel_rfl]⟩
theorem Jxr{f:Nat}{r:List AV}(h:Y4 Tryz.prog (f+4) 305 r):∃x:Xg,r=Ks x:=by obtain⟨parts,rfl,g0⟩:=D1 Tryz.underlying305 h;obtain⟨x0,m1,rfl,h0,g1⟩:=Uw g0;obtain⟨x1,m2,rfl,h1,g2⟩:=Uw g1;cases Br g2;obtain⟨v0,rfl,_⟩:=Rp Tryz.underlying3 h0;obtain⟨v1,rfl⟩:=Jhi h1;exact⟨⟨v0,v1⟩,rfl⟩
theorem Jdk{f:Nat}{r:List AV}(h:Y4 Tryz.prog (f+5) 170 r):∃x:List Xg,r=[.sl 2 (x.map Ks)]:=by obtain⟨rows,rfl,_,hr⟩:=Bh Tryz.underlying170 h;obtain⟨l,rfl⟩:=Bd (f:=Ks) (λr h=>Jxr h) hr;exact⟨l,by rw[show Tryz.prog.cellsOf 305=2 by kernel_rfl]⟩
theorem Jkh{f:Nat}{r:List AV}(h:Y4 Tryz.prog (f+6) 173 r):∃x:Xe,r=Kn x:=by obtain⟨parts,rfl,g0⟩:=D1 Tryz.underlying173 h;obtain⟨x0,m1,rfl,h0,g1⟩:=Uw g0;obtain⟨x1,m2,rfl,h1,g2⟩:=Uw g1;obtain⟨x2,m3,rfl,h2,g3⟩:=Uw g2;cases Br g3;obtain⟨v0,rfl⟩:=J5x Tryz.underlying4 h0;obtain⟨v1,rfl⟩:=Jdk h1;obtain⟨v2,rfl,_⟩:=Dh Tryz.underlying9 h2;exact⟨⟨v0,v1,v2⟩,rfl⟩
theorem Jo3{f:Nat}{r:List AV}(h:Y4 Tryz.prog (f+7) 307 r):∃x:List Xe,r=[.sl 3 (x.map Kn)]:=by obtain⟨rows,rfl,_,hr⟩:=Bh Tryz.underlying307 h;obtain⟨l,rfl⟩:=Bd (f:=Kn) (λr h=>Jkh h) hr;exact⟨l,by rw[show Tryz.prog.cellsOf 173=3 by kernel_rfl]⟩
theorem Jc2{f:Nat}{r:List AV}(h:Y4 Tryz.prog (f+2) 94 r):∃x:List J9,r=[.sl 1 (Jf x)]:=by obtain⟨rows,rfl,_,hr⟩:=Bh Tryz.underlying94 h;obtain⟨l,rfl⟩:=Bd (f:=λs:J9=>[.str s]) (λr h=>(Dh Tryz.underlying9 h).elim λl h=>⟨l,h.1⟩) hr;exact⟨l,by rw[show Tryz.prog.cellsOf 9=1 by kernel_rfl];rfl⟩
theorem Ja1{f:Nat}{r:List AV}(h:Y4 Tryz.prog (f+5) 167 r):∃x:K3,r=K5 x:=by obtain⟨parts,rfl,g0⟩:=D1 Tryz.underlying167 h;obtain⟨x0,m1,rfl,h0,g1⟩:=Uw g0;obtain⟨x1,m2,rfl,h1,g2⟩:=Uw g1;obtain⟨x2,m3,rfl,h2,g3⟩:=Uw g2;obtain⟨x3,m4,rfl,h3,g4⟩:=Uw g3;cases Br g4;obtain⟨v0,rfl,_⟩:=Dh Tryz.underlying9 h0;obtain⟨v1,rfl⟩:=Jc2 h1;obtain⟨v2,rfl⟩:=J5x Tryz.underlying4 h2;obtain⟨v3,rfl⟩:=Jea h3;exact⟨⟨v0,v1,v2,v3⟩,rfl⟩
theorem J89{f:Nat}{r:List AV}(h:Y4 Tryz.prog (f+6) 22 r):∃x:List K3,r=[.sl 4 (x.map K5)]:=by obtain⟨rows,rfl,_,hr⟩:=Bh Tryz.underlying22 h;obtain⟨l,rfl⟩:=Bd (f:=K5) (λr h=>Ja1 h) hr;exact⟨l,by rw[show Tryz.prog.cellsOf 167=4 by kernel_rfl]⟩
theorem Jbx{f:Nat}{r:List AV}(h:Y4 Tryz.prog (f+2) 301 r):∃x:X4,r=Kd x:=by obtain⟨parts,rfl,g0⟩:=D1 Tryz.underlying301 h;obtain⟨x0,m1,rfl,h0,g1⟩:=Uw g0;obtain⟨x1,m2,rfl,h1,g2⟩:=Uw g1;obtain⟨x2,m3,rfl,h2,g3⟩:=Uw g2;obtain⟨x3,m4,rfl,h3,g4⟩:=Uw g3;cases Br g4;obtain⟨v0,rfl,_⟩:=Dh Tryz.underlying9 h0;obtain⟨v1,rfl⟩:=J5x Tryz.underlying4 h1;obtain⟨v2,rfl,_⟩:=Dh Tryz.underlying9 h2;obtain⟨v3,rfl,_⟩:=Dh Tryz.underlying9 h3;exact⟨⟨v0,v1,v2,v3⟩,rfl⟩
theorem J9m{f:Nat}{r:List AV}(h:Y4 Tryz.prog (f+3) 169 r):∃x:List X4,r=[.sl 4 (x.map Kd)]:=by obtain⟨rows,rfl,_,hr⟩:=Bh Tryz.underlying169 h;obtain⟨l,rfl⟩:=Bd (f:=Kd) (λr h=>Jbx h) hr;exact⟨l,by rw[show Tryz.prog.cellsOf 301=4 by kernel_rfl]⟩
theorem Jt4{f:Nat}{r:List AV}(h:Y4 Tryz.prog (f+8) 309 r):∃x:Xq,r=X8 x:=by obtain⟨parts,rfl,g0⟩:=D1 Tryz.underlying309 h;obtain⟨x0,m1,rfl,h0,g1⟩:=Uw g0;obtain⟨x1,m2,rfl,h1,g2⟩:=Uw g1;obtain⟨x2,m3,rfl,h2,g3⟩:=Uw g2;cases Br g3;obtain⟨v0,rfl,_⟩:=Dh Tryz.underlying9 h0;obtain⟨v1,rfl,_⟩:=Dh Tryz.underlying9 h1;obtain⟨v2,rfl⟩:=Jo3 h2;exact⟨⟨v0,v1,v2⟩,rfl⟩
theorem Jha{f:Nat}{r:List AV}(h:Y4 Tryz.prog (f+9) 171 r):∃x:List Xq,r=[.sl 3 (x.map X8)]:=by obtain⟨rows,rfl,_,hr⟩:=Bh Tryz.underlying171 h;obtain⟨l,rfl⟩:=Bd (f:=X8) (λr h=>Jt4 h) hr;exact⟨l,by rw[show Tryz.prog.cellsOf 309=3 by kernel_rfl]⟩
theorem Js8{f:Nat}{r:List AV}(h:Y4 Tryz.prog (f+10) 175 r):∃x:K0,r=Ju x:=by obtain⟨parts,rfl,g0⟩:=D1 Tryz.underlying175 h;obtain⟨x0,m1,rfl,h0,g1⟩:=Uw g0;obtain⟨x1,m2,rfl,h1,g2⟩:=Uw g1;obtain⟨x2,m3,rfl,h2,g3⟩:=Uw g2;obtain⟨x3,m4,rfl,h3,g4⟩:=Uw g3;obtain⟨x4,m5,rfl,h4,g5⟩:=Uw g4;cases Br g5;obtain⟨v0,rfl,_⟩:=Dh Tryz.underlying9 h0;obtain⟨v1,rfl⟩:=J9m h1;obtain⟨v2,rfl⟩:=Jdk h2;obtain⟨v3,rfl⟩:=Jha h3;obtain⟨v4,rfl⟩:=Jkh h4;exact⟨⟨v0,v1,v2,v3,v4⟩,rfl⟩
theorem Jj2{f:Nat}{r:List AV}(h:Y4 Tryz.prog (f+11) 23 r):∃x:List K0,r=[.sl 7 (x.map Ju)]:=by obtain⟨rows,rfl,_,hr⟩:=Bh Tryz.underlying23 h;obtain⟨l,rfl⟩:=Bd (f:=Ju) (λr h=>Js8 h) hr;exact⟨l,by rw[show Tryz.prog.cellsOf 175=7 by kernel_rfl]⟩
theorem Jcp{f:Nat}{r:List AV}(h:Y4 Tryz.prog (f+12) 25 r):∃x:Jo,r=Jg x:=by obtain⟨parts,rfl,g0⟩:=D1 Tryz.underlying25 h;obtain⟨x0,m1,rfl,h0,g1⟩:=Uw g0;obtain⟨x1,m2,rfl,h1,g2⟩:=Uw g1;cases Br g2;obtain⟨v0,rfl⟩:=J89 h0;obtain⟨v1,rfl⟩:=Jj2 h1;exact⟨⟨v0,v1⟩,rfl⟩
theorem J96{f:Nat}{a:AV}(h:E7 Tryz.prog (f+12) 25 a):∃x:Jo,a = .agg (Jg x):=by obtain⟨row,rfl,h1⟩:=J2e Tryz.underlying25 h;obtain⟨x,rfl⟩:=Jcp h1;exact⟨x,rfl⟩
theorem Jh7{f:Nat}{r:List AV}(h:Y4 Tryz.prog (f+5) 74 r):∃x:List (List Jc),r=[.sl 1 (x.map Uo)]:=by obtain⟨rows,rfl,_,hr⟩:=Bh Tryz.underlying74 h;obtain⟨l,rfl⟩:=Bd (f:=Uo) (λr h=>Jea h) hr;exact⟨l,by rw[show Tryz.prog.cellsOf 51=1 by kernel_rfl]⟩
theorem Jcr{f:Nat}{r:List AV}(h:Y4 Tryz.prog (f+6) 76 r):∃x:Xk,r=X3 x:=by obtain⟨parts,rfl,g0⟩:=D1 Tryz.underlying76 h;obtain⟨x0,m1,rfl,h0,g1⟩:=Uw g0;obtain⟨x1,m2,rfl,h1,g2⟩:=Uw g1;cases Br g2;obtain⟨v0,rfl⟩:=Jh7 h0;obtain⟨v1,rfl⟩:=Jdp h1;exact⟨⟨v0,v1⟩,rfl⟩
theorem J98{f:Nat}{a:AV}(h:E7 Tryz.prog (f+6) 76 a):∃x:Xk,a = .agg (X3 x):=by obtain⟨row,rfl,h1⟩:=J2e Tryz.underlying76 h;obtain⟨x,rfl⟩:=Jcr h1;exact⟨x,rfl⟩
end Go.Proofs.YtoclolkigjbcgaaGreat
namespace Go.Proofs.YtoclolkigjbcgaaGreat
set_option linter.all false
open Go Go.RowKit Go.Proofs Go.ChangeShapes Go.WideShapes
theorem J47{P:Program}{f:FuncId}{fn:Func}{s:ChangeSpec}{c:OpenClaim}(k0:c.wf (OpenSpec.ofChange s)=true)(k1:laidOutB P=true)(k2:mapsRowed P=true)(k3:fn.params.all (P.readableRec ·)=true)(k4:namedTie P c.named s.vars=true)(k5:(c.stops==[])=true)(k6:(P.stops==[])=true)(k7:(c.knobs==[])=true)(k8:(P.stopKnobs==[])=true)(k9:(c.inPlace==P.inPlace f)=true)(k10:(c.unfollowed==P.unfollowed f)=true)(k11:(c.recurses==P.recurses f)=true)(k12:(c.named==P.varsNamed f)=true)(k13:(c.maps==(fn.params.toList++s.plain.varTypes P).any (P.mapsRec ·))=true)(k14:(c.ifaces==(fn.params.toList++s.plain.varTypes P).any (P.ifacesRec ·))=true)(k15:(c.mapsOut==P.mapsAmong fn.resultTypes.toList)=true)(k16:(c.loops==(fn.params.toList++s.plain.varTypes P).any (P.loopsFrom ·))=true)(k17:(c.wideKeys==(fn.params.toList++s.plain.varTypes P++fn.resultTypes.toList).any (P.wideKeysFrom ·))=true)(k18:s.vars.all (P.varReadable ·)=true)(k19:fn.resultTypes.all (λt=>P.readableRec t&&decide (t<P.types.size))=true)(k20:(c.ifacesOut==fn.resultTypes.toList.any (P.ifacesRec ·))=true)(k21:(c.loopsOut==fn.resultTypes.toList.any (P.loopsFrom ·))=true)(k22:(c.plainKeys==P.plainKeys)=true)(k23:c.shortTexts.isNone=true)(k24:P.stopsHeard=true)(k25:P.mayEnter=true)(k26:(c.lifted==P.liftsFinal)=true)(k27:(P.make==some c.make)=true)(k28:(c.kinds==(if c.domain.isEmpty then []else fn.params.toList.map λt=>match P.underlying t with|some (.int k)=>some k|_=>none))=true)(k29:(c.pinned==c.pinnedBy)=true)(k30:(c.veiled==(fn.params.toList++s.plain.varTypes P++fn.resultTypes.toList).any (P.veiledRec ·))=true)(k31:c.veiledFits P fn.params.toList (fn.params.toList++s.plain.varTypes P++fn.resultTypes.toList)=true):joinedFacts P f fn s c=true:=by
 simp only[joinedFacts,Bool.and_eq_true]
 and_intros <;>assumption
set_option maxRecDepth 100000
theorem Jzl:laidOutB Tryz.pinned.checked.prog=true:=Tryz.laidOut
theorem Jx8:mapsRowed Tryz.pinned.checked.prog=true:=by kernel_rfl
theorem Jmf:Tryz.pinned.checked.prog.stopsHeard=true:=by kernel_rfl
theorem Jpu:Tryz.pinned.checked.prog.mayEnter=true:=by kernel_rfl
end Go.Proofs.YtoclolkigjbcgaaGreat
