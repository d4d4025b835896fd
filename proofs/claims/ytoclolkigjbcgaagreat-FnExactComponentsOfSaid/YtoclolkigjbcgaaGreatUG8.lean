/- Contracts: ComponentsOf of both. -/
import Derived.Test.YtoclolkigjbcgaaGreatUE4
import Derived.Test.YtoclolkigjbcgaaGreatUM1
import Derived.Test.YtoclolkigjbcgaaGreatProg
namespace Go.Proofs.YtoclolkigjbcgaaGreat
set_option maxRecDepth 40000
set_option maxHeartbeats 4000000
open Go Go.RowKit Go.Proofs
set_option linter.all false
section
variable {ks:List Kt}{s:Env}{h:Heap}{n:Nat}{Q:Fin}
theorem Jp1 {p:DProgram}(hp:J0d p≤1048576) (hpo:J3q p=true) (hn:2<n) (s1:s 1 = .ptr 0 0 0) (s4:s 4 = .ptr 2 0 0) (s3:s 3 = .nil 1) (e0:h 0=some ⟨true,2,[J00 p]⟩) (e1:h 1=some ⟨true,0,Jag []⟩) (e2:h 2=some ⟨true,1,[[.mp 1]]⟩)
 (hK:∀ s' h' n',Jbs (J1c p) (s' 3) h' n'→J40 Tryz.prog ks .normal s' h' n' Q):rC Tryz.prog cc4 ks s h n Q:=by
 obtain ⟨f1,f2,f3,f4⟩:=J46 hpo
 have hE:∀ e∈J0i p,e.2∈J07 p:=fun e he=>(f2 e he).2
 have hNe:(J07 p).length=p.Functions.length:=by simp [J07]
 have hT:J1c p=J4i (J0i p) (J07 p) (J07 p).length []:=by unfold J1c;rw [hpo];rfl
 generalize J1c p=T at *
 simp [cc4]
 refine J77 (fun k st h n=>2<n∧st 1 = .ptr 0 0 0∧st 4 = .ptr 2 0 0∧h 0=some ⟨true,2,[J00 p]⟩∧h 2=some ⟨true,1,[[.mp 1]]⟩∧∃ (D:List Str) (Cs:List (List Str)),Done (J0i p) (J07 p) D∧h 1=some ⟨true,0,Jag D⟩∧Jbs Cs (st 3) h n∧Cs++J4i (J0i p) (J07 p) k D=T∧(J07 p).length≤k+D.length∧Cs.length+k≤(J07 p).length) (J07 p).length ⟨hn,s1,s4,e0,e2,[],[],Done.nil,e1,⟨[],[],by simp [GRr],by simp,by simp,.inl ⟨rfl,s3⟩⟩,by simpa using hT.symm,by simp,by simp⟩ ?_
 rintro k st h1 m R ⟨hm,x1,x4,c0,c2,D,Cs,hD,c1,S1,hJ,hk1,hk2⟩ hR hret hX
 by_cases hl:D.length<(J07 p).length
 ·have hl':D.length<p.Functions.length:=by omega
  refine J0c (J0e [1,3,4] (fun s=>s 19 = .bool true) (by simp [x1,x4,c0,c1,c2,J00,Jag];intro _;omega) ?_)
  intro st1 hk20 s20
  simp at hk20
  refine J2i s20 (J1d ?_)
  obtain ⟨k',rfl⟩:∃ k',k=k'+1:=⟨k - 1,by omega⟩
  refine Jps (D:=D) (Cs:=Cs) hp hpo hD hl (by omega) hm (by rw [hk20.2.1];exact S1) (by simp [hk20,x1]) (by simp [hk20,x4]) c0 c1 c2 ?_
  intro s' h' n' a ha hn' w1 w4 y0 y2 hM SS
  obtain ⟨h1a,h1b⟩:=List.find?_some ha |> fun h=>(by unfold J66 at h;simpa using h:J1a D a=false∧Jcm (J0i p) (J07 p) D a=true)
  have haN:a∈J07 p:=List.mem_of_find?_eq_some ha
  have hs:=J72 hE haN
  have hpos:0<(J3n (J0i p) (J07 p) a).length:=List.length_pos_of_mem hs
  simp
  refine hR k' _ _ _ (by omega) ⟨hn',by rw [w1];simp [hk20,x1],by rw [w4];simp [hk20,x4],by rw [y0,c0],by rw [y2,c2],D++J3n (J0i p) (J07 p) a,Cs++[J3n (J0i p) (J07 p) a],hD.step f1 hE haN (fun hm=>by rw [J1m.2 hm] at h1a;cases h1a),hM,SS,?_,by simp;omega,by simp;omega⟩
  rw [←hJ]
  simp [J4i,hl,ha]
 ·have hl':¬D.length<p.Functions.length:=by omega
  refine J0c (J0e [1,3,4] (fun s=>s 19 = .bool false) (by simp [x1,x4,c0,c1,c2,J00,Jag];intro _;omega) ?_)
  intro st1 hk20 s20
  simp at hk20
  refine J2g s20 ?_
  refine hX _ _ _ _ ?_
  simp
  have hz:J4i (J0i p) (J07 p) k D=[]:=by cases k <;> simp [J4i,hl]
  rw [hz,List.append_nil] at hJ
  subst hJ
  exact hK _ _ _ (by rw [hk20.2.1];exact S1)
end
theorem J4s (p:DProgram) (hp:J0d p≤1048576):Holds Tryz.prog 15 [.agg (J00 p)] (fun r=>r = .us 1 ((J1c p).map J1j)):=by
 refine J9d (bx:=true) Tryz.func15 a15_ok rfl (by simp [a15]) ?_
 simp [a15,cc0,cc1]
 first|refine J02 (J3z p hp) (by first|simp;done|rfl) ?_|refine J03 (J3z p hp) (by first|simp;done|rfl) ?_
 rintro r rfl
 cases hpo:J3q p
 ·have hT:J1c p=[]:=by unfold J1c;rw [hpo];rfl
  rw [hT]
  simp
  exact ⟨.us 1 [],[],by simp [GR],by simp,by simp,rfl⟩
 ·simp [cc2,cc3]
  refine Jp1 hp hpo (by simp) (by simp) (by simp) (by simp) (by simp) (by simp [Jag]) (by simp) ?_
  intro s' h' n' S
  obtain ⟨rows,I,x1,x2,x3,x4⟩:=S
  simp [cc5]
  have hrl:=J67 x1
  rcases x4 with ⟨y1,y2⟩|⟨ko,y1,y2,y3,y4,y5⟩
  ·rw [y1]
   simp [y2]
   exact ⟨.us 1 [],[],by simp [GR],by simp,by simp,rfl⟩
  ·simp [y1]
   refine ⟨.us 1 ((J1c p).map J1j),ko::I,?_,?_,by simp,rfl⟩
   ·simp only [GR]
    exact .inr ⟨ko,I,by simp,rfl,.inr ⟨rows,y2,x1⟩⟩
   ·simp only [List.nodup_cons]
    exact ⟨y5,x2⟩
def a156:AFn:= ⟨20,[.t 2],(.seq (.reg [Zo 2 (.mv (.k (.str [])))]) (.seq (.seq (.reg [Zv 4 0,Zo 5 (.bin .leq (.t 4) (.k (.int .i64 0)))]) (.cond (.t 5) (.seq (.reg [Zo 2 (.mv (.k (.str [109,48])))]) .ret) .skip)) (.seq (.reg [Zo 3 (.mv (.k (.str [])))]) (.seq (.blk 0 (.loop (.seq (.seq (.reg [Zv 6 0,Zo 7 (.bin .gtr (.t 6) (.k (.int .i64 0)))]) (.cond (.t 7) .skip (.exit 0))) (.blk 1 (.seq (.reg [Zv 8 0,Zo 9 (.bin .rem (.t 8) (.k (.int .i64 10))),Zo 10 (.bin .add (.k (.int .i64 48)) (.t 9)),Zo 11 (.cvi .u8 (.t 10)),Zo 12 (.bsl 1 [.t 11]),Zo 13 (.cvb (.t 12)),Zv 14 3,Zo 15 (.bin .add (.t 13) (.t 14)),Zv 3 15]) (.reg [Zv 16 0,Zo 17 (.bin .quo (.t 16) (.k (.int .i64 10))),Zv 0 17])))))) (.seq (.reg [Zv 18 3,Zo 19 (.bin .add (.k (.str [109])) (.t 18)),Zv 2 19]) .ret)))))⟩
theorem a156_ok:J08 Tryz.prog Tryz.f156=some a156:=by kernel_rfl
theorem Jok {n:Nat}(h:¬n=0):dig n=dig (n / 10)++[UInt8.ofNat (48+n % 10)]:=by
 rw [dig];simp [h]
theorem Jml:dig 0=[]:=by rw [dig];simp
theorem J0u (k:Int) (h0:0≤k∧k≤4611686018427387904):Holds Tryz.prog 156 [i64 k] (fun r=>r = .str (mtx k)):=by
 refine J01 Tryz.func156 a156_ok rfl (by simp [a156]) ?_
 simp [a156]
 refine ⟨fun h1=>by simp [h1,mtx],fun h1 => ?_⟩
 refine Jak (fun j s h n=>∃ (l:List UInt8),s 0=i64 j∧s 3 = .str l∧dig j++l=dig k.toNat∧l.length≤20∧j*10 ^ (l.length)≤4611686018427387904) k.toNat ⟨[],by simp;rw [Int.max_eq_left h0.1],by simp,by simp,by simp,by simp;omega⟩ ?_
 rintro j s h n ⟨l,s0,s3,hd,hl,hb⟩
 by_cases hj:j=0
 ·subst hj
  rw [Jml,List.nil_append] at hd
  simp [s0,s3]
  refine ⟨by unfold LIM;omega,?_⟩
  rw [hd,mtx,if_neg (by omega)]
 ·have hj':0<j:=by omega
  simp [s0,s3,hj']
  have hj2:j≤4611686018427387904:=Nat.le_trans (Nat.le_mul_of_pos_right j (Nat.pow_pos (by decide))) hb
  have e1:((j:Int)).tmod 10=((j % 10:Nat):Int):=rfl
  rw [e1,J0w (by omega)]
  have e2:IntKind.u8.wrap (48+((j % 10:Nat):Int))=((48+j % 10:Nat):Int):=by
   have:48+j % 10<256:=by omega
   unfold IntKind.wrap
   simp [IntKind.bits,IntKind.signed]
   omega
  rw [e2]
  simp [bytesOf]
  have hl20:l.length<20:=by
   apply Classical.byContradiction
   intro hc
   have h20:l.length=20:=by omega
   rw [h20] at hb
   omega
  refine ⟨by unfold LIM;omega,j / 10,by omega,by rw [J0w (by omega)];omega,?_,by omega,?_⟩
  ·have e3:UInt8.ofNat (48+(j:Int) % 10).toNat=UInt8.ofNat (48+j % 10):=by congr 1
   rw [←hd,Jok hj];simp [e3]
  ·rw [Nat.add_comm,Nat.pow_succ]
   refine Nat.le_trans ?_ hb
   rw [Nat.mul_comm (10 ^ l.length) 10,←Nat.mul_assoc]
   exact Nat.mul_le_mul_right _ (by omega)
def a88:AFn:= ⟨19,[.t 4],(.seq (.reg [Zo 4 (.mv (.k (.int .i64 0)))]) (.seq (.seq (.reg [Zo 5 (.mv (.k (.int .i64 0)))]) (.blk 0 (.loop (.seq (.seq (.reg [Zv 6 5,Zv 7 0,Zo 8 (.len false (.t 7)),Zo 9 (.bin .lss (.t 6) (.t 8))]) (.cond (.t 9) .skip (.exit 0))) (.seq (.blk 1 (.seq (.reg [Zv 12 0,Zv 13 5,Zv 14 1,Zo 15 (.ixa 1 (.t 12) (.t 13)),⟨no,.st 1 (.t 15) (.t 14),no⟩]) (.reg [Zv 16 1,Zo 17 (.bin .add (.t 16) (.k (.int .i64 1))),Zv 1 17]))) (.reg [Zv 10 5,Zo 11 (.bin .add (.t 10) (.k (.int .i64 1))),Zv 5 11])))))) (.seq (.reg [Zv 18 1,Zv 4 18]) .ret)))⟩
theorem a88_ok:J08 Tryz.prog Tryz.f88=some a88:=by kernel_rfl
def a108:AFn:= ⟨27,[.t 4],(.seq (.reg [Zo 4 (.mv (.k (.int .i64 0)))]) (.seq (.seq (.reg [Zo 5 (.mv (.k (.int .i64 0)))]) (.blk 0 (.loop (.seq (.seq (.reg [Zv 6 5,Zv 7 0,Zo 8 (.len false (.t 7)),Zo 9 (.bin .lss (.t 6) (.t 8))]) (.cond (.t 9) .skip (.exit 0))) (.seq (.blk 1 (.seq (.reg [Zv 12 0,Zv 13 5,Zv 14 1,Zo 15 (.ixa 2 (.t 12) (.t 13)),Zf 16 0 15,⟨no,.st 1 (.t 16) (.t 14),no⟩]) (.seq (.reg [Zv 17 1,Zo 18 (.bin .add (.t 17) (.k (.int .i64 1))),Zv 1 18]) (.reg [Zv 19 0,Zv 20 5,Zo 21 (.ixa 2 (.t 19) (.t 20)),Zf 22 1 21,Zl 23 false 1 22,Zv 24 1,Zc 25 88 [.t 23,.t 24],Zv 1 25])))) (.reg [Zv 10 5,Zo 11 (.bin .add (.t 10) (.k (.int .i64 1))),Zv 5 11])))))) (.seq (.reg [Zv 26 1,Zv 4 26]) .ret)))⟩
theorem a108_ok:J08 Tryz.prog Tryz.f108=some a108:=by kernel_rfl
def a78:AFn:= ⟨20,[.t 4],(.seq (.reg [Zo 4 (.mv (.k (.int .i64 0)))]) (.seq (.seq (.reg [Zo 5 (.mv (.k (.int .i64 0)))]) (.blk 0 (.loop (.seq (.seq (.reg [Zv 6 5,Zv 7 0,Zo 8 (.len false (.t 7)),Zo 9 (.bin .lss (.t 6) (.t 8))]) (.cond (.t 9) .skip (.exit 0))) (.seq (.blk 1 (.seq (.reg [Zv 12 0,Zv 13 5,Zv 14 1,Zc 15 156 [.t 14],Zo 16 (.ixa 1 (.t 12) (.t 13)),⟨no,.st 1 (.t 16) (.t 15),no⟩]) (.reg [Zv 17 1,Zo 18 (.bin .add (.t 17) (.k (.int .i64 1))),Zv 1 18]))) (.reg [Zv 10 5,Zo 11 (.bin .add (.t 10) (.k (.int .i64 1))),Zv 5 11])))))) (.seq (.reg [Zv 19 1,Zv 4 19]) .ret)))⟩
theorem a78_ok:J08 Tryz.prog Tryz.f78=some a78:=by kernel_rfl
def a79:AFn:= ⟨22,[.t 4],(.seq (.reg [Zo 4 (.mv (.k (.int .i64 0)))]) (.seq (.seq (.reg [Zo 5 (.mv (.k (.int .i64 0)))]) (.blk 0 (.loop (.seq (.seq (.reg [Zv 6 5,Zv 7 0,Zo 8 (.len false (.t 7)),Zo 9 (.bin .lss (.t 6) (.t 8))]) (.cond (.t 9) .skip (.exit 0))) (.seq (.blk 1 (.seq (.seq (.draw (.op (Zv 12 0) (.op (Zv 13 5) (.op (Zo 14 (.ixa 1 (.t 12) (.t 13))) (.op (Zl 15 false 1 14) (.op (Zv 16 1) (.op (Zc 17 156 [.t 16]) (.op (Zo 18 (.bin .neq (.t 15) (.t 17))) .fin)))))))) (.cond (.t 18) (.seq (.reg [Zo 4 (.mv (.k (.int .i64 (-1))))]) .ret) .skip)) (.reg [Zv 19 1,Zo 20 (.bin .add (.t 19) (.k (.int .i64 1))),Zv 1 20]))) (.reg [Zv 10 5,Zo 11 (.bin .add (.t 10) (.k (.int .i64 1))),Zv 5 11])))))) (.seq (.reg [Zv 21 1,Zv 4 21]) .ret)))⟩
theorem a79_ok:J08 Tryz.prog Tryz.f79=some a79:=by kernel_rfl
set_option maxHeartbeats 1000000 in
theorem Jii (l:List Int) (k:Int) (h0:0≤k∧k+Jiw l≤4611686018427387904):J8d Tryz.prog 88 (.us 1 (J38 l)) k (.us 1 (J38 (Jnf l k))) (k+Jiw l):=by
 intro h n a I K hT hI hn hK
 obtain ⟨id,rows0,I0,rfl,_,hB,_⟩:=J9y hT
 simp only [J38,List.length_map] at hT hB hK ⊢
 refine J3a Tryz.func88 rfl rfl (by rw [hB];simp) fun hlim => ?_
 refine J14 Tryz.func88 a88_ok rfl (by simp [a88]) ?_
 simp [a88]
 unfold Jiw at *
 refine J0h [0] 5 l.length (fun i s h1 n1=>MJ (fun _ k=>k) (fun _=>1) (fun n=>[i64 n]) 1 h n id I l k i (s 1) h1 n1) hlim (by simp) (by simpa using MJ.start hT) ?_ ?_
 ·rintro i s h1 n1 R hi hg hk s5 hw hJ hR hret _
  simp at hk
  obtain ⟨x,ki,rows,cells,I2,s1,hki,hki2,hlen,hc0,hnd,hI2,hstart,hclose⟩:=hJ.step2 hI hn hi
  obtain ⟨_,rfl,hc1⟩:=J7e.1 hc0
  obtain ⟨rfl,rfl⟩:=J1y.1 hc1
  have S:=hstart _ Kids.nil
  have e:=S.e
  have w0:IntKind.i64.wrap (ki+1)=ki+1:=J0w (by omega)
  simp [hk,s5,hi,hw,s1,e,hlen,w0]
  intro _
  refine hR _ _ _ (by simp [hk]) (by simp) (hclose _ _ [.int .i64 (ki)] _ _ S.store (J7e.2 ⟨_,rfl,(J1y.2 ⟨rfl,rfl⟩)⟩) (by simp [i64];try omega))
 ·rintro s h1 n1 R hk s5 hJ hret hX
  simp at hk
  obtain ⟨s1,hn1,hf,ht⟩:=hJ.fin
  simp [hk,s5,s1]
  refine ⟨J5i ht,fun _ => ?_⟩
  refine hX _ _ _ _ ?_
  simp [hk,s5,s1]
  exact hK _ _ hn1 hf ht
set_option maxHeartbeats 1000000 in
theorem Jil (l:List DLin) (k:Int) (h0:0≤k∧k+Jjg l≤4611686018427387904):J8d Tryz.prog 108 (.us 2 (l.map J1b)) k (.us 2 ((Jo8 l k).map J1b)) (k+Jjg l):=by
 intro h n a I K hT hI hn hK
 obtain ⟨id,rows0,I0,rfl,_,hB,_⟩:=J9y hT
 simp only [List.length_map] at hT hB hK ⊢
 refine J3a Tryz.func108 rfl rfl (by rw [hB];simp) fun hlim => ?_
 refine J14 Tryz.func108 a108_ok rfl (by simp [a108]) ?_
 simp [a108]
 unfold Jjg at *
 refine J0h [0] 5 l.length (fun i s h1 n1=>MJ Jjc Jgu J1b 2 h n id I l k i (s 1) h1 n1) hlim (by simp) (by simpa using MJ.start hT) ?_ ?_
 ·rintro i s h1 n1 R hi hg hk s5 hw hJ hR hret _
  simp at hk
  obtain ⟨x,ki,rows,cells,I2,s1,hki,hki2,hlen,hc0,hnd,hI2,hstart,hclose⟩:=hJ.step2 hI hn hi
  simp only [J1b] at hc0
  simp only [Jgu] at hki2
  obtain ⟨_,rfl,hc1⟩:=J7e.1 hc0
  obtain ⟨d1,len1,_,J1,_,rfl,rfl,hl1,ht1,hc2⟩:=J62 hc1
  have hq1:len1=(x.Coeffs).length:=by simpa using hl1
  subst hq1
  obtain ⟨rfl,rfl⟩:=J1y.1 hc2
  have S:=hstart _ (Kids.cons ht1 hnd hI2 fun hnd hI2=>Kids.nil)
  have e:=S.e
  have w0:IntKind.i64.wrap (ki+1)=ki+1:=J0w (by omega)
  simp [hk,s5,hi,hw,s1,e,hlen,w0]
  intro _
  refine RS.mark (T1:=[]) (Jii _ _ (by omega)) S.store ?_
  clear S e
  intro h2 n2 S
  have e:=S.e
  simp [hk,s5,hi,hw,s1,e,hlen,w0]
  refine hR _ _ _ (by simp [hk]) (by simp) (hclose _ _ [.int .i64 (ki),.ref d1 0 (x.Coeffs).length] _ _ S (J7e.2 ⟨_,rfl,(J3l (S.live.ids (_,.ref d1 0 _,J1) (by simp [Jjc])).1 (J1y.2 ⟨rfl,rfl⟩))⟩) (by simp [i64,Jgu];try omega))
 ·rintro s h1 n1 R hk s5 hJ hret hX
  simp at hk
  obtain ⟨s1,hn1,hf,ht⟩:=hJ.fin
  simp [hk,s5,s1]
  refine ⟨J5i ht,fun _ => ?_⟩
  refine hX _ _ _ _ ?_
  simp [hk,s5,s1]
  exact hK _ _ hn1 hf ht
set_option maxHeartbeats 1000000 in
theorem J8r (l:List Str) (k:Int) (h0:0≤k∧k+J1v l≤4611686018427387904):J8d Tryz.prog 78 (.us 1 (J05 l)) k (.us 1 (J05 (J5g l k))) (k+J1v l):=by
 intro h n a I K hT hI hn hK
 obtain ⟨id,rows0,I0,rfl,_,hB,_⟩:=J9y hT
 simp only [J05,List.length_map] at hT hB hK ⊢
 refine J3a Tryz.func78 rfl rfl (by rw [hB];simp) fun hlim => ?_
 refine J14 Tryz.func78 a78_ok rfl (by simp [a78]) ?_
 simp [a78]
 unfold J1v at *
 refine J0h [0] 5 l.length (fun i s h1 n1=>MJ (fun _ k=>mtx k) (fun _=>1) (fun s=>[.str s]) 1 h n id I l k i (s 1) h1 n1) hlim (by simp) (by simpa using MJ.start hT) ?_ ?_
 ·rintro i s h1 n1 R hi hg hk s5 hw hJ hR hret _
  simp at hk
  obtain ⟨x,ki,rows,cells,I2,s1,hki,hki2,hlen,hc0,hnd,hI2,hstart,hclose⟩:=hJ.step2 hI hn hi
  obtain ⟨_,rfl,hc1⟩:=J2c.1 hc0
  obtain ⟨rfl,rfl⟩:=J1y.1 hc1
  have S:=hstart _ Kids.nil
  have e:=S.e
  have w0:IntKind.i64.wrap (ki+1)=ki+1:=J0w (by omega)
  simp [hk,s5,hi,hw,s1,e,hlen,w0]
  intro _
  first|refine J02 (J0u (ki) (by omega)) (by simp) ?_|refine J03 (J0u (ki) (by omega)) (by simp) ?_
  rintro r rfl
  simp [hk,s5,hi,hw,s1,e,hlen,w0]
  refine hR _ _ _ (by simp [hk]) (by simp) (hclose _ _ [.str (mtx (ki))] _ _ S.store (J2c.2 ⟨_,rfl,(J1y.2 ⟨rfl,rfl⟩)⟩) (by simp [i64];try omega))
 ·rintro s h1 n1 R hk s5 hJ hret hX
  simp at hk
  obtain ⟨s1,hn1,hf,ht⟩:=hJ.fin
  simp [hk,s5,s1]
  refine ⟨J5i ht,fun _ => ?_⟩
  refine hX _ _ _ _ ?_
  simp [hk,s5,s1]
  exact hK _ _ hn1 hf ht
set_option maxHeartbeats 1000000 in
theorem J93 (l:List Str) (k:Int) (h0:0≤k∧k+J1v l≤4611686018427387904):Holds Tryz.prog 79 [.sl 1 (J05 (J5g l k)),i64 k] (fun r=>r=i64 (k+J1v l)):=by
 refine J1f Tryz.func79 rfl rfl fun hlim => ?_
 simp at hlim
 generalize hM:J5g l k=M at *
 refine J01 Tryz.func79 a79_ok rfl (by simp [a79]) ?_
 simp [a79]
 unfold J1v at *
 refine J0h [0] 5 M.length (fun i s h1 n1=>HJ (fun _ k=>mtx k) (fun _=>1) M l k i (s 1)) hlim (by simp) (by rw [←hM];simp;exact HJ.start) ?_ ?_
 ·rintro i s h1 n1 R hi hg hk s5 hw hJ hR hret _
  simp at hk
  obtain ⟨x,ki,s1,hki,hki2,hx,hclose⟩:=hJ.step hi
  have w0:IntKind.i64.wrap (ki+1)=ki+1:=J0w (by omega)
  simp [hk,s5,hi,hw,s1,hx,w0]
  intro _
  first|refine J02 (J0u (ki) (by omega)) (by simp) ?_|refine J03 (J0u (ki) (by omega)) (by simp) ?_
  rintro r rfl
  simp [hk,s5,hi,hw,s1,hx,w0]
  first|done|refine hR _ _ _ (by simp [hk]) (by simp) (hclose _ (by simp [i64];try omega))
 ·rintro s h1 n1 R hk s5 hJ hret hX
  simp at hk
  have s1:=hJ.fin (Nat.le_refl _)
  simp [hk,s5,s1]
  first|refine hX _ _ _ _ ?_|(intro _;refine hX _ _ _ _ ?_)
  simp [hk,s5,s1]
def a248:AFn:= ⟨28,[.t 4],(.seq (.reg [Zo 4 (.mv (.k (.int .i64 0)))]) (.seq (.seq (.reg [Zo 5 (.mv (.k (.int .i64 0)))]) (.blk 0 (.loop (.seq (.seq (.reg [Zv 6 5,Zv 7 0,Zo 8 (.len false (.t 7)),Zo 9 (.bin .lss (.t 6) (.t 8))]) (.cond (.t 9) .skip (.exit 0))) (.seq (.blk 1 (.seq (.reg [Zv 12 0,Zv 13 5,Zv 14 1,Zo 15 (.ixa 2 (.t 12) (.t 13)),Zf 16 0 15,⟨no,.st 1 (.t 16) (.t 14),no⟩]) (.seq (.reg [Zv 17 1,Zo 18 (.bin .add (.t 17) (.k (.int .i64 1))),Zv 1 18]) (.seq (.reg [Zv 19 0,Zv 20 5,Zv 21 1,Zc 22 156 [.t 21],Zo 23 (.ixa 2 (.t 19) (.t 20)),Zf 24 1 23,⟨no,.st 1 (.t 24) (.t 22),no⟩]) (.reg [Zv 25 1,Zo 26 (.bin .add (.t 25) (.k (.int .i64 1))),Zv 1 26]))))) (.reg [Zv 10 5,Zo 11 (.bin .add (.t 10) (.k (.int .i64 1))),Zv 5 11])))))) (.seq (.reg [Zv 27 1,Zv 4 27]) .ret)))⟩
theorem a248_ok:J08 Tryz.prog Tryz.f248=some a248:=by kernel_rfl
def a158:AFn:= ⟨27,[.t 4],(.seq (.reg [Zo 4 (.mv (.k (.int .i64 0)))]) (.seq (.seq (.reg [Zo 5 (.mv (.k (.int .i64 0)))]) (.blk 0 (.loop (.seq (.seq (.reg [Zv 6 5,Zv 7 0,Zo 8 (.len false (.t 7)),Zo 9 (.bin .lss (.t 6) (.t 8))]) (.cond (.t 9) .skip (.exit 0))) (.seq (.blk 1 (.seq (.reg [Zv 12 0,Zv 13 5,Zv 14 1,Zo 15 (.ixa 2 (.t 12) (.t 13)),Zf 16 0 15,⟨no,.st 1 (.t 16) (.t 14),no⟩]) (.seq (.reg [Zv 17 1,Zo 18 (.bin .add (.t 17) (.k (.int .i64 1))),Zv 1 18]) (.reg [Zv 19 0,Zv 20 5,Zo 21 (.ixa 2 (.t 19) (.t 20)),Zf 22 1 21,Zl 23 false 1 22,Zv 24 1,Zc 25 248 [.t 23,.t 24],Zv 1 25])))) (.reg [Zv 10 5,Zo 11 (.bin .add (.t 10) (.k (.int .i64 1))),Zv 5 11])))))) (.seq (.reg [Zv 26 1,Zv 4 26]) .ret)))⟩
theorem a158_ok:J08 Tryz.prog Tryz.f158=some a158:=by kernel_rfl
def a249:AFn:= ⟨37,[.t 4],(.seq (.reg [Zo 4 (.mv (.k (.int .i64 0)))]) (.seq (.seq (.reg [Zo 5 (.mv (.k (.int .i64 0)))]) (.blk 0 (.loop (.seq (.seq (.reg [Zv 6 5,Zv 7 0,Zo 8 (.len false (.t 7)),Zo 9 (.bin .lss (.t 6) (.t 8))]) (.cond (.t 9) .skip (.exit 0))) (.seq (.blk 1 (.seq (.reg [Zv 12 0,Zv 13 5,Zv 14 1,Zo 15 (.bin .rem (.t 14) (.k (.int .i64 3))),Zo 16 (.bin .eql (.t 15) (.k (.int .i64 0))),Zo 17 (.ixa 3 (.t 12) (.t 13)),Zf 18 0 17,⟨no,.st 1 (.t 18) (.t 16),no⟩]) (.seq (.reg [Zv 19 1,Zo 20 (.bin .add (.t 19) (.k (.int .i64 1))),Zv 1 20]) (.seq (.reg [Zv 21 0,Zv 22 5,Zo 23 (.ixa 3 (.t 21) (.t 22)),Zf 24 1 23,Zl 25 false 1 24,Zv 26 1,Zc 27 158 [.t 25,.t 26],Zv 1 27]) (.seq (.reg [Zv 28 0,Zv 29 5,Zv 30 1,Zc 31 156 [.t 30],Zo 32 (.ixa 3 (.t 28) (.t 29)),Zf 33 2 32,⟨no,.st 1 (.t 33) (.t 31),no⟩]) (.reg [Zv 34 1,Zo 35 (.bin .add (.t 34) (.k (.int .i64 1))),Zv 1 35])))))) (.reg [Zv 10 5,Zo 11 (.bin .add (.t 10) (.k (.int .i64 1))),Zv 5 11])))))) (.seq (.reg [Zv 36 1,Zv 4 36]) .ret)))⟩
theorem a249_ok:J08 Tryz.prog Tryz.f249=some a249:=by kernel_rfl
def a76:AFn:= ⟨44,[.t 4],(.seq (.reg [Zo 4 (.mv (.k (.int .i64 0)))]) (.seq (.seq (.reg [Zo 5 (.mv (.k (.int .i64 0)))]) (.blk 0 (.loop (.seq (.seq (.reg [Zv 6 5,Zv 7 0,Zo 8 (.len false (.t 7)),Zo 9 (.bin .lss (.t 6) (.t 8))]) (.cond (.t 9) .skip (.exit 0))) (.seq (.blk 1 (.seq (.reg [Zv 12 0,Zv 13 5,Zv 14 1,Zc 15 156 [.t 14],Zo 16 (.ixa 4 (.t 12) (.t 13)),Zf 17 0 16,⟨no,.st 1 (.t 17) (.t 15),no⟩]) (.seq (.reg [Zv 18 1,Zo 19 (.bin .add (.t 18) (.k (.int .i64 1))),Zv 1 19]) (.seq (.reg [Zv 20 0,Zv 21 5,Zo 22 (.ixa 4 (.t 20) (.t 21)),Zf 23 1 22,Zl 24 false 1 23,Zv 25 1,Zc 26 78 [.t 24,.t 25],Zv 1 26]) (.seq (.reg [Zv 27 0,Zv 28 5,Zv 29 1,Zo 30 (.bin .rem (.t 29) (.k (.int .i64 3))),Zo 31 (.bin .eql (.t 30) (.k (.int .i64 0))),Zo 32 (.ixa 4 (.t 27) (.t 28)),Zf 33 2 32,⟨no,.st 1 (.t 33) (.t 31),no⟩]) (.seq (.reg [Zv 34 1,Zo 35 (.bin .add (.t 34) (.k (.int .i64 1))),Zv 1 35]) (.reg [Zv 36 0,Zv 37 5,Zo 38 (.ixa 4 (.t 36) (.t 37)),Zf 39 3 38,Zl 40 false 1 39,Zv 41 1,Zc 42 108 [.t 40,.t 41],Zv 1 42]))))))) (.reg [Zv 10 5,Zo 11 (.bin .add (.t 10) (.k (.int .i64 1))),Zv 5 11])))))) (.seq (.reg [Zv 43 1,Zv 4 43]) .ret)))⟩
theorem a76_ok:J08 Tryz.prog Tryz.f76=some a76:=by kernel_rfl
def a157:AFn:= ⟨46,[.t 4],(.seq (.reg [Zo 4 (.mv (.k (.int .i64 0)))]) (.seq (.seq (.reg [Zo 5 (.mv (.k (.int .i64 0)))]) (.blk 0 (.loop (.seq (.seq (.reg [Zv 6 5,Zv 7 0,Zo 8 (.len false (.t 7)),Zo 9 (.bin .lss (.t 6) (.t 8))]) (.cond (.t 9) .skip (.exit 0))) (.seq (.blk 1 (.seq (.reg [Zv 12 0,Zv 13 5,Zv 14 1,Zc 15 156 [.t 14],Zo 16 (.ixa 4 (.t 12) (.t 13)),Zf 17 0 16,⟨no,.st 1 (.t 17) (.t 15),no⟩]) (.seq (.reg [Zv 18 1,Zo 19 (.bin .add (.t 18) (.k (.int .i64 1))),Zv 1 19]) (.seq (.reg [Zv 20 0,Zv 21 5,Zv 22 1,Zo 23 (.bin .rem (.t 22) (.k (.int .i64 3))),Zo 24 (.bin .eql (.t 23) (.k (.int .i64 0))),Zo 25 (.ixa 4 (.t 20) (.t 21)),Zf 26 1 25,⟨no,.st 1 (.t 26) (.t 24),no⟩]) (.seq (.reg [Zv 27 1,Zo 28 (.bin .add (.t 27) (.k (.int .i64 1))),Zv 1 28]) (.seq (.reg [Zv 29 0,Zv 30 5,Zv 31 1,Zc 32 156 [.t 31],Zo 33 (.ixa 4 (.t 29) (.t 30)),Zf 34 2 33,⟨no,.st 1 (.t 34) (.t 32),no⟩]) (.seq (.reg [Zv 35 1,Zo 36 (.bin .add (.t 35) (.k (.int .i64 1))),Zv 1 36]) (.seq (.reg [Zv 37 0,Zv 38 5,Zv 39 1,Zc 40 156 [.t 39],Zo 41 (.ixa 4 (.t 37) (.t 38)),Zf 42 3 41,⟨no,.st 1 (.t 42) (.t 40),no⟩]) (.reg [Zv 43 1,Zo 44 (.bin .add (.t 43) (.k (.int .i64 1))),Zv 1 44]))))))))) (.reg [Zv 10 5,Zo 11 (.bin .add (.t 10) (.k (.int .i64 1))),Zv 5 11])))))) (.seq (.reg [Zv 45 1,Zv 4 45]) .ret)))⟩
theorem a157_ok:J08 Tryz.prog Tryz.f157=some a157:=by kernel_rfl
def a159:AFn:= ⟨36,[.t 4],(.seq (.reg [Zo 4 (.mv (.k (.int .i64 0)))]) (.seq (.seq (.reg [Zo 5 (.mv (.k (.int .i64 0)))]) (.blk 0 (.loop (.seq (.seq (.reg [Zv 6 5,Zv 7 0,Zo 8 (.len false (.t 7)),Zo 9 (.bin .lss (.t 6) (.t 8))]) (.cond (.t 9) .skip (.exit 0))) (.seq (.blk 1 (.seq (.reg [Zv 12 0,Zv 13 5,Zv 14 1,Zc 15 156 [.t 14],Zo 16 (.ixa 3 (.t 12) (.t 13)),Zf 17 0 16,⟨no,.st 1 (.t 17) (.t 15),no⟩]) (.seq (.reg [Zv 18 1,Zo 19 (.bin .add (.t 18) (.k (.int .i64 1))),Zv 1 19]) (.seq (.reg [Zv 20 0,Zv 21 5,Zv 22 1,Zc 23 156 [.t 22],Zo 24 (.ixa 3 (.t 20) (.t 21)),Zf 25 1 24,⟨no,.st 1 (.t 25) (.t 23),no⟩]) (.seq (.reg [Zv 26 1,Zo 27 (.bin .add (.t 26) (.k (.int .i64 1))),Zv 1 27]) (.reg [Zv 28 0,Zv 29 5,Zo 30 (.ixa 3 (.t 28) (.t 29)),Zf 31 2 30,Zl 32 false 1 31,Zv 33 1,Zc 34 249 [.t 32,.t 33],Zv 1 34])))))) (.reg [Zv 10 5,Zo 11 (.bin .add (.t 10) (.k (.int .i64 1))),Zv 5 11])))))) (.seq (.reg [Zv 35 1,Zv 4 35]) .ret)))⟩
theorem a159_ok:J08 Tryz.prog Tryz.f159=some a159:=by kernel_rfl
def a77:AFn:= ⟨69,[.t 4],(.seq (.reg [Zo 4 (.mv (.k (.int .i64 0)))]) (.seq (.seq (.reg [Zo 5 (.mv (.k (.int .i64 0)))]) (.blk 0 (.loop (.seq (.seq (.reg [Zv 6 5,Zv 7 0,Zo 8 (.len false (.t 7)),Zo 9 (.bin .lss (.t 6) (.t 8))]) (.cond (.t 9) .skip (.exit 0))) (.seq (.blk 1 (.seq (.reg [Zv 12 0,Zv 13 5,Zv 14 1,Zc 15 156 [.t 14],Zo 16 (.ixa 7 (.t 12) (.t 13)),Zf 17 0 16,⟨no,.st 1 (.t 17) (.t 15),no⟩]) (.seq (.reg [Zv 18 1,Zo 19 (.bin .add (.t 18) (.k (.int .i64 1))),Zv 1 19]) (.seq (.reg [Zv 20 0,Zv 21 5,Zo 22 (.ixa 7 (.t 20) (.t 21)),Zf 23 1 22,Zl 24 false 1 23,Zv 25 1,Zc 26 157 [.t 24,.t 25],Zv 1 26]) (.seq (.reg [Zv 27 0,Zv 28 5,Zo 29 (.ixa 7 (.t 27) (.t 28)),Zf 30 2 29,Zl 31 false 1 30,Zv 32 1,Zc 33 158 [.t 31,.t 32],Zv 1 33]) (.seq (.reg [Zv 34 0,Zv 35 5,Zo 36 (.ixa 7 (.t 34) (.t 35)),Zf 37 3 36,Zl 38 false 1 37,Zv 39 1,Zc 40 159 [.t 38,.t 39],Zv 1 40]) (.seq (.reg [Zv 41 0,Zv 42 5,Zv 43 1,Zo 44 (.bin .rem (.t 43) (.k (.int .i64 3))),Zo 45 (.bin .eql (.t 44) (.k (.int .i64 0))),Zo 46 (.ixa 7 (.t 41) (.t 42)),Zf 47 4 46,Zf 48 0 47,⟨no,.st 1 (.t 48) (.t 45),no⟩]) (.seq (.reg [Zv 49 1,Zo 50 (.bin .add (.t 49) (.k (.int .i64 1))),Zv 1 50]) (.seq (.reg [Zv 51 0,Zv 52 5,Zo 53 (.ixa 7 (.t 51) (.t 52)),Zf 54 4 53,Zf 55 1 54,Zl 56 false 1 55,Zv 57 1,Zc 58 158 [.t 56,.t 57],Zv 1 58]) (.seq (.reg [Zv 59 0,Zv 60 5,Zv 61 1,Zc 62 156 [.t 61],Zo 63 (.ixa 7 (.t 59) (.t 60)),Zf 64 4 63,Zf 65 2 64,⟨no,.st 1 (.t 65) (.t 62),no⟩]) (.reg [Zv 66 1,Zo 67 (.bin .add (.t 66) (.k (.int .i64 1))),Zv 1 67]))))))))))) (.reg [Zv 10 5,Zo 11 (.bin .add (.t 10) (.k (.int .i64 1))),Zv 5 11])))))) (.seq (.reg [Zv 68 1,Zv 4 68]) .ret)))⟩
theorem a77_ok:J08 Tryz.prog Tryz.f77=some a77:=by kernel_rfl
def a18:AFn:= ⟨14,[.t 4],(.seq (.reg [Zo 2 (.boxv (.t 0)),Zo 4 (.mv (.k (.int .i64 0)))]) (.seq (.reg [Zf 5 0 2,Zl 6 false 1 5,Zv 7 1,Zc 8 76 [.t 6,.t 7],Zv 1 8]) (.seq (.reg [Zf 9 1 2,Zl 10 false 1 9,Zv 11 1,Zc 12 77 [.t 10,.t 11],Zv 1 12]) (.seq (.reg [Zv 13 1,Zv 4 13]) .ret))))⟩
theorem a18_ok:J08 Tryz.prog Tryz.f18=some a18:=by kernel_rfl
set_option maxHeartbeats 1000000 in
theorem Jg3 (l:List DTerm) (k:Int) (h0:0≤k∧k+Jew l≤4611686018427387904):J8d Tryz.prog 248 (.us 2 (l.map J2v)) k (.us 2 ((Jkw l k).map J2v)) (k+Jew l):=by
 intro h n a I K hT hI hn hK
 obtain ⟨id,rows0,I0,rfl,_,hB,_⟩:=J9y hT
 simp only [List.length_map] at hT hB hK ⊢
 refine J3a Tryz.func248 rfl rfl (by rw [hB];simp) fun hlim => ?_
 refine J14 Tryz.func248 a248_ok rfl (by simp [a248]) ?_
 simp [a248]
 unfold Jew at *
 refine J0h [0] 5 l.length (fun i s h1 n1=>MJ Jkg Jb9 J2v 2 h n id I l k i (s 1) h1 n1) hlim (by simp) (by simpa using MJ.start hT) ?_ ?_
 ·rintro i s h1 n1 R hi hg hk s5 hw hJ hR hret _
  simp at hk
  obtain ⟨x,ki,rows,cells,I2,s1,hki,hki2,hlen,hc0,hnd,hI2,hstart,hclose⟩:=hJ.step2 hI hn hi
  simp only [J2v] at hc0
  simp only [Jb9] at hki2
  obtain ⟨_,rfl,hc1⟩:=J7e.1 hc0
  obtain ⟨_,rfl,hc2⟩:=J2c.1 hc1
  obtain ⟨rfl,rfl⟩:=J1y.1 hc2
  have S:=hstart _ Kids.nil
  have e:=S.e
  have w0:IntKind.i64.wrap (ki+1)=ki+1:=J0w (by omega)
  have w1:IntKind.i64.wrap (ki+1+1)=ki+1+1:=J0w (by omega)
  simp [hk,s5,hi,hw,s1,e,hlen,w0,w1]
  intro _
  first|refine J02 (J0u (ki+1) (by omega)) (by simp) ?_|refine J03 (J0u (ki+1) (by omega)) (by simp) ?_
  rintro r rfl
  simp [hk,s5,hi,hw,s1,e,hlen,w0,w1]
  refine hR _ _ _ (by simp [hk]) (by simp) (hclose _ _ [.int .i64 (ki),.str (mtx (ki+1))] _ _ S.store (J7e.2 ⟨_,rfl,(J2c.2 ⟨_,rfl,(J1y.2 ⟨rfl,rfl⟩)⟩)⟩) (by simp [i64,Jb9];try omega))
 ·rintro s h1 n1 R hk s5 hJ hret hX
  simp at hk
  obtain ⟨s1,hn1,hf,ht⟩:=hJ.fin
  simp [hk,s5,s1]
  refine ⟨J5i ht,fun _ => ?_⟩
  refine hX _ _ _ _ ?_
  simp [hk,s5,s1]
  exact hK _ _ hn1 hf ht
set_option maxHeartbeats 1000000 in
theorem J9t (l:List DSum) (k:Int) (h0:0≤k∧k+J3c l≤4611686018427387904):J8d Tryz.prog 158 (.us 2 (l.map J3s)) k (.us 2 ((Ji3 l k).map J3s)) (k+J3c l):=by
 intro h n a I K hT hI hn hK
 obtain ⟨id,rows0,I0,rfl,_,hB,_⟩:=J9y hT
 simp only [List.length_map] at hT hB hK ⊢
 refine J3a Tryz.func158 rfl rfl (by rw [hB];simp) fun hlim => ?_
 refine J14 Tryz.func158 a158_ok rfl (by simp [a158]) ?_
 simp [a158]
 unfold J3c at *
 refine J0h [0] 5 l.length (fun i s h1 n1=>MJ Jjd Jh4 J3s 2 h n id I l k i (s 1) h1 n1) hlim (by simp) (by simpa using MJ.start hT) ?_ ?_
 ·rintro i s h1 n1 R hi hg hk s5 hw hJ hR hret _
  simp at hk
  obtain ⟨x,ki,rows,cells,I2,s1,hki,hki2,hlen,hc0,hnd,hI2,hstart,hclose⟩:=hJ.step2 hI hn hi
  simp only [J3s] at hc0
  simp only [Jh4] at hki2
  obtain ⟨_,rfl,hc1⟩:=J7e.1 hc0
  obtain ⟨d1,len1,_,J1,_,rfl,rfl,hl1,ht1,hc2⟩:=J62 hc1
  have hq1:len1=(x.Terms).length:=by simpa using hl1
  subst hq1
  obtain ⟨rfl,rfl⟩:=J1y.1 hc2
  have S:=hstart _ (Kids.cons ht1 hnd hI2 fun hnd hI2=>Kids.nil)
  have e:=S.e
  have w0:IntKind.i64.wrap (ki+1)=ki+1:=J0w (by omega)
  simp [hk,s5,hi,hw,s1,e,hlen,w0]
  intro _
  refine RS.mark (T1:=[]) (Jg3 _ _ (by omega)) S.store ?_
  clear S e
  intro h2 n2 S
  have e:=S.e
  simp [hk,s5,hi,hw,s1,e,hlen,w0]
  refine hR _ _ _ (by simp [hk]) (by simp) (hclose _ _ [.int .i64 (ki),.ref d1 0 (x.Terms).length] _ _ S (J7e.2 ⟨_,rfl,(J3l (S.live.ids (_,.ref d1 0 _,J1) (by simp [Jjd])).1 (J1y.2 ⟨rfl,rfl⟩))⟩) (by simp [i64,Jh4];try omega))
 ·rintro s h1 n1 R hk s5 hJ hret hX
  simp at hk
  obtain ⟨s1,hn1,hf,ht⟩:=hJ.fin
  simp [hk,s5,s1]
  refine ⟨J5i ht,fun _ => ?_⟩
  refine hX _ _ _ _ ?_
  simp [hk,s5,s1]
  exact hK _ _ hn1 hf ht
set_option maxHeartbeats 1000000 in
theorem Jix (l:List DArg) (k:Int) (h0:0≤k∧k+Jkd l≤4611686018427387904):J8d Tryz.prog 249 (.us 3 (l.map J3t)) k (.us 3 ((Jnj l k).map J3t)) (k+Jkd l):=by
 intro h n a I K hT hI hn hK
 obtain ⟨id,rows0,I0,rfl,_,hB,_⟩:=J9y hT
 simp only [List.length_map] at hT hB hK ⊢
 refine J3a Tryz.func249 rfl rfl (by rw [hB];simp) fun hlim => ?_
 refine J14 Tryz.func249 a249_ok rfl (by simp [a249]) ?_
 simp [a249]
 unfold Jkd at *
 refine J0h [0] 5 l.length (fun i s h1 n1=>MJ Jje Jg9 J3t 3 h n id I l k i (s 1) h1 n1) hlim (by simp) (by simpa using MJ.start hT) ?_ ?_
 ·rintro i s h1 n1 R hi hg hk s5 hw hJ hR hret _
  simp at hk
  obtain ⟨x,ki,rows,cells,I2,s1,hki,hki2,hlen,hc0,hnd,hI2,hstart,hclose⟩:=hJ.step2 hI hn hi
  simp only [J3t] at hc0
  simp only [Jg9] at hki2
  obtain ⟨_,rfl,hc1⟩:=J5w.1 hc0
  obtain ⟨d1,len1,_,J1,_,rfl,rfl,hl1,ht1,hc2⟩:=J62 hc1
  have hq1:len1=(x.Heads).length:=by simpa using hl1
  subst hq1
  obtain ⟨_,rfl,hc3⟩:=J2c.1 hc2
  obtain ⟨rfl,rfl⟩:=J1y.1 hc3
  have S:=hstart _ (Kids.cons ht1 hnd hI2 fun hnd hI2=>Kids.nil)
  have e:=S.e
  have w0:IntKind.i64.wrap (ki+1)=ki+1:=J0w (by omega)
  have w1:IntKind.i64.wrap (ki+1+J3c x.Heads+1)=ki+1+J3c x.Heads+1:=J0w (by omega)
  simp [hk,s5,hi,hw,s1,e,hlen,w0,w1]
  intro _
  refine RS.mark (T1:=[]) (J9t _ _ (by omega)) S.store ?_
  clear S e
  intro h2 n2 S
  have e:=S.e
  simp [hk,s5,hi,hw,s1,e,hlen,w0,w1]
  first|refine J02 (J0u (ki+1+J3c x.Heads) (by omega)) (by simp) ?_|refine J03 (J0u (ki+1+J3c x.Heads) (by omega)) (by simp) ?_
  rintro r rfl
  simp [hk,s5,hi,hw,s1,e,hlen,w0,w1]
  have S:=S.store (cells':=[.bool ((ki).tmod 3==0),.ref d1 0 (x.Heads).length,.str (mtx (ki+1+J3c x.Heads))])
  refine hR _ _ _ (by simp [hk]) (by simp) (hclose _ _ [.bool ((ki).tmod 3==0),.ref d1 0 (x.Heads).length,.str (mtx (ki+1+J3c x.Heads))] _ _ S (J5w.2 ⟨_,rfl,(J3l (S.live.ids (_,.ref d1 0 _,J1) (by simp [Jje])).1 (J2c.2 ⟨_,rfl,(J1y.2 ⟨rfl,rfl⟩)⟩))⟩) (by simp [i64,Jg9];try omega))
 ·rintro s h1 n1 R hk s5 hJ hret hX
  simp at hk
  obtain ⟨s1,hn1,hf,ht⟩:=hJ.fin
  simp [hk,s5,s1]
  refine ⟨J5i ht,fun _ => ?_⟩
  refine hX _ _ _ _ ?_
  simp [hk,s5,s1]
  exact hK _ _ hn1 hf ht
set_option maxHeartbeats 1000000 in
theorem Jc6 (l:List DFunction) (k:Int) (h0:0≤k∧k+J44 l≤4611686018427387904):J8d Tryz.prog 76 (.us 4 (l.map J0b)) k (.us 4 ((J8g l k).map J0b)) (k+J44 l):=by
 intro h n a I K hT hI hn hK
 obtain ⟨id,rows0,I0,rfl,_,hB,_⟩:=J9y hT
 simp only [List.length_map] at hT hB hK ⊢
 refine J3a Tryz.func76 rfl rfl (by rw [hB];simp) fun hlim => ?_
 refine J14 Tryz.func76 a76_ok rfl (by simp [a76]) ?_
 simp [a76]
 unfold J44 at *
 refine J0h [0] 5 l.length (fun i s h1 n1=>MJ J6w J4l J0b 4 h n id I l k i (s 1) h1 n1) hlim (by simp) (by simpa using MJ.start hT) ?_ ?_
 ·rintro i s h1 n1 R hi hg hk s5 hw hJ hR hret _
  simp at hk
  obtain ⟨x,ki,rows,cells,I2,s1,hki,hki2,hlen,hc0,hnd,hI2,hstart,hclose⟩:=hJ.step2 hI hn hi
  simp only [J0b] at hc0
  simp only [J4l] at hki2
  obtain ⟨_,rfl,hc1⟩:=J2c.1 hc0
  obtain ⟨d1,len1,_,J1,_,rfl,rfl,hl1,ht1,hc2⟩:=J62 hc1
  have hq1:len1=(x.Params).length:=by simpa using hl1
  subst hq1
  obtain ⟨_,rfl,hc3⟩:=J5w.1 hc2
  obtain ⟨d3,len3,_,J3,_,rfl,rfl,hl3,ht3,hc4⟩:=J62 hc3
  have hq3:len3=(x.Pre).length:=by simpa using hl3
  subst hq3
  obtain ⟨rfl,rfl⟩:=J1y.1 hc4
  have S:=hstart _ (Kids.cons ht1 hnd hI2 fun hnd hI2=>(Kids.cons ht3 hnd hI2 fun hnd hI2=>Kids.nil))
  have e:=S.e
  have w0:IntKind.i64.wrap (ki+1)=ki+1:=J0w (by omega)
  have w1:IntKind.i64.wrap (ki+1+J1v x.Params+1)=ki+1+J1v x.Params+1:=J0w (by omega)
  simp [hk,s5,hi,hw,s1,e,hlen,w0,w1]
  intro _
  first|refine J02 (J0u (ki) (by omega)) (by simp) ?_|refine J03 (J0u (ki) (by omega)) (by simp) ?_
  rintro r rfl
  simp [hk,s5,hi,hw,s1,e,hlen,w0,w1]
  refine RS.mark (T1:=[]) (J8r _ _ (by omega)) S.store ?_
  clear S e
  intro h2 n2 S
  have e:=S.e
  simp [hk,s5,hi,hw,s1,e,hlen,w0,w1]
  refine RS.mark (T1:=[_]) (Jil _ _ (by omega)) S.store ?_
  clear S e
  intro h2 n2 S
  have e:=S.e
  simp [hk,s5,hi,hw,s1,e,hlen,w0,w1]
  refine hR _ _ _ (by simp [hk]) (by simp) (hclose _ _ [.str (mtx (ki)),.ref d1 0 (x.Params).length,.bool ((ki+1+J1v x.Params).tmod 3==0),.ref d3 0 (x.Pre).length] _ _ S (J2c.2 ⟨_,rfl,(J3l (S.live.ids (_,.ref d1 0 _,J1) (by simp [J6w])).1 (J5w.2 ⟨_,rfl,(J3l (S.live.ids (_,.ref d3 0 _,J3) (by simp [J6w])).1 (J1y.2 ⟨rfl,rfl⟩))⟩))⟩) (by simp [i64,J4l];try omega))
 ·rintro s h1 n1 R hk s5 hJ hret hX
  simp at hk
  obtain ⟨s1,hn1,hf,ht⟩:=hJ.fin
  simp [hk,s5,s1]
  refine ⟨J5i ht,fun _ => ?_⟩
  refine hX _ _ _ _ ?_
  simp [hk,s5,s1]
  exact hK _ _ hn1 hf ht
set_option maxHeartbeats 1000000 in
theorem Jch (l:List DPattern) (k:Int) (h0:0≤k∧k+J1e l≤4611686018427387904):J8d Tryz.prog 157 (.us 4 (l.map J0m)) k (.us 4 ((Jcv l k).map J0m)) (k+J1e l):=by
 intro h n a I K hT hI hn hK
 obtain ⟨id,rows0,I0,rfl,_,hB,_⟩:=J9y hT
 simp only [List.length_map] at hT hB hK ⊢
 refine J3a Tryz.func157 rfl rfl (by rw [hB];simp) fun hlim => ?_
 refine J14 Tryz.func157 a157_ok rfl (by simp [a157]) ?_
 simp [a157]
 unfold J1e at *
 refine J0h [0] 5 l.length (fun i s h1 n1=>MJ Jdh J5p J0m 4 h n id I l k i (s 1) h1 n1) hlim (by simp) (by simpa using MJ.start hT) ?_ ?_
 ·rintro i s h1 n1 R hi hg hk s5 hw hJ hR hret _
  simp at hk
  obtain ⟨x,ki,rows,cells,I2,s1,hki,hki2,hlen,hc0,hnd,hI2,hstart,hclose⟩:=hJ.step2 hI hn hi
  simp only [J0m] at hc0
  simp only [J5p] at hki2
  obtain ⟨_,rfl,hc1⟩:=J2c.1 hc0
  obtain ⟨_,rfl,hc2⟩:=J5w.1 hc1
  obtain ⟨_,rfl,hc3⟩:=J2c.1 hc2
  obtain ⟨_,rfl,hc4⟩:=J2c.1 hc3
  obtain ⟨rfl,rfl⟩:=J1y.1 hc4
  have S:=hstart _ Kids.nil
  have e:=S.e
  have w0:IntKind.i64.wrap (ki+1)=ki+1:=J0w (by omega)
  have w1:IntKind.i64.wrap (ki+1+1)=ki+1+1:=J0w (by omega)
  have w2:IntKind.i64.wrap (ki+1+1+1)=ki+1+1+1:=J0w (by omega)
  have w3:IntKind.i64.wrap (ki+1+1+1+1)=ki+1+1+1+1:=J0w (by omega)
  simp [hk,s5,hi,hw,s1,e,hlen,w0,w1,w2,w3]
  intro _
  first|refine J02 (J0u (ki) (by omega)) (by simp) ?_|refine J03 (J0u (ki) (by omega)) (by simp) ?_
  rintro r rfl
  simp [hk,s5,hi,hw,s1,e,hlen,w0,w1,w2,w3]
  first|refine J02 (J0u (ki+1+1) (by omega)) (by simp) ?_|refine J03 (J0u (ki+1+1) (by omega)) (by simp) ?_
  rintro r rfl
  simp [hk,s5,hi,hw,s1,e,hlen,w0,w1,w2,w3]
  first|refine J02 (J0u (ki+1+1+1) (by omega)) (by simp) ?_|refine J03 (J0u (ki+1+1+1) (by omega)) (by simp) ?_
  rintro r rfl
  simp [hk,s5,hi,hw,s1,e,hlen,w0,w1,w2,w3]
  refine hR _ _ _ (by simp [hk]) (by simp) (hclose _ _ [.str (mtx (ki)),.bool ((ki+1).tmod 3==0),.str (mtx (ki+1+1)),.str (mtx (ki+1+1+1))] _ _ S.store (J2c.2 ⟨_,rfl,(J5w.2 ⟨_,rfl,(J2c.2 ⟨_,rfl,(J2c.2 ⟨_,rfl,(J1y.2 ⟨rfl,rfl⟩)⟩)⟩)⟩)⟩) (by simp [i64,J5p];try omega))
 ·rintro s h1 n1 R hk s5 hJ hret hX
  simp at hk
  obtain ⟨s1,hn1,hf,ht⟩:=hJ.fin
  simp [hk,s5,s1]
  refine ⟨J5i ht,fun _ => ?_⟩
  refine hX _ _ _ _ ?_
  simp [hk,s5,s1]
  exact hK _ _ hn1 hf ht
set_option maxHeartbeats 1000000 in
theorem Jgb (l:List DCall) (k:Int) (h0:0≤k∧k+J4h l≤4611686018427387904):J8d Tryz.prog 159 (.us 3 (l.map J2a)) k (.us 3 ((Jlb l k).map J2a)) (k+J4h l):=by
 intro h n a I K hT hI hn hK
 obtain ⟨id,rows0,I0,rfl,_,hB,_⟩:=J9y hT
 simp only [List.length_map] at hT hB hK ⊢
 refine J3a Tryz.func159 rfl rfl (by rw [hB];simp) fun hlim => ?_
 refine J14 Tryz.func159 a159_ok rfl (by simp [a159]) ?_
 simp [a159]
 unfold J4h at *
 refine J0h [0] 5 l.length (fun i s h1 n1=>MJ Jgn Jbf J2a 3 h n id I l k i (s 1) h1 n1) hlim (by simp) (by simpa using MJ.start hT) ?_ ?_
 ·rintro i s h1 n1 R hi hg hk s5 hw hJ hR hret _
  simp at hk
  obtain ⟨x,ki,rows,cells,I2,s1,hki,hki2,hlen,hc0,hnd,hI2,hstart,hclose⟩:=hJ.step2 hI hn hi
  simp only [J2a] at hc0
  simp only [Jbf] at hki2
  obtain ⟨_,rfl,hc1⟩:=J2c.1 hc0
  obtain ⟨_,rfl,hc2⟩:=J2c.1 hc1
  obtain ⟨d2,len2,_,J2,_,rfl,rfl,hl2,ht2,hc3⟩:=J62 hc2
  have hq2:len2=(x.Args).length:=by simpa using hl2
  subst hq2
  obtain ⟨rfl,rfl⟩:=J1y.1 hc3
  have S:=hstart _ (Kids.cons ht2 hnd hI2 fun hnd hI2=>Kids.nil)
  have e:=S.e
  have w0:IntKind.i64.wrap (ki+1)=ki+1:=J0w (by omega)
  have w1:IntKind.i64.wrap (ki+1+1)=ki+1+1:=J0w (by omega)
  simp [hk,s5,hi,hw,s1,e,hlen,w0,w1]
  intro _
  first|refine J02 (J0u (ki) (by omega)) (by simp) ?_|refine J03 (J0u (ki) (by omega)) (by simp) ?_
  rintro r rfl
  simp [hk,s5,hi,hw,s1,e,hlen,w0,w1]
  first|refine J02 (J0u (ki+1) (by omega)) (by simp) ?_|refine J03 (J0u (ki+1) (by omega)) (by simp) ?_
  rintro r rfl
  simp [hk,s5,hi,hw,s1,e,hlen,w0,w1]
  refine RS.mark (T1:=[]) (Jix _ _ (by omega)) S.store ?_
  clear S e
  intro h2 n2 S
  have e:=S.e
  simp [hk,s5,hi,hw,s1,e,hlen,w0,w1]
  refine hR _ _ _ (by simp [hk]) (by simp) (hclose _ _ [.str (mtx (ki)),.str (mtx (ki+1)),.ref d2 0 (x.Args).length] _ _ S (J2c.2 ⟨_,rfl,(J2c.2 ⟨_,rfl,(J3l (S.live.ids (_,.ref d2 0 _,J2) (by simp [Jgn])).1 (J1y.2 ⟨rfl,rfl⟩))⟩)⟩) (by simp [i64,Jbf];try omega))
 ·rintro s h1 n1 R hk s5 hJ hret hX
  simp at hk
  obtain ⟨s1,hn1,hf,ht⟩:=hJ.fin
  simp [hk,s5,s1]
  refine ⟨J5i ht,fun _ => ?_⟩
  refine hX _ _ _ _ ?_
  simp [hk,s5,s1]
  exact hK _ _ hn1 hf ht
set_option maxHeartbeats 1000000 in
theorem Jgp (l:List DRule) (k:Int) (h0:0≤k∧k+Jfc l≤4611686018427387904):J8d Tryz.prog 77 (.us 7 (l.map J18)) k (.us 7 ((Jg2 l k).map J18)) (k+Jfc l):=by
 intro h n a I K hT hI hn hK
 obtain ⟨id,rows0,I0,rfl,_,hB,_⟩:=J9y hT
 simp only [List.length_map] at hT hB hK ⊢
 refine J3a Tryz.func77 rfl rfl (by rw [hB];simp) fun hlim => ?_
 refine J14 Tryz.func77 a77_ok rfl (by simp [a77]) ?_
 simp [a77]
 unfold Jfc at *
 refine J0h [0] 5 l.length (fun i s h1 n1=>MJ J9v Jb7 J18 7 h n id I l k i (s 1) h1 n1) hlim (by simp) (by simpa using MJ.start hT) ?_ ?_
 ·rintro i s h1 n1 R hi hg hk s5 hw hJ hR hret _
  simp at hk
  obtain ⟨x,ki,rows,cells,I2,s1,hki,hki2,hlen,hc0,hnd,hI2,hstart,hclose⟩:=hJ.step2 hI hn hi
  simp only [J18] at hc0
  simp only [Jb7] at hki2
  obtain ⟨_,rfl,hc1⟩:=J2c.1 hc0
  obtain ⟨d1,len1,_,J1,_,rfl,rfl,hl1,ht1,hc2⟩:=J62 hc1
  have hq1:len1=(x.Patterns).length:=by simpa using hl1
  subst hq1
  obtain ⟨d2,len2,_,J2,_,rfl,rfl,hl2,ht2,hc3⟩:=J62 hc2
  have hq2:len2=(x.Guards).length:=by simpa using hl2
  subst hq2
  obtain ⟨d3,len3,_,J3,_,rfl,rfl,hl3,ht3,hc4⟩:=J62 hc3
  have hq3:len3=(x.Calls).length:=by simpa using hl3
  subst hq3
  obtain ⟨_,rfl,hc5⟩:=J5w.1 hc4
  obtain ⟨d5,len5,_,J5,_,rfl,rfl,hl5,ht5,hc6⟩:=J62 hc5
  have hq5:len5=(x.Result.Heads).length:=by simpa using hl5
  subst hq5
  obtain ⟨_,rfl,hc7⟩:=J2c.1 hc6
  obtain ⟨rfl,rfl⟩:=J1y.1 hc7
  have S:=hstart _ (Kids.cons ht1 hnd hI2 fun hnd hI2=>(Kids.cons ht2 hnd hI2 fun hnd hI2=>(Kids.cons ht3 hnd hI2 fun hnd hI2=>(Kids.cons ht5 hnd hI2 fun hnd hI2=>Kids.nil))))
  have e:=S.e
  have w0:IntKind.i64.wrap (ki+1)=ki+1:=J0w (by omega)
  have w1:IntKind.i64.wrap (ki+1+J1e x.Patterns+J3c x.Guards+J4h x.Calls+1)=ki+1+J1e x.Patterns+J3c x.Guards+J4h x.Calls+1:=J0w (by omega)
  have w2:IntKind.i64.wrap (ki+1+J1e x.Patterns+J3c x.Guards+J4h x.Calls+1+J3c x.Result.Heads+1)=ki+1+J1e x.Patterns+J3c x.Guards+J4h x.Calls+1+J3c x.Result.Heads+1:=J0w (by omega)
  simp [hk,s5,hi,hw,s1,e,hlen,w0,w1,w2]
  intro _
  first|refine J02 (J0u (ki) (by omega)) (by simp) ?_|refine J03 (J0u (ki) (by omega)) (by simp) ?_
  rintro r rfl
  simp [hk,s5,hi,hw,s1,e,hlen,w0,w1,w2]
  refine RS.mark (T1:=[]) (Jch _ _ (by omega)) S.store ?_
  clear S e
  intro h2 n2 S
  have e:=S.e
  simp [hk,s5,hi,hw,s1,e,hlen,w0,w1,w2]
  refine RS.mark (T1:=[_]) (J9t _ _ (by omega)) S ?_
  clear S e
  intro h2 n2 S
  have e:=S.e
  simp [hk,s5,hi,hw,s1,e,hlen,w0,w1,w2]
  refine RS.mark (T1:=[_,_]) (Jgb _ _ (by omega)) S ?_
  clear S e
  intro h2 n2 S
  have e:=S.e
  simp [hk,s5,hi,hw,s1,e,hlen,w0,w1,w2]
  refine RS.mark (T1:=[_,_,_]) (J9t _ _ (by omega)) S.store ?_
  clear S e
  intro h2 n2 S
  have e:=S.e
  simp [hk,s5,hi,hw,s1,e,hlen,w0,w1,w2]
  first|refine J02 (J0u (ki+1+J1e x.Patterns+J3c x.Guards+J4h x.Calls+1+J3c x.Result.Heads) (by omega)) (by simp) ?_|refine J03 (J0u (ki+1+J1e x.Patterns+J3c x.Guards+J4h x.Calls+1+J3c x.Result.Heads) (by omega)) (by simp) ?_
  rintro r rfl
  simp [hk,s5,hi,hw,s1,e,hlen,w0,w1,w2]
  have S:=S.store (cells':=[.str (mtx (ki)),.ref d1 0 (x.Patterns).length,.ref d2 0 (x.Guards).length,.ref d3 0 (x.Calls).length,.bool ((ki+1+J1e x.Patterns+J3c x.Guards+J4h x.Calls).tmod 3==0),.ref d5 0 (x.Result.Heads).length,.str (mtx (ki+1+J1e x.Patterns+J3c x.Guards+J4h x.Calls+1+J3c x.Result.Heads))])
  refine hR _ _ _ (by simp [hk]) (by simp) (hclose _ _ [.str (mtx (ki)),.ref d1 0 (x.Patterns).length,.ref d2 0 (x.Guards).length,.ref d3 0 (x.Calls).length,.bool ((ki+1+J1e x.Patterns+J3c x.Guards+J4h x.Calls).tmod 3==0),.ref d5 0 (x.Result.Heads).length,.str (mtx (ki+1+J1e x.Patterns+J3c x.Guards+J4h x.Calls+1+J3c x.Result.Heads))] _ _ S (J2c.2 ⟨_,rfl,(J3l (S.live.ids (_,.ref d1 0 _,J1) (by simp [J9v])).1 (J3l (S.live.ids (_,.ref d2 0 _,J2) (by simp [J9v])).1 (J3l (S.live.ids (_,.ref d3 0 _,J3) (by simp [J9v])).1 (J5w.2 ⟨_,rfl,(J3l (S.live.ids (_,.ref d5 0 _,J5) (by simp [J9v])).1 (J2c.2 ⟨_,rfl,(J1y.2 ⟨rfl,rfl⟩)⟩))⟩))))⟩) (by simp [i64,Jb7];try omega))
 ·rintro s h1 n1 R hk s5 hJ hret hX
  simp at hk
  obtain ⟨s1,hn1,hf,ht⟩:=hJ.fin
  simp [hk,s5,s1]
  refine ⟨J5i ht,fun _ => ?_⟩
  refine hX _ _ _ _ ?_
  simp [hk,s5,s1]
  exact hK _ _ hn1 hf ht
set_option maxHeartbeats 1000000 in
theorem Jdy (x:DProgram) (k:Int) (h0:0≤k∧k+J6k x≤4611686018427387904):J8d Tryz.prog 18 (.agg (J1g x)) k (.agg (J1g (Jfp x k))) (k+J6k x):=by
 intro h n a I K hT hI hn hK
 obtain ⟨cs,rfl,hc0⟩:=Jsc.1 hT
 simp only [J6k] at h0
 obtain ⟨d0,len0,_,J0,_,rfl,rfl,hl0,ht0,hc1⟩:=J62 hc0
 have hq0:len0=(x.Functions).length:=by simpa using hl0
 subst hq0
 obtain ⟨d1,len1,_,J1,_,rfl,rfl,hl1,ht1,hc2⟩:=J62 hc1
 have hq1:len1=(x.Rules).length:=by simpa using hl1
 subst hq1
 obtain ⟨rfl,rfl⟩:=J1y.1 hc2
 refine J14 Tryz.func18 a18_ok rfl (by simp [a18]) ?_
 simp [a18]
 have S:=RS.box (sz:=2) (cells:=[.ref d0 0 (x.Functions).length,.ref d1 0 (x.Rules).length]) (Kids.cons (ht0) hI hn fun hI hn=>(Kids.cons (ht1) hI hn fun hI hn=>Kids.nil)) hn
 refine RS.mark (T1:=[]) (Jc6 x.Functions (k) (by omega)) S ?_
 clear S
 intro h2 n2 S
 have e:=S.e
 simp [e]
 refine RS.mark (T1:=[_]) (Jgp x.Rules (k+J44 x.Functions) (by omega)) S ?_
 clear S
 intro h2 n2 S
 have e:=S.e
 simp [e]
 have hb:=S.unbox
 have ht:TR h2 (.agg (J1g (Jfp x k))) _ _:=Jow.2 (J3l (S.live.ids (.us 4 ((J8g x.Functions (k)).map J0b),.ref d0 0 (x.Functions).length,J0) (by simp)).1 (J3l (S.live.ids (.us 7 ((Jg2 x.Rules (k+J44 x.Functions)).map J18),.ref d1 0 (x.Rules).length,J1) (by simp)).1 (J1y.2 ⟨rfl,rfl⟩)))
 have hk:=hK _ _ hb.1 hb.2 ht
 simp only [J6k] at hk
 refine cast ?_ hk
 congr 2
 first|done|(simp;try omega)
def a19:AFn:= ⟨19,[.t 4],(.seq (.reg [Zo 4 (.mv (.k (.int .i64 0)))]) (.seq (.seq (.reg [Zo 5 (.mv (.k (.int .i64 0)))]) (.blk 0 (.loop (.seq (.seq (.reg [Zv 6 5,Zv 7 0,Zo 8 (.len false (.t 7)),Zo 9 (.bin .lss (.t 6) (.t 8))]) (.cond (.t 9) .skip (.exit 0))) (.seq (.blk 1 (.reg [Zv 12 0,Zv 13 5,Zo 14 (.ixa 1 (.t 12) (.t 13)),Zl 15 false 1 14,Zv 16 1,Zc 17 78 [.t 15,.t 16],Zv 1 17])) (.reg [Zv 10 5,Zo 11 (.bin .add (.t 10) (.k (.int .i64 1))),Zv 5 11])))))) (.seq (.reg [Zv 18 1,Zv 4 18]) .ret)))⟩
theorem a19_ok:J08 Tryz.prog Tryz.f19=some a19:=by kernel_rfl
def a20:AFn:= ⟨21,[.t 4],(.seq (.reg [Zo 4 (.mv (.k (.int .i64 0)))]) (.seq (.seq (.reg [Zo 5 (.mv (.k (.int .i64 0)))]) (.blk 0 (.loop (.seq (.seq (.reg [Zv 6 5,Zv 7 0,Zo 8 (.len false (.t 7)),Zo 9 (.bin .lss (.t 6) (.t 8))]) (.cond (.t 9) .skip (.exit 0))) (.seq (.blk 1 (.seq (.reg [Zv 12 0,Zv 13 5,Zo 14 (.ixa 1 (.t 12) (.t 13)),Zl 15 false 1 14,Zv 16 1,Zc 17 79 [.t 15,.t 16],Zv 1 17]) (.seq (.reg [Zv 18 1,Zo 19 (.bin .lss (.t 18) (.k (.int .i64 0)))]) (.cond (.t 19) (.seq (.reg [Zo 4 (.mv (.k (.int .i64 (-1))))]) .ret) .skip)))) (.reg [Zv 10 5,Zo 11 (.bin .add (.t 10) (.k (.int .i64 1))),Zv 5 11])))))) (.seq (.reg [Zv 20 1,Zv 4 20]) .ret)))⟩
theorem a20_ok:J08 Tryz.prog Tryz.f20=some a20:=by kernel_rfl
def J9w (l:List (List Str)) (k:Int):List (List Str):=mkL J5g J1v l k
def J2o (l:List (List Str)):Nat:=cL J1v l
set_option maxHeartbeats 1000000 in
theorem Jcd (l:List (List Str)) (k:Int) (h0:0≤k∧k+J2o l≤4611686018427387904):J8d Tryz.prog 19 (.us 1 (l.map J1j)) k (.us 1 ((J9w l k).map J1j)) (k+J2o l):=by
 intro h n a I K hT hI hn hK
 obtain ⟨id,rows0,I0,rfl,_,hB,_⟩:=J9y hT
 simp only [List.length_map] at hT hB hK ⊢
 refine J3a Tryz.func19 rfl rfl (by rw [hB];simp) fun hlim => ?_
 refine J14 Tryz.func19 a19_ok rfl (by simp [a19]) ?_
 simp [a19]
 unfold J2o at *
 refine J0h [0] 5 l.length (fun i s h1 n1=>MJ J5g J1v J1j 1 h n id I l k i (s 1) h1 n1) hlim (by simp) (by simpa using MJ.start hT) ?_ ?_
 ·rintro i s h1 n1 R hi hg hk s5 hw hJ hR hret _
  simp at hk
  obtain ⟨x,ki,rows,cells,I2,s1,hki,hki2,hlen,hc0,hnd,hI2,hstart,hclose⟩:=hJ.step2 hI hn hi
  simp only [J1j] at hc0
  obtain ⟨d0,len0,_,J0,_,rfl,rfl,hl0,ht0,hc1⟩:=J62 hc0
  have hq0:len0=(x).length:=by simpa using hl0
  subst hq0
  obtain ⟨rfl,rfl⟩:=J1y.1 hc1
  have S:=hstart _ (Kids.cons ht0 hnd hI2 fun hnd hI2=>Kids.nil)
  have e:=S.e
  simp [hk,s5,hi,hw,s1,e,hlen]
  intro _
  refine RS.mark (T1:=[]) (J8r _ _ (by omega)) S ?_
  clear S e
  intro h2 n2 S
  have e:=S.e
  simp [hk,s5,hi,hw,s1,e,hlen]
  refine hR _ _ _ (by simp [hk]) (by simp) (hclose _ _ [.ref d0 0 (x).length] _ _ S (J3l (S.live.ids (_,.ref d0 0 _,J0) (by simp)).1 (J1y.2 ⟨rfl,rfl⟩)) (by simp [i64];try omega))
 ·rintro s h1 n1 R hk s5 hJ hret hX
  simp at hk
  obtain ⟨s1,hn1,hf,ht⟩:=hJ.fin
  simp [hk,s5,s1]
  refine ⟨J5i ht,fun _ => ?_⟩
  refine hX _ _ _ _ ?_
  simp [hk,s5,s1]
  exact hK _ _ hn1 hf ht
set_option maxHeartbeats 1000000 in
theorem J4p (l:List (List Str)) (k:Int) (h0:0≤k∧k+J2o l≤4611686018427387904):Holds Tryz.prog 20 [.sl 1 ((J9w l k).map J2t),i64 k] (fun r=>r=i64 (k+J2o l)):=by
 refine J1f Tryz.func20 rfl rfl fun hlim => ?_
 simp at hlim
 generalize hM:J9w l k=M at *
 refine J01 Tryz.func20 a20_ok rfl (by simp [a20]) ?_
 simp [a20]
 unfold J2o at *
 refine J0h [0] 5 M.length (fun i s h1 n1=>HJ J5g J1v M l k i (s 1)) hlim (by simp) (by rw [←hM];simp;exact HJ.start) ?_ ?_
 ·rintro i s h1 n1 R hi hg hk s5 hw hJ hR hret _
  simp at hk
  obtain ⟨x,ki,s1,hki,hki2,hx,hclose⟩:=hJ.step hi
  simp [hk,s5,hi,hw,s1,hx]
  intro _
  first|refine J02 (J93 (x) (ki) (by omega)) (by simp [hk,s5,hi,hw,s1,hx,J2t]) ?_|refine J03 (J93 (x) (ki) (by omega)) (by simp [hk,s5,hi,hw,s1,hx,J2t]) ?_
  rintro r rfl
  have g0:¬ki+(J1v x:Int)<0:=by omega
  simp [hk,s5,hi,hw,s1,hx,g0]
  first|done|refine hR _ _ _ (by simp [hk]) (by simp) (hclose _ (by simp [i64];try omega))
 ·rintro s h1 n1 R hk s5 hJ hret hX
  simp at hk
  have s1:=hJ.fin (Nat.le_refl _)
  simp [hk,s5,s1]
  first|refine hX _ _ _ _ ?_|(intro _;refine hX _ _ _ _ ?_)
  simp [hk,s5,s1]
theorem Jcy {E:List (Str×Str)}{N:List Str}{c:List Str} : ∀ {n:Nat}{done:List Str},c∈J4i E N n done→∃ a,c=J3n E N a
 | 0,_,h=>by simp [J4i] at h
 | n+1,done,h=>by
  simp only [J4i] at h
  split at h
  ·split at h
   ·rcases List.mem_cons.1 h with h|h
    ·exact ⟨_,h⟩
    ·exact Jcy h
   ·cases h
  ·cases h
theorem Jty {b:Nat} : ∀ (l:List (List Str)),(∀ c∈l,c.length≤b)→J2o l≤b*l.length:=by
 intro l
 induction l with
 | nil=>intro _;simp [J2o,cL]
 | cons x l ih=>
  intro h
  have h1:=ih fun c hc=>h c (List.mem_cons_of_mem _ hc)
  have h2:=h x List.mem_cons_self
  unfold J2o at *
  simp only [cL,List.length_cons,Ja8,Nat.mul_add,Nat.mul_one]
  omega
theorem Jn7 (p:DProgram):J2o (J1c p)≤33554432:=by
 unfold J1c
 cases hpo:J3q p
 ·simp [J2o,cL]
 simp only [if_true]
 obtain ⟨f1,f2,f3,f4⟩:=J46 hpo
 have hN:(J07 p).length≤3:=by simp [J07];omega
 have h1:=Jcx (E:=J0i p) (N:=J07 p) (J07 p).length []
 have h2:=Jty (b:=3) (J4i (J0i p) (J07 p) (J07 p).length []) fun c hc=>by
  obtain ⟨a,rfl⟩:=Jcy hc
  have:=Jc8 (E:=J0i p) (N:=J07 p) (a:=a)
  omega
 omega
end Go.Proofs.YtoclolkigjbcgaaGreat
