/- The size of the obligations of bounds. -/
import Derived.Test.YtoclolkigjbcgaaGreatJHB2
import Derived.Test.YtoclolkigjbcgaaGreatJRE
import Derived.Test.YtoclolkigjbcgaaGreatProg
import Derived.Test.YtoclolkigjbcgaaGreatJT1
namespace Go.Proofs.YtoclolkigjbcgaaGreat
set_option maxRecDepth 40000
set_option maxHeartbeats 4000000
open Go Go.RowKit Go.Proofs
set_option linter.all false
theorem Jxy {n:Nat}(hn:n≤8):∀ (xs:List Str) (i:Nat),J4q (J89 n xs i)≤9*xs.length:=by
 intro xs
 induction xs with
 | nil=>intro i;simp [J89,J4q,cL]
 | cons x xs ih=>
  intro i
  have h1:=ih (i+1)
  have h2:(J2n i n).Coeffs.length≤8:=by
   unfold J2n
   split
   ·simp;omega
   ·simp [J1s]
  simp only [J89,List.length_cons]
  split
  ·unfold J4q at *
   simp only [List.cons_append,List.nil_append,cL,Jdl,J9j]
   omega
  ·simp only [List.nil_append];omega
theorem K24 (p:DProgram) (name:Str):J4q ((Jof p name).getD Jnv).Rows≤1000:=by
 unfold Jof
 cases h1:J34 p
 ·simp [Jnv,J4q,cL]
 cases hf:J16 p.Functions name with
 | none=>simp [Jnv,J4q,cL]
 | some f=>
  obtain ⟨k1,_,k3,k4⟩:=Jps h1 hf
  simp only [Option.map_some,Option.getD_some,if_true]
  have g1:=Jxy (n:=f.Params.length) (by omega) f.Params 0
  have g2:=Jmb f.Pre fun x hx=>by have:=(J1t (k3 x hx));omega
  rw [Jm1 h1 hf]
  simp only [Jok]
  omega
theorem Ju6 {t o x:DLin}{k:Int}(h:J0l t k x=some o) (ht:t.Coeffs.length≤8):o.Coeffs.length≤8:=by
 have:=(J7w h).1;omega
theorem Jj6 {p:DProgram}{b:DBounds}{md:DModel} : ∀ {cs:List DCall}{j:Nat}{T:Option DLin},(∀ t,T=some t→t.Coeffs.length≤8)→∀ t,Jaf p b md j cs T=some t→t.Coeffs.length≤8
 | [],_,T,h,t,ht=>h t ht
 | c::cs,j,T,h,t,ht=>by
  simp only [Jaf] at ht
  refine Jj6 ?_ t ht
  intro o ho
  cases T with
  | none=>simp at ho
  | some u=>
   simp only [Option.bind_some] at ho
   cases hx:J60 md (J52 p b c.Func) j with
   | none=>rw [hx] at ho;simp at ho
   | some x=>
    rw [hx] at ho
    simp only [Option.bind_some] at ho
    exact Ju6 ho (h u rfl)
theorem Jjp {a o:DLin}{k:Int}(h:J61 a k=some o):o.Coeffs.length≤8:=by
 have:=Jjk (a:=a) (k:=k)
 rw [h] at this;exact this
theorem Jpa {P:DObligation→Prop} : ∀ {l:List (Option DObligation)}{acc o:List DObligation},goO acc l=some o→(∀ x∈acc,P x)→(∀ x,some x∈l→P x)→∀ x∈o,P x
 | [],acc,o,h,ha,_=>by simp only [goO,Option.some.injEq] at h;subst h;exact ha
 | Option.none::_,_,_,h,_,_=>by simp [goO] at h
 | some y::l,acc,o,h,ha,hl=>by
  simp only [goO] at h
  refine Jpa h (fun x hx => ?_) fun x hx=>hl x (List.mem_cons_of_mem _ hx)
  rcases List.mem_append.1 hx with hx|hx
  ·exact ha x hx
  ·rw [List.mem_singleton.1 hx];exact hl y List.mem_cons_self
theorem Jp1 (p:DProgram) (b:DBounds):J26 ((J1k p b).getD [])≤8388608:=by
 cases h:J1k p b with
 | none=>simp [J26,cL]
 | some o=>
  simp only [Option.getD_some]
  unfold J1k at h
  split at h
  case isFalse=>cases h
  rename_i hB
  obtain ⟨hpo,_,hbl⟩:=J6d hB
  have hl:=Jrb h
  have hf:=(J5g hpo).2.2
  simp only [List.length_nil,List.length_append,J97,J85,List.length_map,List.length_range] at hl
  have key:∀ x∈o,J2j x≤2000:=by
   refine Jpa h (by simp) fun x hx => ?_
   rcases List.mem_append.1 hx with hx|hx
   ·unfold J97 at hx
    obtain ⟨i,_,hx⟩:=List.mem_map.1 hx
    cases ht:J75 b (b.Lins.getD i J1s) with
    | none=>rw [ht] at hx;simp at hx
    | some t=>
     rw [ht,Option.map_some,Option.some.injEq] at hx
     subst hx
     have q1:=K24 p (p.Functions.getD i fn0).Name
     have q2:=Jjp (show J61 (b.Lins.getD i J1s) (-(J3v b.Kind))=some t from ht)
     unfold J2j J5r
     simp only [J9j]
     omega
   ·unfold J85 at hx
    obtain ⟨i,hi,hx⟩:=List.mem_map.1 hx
    have hi':i<p.Rules.length:=List.mem_range.1 hi
    cases ht:J51 p b (mdR p i) (p.Rules.getD i Jix) with
    | none=>rw [ht] at hx;simp at hx
    | some t=>
     rw [ht,Option.map_some,Option.some.injEq] at hx
     subst hx
     obtain ⟨q1,q2⟩:=Jrh hpo (k:=0) hi'
     have q4:=Jmb _ q2
     have q5:t.Coeffs.length≤8:=by
      refine Jj6 ?_ t ht
      intro u hu
      unfold Jl0 at hu
      cases hp:J1w (J52 p b (p.Rules.getD i Jix).Func) (mdR p i).Params (mdR p i).System.N with
      | none=>rw [hp] at hu;simp at hu
      | some v=>rw [hp] at hu;exact Jjp hu
     rw [show K2f p ⟨(i:Int),((0:Nat):Int)⟩=mdR p i from rfl] at q1 q4
     unfold J2j
     simp only [J9j]
     omega
  have:=K1p _ key
  omega
def a156:AFn:= ⟨20,[.t 2],(.seq (.reg [⟨some 2,.mv (.k (.str [])),no⟩]) (.seq (.seq (.reg [⟨some 4,.mv (.t 0),no⟩,⟨some 5,.bin .leq (.t 4) (.k (.int .i64 0)),no⟩]) (.cond (.t 5) (.seq (.reg [⟨some 2,.mv (.k (.str [109,48])),no⟩]) .ret) .skip)) (.seq (.reg [⟨some 3,.mv (.k (.str [])),no⟩]) (.seq (.blk 0 (.loop (.seq (.seq (.reg [⟨some 6,.mv (.t 0),no⟩,⟨some 7,.bin .gtr (.t 6) (.k (.int .i64 0)),no⟩]) (.cond (.t 7) .skip (.exit 0))) (.blk 1 (.seq (.reg [⟨some 8,.mv (.t 0),no⟩,⟨some 9,.bin .rem (.t 8) (.k (.int .i64 10)),no⟩,⟨some 10,.bin .add (.k (.int .i64 48)) (.t 9),no⟩,⟨some 11,.cvi .u8 (.t 10),no⟩,⟨some 12,.bsl 1 [.t 11],no⟩,⟨some 13,.cvb (.t 12),no⟩,⟨some 14,.mv (.t 3),no⟩,⟨some 15,.bin .add (.t 13) (.t 14),no⟩,⟨some 3,.mv (.t 15),no⟩]) (.reg [⟨some 16,.mv (.t 0),no⟩,⟨some 17,.bin .quo (.t 16) (.k (.int .i64 10)),no⟩,⟨some 0,.mv (.t 17),no⟩])))))) (.seq (.reg [⟨some 18,.mv (.t 3),no⟩,⟨some 19,.bin .add (.k (.str [109])) (.t 18),no⟩,⟨some 2,.mv (.t 19),no⟩]) .ret)))))⟩
theorem a156_ok:J09 Tryz.prog Tryz.f156=some a156:=by kernel_rfl
theorem Jy6 {n:Nat}(h:¬n=0):dig n=dig (n / 10)++[UInt8.ofNat (48+n % 10)]:=by
 rw [dig];simp [h]
theorem Js4:dig 0=[]:=by rw [dig];simp
theorem J1q (k:Int) (h0:0≤k∧k≤4611686018427387904):Holds Tryz.prog 156 [i64 k] (fun r=>r = .str (mtx k)):=by
 refine J03 Tryz.func156 a156_ok rfl (by simp [a156]) ?_
 simp [a156]
 refine ⟨fun h1=>by simp [h1,mtx],fun h1 => ?_⟩
 refine Jdi (fun j s h n=>∃ (l:List UInt8),s 0=i64 j∧s 3 = .str l∧dig j++l=dig k.toNat∧l.length≤20∧j*10 ^ (l.length)≤4611686018427387904) k.toNat ⟨[],by simp;rw [Int.max_eq_left h0.1],by simp,by simp,by simp,by simp;omega⟩ ?_
 rintro j s h n ⟨l,s0,s3,hd,hl,hb⟩
 by_cases hj:j=0
 ·subst hj
  rw [Js4,List.nil_append] at hd
  simp [s0,s3]
  refine ⟨by unfold LIM;omega,?_⟩
  rw [hd,mtx,if_neg (by omega)]
 ·have hj':0<j:=by omega
  simp [s0,s3,hj']
  have hj2:j≤4611686018427387904:=Nat.le_trans (Nat.le_mul_of_pos_right j (Nat.pow_pos (by decide))) hb
  have e1:((j:Int)).tmod 10=((j % 10:Nat):Int):=rfl
  rw [e1,J0p (by omega)]
  have e2:IntKind.u8.wrap (48+((j % 10:Nat):Int))=((48+j % 10:Nat):Int):=by
   have:48+j % 10<256:=by omega
   unfold IntKind.wrap
   simp [IntKind.bits,IntKind.signed]
   omega
  rw [e2]
  simp [bytesOf]
  have hl20:l.length<20:=by
   apply Classical.byContradiction
   intro hc
   have h20:l.length=20:=by omega
   rw [h20] at hb
   omega
  refine ⟨by unfold LIM;omega,j / 10,by omega,by rw [J0p (by omega)];omega,?_,by omega,?_⟩
  ·have e3:UInt8.ofNat (48+(j:Int) % 10).toNat=UInt8.ofNat (48+j % 10):=by congr 1
   rw [←hd,Jy6 hj];simp [e3]
  ·rw [Nat.add_comm,Nat.pow_succ]
   refine Nat.le_trans ?_ hb
   rw [Nat.mul_comm (10 ^ l.length) 10,←Nat.mul_assoc]
   exact Nat.mul_le_mul_right _ (by omega)
def a88:AFn:= ⟨19,[.t 4],(.seq (.reg [⟨some 4,.mv (.k (.int .i64 0)),no⟩]) (.seq (.seq (.reg [⟨some 5,.mv (.k (.int .i64 0)),no⟩]) (.blk 0 (.loop (.seq (.seq (.reg [⟨some 6,.mv (.t 5),no⟩,⟨some 7,.mv (.t 0),no⟩,⟨some 8,.len false (.t 7),no⟩,⟨some 9,.bin .lss (.t 6) (.t 8),no⟩]) (.cond (.t 9) .skip (.exit 0))) (.seq (.blk 1 (.seq (.reg [⟨some 12,.mv (.t 0),no⟩,⟨some 13,.mv (.t 5),no⟩,⟨some 14,.mv (.t 1),no⟩,⟨some 15,.ixa 1 (.t 12) (.t 13),no⟩,⟨no,.st 1 (.t 15) (.t 14),no⟩]) (.reg [⟨some 16,.mv (.t 1),no⟩,⟨some 17,.bin .add (.t 16) (.k (.int .i64 1)),no⟩,⟨some 1,.mv (.t 17),no⟩]))) (.reg [⟨some 10,.mv (.t 5),no⟩,⟨some 11,.bin .add (.t 10) (.k (.int .i64 1)),no⟩,⟨some 5,.mv (.t 11),no⟩])))))) (.seq (.reg [⟨some 18,.mv (.t 1),no⟩,⟨some 4,.mv (.t 18),no⟩]) .ret)))⟩
theorem a88_ok:J09 Tryz.prog Tryz.f88=some a88:=by kernel_rfl
def a110:AFn:= ⟨21,[.t 4],(.seq (.reg [⟨some 4,.mv (.k (.int .i64 0)),no⟩]) (.seq (.seq (.reg [⟨some 5,.mv (.k (.int .i64 0)),no⟩]) (.blk 0 (.loop (.seq (.seq (.reg [⟨some 6,.mv (.t 5),no⟩,⟨some 7,.mv (.t 0),no⟩,⟨some 8,.len false (.t 7),no⟩,⟨some 9,.bin .lss (.t 6) (.t 8),no⟩]) (.cond (.t 9) .skip (.exit 0))) (.seq (.blk 1 (.seq (.seq (.reg [⟨some 12,.mv (.t 0),no⟩,⟨some 13,.mv (.t 5),no⟩,⟨some 14,.ixa 1 (.t 12) (.t 13),no⟩,⟨some 15,.ld false 1 (.t 14),no⟩,⟨some 16,.mv (.t 1),no⟩,⟨some 17,.bin .neq (.t 15) (.t 16),no⟩]) (.cond (.t 17) (.seq (.reg [⟨some 4,.mv (.k (.int .i64 (-1))),no⟩]) .ret) .skip)) (.reg [⟨some 18,.mv (.t 1),no⟩,⟨some 19,.bin .add (.t 18) (.k (.int .i64 1)),no⟩,⟨some 1,.mv (.t 19),no⟩]))) (.reg [⟨some 10,.mv (.t 5),no⟩,⟨some 11,.bin .add (.t 10) (.k (.int .i64 1)),no⟩,⟨some 5,.mv (.t 11),no⟩])))))) (.seq (.reg [⟨some 20,.mv (.t 1),no⟩,⟨some 4,.mv (.t 20),no⟩]) .ret)))⟩
theorem a110_ok:J09 Tryz.prog Tryz.f110=some a110:=by kernel_rfl
def a108:AFn:= ⟨27,[.t 4],(.seq (.reg [⟨some 4,.mv (.k (.int .i64 0)),no⟩]) (.seq (.seq (.reg [⟨some 5,.mv (.k (.int .i64 0)),no⟩]) (.blk 0 (.loop (.seq (.seq (.reg [⟨some 6,.mv (.t 5),no⟩,⟨some 7,.mv (.t 0),no⟩,⟨some 8,.len false (.t 7),no⟩,⟨some 9,.bin .lss (.t 6) (.t 8),no⟩]) (.cond (.t 9) .skip (.exit 0))) (.seq (.blk 1 (.seq (.reg [⟨some 12,.mv (.t 0),no⟩,⟨some 13,.mv (.t 5),no⟩,⟨some 14,.mv (.t 1),no⟩,⟨some 15,.ixa 2 (.t 12) (.t 13),no⟩,⟨some 16,.fld 0 (.t 15),no⟩,⟨no,.st 1 (.t 16) (.t 14),no⟩]) (.seq (.reg [⟨some 17,.mv (.t 1),no⟩,⟨some 18,.bin .add (.t 17) (.k (.int .i64 1)),no⟩,⟨some 1,.mv (.t 18),no⟩]) (.reg [⟨some 19,.mv (.t 0),no⟩,⟨some 20,.mv (.t 5),no⟩,⟨some 21,.ixa 2 (.t 19) (.t 20),no⟩,⟨some 22,.fld 1 (.t 21),no⟩,⟨some 23,.ld false 1 (.t 22),no⟩,⟨some 24,.mv (.t 1),no⟩,⟨some 25,.call (.k (.fn (.func 88) [] [])) [.t 23,.t 24],no⟩,⟨some 1,.mv (.t 25),no⟩])))) (.reg [⟨some 10,.mv (.t 5),no⟩,⟨some 11,.bin .add (.t 10) (.k (.int .i64 1)),no⟩,⟨some 5,.mv (.t 11),no⟩])))))) (.seq (.reg [⟨some 26,.mv (.t 1),no⟩,⟨some 4,.mv (.t 26),no⟩]) .ret)))⟩
theorem a108_ok:J09 Tryz.prog Tryz.f108=some a108:=by kernel_rfl
def a109:AFn:= ⟨31,[.t 4],(.seq (.reg [⟨some 4,.mv (.k (.int .i64 0)),no⟩]) (.seq (.seq (.reg [⟨some 5,.mv (.k (.int .i64 0)),no⟩]) (.blk 0 (.loop (.seq (.seq (.reg [⟨some 6,.mv (.t 5),no⟩,⟨some 7,.mv (.t 0),no⟩,⟨some 8,.len false (.t 7),no⟩,⟨some 9,.bin .lss (.t 6) (.t 8),no⟩]) (.cond (.t 9) .skip (.exit 0))) (.seq (.blk 1 (.seq (.seq (.reg [⟨some 12,.mv (.t 0),no⟩,⟨some 13,.mv (.t 5),no⟩,⟨some 14,.ixa 2 (.t 12) (.t 13),no⟩,⟨some 15,.fld 0 (.t 14),no⟩,⟨some 16,.ld false 1 (.t 15),no⟩,⟨some 17,.mv (.t 1),no⟩,⟨some 18,.bin .neq (.t 16) (.t 17),no⟩]) (.cond (.t 18) (.seq (.reg [⟨some 4,.mv (.k (.int .i64 (-1))),no⟩]) .ret) .skip)) (.seq (.reg [⟨some 19,.mv (.t 1),no⟩,⟨some 20,.bin .add (.t 19) (.k (.int .i64 1)),no⟩,⟨some 1,.mv (.t 20),no⟩]) (.seq (.reg [⟨some 21,.mv (.t 0),no⟩,⟨some 22,.mv (.t 5),no⟩,⟨some 23,.ixa 2 (.t 21) (.t 22),no⟩,⟨some 24,.fld 1 (.t 23),no⟩,⟨some 25,.ld false 1 (.t 24),no⟩,⟨some 26,.mv (.t 1),no⟩,⟨some 27,.call (.k (.fn (.func 110) [] [])) [.t 25,.t 26],no⟩,⟨some 1,.mv (.t 27),no⟩]) (.seq (.reg [⟨some 28,.mv (.t 1),no⟩,⟨some 29,.bin .lss (.t 28) (.k (.int .i64 0)),no⟩]) (.cond (.t 29) (.seq (.reg [⟨some 4,.mv (.k (.int .i64 (-1))),no⟩]) .ret) .skip)))))) (.reg [⟨some 10,.mv (.t 5),no⟩,⟨some 11,.bin .add (.t 10) (.k (.int .i64 1)),no⟩,⟨some 5,.mv (.t 11),no⟩])))))) (.seq (.reg [⟨some 30,.mv (.t 1),no⟩,⟨some 4,.mv (.t 30),no⟩]) .ret)))⟩
theorem a109_ok:J09 Tryz.prog Tryz.f109=some a109:=by kernel_rfl
def a78:AFn:= ⟨20,[.t 4],(.seq (.reg [⟨some 4,.mv (.k (.int .i64 0)),no⟩]) (.seq (.seq (.reg [⟨some 5,.mv (.k (.int .i64 0)),no⟩]) (.blk 0 (.loop (.seq (.seq (.reg [⟨some 6,.mv (.t 5),no⟩,⟨some 7,.mv (.t 0),no⟩,⟨some 8,.len false (.t 7),no⟩,⟨some 9,.bin .lss (.t 6) (.t 8),no⟩]) (.cond (.t 9) .skip (.exit 0))) (.seq (.blk 1 (.seq (.reg [⟨some 12,.mv (.t 0),no⟩,⟨some 13,.mv (.t 5),no⟩,⟨some 14,.mv (.t 1),no⟩,⟨some 15,.call (.k (.fn (.func 156) [] [])) [.t 14],no⟩,⟨some 16,.ixa 1 (.t 12) (.t 13),no⟩,⟨no,.st 1 (.t 16) (.t 15),no⟩]) (.reg [⟨some 17,.mv (.t 1),no⟩,⟨some 18,.bin .add (.t 17) (.k (.int .i64 1)),no⟩,⟨some 1,.mv (.t 18),no⟩]))) (.reg [⟨some 10,.mv (.t 5),no⟩,⟨some 11,.bin .add (.t 10) (.k (.int .i64 1)),no⟩,⟨some 5,.mv (.t 11),no⟩])))))) (.seq (.reg [⟨some 19,.mv (.t 1),no⟩,⟨some 4,.mv (.t 19),no⟩]) .ret)))⟩
theorem a78_ok:J09 Tryz.prog Tryz.f78=some a78:=by kernel_rfl
def a37:AFn:= ⟨45,[.t 4],(.seq (.reg [⟨some 4,.mv (.k (.int .i64 0)),no⟩]) (.seq (.seq (.reg [⟨some 5,.mv (.k (.int .i64 0)),no⟩]) (.blk 0 (.loop (.seq (.seq (.reg [⟨some 6,.mv (.t 5),no⟩,⟨some 7,.mv (.t 0),no⟩,⟨some 8,.len false (.t 7),no⟩,⟨some 9,.bin .lss (.t 6) (.t 8),no⟩]) (.cond (.t 9) .skip (.exit 0))) (.seq (.blk 1 (.seq (.reg [⟨some 12,.mv (.t 0),no⟩,⟨some 13,.mv (.t 5),no⟩,⟨some 14,.mv (.t 1),no⟩,⟨some 15,.ixa 4 (.t 12) (.t 13),no⟩,⟨some 16,.fld 0 (.t 15),no⟩,⟨some 17,.fld 0 (.t 16),no⟩,⟨no,.st 1 (.t 17) (.t 14),no⟩]) (.seq (.reg [⟨some 18,.mv (.t 1),no⟩,⟨some 19,.bin .add (.t 18) (.k (.int .i64 1)),no⟩,⟨some 1,.mv (.t 19),no⟩]) (.seq (.reg [⟨some 20,.mv (.t 0),no⟩,⟨some 21,.mv (.t 5),no⟩,⟨some 22,.ixa 4 (.t 20) (.t 21),no⟩,⟨some 23,.fld 0 (.t 22),no⟩,⟨some 24,.fld 1 (.t 23),no⟩,⟨some 25,.ld false 1 (.t 24),no⟩,⟨some 26,.mv (.t 1),no⟩,⟨some 27,.call (.k (.fn (.func 108) [] [])) [.t 25,.t 26],no⟩,⟨some 1,.mv (.t 27),no⟩]) (.seq (.reg [⟨some 28,.mv (.t 0),no⟩,⟨some 29,.mv (.t 5),no⟩,⟨some 30,.mv (.t 1),no⟩,⟨some 31,.ixa 4 (.t 28) (.t 29),no⟩,⟨some 32,.fld 2 (.t 31),no⟩,⟨some 33,.fld 0 (.t 32),no⟩,⟨no,.st 1 (.t 33) (.t 30),no⟩]) (.seq (.reg [⟨some 34,.mv (.t 1),no⟩,⟨some 35,.bin .add (.t 34) (.k (.int .i64 1)),no⟩,⟨some 1,.mv (.t 35),no⟩]) (.reg [⟨some 36,.mv (.t 0),no⟩,⟨some 37,.mv (.t 5),no⟩,⟨some 38,.ixa 4 (.t 36) (.t 37),no⟩,⟨some 39,.fld 2 (.t 38),no⟩,⟨some 40,.fld 1 (.t 39),no⟩,⟨some 41,.ld false 1 (.t 40),no⟩,⟨some 42,.mv (.t 1),no⟩,⟨some 43,.call (.k (.fn (.func 88) [] [])) [.t 41,.t 42],no⟩,⟨some 1,.mv (.t 43),no⟩]))))))) (.reg [⟨some 10,.mv (.t 5),no⟩,⟨some 11,.bin .add (.t 10) (.k (.int .i64 1)),no⟩,⟨some 5,.mv (.t 11),no⟩])))))) (.seq (.reg [⟨some 44,.mv (.t 1),no⟩,⟨some 4,.mv (.t 44),no⟩]) .ret)))⟩
theorem a37_ok:J09 Tryz.prog Tryz.f37=some a37:=by kernel_rfl
def a38:AFn:= ⟨53,[.t 4],(.seq (.reg [⟨some 4,.mv (.k (.int .i64 0)),no⟩]) (.seq (.seq (.reg [⟨some 5,.mv (.k (.int .i64 0)),no⟩]) (.blk 0 (.loop (.seq (.seq (.reg [⟨some 6,.mv (.t 5),no⟩,⟨some 7,.mv (.t 0),no⟩,⟨some 8,.len false (.t 7),no⟩,⟨some 9,.bin .lss (.t 6) (.t 8),no⟩]) (.cond (.t 9) .skip (.exit 0))) (.seq (.blk 1 (.seq (.seq (.reg [⟨some 12,.mv (.t 0),no⟩,⟨some 13,.mv (.t 5),no⟩,⟨some 14,.ixa 4 (.t 12) (.t 13),no⟩,⟨some 15,.fld 0 (.t 14),no⟩,⟨some 16,.fld 0 (.t 15),no⟩,⟨some 17,.ld false 1 (.t 16),no⟩,⟨some 18,.mv (.t 1),no⟩,⟨some 19,.bin .neq (.t 17) (.t 18),no⟩]) (.cond (.t 19) (.seq (.reg [⟨some 4,.mv (.k (.int .i64 (-1))),no⟩]) .ret) .skip)) (.seq (.reg [⟨some 20,.mv (.t 1),no⟩,⟨some 21,.bin .add (.t 20) (.k (.int .i64 1)),no⟩,⟨some 1,.mv (.t 21),no⟩]) (.seq (.reg [⟨some 22,.mv (.t 0),no⟩,⟨some 23,.mv (.t 5),no⟩,⟨some 24,.ixa 4 (.t 22) (.t 23),no⟩,⟨some 25,.fld 0 (.t 24),no⟩,⟨some 26,.fld 1 (.t 25),no⟩,⟨some 27,.ld false 1 (.t 26),no⟩,⟨some 28,.mv (.t 1),no⟩,⟨some 29,.call (.k (.fn (.func 109) [] [])) [.t 27,.t 28],no⟩,⟨some 1,.mv (.t 29),no⟩]) (.seq (.seq (.reg [⟨some 30,.mv (.t 1),no⟩,⟨some 31,.bin .lss (.t 30) (.k (.int .i64 0)),no⟩]) (.cond (.t 31) (.seq (.reg [⟨some 4,.mv (.k (.int .i64 (-1))),no⟩]) .ret) .skip)) (.seq (.seq (.reg [⟨some 32,.mv (.t 0),no⟩,⟨some 33,.mv (.t 5),no⟩,⟨some 34,.ixa 4 (.t 32) (.t 33),no⟩,⟨some 35,.fld 2 (.t 34),no⟩,⟨some 36,.fld 0 (.t 35),no⟩,⟨some 37,.ld false 1 (.t 36),no⟩,⟨some 38,.mv (.t 1),no⟩,⟨some 39,.bin .neq (.t 37) (.t 38),no⟩]) (.cond (.t 39) (.seq (.reg [⟨some 4,.mv (.k (.int .i64 (-1))),no⟩]) .ret) .skip)) (.seq (.reg [⟨some 40,.mv (.t 1),no⟩,⟨some 41,.bin .add (.t 40) (.k (.int .i64 1)),no⟩,⟨some 1,.mv (.t 41),no⟩]) (.seq (.reg [⟨some 42,.mv (.t 0),no⟩,⟨some 43,.mv (.t 5),no⟩,⟨some 44,.ixa 4 (.t 42) (.t 43),no⟩,⟨some 45,.fld 2 (.t 44),no⟩,⟨some 46,.fld 1 (.t 45),no⟩,⟨some 47,.ld false 1 (.t 46),no⟩,⟨some 48,.mv (.t 1),no⟩,⟨some 49,.call (.k (.fn (.func 110) [] [])) [.t 47,.t 48],no⟩,⟨some 1,.mv (.t 49),no⟩]) (.seq (.reg [⟨some 50,.mv (.t 1),no⟩,⟨some 51,.bin .lss (.t 50) (.k (.int .i64 0)),no⟩]) (.cond (.t 51) (.seq (.reg [⟨some 4,.mv (.k (.int .i64 (-1))),no⟩]) .ret) .skip)))))))))) (.reg [⟨some 10,.mv (.t 5),no⟩,⟨some 11,.bin .add (.t 10) (.k (.int .i64 1)),no⟩,⟨some 5,.mv (.t 11),no⟩])))))) (.seq (.reg [⟨some 52,.mv (.t 1),no⟩,⟨some 4,.mv (.t 52),no⟩]) .ret)))⟩
theorem a38_ok:J09 Tryz.prog Tryz.f38=some a38:=by kernel_rfl
set_option maxHeartbeats 1000000 in
theorem Jgo (l:List Int) (k:Int) (h0:0≤k∧k+Jdk l≤4611686018427387904):Jac Tryz.prog 88 (.us 1 (J0k l)) k (.us 1 (J0k (Jk6 l k))) (k+Jdk l):=by
 intro h n a I K hT hI hn hK
 obtain ⟨id,rows0,I0,rfl,_,hB,_⟩:=Jco hT
 simp only [J0k,List.length_map] at hT hB hK ⊢
 refine J4l Tryz.func88 rfl rfl (by rw [hB];simp) fun hlim => ?_
 refine J0z Tryz.func88 a88_ok rfl (by simp [a88]) ?_
 simp [a88]
 unfold Jdk at *
 refine J0m [0] 5 l.length (fun i s h1 n1=>MJ (fun _ k=>k) (fun _=>1) (fun n=>[i64 n]) 1 h n id I l k i (s 1) h1 n1) hlim (by simp) (by simpa using MJ.start hT) ?_ ?_
 ·rintro i s h1 n1 R hi hg hk s5 hw hJ hR hret _
  simp at hk
  obtain ⟨x,ki,rows,cells,I2,s1,hki,hki2,hlen,hc0,hnd,hI2,hstart,hclose⟩:=hJ.step2 hI hn hi
  obtain ⟨_,rfl,hc1⟩:=J5s.1 hc0
  obtain ⟨rfl,rfl⟩:=J2o.1 hc1
  have S:=hstart _ Kids.nil
  have e:=S.e
  have w0:IntKind.i64.wrap (ki+1)=ki+1:=J0p (by omega)
  simp [hk,s5,hi,hw,s1,e,hlen,w0]
  intro _
  refine hR _ _ _ (by simp [hk]) (by simp) (hclose _ _ [.int .i64 (ki)] _ _ S.store (J5s.2 ⟨_,rfl,(J2o.2 ⟨rfl,rfl⟩)⟩) (by simp [i64];try omega))
 ·rintro s h1 n1 R hk s5 hJ hret hX
  simp at hk
  obtain ⟨s1,hn1,hf,ht⟩:=hJ.fin
  simp [hk,s5,s1]
  refine ⟨J76 ht,fun _ => ?_⟩
  refine hX _ _ _ _ ?_
  simp [hk,s5,s1]
  exact hK _ _ hn1 hf ht
set_option maxHeartbeats 1000000 in
theorem J9w (l:List Int) (k:Int) (h0:0≤k∧k+Jdk l≤4611686018427387904):Holds Tryz.prog 110 [.sl 1 (J0k (Jk6 l k)),i64 k] (fun r=>r=i64 (k+Jdk l)):=by
 refine J1e Tryz.func110 rfl rfl fun hlim => ?_
 simp at hlim
 generalize hM:Jk6 l k=M at *
 refine J03 Tryz.func110 a110_ok rfl (by simp [a110]) ?_
 simp [a110]
 unfold Jdk at *
 refine J0m [0] 5 M.length (fun i s h1 n1=>HJ (fun _ k=>k) (fun _=>1) M l k i (s 1)) hlim (by simp) (by rw [←hM];simp;exact HJ.start) ?_ ?_
 ·rintro i s h1 n1 R hi hg hk s5 hw hJ hR hret _
  simp at hk
  obtain ⟨x,ki,s1,hki,hki2,hx,hclose⟩:=hJ.step hi
  have w0:IntKind.i64.wrap (ki+1)=ki+1:=J0p (by omega)
  simp [hk,s5,hi,hw,s1,hx,w0]
  intro _
  first|done|refine hR _ _ _ (by simp [hk]) (by simp) (hclose _ (by simp [i64];try omega))
 ·rintro s h1 n1 R hk s5 hJ hret hX
  simp at hk
  have s1:=hJ.fin (Nat.le_refl _)
  simp [hk,s5,s1]
  first|refine hX _ _ _ _ ?_|(intro _;refine hX _ _ _ _ ?_)
  simp [hk,s5,s1]
set_option maxHeartbeats 1000000 in
theorem Jcs (l:List DLin) (k:Int) (h0:0≤k∧k+J4q l≤4611686018427387904):Jac Tryz.prog 108 (.us 2 (l.map J08)) k (.us 2 ((Jeg l k).map J08)) (k+J4q l):=by
 intro h n a I K hT hI hn hK
 obtain ⟨id,rows0,I0,rfl,_,hB,_⟩:=Jco hT
 simp only [List.length_map] at hT hB hK ⊢
 refine J4l Tryz.func108 rfl rfl (by rw [hB];simp) fun hlim => ?_
 refine J0z Tryz.func108 a108_ok rfl (by simp [a108]) ?_
 simp [a108]
 unfold J4q at *
 refine J0m [0] 5 l.length (fun i s h1 n1=>MJ Jde Jdl J08 2 h n id I l k i (s 1) h1 n1) hlim (by simp) (by simpa using MJ.start hT) ?_ ?_
 ·rintro i s h1 n1 R hi hg hk s5 hw hJ hR hret _
  simp at hk
  obtain ⟨x,ki,rows,cells,I2,s1,hki,hki2,hlen,hc0,hnd,hI2,hstart,hclose⟩:=hJ.step2 hI hn hi
  simp only [J08] at hc0
  simp only [Jdl] at hki2
  obtain ⟨_,rfl,hc1⟩:=J5s.1 hc0
  obtain ⟨d1,len1,_,J1,_,rfl,rfl,hl1,ht1,hc2⟩:=J7g hc1
  have hq1:len1=(x.Coeffs).length:=by simpa using hl1
  subst hq1
  obtain ⟨rfl,rfl⟩:=J2o.1 hc2
  have S:=hstart _ (Kids.cons ht1 hnd hI2 fun hnd hI2=>Kids.nil)
  have e:=S.e
  have w0:IntKind.i64.wrap (ki+1)=ki+1:=J0p (by omega)
  simp [hk,s5,hi,hw,s1,e,hlen,w0]
  intro _
  refine RS.mark (T1:=[]) (Jgo _ _ (by omega)) S.store ?_
  clear S e
  intro h2 n2 S
  have e:=S.e
  simp [hk,s5,hi,hw,s1,e,hlen,w0]
  refine hR _ _ _ (by simp [hk]) (by simp) (hclose _ _ [.int .i64 (ki),.ref d1 0 (x.Coeffs).length] _ _ S (J5s.2 ⟨_,rfl,(J43 (S.live.ids (_,.ref d1 0 _,J1) (by simp [Jde])).1 (J2o.2 ⟨rfl,rfl⟩))⟩) (by simp [i64,Jdl];try omega))
 ·rintro s h1 n1 R hk s5 hJ hret hX
  simp at hk
  obtain ⟨s1,hn1,hf,ht⟩:=hJ.fin
  simp [hk,s5,s1]
  refine ⟨J76 ht,fun _ => ?_⟩
  refine hX _ _ _ _ ?_
  simp [hk,s5,s1]
  exact hK _ _ hn1 hf ht
set_option maxHeartbeats 1000000 in
theorem Jgt (l:List DLin) (k:Int) (h0:0≤k∧k+J4q l≤4611686018427387904):Holds Tryz.prog 109 [.sl 2 ((Jeg l k).map J06),i64 k] (fun r=>r=i64 (k+J4q l)):=by
 refine J1e Tryz.func109 rfl rfl fun hlim => ?_
 simp at hlim
 generalize hM:Jeg l k=M at *
 refine J03 Tryz.func109 a109_ok rfl (by simp [a109]) ?_
 simp [a109]
 unfold J4q at *
 refine J0m [0] 5 M.length (fun i s h1 n1=>HJ Jde Jdl M l k i (s 1)) hlim (by simp) (by rw [←hM];simp;exact HJ.start) ?_ ?_
 ·rintro i s h1 n1 R hi hg hk s5 hw hJ hR hret _
  simp at hk
  obtain ⟨x,ki,s1,hki,hki2,hx,hclose⟩:=hJ.step hi
  simp only [Jdl] at hki2
  have w0:IntKind.i64.wrap (ki+1)=ki+1:=J0p (by omega)
  simp [hk,s5,hi,hw,s1,hx,Jde,w0]
  intro _
  first|refine J00 (J9w (x.Coeffs) (ki+1) (by omega)) (by simp [hk,s5,hi,hw,s1,hx,Jde,w0]) ?_|refine J01 (J9w (x.Coeffs) (ki+1) (by omega)) (by simp [hk,s5,hi,hw,s1,hx,Jde,w0]) ?_
  rintro r rfl
  have g1:¬ki+1+(Jdk x.Coeffs:Int)<0:=by omega
  simp [hk,s5,hi,hw,s1,hx,Jde,w0,g1]
  first|done|refine hR _ _ _ (by simp [hk]) (by simp) (hclose _ (by simp [i64,Jdl];try omega))
 ·rintro s h1 n1 R hk s5 hJ hret hX
  simp at hk
  have s1:=hJ.fin (Nat.le_refl _)
  simp [hk,s5,s1]
  first|refine hX _ _ _ _ ?_|(intro _;refine hX _ _ _ _ ?_)
  simp [hk,s5,s1]
set_option maxHeartbeats 1000000 in
theorem Jhx (l:List Str) (k:Int) (h0:0≤k∧k+J5q l≤4611686018427387904):Jac Tryz.prog 78 (.us 1 (J0d l)) k (.us 1 (J0d (Jj4 l k))) (k+J5q l):=by
 intro h n a I K hT hI hn hK
 obtain ⟨id,rows0,I0,rfl,_,hB,_⟩:=Jco hT
 simp only [J0d,List.length_map] at hT hB hK ⊢
 refine J4l Tryz.func78 rfl rfl (by rw [hB];simp) fun hlim => ?_
 refine J0z Tryz.func78 a78_ok rfl (by simp [a78]) ?_
 simp [a78]
 unfold J5q at *
 refine J0m [0] 5 l.length (fun i s h1 n1=>MJ (fun _ k=>mtx k) (fun _=>1) (fun s=>[.str s]) 1 h n id I l k i (s 1) h1 n1) hlim (by simp) (by simpa using MJ.start hT) ?_ ?_
 ·rintro i s h1 n1 R hi hg hk s5 hw hJ hR hret _
  simp at hk
  obtain ⟨x,ki,rows,cells,I2,s1,hki,hki2,hlen,hc0,hnd,hI2,hstart,hclose⟩:=hJ.step2 hI hn hi
  obtain ⟨_,rfl,hc1⟩:=J3d.1 hc0
  obtain ⟨rfl,rfl⟩:=J2o.1 hc1
  have S:=hstart _ Kids.nil
  have e:=S.e
  have w0:IntKind.i64.wrap (ki+1)=ki+1:=J0p (by omega)
  simp [hk,s5,hi,hw,s1,e,hlen,w0]
  intro _
  first|refine J00 (J1q (ki) (by omega)) (by simp) ?_|refine J01 (J1q (ki) (by omega)) (by simp) ?_
  rintro r rfl
  simp [hk,s5,hi,hw,s1,e,hlen,w0]
  refine hR _ _ _ (by simp [hk]) (by simp) (hclose _ _ [.str (mtx (ki))] _ _ S.store (J3d.2 ⟨_,rfl,(J2o.2 ⟨rfl,rfl⟩)⟩) (by simp [i64];try omega))
 ·rintro s h1 n1 R hk s5 hJ hret hX
  simp at hk
  obtain ⟨s1,hn1,hf,ht⟩:=hJ.fin
  simp [hk,s5,s1]
  refine ⟨J76 ht,fun _ => ?_⟩
  refine hX _ _ _ _ ?_
  simp [hk,s5,s1]
  exact hK _ _ hn1 hf ht
set_option maxHeartbeats 1000000 in
theorem Jcf (l:List DObligation) (k:Int) (h0:0≤k∧k+J26 l≤4611686018427387904):Jac Tryz.prog 37 (.us 4 (l.map J0a)) k (.us 4 ((J8x l k).map J0a)) (k+J26 l):=by
 intro h n a I K hT hI hn hK
 obtain ⟨id,rows0,I0,rfl,_,hB,_⟩:=Jco hT
 simp only [List.length_map] at hT hB hK ⊢
 refine J4l Tryz.func37 rfl rfl (by rw [hB];simp) fun hlim => ?_
 refine J0z Tryz.func37 a37_ok rfl (by simp [a37]) ?_
 simp [a37]
 unfold J26 at *
 refine J0m [0] 5 l.length (fun i s h1 n1=>MJ J23 J2j J0a 4 h n id I l k i (s 1) h1 n1) hlim (by simp) (by simpa using MJ.start hT) ?_ ?_
 ·rintro i s h1 n1 R hi hg hk s5 hw hJ hR hret _
  simp at hk
  obtain ⟨x,ki,rows,cells,I2,s1,hki,hki2,hlen,hc0,hnd,hI2,hstart,hclose⟩:=hJ.step2 hI hn hi
  simp only [J0a] at hc0
  simp only [J2j] at hki2
  obtain ⟨_,rfl,hc1⟩:=J5s.1 hc0
  obtain ⟨d1,len1,_,J1,_,rfl,rfl,hl1,ht1,hc2⟩:=J7g hc1
  have hq1:len1=(x.System.Rows).length:=by simpa using hl1
  subst hq1
  obtain ⟨_,rfl,hc3⟩:=J5s.1 hc2
  obtain ⟨d3,len3,_,J3,_,rfl,rfl,hl3,ht3,hc4⟩:=J7g hc3
  have hq3:len3=(x.Target.Coeffs).length:=by simpa using hl3
  subst hq3
  obtain ⟨rfl,rfl⟩:=J2o.1 hc4
  have S:=hstart _ (Kids.cons ht1 hnd hI2 fun hnd hI2=>(Kids.cons ht3 hnd hI2 fun hnd hI2=>Kids.nil))
  have e:=S.e
  have w0:IntKind.i64.wrap (ki+1)=ki+1:=J0p (by omega)
  have w1:IntKind.i64.wrap (ki+1+J4q x.System.Rows+1)=ki+1+J4q x.System.Rows+1:=J0p (by omega)
  simp [hk,s5,hi,hw,s1,e,hlen,w0,w1]
  intro _
  refine RS.mark (T1:=[]) (Jcs _ _ (by omega)) S.store ?_
  clear S e
  intro h2 n2 S
  have e:=S.e
  simp [hk,s5,hi,hw,s1,e,hlen,w0,w1]
  refine RS.mark (T1:=[_]) (Jgo _ _ (by omega)) S.store ?_
  clear S e
  intro h2 n2 S
  have e:=S.e
  simp [hk,s5,hi,hw,s1,e,hlen,w0,w1]
  refine hR _ _ _ (by simp [hk]) (by simp) (hclose _ _ [.int .i64 (ki),.ref d1 0 (x.System.Rows).length,.int .i64 (ki+1+J4q x.System.Rows),.ref d3 0 (x.Target.Coeffs).length] _ _ S (J5s.2 ⟨_,rfl,(J43 (S.live.ids (_,.ref d1 0 _,J1) (by simp [J23])).1 (J5s.2 ⟨_,rfl,(J43 (S.live.ids (_,.ref d3 0 _,J3) (by simp [J23])).1 (J2o.2 ⟨rfl,rfl⟩))⟩))⟩) (by simp [i64,J2j];try omega))
 ·rintro s h1 n1 R hk s5 hJ hret hX
  simp at hk
  obtain ⟨s1,hn1,hf,ht⟩:=hJ.fin
  simp [hk,s5,s1]
  refine ⟨J76 ht,fun _ => ?_⟩
  refine hX _ _ _ _ ?_
  simp [hk,s5,s1]
  exact hK _ _ hn1 hf ht
set_option maxHeartbeats 1000000 in
theorem J4v (l:List DObligation) (k:Int) (h0:0≤k∧k+J26 l≤4611686018427387904):Holds Tryz.prog 38 [.sl 4 ((J8x l k).map J0n),i64 k] (fun r=>r=i64 (k+J26 l)):=by
 refine J1e Tryz.func38 rfl rfl fun hlim => ?_
 simp at hlim
 generalize hM:J8x l k=M at *
 refine J03 Tryz.func38 a38_ok rfl (by simp [a38]) ?_
 simp [a38]
 unfold J26 at *
 refine J0m [0] 5 M.length (fun i s h1 n1=>HJ J23 J2j M l k i (s 1)) hlim (by simp) (by rw [←hM];simp;exact HJ.start) ?_ ?_
 ·rintro i s h1 n1 R hi hg hk s5 hw hJ hR hret _
  simp at hk
  obtain ⟨x,ki,s1,hki,hki2,hx,hclose⟩:=hJ.step hi
  simp only [J2j] at hki2
  have w0:IntKind.i64.wrap (ki+1)=ki+1:=J0p (by omega)
  have w1:IntKind.i64.wrap (ki+1+J4q x.System.Rows+1)=ki+1+J4q x.System.Rows+1:=J0p (by omega)
  simp [hk,s5,hi,hw,s1,hx,J23,w0,w1]
  intro _
  first|refine J00 (Jgt (x.System.Rows) (ki+1) (by omega)) (by simp [hk,s5,hi,hw,s1,hx,J23,w0,w1]) ?_|refine J01 (Jgt (x.System.Rows) (ki+1) (by omega)) (by simp [hk,s5,hi,hw,s1,hx,J23,w0,w1]) ?_
  rintro r rfl
  have g1:¬ki+1+(J4q x.System.Rows:Int)<0:=by omega
  simp [hk,s5,hi,hw,s1,hx,J23,w0,w1,g1]
  first|refine J00 (J9w (x.Target.Coeffs) (ki+1+J4q x.System.Rows+1) (by omega)) (by simp [hk,s5,hi,hw,s1,hx,J23,w0,w1]) ?_|refine J01 (J9w (x.Target.Coeffs) (ki+1+J4q x.System.Rows+1) (by omega)) (by simp [hk,s5,hi,hw,s1,hx,J23,w0,w1]) ?_
  rintro r rfl
  have g3:¬ki+1+J4q x.System.Rows+1+(Jdk x.Target.Coeffs:Int)<0:=by omega
  simp [hk,s5,hi,hw,s1,hx,J23,w0,w1,g3]
  first|done|refine hR _ _ _ (by simp [hk]) (by simp) (hclose _ (by simp [i64,J2j];try omega))
 ·rintro s h1 n1 R hk s5 hJ hret hX
  simp at hk
  have s1:=hJ.fin (Nat.le_refl _)
  simp [hk,s5,s1]
  first|refine hX _ _ _ _ ?_|(intro _;refine hX _ _ _ _ ?_)
  simp [hk,s5,s1]
def a248:AFn:= ⟨28,[.t 4],(.seq (.reg [⟨some 4,.mv (.k (.int .i64 0)),no⟩]) (.seq (.seq (.reg [⟨some 5,.mv (.k (.int .i64 0)),no⟩]) (.blk 0 (.loop (.seq (.seq (.reg [⟨some 6,.mv (.t 5),no⟩,⟨some 7,.mv (.t 0),no⟩,⟨some 8,.len false (.t 7),no⟩,⟨some 9,.bin .lss (.t 6) (.t 8),no⟩]) (.cond (.t 9) .skip (.exit 0))) (.seq (.blk 1 (.seq (.reg [⟨some 12,.mv (.t 0),no⟩,⟨some 13,.mv (.t 5),no⟩,⟨some 14,.mv (.t 1),no⟩,⟨some 15,.ixa 2 (.t 12) (.t 13),no⟩,⟨some 16,.fld 0 (.t 15),no⟩,⟨no,.st 1 (.t 16) (.t 14),no⟩]) (.seq (.reg [⟨some 17,.mv (.t 1),no⟩,⟨some 18,.bin .add (.t 17) (.k (.int .i64 1)),no⟩,⟨some 1,.mv (.t 18),no⟩]) (.seq (.reg [⟨some 19,.mv (.t 0),no⟩,⟨some 20,.mv (.t 5),no⟩,⟨some 21,.mv (.t 1),no⟩,⟨some 22,.call (.k (.fn (.func 156) [] [])) [.t 21],no⟩,⟨some 23,.ixa 2 (.t 19) (.t 20),no⟩,⟨some 24,.fld 1 (.t 23),no⟩,⟨no,.st 1 (.t 24) (.t 22),no⟩]) (.reg [⟨some 25,.mv (.t 1),no⟩,⟨some 26,.bin .add (.t 25) (.k (.int .i64 1)),no⟩,⟨some 1,.mv (.t 26),no⟩]))))) (.reg [⟨some 10,.mv (.t 5),no⟩,⟨some 11,.bin .add (.t 10) (.k (.int .i64 1)),no⟩,⟨some 5,.mv (.t 11),no⟩])))))) (.seq (.reg [⟨some 27,.mv (.t 1),no⟩,⟨some 4,.mv (.t 27),no⟩]) .ret)))⟩
theorem a248_ok:J09 Tryz.prog Tryz.f248=some a248:=by kernel_rfl
def a158:AFn:= ⟨27,[.t 4],(.seq (.reg [⟨some 4,.mv (.k (.int .i64 0)),no⟩]) (.seq (.seq (.reg [⟨some 5,.mv (.k (.int .i64 0)),no⟩]) (.blk 0 (.loop (.seq (.seq (.reg [⟨some 6,.mv (.t 5),no⟩,⟨some 7,.mv (.t 0),no⟩,⟨some 8,.len false (.t 7),no⟩,⟨some 9,.bin .lss (.t 6) (.t 8),no⟩]) (.cond (.t 9) .skip (.exit 0))) (.seq (.blk 1 (.seq (.reg [⟨some 12,.mv (.t 0),no⟩,⟨some 13,.mv (.t 5),no⟩,⟨some 14,.mv (.t 1),no⟩,⟨some 15,.ixa 2 (.t 12) (.t 13),no⟩,⟨some 16,.fld 0 (.t 15),no⟩,⟨no,.st 1 (.t 16) (.t 14),no⟩]) (.seq (.reg [⟨some 17,.mv (.t 1),no⟩,⟨some 18,.bin .add (.t 17) (.k (.int .i64 1)),no⟩,⟨some 1,.mv (.t 18),no⟩]) (.reg [⟨some 19,.mv (.t 0),no⟩,⟨some 20,.mv (.t 5),no⟩,⟨some 21,.ixa 2 (.t 19) (.t 20),no⟩,⟨some 22,.fld 1 (.t 21),no⟩,⟨some 23,.ld false 1 (.t 22),no⟩,⟨some 24,.mv (.t 1),no⟩,⟨some 25,.call (.k (.fn (.func 248) [] [])) [.t 23,.t 24],no⟩,⟨some 1,.mv (.t 25),no⟩])))) (.reg [⟨some 10,.mv (.t 5),no⟩,⟨some 11,.bin .add (.t 10) (.k (.int .i64 1)),no⟩,⟨some 5,.mv (.t 11),no⟩])))))) (.seq (.reg [⟨some 26,.mv (.t 1),no⟩,⟨some 4,.mv (.t 26),no⟩]) .ret)))⟩
theorem a158_ok:J09 Tryz.prog Tryz.f158=some a158:=by kernel_rfl
def a249:AFn:= ⟨37,[.t 4],(.seq (.reg [⟨some 4,.mv (.k (.int .i64 0)),no⟩]) (.seq (.seq (.reg [⟨some 5,.mv (.k (.int .i64 0)),no⟩]) (.blk 0 (.loop (.seq (.seq (.reg [⟨some 6,.mv (.t 5),no⟩,⟨some 7,.mv (.t 0),no⟩,⟨some 8,.len false (.t 7),no⟩,⟨some 9,.bin .lss (.t 6) (.t 8),no⟩]) (.cond (.t 9) .skip (.exit 0))) (.seq (.blk 1 (.seq (.reg [⟨some 12,.mv (.t 0),no⟩,⟨some 13,.mv (.t 5),no⟩,⟨some 14,.mv (.t 1),no⟩,⟨some 15,.bin .rem (.t 14) (.k (.int .i64 3)),no⟩,⟨some 16,.bin .eql (.t 15) (.k (.int .i64 0)),no⟩,⟨some 17,.ixa 3 (.t 12) (.t 13),no⟩,⟨some 18,.fld 0 (.t 17),no⟩,⟨no,.st 1 (.t 18) (.t 16),no⟩]) (.seq (.reg [⟨some 19,.mv (.t 1),no⟩,⟨some 20,.bin .add (.t 19) (.k (.int .i64 1)),no⟩,⟨some 1,.mv (.t 20),no⟩]) (.seq (.reg [⟨some 21,.mv (.t 0),no⟩,⟨some 22,.mv (.t 5),no⟩,⟨some 23,.ixa 3 (.t 21) (.t 22),no⟩,⟨some 24,.fld 1 (.t 23),no⟩,⟨some 25,.ld false 1 (.t 24),no⟩,⟨some 26,.mv (.t 1),no⟩,⟨some 27,.call (.k (.fn (.func 158) [] [])) [.t 25,.t 26],no⟩,⟨some 1,.mv (.t 27),no⟩]) (.seq (.reg [⟨some 28,.mv (.t 0),no⟩,⟨some 29,.mv (.t 5),no⟩,⟨some 30,.mv (.t 1),no⟩,⟨some 31,.call (.k (.fn (.func 156) [] [])) [.t 30],no⟩,⟨some 32,.ixa 3 (.t 28) (.t 29),no⟩,⟨some 33,.fld 2 (.t 32),no⟩,⟨no,.st 1 (.t 33) (.t 31),no⟩]) (.reg [⟨some 34,.mv (.t 1),no⟩,⟨some 35,.bin .add (.t 34) (.k (.int .i64 1)),no⟩,⟨some 1,.mv (.t 35),no⟩])))))) (.reg [⟨some 10,.mv (.t 5),no⟩,⟨some 11,.bin .add (.t 10) (.k (.int .i64 1)),no⟩,⟨some 5,.mv (.t 11),no⟩])))))) (.seq (.reg [⟨some 36,.mv (.t 1),no⟩,⟨some 4,.mv (.t 36),no⟩]) .ret)))⟩
theorem a249_ok:J09 Tryz.prog Tryz.f249=some a249:=by kernel_rfl
def a76:AFn:= ⟨44,[.t 4],(.seq (.reg [⟨some 4,.mv (.k (.int .i64 0)),no⟩]) (.seq (.seq (.reg [⟨some 5,.mv (.k (.int .i64 0)),no⟩]) (.blk 0 (.loop (.seq (.seq (.reg [⟨some 6,.mv (.t 5),no⟩,⟨some 7,.mv (.t 0),no⟩,⟨some 8,.len false (.t 7),no⟩,⟨some 9,.bin .lss (.t 6) (.t 8),no⟩]) (.cond (.t 9) .skip (.exit 0))) (.seq (.blk 1 (.seq (.reg [⟨some 12,.mv (.t 0),no⟩,⟨some 13,.mv (.t 5),no⟩,⟨some 14,.mv (.t 1),no⟩,⟨some 15,.call (.k (.fn (.func 156) [] [])) [.t 14],no⟩,⟨some 16,.ixa 4 (.t 12) (.t 13),no⟩,⟨some 17,.fld 0 (.t 16),no⟩,⟨no,.st 1 (.t 17) (.t 15),no⟩]) (.seq (.reg [⟨some 18,.mv (.t 1),no⟩,⟨some 19,.bin .add (.t 18) (.k (.int .i64 1)),no⟩,⟨some 1,.mv (.t 19),no⟩]) (.seq (.reg [⟨some 20,.mv (.t 0),no⟩,⟨some 21,.mv (.t 5),no⟩,⟨some 22,.ixa 4 (.t 20) (.t 21),no⟩,⟨some 23,.fld 1 (.t 22),no⟩,⟨some 24,.ld false 1 (.t 23),no⟩,⟨some 25,.mv (.t 1),no⟩,⟨some 26,.call (.k (.fn (.func 78) [] [])) [.t 24,.t 25],no⟩,⟨some 1,.mv (.t 26),no⟩]) (.seq (.reg [⟨some 27,.mv (.t 0),no⟩,⟨some 28,.mv (.t 5),no⟩,⟨some 29,.mv (.t 1),no⟩,⟨some 30,.bin .rem (.t 29) (.k (.int .i64 3)),no⟩,⟨some 31,.bin .eql (.t 30) (.k (.int .i64 0)),no⟩,⟨some 32,.ixa 4 (.t 27) (.t 28),no⟩,⟨some 33,.fld 2 (.t 32),no⟩,⟨no,.st 1 (.t 33) (.t 31),no⟩]) (.seq (.reg [⟨some 34,.mv (.t 1),no⟩,⟨some 35,.bin .add (.t 34) (.k (.int .i64 1)),no⟩,⟨some 1,.mv (.t 35),no⟩]) (.reg [⟨some 36,.mv (.t 0),no⟩,⟨some 37,.mv (.t 5),no⟩,⟨some 38,.ixa 4 (.t 36) (.t 37),no⟩,⟨some 39,.fld 3 (.t 38),no⟩,⟨some 40,.ld false 1 (.t 39),no⟩,⟨some 41,.mv (.t 1),no⟩,⟨some 42,.call (.k (.fn (.func 108) [] [])) [.t 40,.t 41],no⟩,⟨some 1,.mv (.t 42),no⟩]))))))) (.reg [⟨some 10,.mv (.t 5),no⟩,⟨some 11,.bin .add (.t 10) (.k (.int .i64 1)),no⟩,⟨some 5,.mv (.t 11),no⟩])))))) (.seq (.reg [⟨some 43,.mv (.t 1),no⟩,⟨some 4,.mv (.t 43),no⟩]) .ret)))⟩
theorem a76_ok:J09 Tryz.prog Tryz.f76=some a76:=by kernel_rfl
def a157:AFn:= ⟨46,[.t 4],(.seq (.reg [⟨some 4,.mv (.k (.int .i64 0)),no⟩]) (.seq (.seq (.reg [⟨some 5,.mv (.k (.int .i64 0)),no⟩]) (.blk 0 (.loop (.seq (.seq (.reg [⟨some 6,.mv (.t 5),no⟩,⟨some 7,.mv (.t 0),no⟩,⟨some 8,.len false (.t 7),no⟩,⟨some 9,.bin .lss (.t 6) (.t 8),no⟩]) (.cond (.t 9) .skip (.exit 0))) (.seq (.blk 1 (.seq (.reg [⟨some 12,.mv (.t 0),no⟩,⟨some 13,.mv (.t 5),no⟩,⟨some 14,.mv (.t 1),no⟩,⟨some 15,.call (.k (.fn (.func 156) [] [])) [.t 14],no⟩,⟨some 16,.ixa 4 (.t 12) (.t 13),no⟩,⟨some 17,.fld 0 (.t 16),no⟩,⟨no,.st 1 (.t 17) (.t 15),no⟩]) (.seq (.reg [⟨some 18,.mv (.t 1),no⟩,⟨some 19,.bin .add (.t 18) (.k (.int .i64 1)),no⟩,⟨some 1,.mv (.t 19),no⟩]) (.seq (.reg [⟨some 20,.mv (.t 0),no⟩,⟨some 21,.mv (.t 5),no⟩,⟨some 22,.mv (.t 1),no⟩,⟨some 23,.bin .rem (.t 22) (.k (.int .i64 3)),no⟩,⟨some 24,.bin .eql (.t 23) (.k (.int .i64 0)),no⟩,⟨some 25,.ixa 4 (.t 20) (.t 21),no⟩,⟨some 26,.fld 1 (.t 25),no⟩,⟨no,.st 1 (.t 26) (.t 24),no⟩]) (.seq (.reg [⟨some 27,.mv (.t 1),no⟩,⟨some 28,.bin .add (.t 27) (.k (.int .i64 1)),no⟩,⟨some 1,.mv (.t 28),no⟩]) (.seq (.reg [⟨some 29,.mv (.t 0),no⟩,⟨some 30,.mv (.t 5),no⟩,⟨some 31,.mv (.t 1),no⟩,⟨some 32,.call (.k (.fn (.func 156) [] [])) [.t 31],no⟩,⟨some 33,.ixa 4 (.t 29) (.t 30),no⟩,⟨some 34,.fld 2 (.t 33),no⟩,⟨no,.st 1 (.t 34) (.t 32),no⟩]) (.seq (.reg [⟨some 35,.mv (.t 1),no⟩,⟨some 36,.bin .add (.t 35) (.k (.int .i64 1)),no⟩,⟨some 1,.mv (.t 36),no⟩]) (.seq (.reg [⟨some 37,.mv (.t 0),no⟩,⟨some 38,.mv (.t 5),no⟩,⟨some 39,.mv (.t 1),no⟩,⟨some 40,.call (.k (.fn (.func 156) [] [])) [.t 39],no⟩,⟨some 41,.ixa 4 (.t 37) (.t 38),no⟩,⟨some 42,.fld 3 (.t 41),no⟩,⟨no,.st 1 (.t 42) (.t 40),no⟩]) (.reg [⟨some 43,.mv (.t 1),no⟩,⟨some 44,.bin .add (.t 43) (.k (.int .i64 1)),no⟩,⟨some 1,.mv (.t 44),no⟩]))))))))) (.reg [⟨some 10,.mv (.t 5),no⟩,⟨some 11,.bin .add (.t 10) (.k (.int .i64 1)),no⟩,⟨some 5,.mv (.t 11),no⟩])))))) (.seq (.reg [⟨some 45,.mv (.t 1),no⟩,⟨some 4,.mv (.t 45),no⟩]) .ret)))⟩
theorem a157_ok:J09 Tryz.prog Tryz.f157=some a157:=by kernel_rfl
def a159:AFn:= ⟨36,[.t 4],(.seq (.reg [⟨some 4,.mv (.k (.int .i64 0)),no⟩]) (.seq (.seq (.reg [⟨some 5,.mv (.k (.int .i64 0)),no⟩]) (.blk 0 (.loop (.seq (.seq (.reg [⟨some 6,.mv (.t 5),no⟩,⟨some 7,.mv (.t 0),no⟩,⟨some 8,.len false (.t 7),no⟩,⟨some 9,.bin .lss (.t 6) (.t 8),no⟩]) (.cond (.t 9) .skip (.exit 0))) (.seq (.blk 1 (.seq (.reg [⟨some 12,.mv (.t 0),no⟩,⟨some 13,.mv (.t 5),no⟩,⟨some 14,.mv (.t 1),no⟩,⟨some 15,.call (.k (.fn (.func 156) [] [])) [.t 14],no⟩,⟨some 16,.ixa 3 (.t 12) (.t 13),no⟩,⟨some 17,.fld 0 (.t 16),no⟩,⟨no,.st 1 (.t 17) (.t 15),no⟩]) (.seq (.reg [⟨some 18,.mv (.t 1),no⟩,⟨some 19,.bin .add (.t 18) (.k (.int .i64 1)),no⟩,⟨some 1,.mv (.t 19),no⟩]) (.seq (.reg [⟨some 20,.mv (.t 0),no⟩,⟨some 21,.mv (.t 5),no⟩,⟨some 22,.mv (.t 1),no⟩,⟨some 23,.call (.k (.fn (.func 156) [] [])) [.t 22],no⟩,⟨some 24,.ixa 3 (.t 20) (.t 21),no⟩,⟨some 25,.fld 1 (.t 24),no⟩,⟨no,.st 1 (.t 25) (.t 23),no⟩]) (.seq (.reg [⟨some 26,.mv (.t 1),no⟩,⟨some 27,.bin .add (.t 26) (.k (.int .i64 1)),no⟩,⟨some 1,.mv (.t 27),no⟩]) (.reg [⟨some 28,.mv (.t 0),no⟩,⟨some 29,.mv (.t 5),no⟩,⟨some 30,.ixa 3 (.t 28) (.t 29),no⟩,⟨some 31,.fld 2 (.t 30),no⟩,⟨some 32,.ld false 1 (.t 31),no⟩,⟨some 33,.mv (.t 1),no⟩,⟨some 34,.call (.k (.fn (.func 249) [] [])) [.t 32,.t 33],no⟩,⟨some 1,.mv (.t 34),no⟩])))))) (.reg [⟨some 10,.mv (.t 5),no⟩,⟨some 11,.bin .add (.t 10) (.k (.int .i64 1)),no⟩,⟨some 5,.mv (.t 11),no⟩])))))) (.seq (.reg [⟨some 35,.mv (.t 1),no⟩,⟨some 4,.mv (.t 35),no⟩]) .ret)))⟩
theorem a159_ok:J09 Tryz.prog Tryz.f159=some a159:=by kernel_rfl
def a77:AFn:= ⟨69,[.t 4],(.seq (.reg [⟨some 4,.mv (.k (.int .i64 0)),no⟩]) (.seq (.seq (.reg [⟨some 5,.mv (.k (.int .i64 0)),no⟩]) (.blk 0 (.loop (.seq (.seq (.reg [⟨some 6,.mv (.t 5),no⟩,⟨some 7,.mv (.t 0),no⟩,⟨some 8,.len false (.t 7),no⟩,⟨some 9,.bin .lss (.t 6) (.t 8),no⟩]) (.cond (.t 9) .skip (.exit 0))) (.seq (.blk 1 (.seq (.reg [⟨some 12,.mv (.t 0),no⟩,⟨some 13,.mv (.t 5),no⟩,⟨some 14,.mv (.t 1),no⟩,⟨some 15,.call (.k (.fn (.func 156) [] [])) [.t 14],no⟩,⟨some 16,.ixa 7 (.t 12) (.t 13),no⟩,⟨some 17,.fld 0 (.t 16),no⟩,⟨no,.st 1 (.t 17) (.t 15),no⟩]) (.seq (.reg [⟨some 18,.mv (.t 1),no⟩,⟨some 19,.bin .add (.t 18) (.k (.int .i64 1)),no⟩,⟨some 1,.mv (.t 19),no⟩]) (.seq (.reg [⟨some 20,.mv (.t 0),no⟩,⟨some 21,.mv (.t 5),no⟩,⟨some 22,.ixa 7 (.t 20) (.t 21),no⟩,⟨some 23,.fld 1 (.t 22),no⟩,⟨some 24,.ld false 1 (.t 23),no⟩,⟨some 25,.mv (.t 1),no⟩,⟨some 26,.call (.k (.fn (.func 157) [] [])) [.t 24,.t 25],no⟩,⟨some 1,.mv (.t 26),no⟩]) (.seq (.reg [⟨some 27,.mv (.t 0),no⟩,⟨some 28,.mv (.t 5),no⟩,⟨some 29,.ixa 7 (.t 27) (.t 28),no⟩,⟨some 30,.fld 2 (.t 29),no⟩,⟨some 31,.ld false 1 (.t 30),no⟩,⟨some 32,.mv (.t 1),no⟩,⟨some 33,.call (.k (.fn (.func 158) [] [])) [.t 31,.t 32],no⟩,⟨some 1,.mv (.t 33),no⟩]) (.seq (.reg [⟨some 34,.mv (.t 0),no⟩,⟨some 35,.mv (.t 5),no⟩,⟨some 36,.ixa 7 (.t 34) (.t 35),no⟩,⟨some 37,.fld 3 (.t 36),no⟩,⟨some 38,.ld false 1 (.t 37),no⟩,⟨some 39,.mv (.t 1),no⟩,⟨some 40,.call (.k (.fn (.func 159) [] [])) [.t 38,.t 39],no⟩,⟨some 1,.mv (.t 40),no⟩]) (.seq (.reg [⟨some 41,.mv (.t 0),no⟩,⟨some 42,.mv (.t 5),no⟩,⟨some 43,.mv (.t 1),no⟩,⟨some 44,.bin .rem (.t 43) (.k (.int .i64 3)),no⟩,⟨some 45,.bin .eql (.t 44) (.k (.int .i64 0)),no⟩,⟨some 46,.ixa 7 (.t 41) (.t 42),no⟩,⟨some 47,.fld 4 (.t 46),no⟩,⟨some 48,.fld 0 (.t 47),no⟩,⟨no,.st 1 (.t 48) (.t 45),no⟩]) (.seq (.reg [⟨some 49,.mv (.t 1),no⟩,⟨some 50,.bin .add (.t 49) (.k (.int .i64 1)),no⟩,⟨some 1,.mv (.t 50),no⟩]) (.seq (.reg [⟨some 51,.mv (.t 0),no⟩,⟨some 52,.mv (.t 5),no⟩,⟨some 53,.ixa 7 (.t 51) (.t 52),no⟩,⟨some 54,.fld 4 (.t 53),no⟩,⟨some 55,.fld 1 (.t 54),no⟩,⟨some 56,.ld false 1 (.t 55),no⟩,⟨some 57,.mv (.t 1),no⟩,⟨some 58,.call (.k (.fn (.func 158) [] [])) [.t 56,.t 57],no⟩,⟨some 1,.mv (.t 58),no⟩]) (.seq (.reg [⟨some 59,.mv (.t 0),no⟩,⟨some 60,.mv (.t 5),no⟩,⟨some 61,.mv (.t 1),no⟩,⟨some 62,.call (.k (.fn (.func 156) [] [])) [.t 61],no⟩,⟨some 63,.ixa 7 (.t 59) (.t 60),no⟩,⟨some 64,.fld 4 (.t 63),no⟩,⟨some 65,.fld 2 (.t 64),no⟩,⟨no,.st 1 (.t 65) (.t 62),no⟩]) (.reg [⟨some 66,.mv (.t 1),no⟩,⟨some 67,.bin .add (.t 66) (.k (.int .i64 1)),no⟩,⟨some 1,.mv (.t 67),no⟩]))))))))))) (.reg [⟨some 10,.mv (.t 5),no⟩,⟨some 11,.bin .add (.t 10) (.k (.int .i64 1)),no⟩,⟨some 5,.mv (.t 11),no⟩])))))) (.seq (.reg [⟨some 68,.mv (.t 1),no⟩,⟨some 4,.mv (.t 68),no⟩]) .ret)))⟩
theorem a77_ok:J09 Tryz.prog Tryz.f77=some a77:=by kernel_rfl
def a18:AFn:= ⟨14,[.t 4],(.seq (.reg [⟨some 2,.boxv (.t 0),no⟩,⟨some 4,.mv (.k (.int .i64 0)),no⟩]) (.seq (.reg [⟨some 5,.fld 0 (.t 2),no⟩,⟨some 6,.ld false 1 (.t 5),no⟩,⟨some 7,.mv (.t 1),no⟩,⟨some 8,.call (.k (.fn (.func 76) [] [])) [.t 6,.t 7],no⟩,⟨some 1,.mv (.t 8),no⟩]) (.seq (.reg [⟨some 9,.fld 1 (.t 2),no⟩,⟨some 10,.ld false 1 (.t 9),no⟩,⟨some 11,.mv (.t 1),no⟩,⟨some 12,.call (.k (.fn (.func 77) [] [])) [.t 10,.t 11],no⟩,⟨some 1,.mv (.t 12),no⟩]) (.seq (.reg [⟨some 13,.mv (.t 1),no⟩,⟨some 4,.mv (.t 13),no⟩]) .ret))))⟩
theorem a18_ok:J09 Tryz.prog Tryz.f18=some a18:=by kernel_rfl
def a36:AFn:= ⟨10,[.t 4],(.seq (.reg [⟨some 2,.boxv (.t 0),no⟩,⟨some 4,.mv (.k (.int .i64 0)),no⟩]) (.seq (.reg [⟨some 5,.fld 1 (.t 2),no⟩,⟨some 6,.ld false 1 (.t 5),no⟩,⟨some 7,.mv (.t 1),no⟩,⟨some 8,.call (.k (.fn (.func 108) [] [])) [.t 6,.t 7],no⟩,⟨some 1,.mv (.t 8),no⟩]) (.seq (.reg [⟨some 9,.mv (.t 1),no⟩,⟨some 4,.mv (.t 9),no⟩]) .ret)))⟩
theorem a36_ok:J09 Tryz.prog Tryz.f36=some a36:=by kernel_rfl
set_option maxHeartbeats 1000000 in
theorem Jlr (l:List DTerm) (k:Int) (h0:0≤k∧k+Jj1 l≤4611686018427387904):Jac Tryz.prog 248 (.us 2 (l.map J3t)) k (.us 2 ((Jqj l k).map J3t)) (k+Jj1 l):=by
 intro h n a I K hT hI hn hK
 obtain ⟨id,rows0,I0,rfl,_,hB,_⟩:=Jco hT
 simp only [List.length_map] at hT hB hK ⊢
 refine J4l Tryz.func248 rfl rfl (by rw [hB];simp) fun hlim => ?_
 refine J0z Tryz.func248 a248_ok rfl (by simp [a248]) ?_
 simp [a248]
 unfold Jj1 at *
 refine J0m [0] 5 l.length (fun i s h1 n1=>MJ Jov Jf0 J3t 2 h n id I l k i (s 1) h1 n1) hlim (by simp) (by simpa using MJ.start hT) ?_ ?_
 ·rintro i s h1 n1 R hi hg hk s5 hw hJ hR hret _
  simp at hk
  obtain ⟨x,ki,rows,cells,I2,s1,hki,hki2,hlen,hc0,hnd,hI2,hstart,hclose⟩:=hJ.step2 hI hn hi
  simp only [J3t] at hc0
  simp only [Jf0] at hki2
  obtain ⟨_,rfl,hc1⟩:=J5s.1 hc0
  obtain ⟨_,rfl,hc2⟩:=J3d.1 hc1
  obtain ⟨rfl,rfl⟩:=J2o.1 hc2
  have S:=hstart _ Kids.nil
  have e:=S.e
  have w0:IntKind.i64.wrap (ki+1)=ki+1:=J0p (by omega)
  have w1:IntKind.i64.wrap (ki+1+1)=ki+1+1:=J0p (by omega)
  simp [hk,s5,hi,hw,s1,e,hlen,w0,w1]
  intro _
  first|refine J00 (J1q (ki+1) (by omega)) (by simp) ?_|refine J01 (J1q (ki+1) (by omega)) (by simp) ?_
  rintro r rfl
  simp [hk,s5,hi,hw,s1,e,hlen,w0,w1]
  refine hR _ _ _ (by simp [hk]) (by simp) (hclose _ _ [.int .i64 (ki),.str (mtx (ki+1))] _ _ S.store (J5s.2 ⟨_,rfl,(J3d.2 ⟨_,rfl,(J2o.2 ⟨rfl,rfl⟩)⟩)⟩) (by simp [i64,Jf0];try omega))
 ·rintro s h1 n1 R hk s5 hJ hret hX
  simp at hk
  obtain ⟨s1,hn1,hf,ht⟩:=hJ.fin
  simp [hk,s5,s1]
  refine ⟨J76 ht,fun _ => ?_⟩
  refine hX _ _ _ _ ?_
  simp [hk,s5,s1]
  exact hK _ _ hn1 hf ht
set_option maxHeartbeats 1000000 in
theorem Jct (l:List DSum) (k:Int) (h0:0≤k∧k+J4m l≤4611686018427387904):Jac Tryz.prog 158 (.us 2 (l.map J4z)) k (.us 2 ((Jn5 l k).map J4z)) (k+J4m l):=by
 intro h n a I K hT hI hn hK
 obtain ⟨id,rows0,I0,rfl,_,hB,_⟩:=Jco hT
 simp only [List.length_map] at hT hB hK ⊢
 refine J4l Tryz.func158 rfl rfl (by rw [hB];simp) fun hlim => ?_
 refine J0z Tryz.func158 a158_ok rfl (by simp [a158]) ?_
 simp [a158]
 unfold J4m at *
 refine J0m [0] 5 l.length (fun i s h1 n1=>MJ Jpp Jlg J4z 2 h n id I l k i (s 1) h1 n1) hlim (by simp) (by simpa using MJ.start hT) ?_ ?_
 ·rintro i s h1 n1 R hi hg hk s5 hw hJ hR hret _
  simp at hk
  obtain ⟨x,ki,rows,cells,I2,s1,hki,hki2,hlen,hc0,hnd,hI2,hstart,hclose⟩:=hJ.step2 hI hn hi
  simp only [J4z] at hc0
  simp only [Jlg] at hki2
  obtain ⟨_,rfl,hc1⟩:=J5s.1 hc0
  obtain ⟨d1,len1,_,J1,_,rfl,rfl,hl1,ht1,hc2⟩:=J7g hc1
  have hq1:len1=(x.Terms).length:=by simpa using hl1
  subst hq1
  obtain ⟨rfl,rfl⟩:=J2o.1 hc2
  have S:=hstart _ (Kids.cons ht1 hnd hI2 fun hnd hI2=>Kids.nil)
  have e:=S.e
  have w0:IntKind.i64.wrap (ki+1)=ki+1:=J0p (by omega)
  simp [hk,s5,hi,hw,s1,e,hlen,w0]
  intro _
  refine RS.mark (T1:=[]) (Jlr _ _ (by omega)) S.store ?_
  clear S e
  intro h2 n2 S
  have e:=S.e
  simp [hk,s5,hi,hw,s1,e,hlen,w0]
  refine hR _ _ _ (by simp [hk]) (by simp) (hclose _ _ [.int .i64 (ki),.ref d1 0 (x.Terms).length] _ _ S (J5s.2 ⟨_,rfl,(J43 (S.live.ids (_,.ref d1 0 _,J1) (by simp [Jpp])).1 (J2o.2 ⟨rfl,rfl⟩))⟩) (by simp [i64,Jlg];try omega))
 ·rintro s h1 n1 R hk s5 hJ hret hX
  simp at hk
  obtain ⟨s1,hn1,hf,ht⟩:=hJ.fin
  simp [hk,s5,s1]
  refine ⟨J76 ht,fun _ => ?_⟩
  refine hX _ _ _ _ ?_
  simp [hk,s5,s1]
  exact hK _ _ hn1 hf ht
set_option maxHeartbeats 1000000 in
theorem Jo3 (l:List DArg) (k:Int) (h0:0≤k∧k+Jqw l≤4611686018427387904):Jac Tryz.prog 249 (.us 3 (l.map J59)) k (.us 3 ((Jv7 l k).map J59)) (k+Jqw l):=by
 intro h n a I K hT hI hn hK
 obtain ⟨id,rows0,I0,rfl,_,hB,_⟩:=Jco hT
 simp only [List.length_map] at hT hB hK ⊢
 refine J4l Tryz.func249 rfl rfl (by rw [hB];simp) fun hlim => ?_
 refine J0z Tryz.func249 a249_ok rfl (by simp [a249]) ?_
 simp [a249]
 unfold Jqw at *
 refine J0m [0] 5 l.length (fun i s h1 n1=>MJ Jra Jlk J59 3 h n id I l k i (s 1) h1 n1) hlim (by simp) (by simpa using MJ.start hT) ?_ ?_
 ·rintro i s h1 n1 R hi hg hk s5 hw hJ hR hret _
  simp at hk
  obtain ⟨x,ki,rows,cells,I2,s1,hki,hki2,hlen,hc0,hnd,hI2,hstart,hclose⟩:=hJ.step2 hI hn hi
  simp only [J59] at hc0
  simp only [Jlk] at hki2
  obtain ⟨_,rfl,hc1⟩:=J7t.1 hc0
  obtain ⟨d1,len1,_,J1,_,rfl,rfl,hl1,ht1,hc2⟩:=J7g hc1
  have hq1:len1=(x.Heads).length:=by simpa using hl1
  subst hq1
  obtain ⟨_,rfl,hc3⟩:=J3d.1 hc2
  obtain ⟨rfl,rfl⟩:=J2o.1 hc3
  have S:=hstart _ (Kids.cons ht1 hnd hI2 fun hnd hI2=>Kids.nil)
  have e:=S.e
  have w0:IntKind.i64.wrap (ki+1)=ki+1:=J0p (by omega)
  have w1:IntKind.i64.wrap (ki+1+J4m x.Heads+1)=ki+1+J4m x.Heads+1:=J0p (by omega)
  simp [hk,s5,hi,hw,s1,e,hlen,w0,w1]
  intro _
  refine RS.mark (T1:=[]) (Jct _ _ (by omega)) S.store ?_
  clear S e
  intro h2 n2 S
  have e:=S.e
  simp [hk,s5,hi,hw,s1,e,hlen,w0,w1]
  first|refine J00 (J1q (ki+1+J4m x.Heads) (by omega)) (by simp) ?_|refine J01 (J1q (ki+1+J4m x.Heads) (by omega)) (by simp) ?_
  rintro r rfl
  simp [hk,s5,hi,hw,s1,e,hlen,w0,w1]
  have S:=S.store (cells':=[.bool ((ki).tmod 3==0),.ref d1 0 (x.Heads).length,.str (mtx (ki+1+J4m x.Heads))])
  refine hR _ _ _ (by simp [hk]) (by simp) (hclose _ _ [.bool ((ki).tmod 3==0),.ref d1 0 (x.Heads).length,.str (mtx (ki+1+J4m x.Heads))] _ _ S (J7t.2 ⟨_,rfl,(J43 (S.live.ids (_,.ref d1 0 _,J1) (by simp [Jra])).1 (J3d.2 ⟨_,rfl,(J2o.2 ⟨rfl,rfl⟩)⟩))⟩) (by simp [i64,Jlk];try omega))
 ·rintro s h1 n1 R hk s5 hJ hret hX
  simp at hk
  obtain ⟨s1,hn1,hf,ht⟩:=hJ.fin
  simp [hk,s5,s1]
  refine ⟨J76 ht,fun _ => ?_⟩
  refine hX _ _ _ _ ?_
  simp [hk,s5,s1]
  exact hK _ _ hn1 hf ht
set_option maxHeartbeats 1000000 in
theorem Jfp (l:List DFunction) (k:Int) (h0:0≤k∧k+J5f l≤4611686018427387904):Jac Tryz.prog 76 (.us 4 (l.map J0e)) k (.us 4 ((Jb2 l k).map J0e)) (k+J5f l):=by
 intro h n a I K hT hI hn hK
 obtain ⟨id,rows0,I0,rfl,_,hB,_⟩:=Jco hT
 simp only [List.length_map] at hT hB hK ⊢
 refine J4l Tryz.func76 rfl rfl (by rw [hB];simp) fun hlim => ?_
 refine J0z Tryz.func76 a76_ok rfl (by simp [a76]) ?_
 simp [a76]
 unfold J5f at *
 refine J0m [0] 5 l.length (fun i s h1 n1=>MJ J8r J63 J0e 4 h n id I l k i (s 1) h1 n1) hlim (by simp) (by simpa using MJ.start hT) ?_ ?_
 ·rintro i s h1 n1 R hi hg hk s5 hw hJ hR hret _
  simp at hk
  obtain ⟨x,ki,rows,cells,I2,s1,hki,hki2,hlen,hc0,hnd,hI2,hstart,hclose⟩:=hJ.step2 hI hn hi
  simp only [J0e] at hc0
  simp only [J63] at hki2
  obtain ⟨_,rfl,hc1⟩:=J3d.1 hc0
  obtain ⟨d1,len1,_,J1,_,rfl,rfl,hl1,ht1,hc2⟩:=J7g hc1
  have hq1:len1=(x.Params).length:=by simpa using hl1
  subst hq1
  obtain ⟨_,rfl,hc3⟩:=J7t.1 hc2
  obtain ⟨d3,len3,_,J3,_,rfl,rfl,hl3,ht3,hc4⟩:=J7g hc3
  have hq3:len3=(x.Pre).length:=by simpa using hl3
  subst hq3
  obtain ⟨rfl,rfl⟩:=J2o.1 hc4
  have S:=hstart _ (Kids.cons ht1 hnd hI2 fun hnd hI2=>(Kids.cons ht3 hnd hI2 fun hnd hI2=>Kids.nil))
  have e:=S.e
  have w0:IntKind.i64.wrap (ki+1)=ki+1:=J0p (by omega)
  have w1:IntKind.i64.wrap (ki+1+J5q x.Params+1)=ki+1+J5q x.Params+1:=J0p (by omega)
  simp [hk,s5,hi,hw,s1,e,hlen,w0,w1]
  intro _
  first|refine J00 (J1q (ki) (by omega)) (by simp) ?_|refine J01 (J1q (ki) (by omega)) (by simp) ?_
  rintro r rfl
  simp [hk,s5,hi,hw,s1,e,hlen,w0,w1]
  refine RS.mark (T1:=[]) (Jhx _ _ (by omega)) S.store ?_
  clear S e
  intro h2 n2 S
  have e:=S.e
  simp [hk,s5,hi,hw,s1,e,hlen,w0,w1]
  refine RS.mark (T1:=[_]) (Jcs _ _ (by omega)) S.store ?_
  clear S e
  intro h2 n2 S
  have e:=S.e
  simp [hk,s5,hi,hw,s1,e,hlen,w0,w1]
  refine hR _ _ _ (by simp [hk]) (by simp) (hclose _ _ [.str (mtx (ki)),.ref d1 0 (x.Params).length,.bool ((ki+1+J5q x.Params).tmod 3==0),.ref d3 0 (x.Pre).length] _ _ S (J3d.2 ⟨_,rfl,(J43 (S.live.ids (_,.ref d1 0 _,J1) (by simp [J8r])).1 (J7t.2 ⟨_,rfl,(J43 (S.live.ids (_,.ref d3 0 _,J3) (by simp [J8r])).1 (J2o.2 ⟨rfl,rfl⟩))⟩))⟩) (by simp [i64,J63];try omega))
 ·rintro s h1 n1 R hk s5 hJ hret hX
  simp at hk
  obtain ⟨s1,hn1,hf,ht⟩:=hJ.fin
  simp [hk,s5,s1]
  refine ⟨J76 ht,fun _ => ?_⟩
  refine hX _ _ _ _ ?_
  simp [hk,s5,s1]
  exact hK _ _ hn1 hf ht
set_option maxHeartbeats 1000000 in
theorem Jg2 (l:List DPattern) (k:Int) (h0:0≤k∧k+J28 l≤4611686018427387904):Jac Tryz.prog 157 (.us 4 (l.map J18)) k (.us 4 ((Jh3 l k).map J18)) (k+J28 l):=by
 intro h n a I K hT hI hn hK
 obtain ⟨id,rows0,I0,rfl,_,hB,_⟩:=Jco hT
 simp only [List.length_map] at hT hB hK ⊢
 refine J4l Tryz.func157 rfl rfl (by rw [hB];simp) fun hlim => ?_
 refine J0z Tryz.func157 a157_ok rfl (by simp [a157]) ?_
 simp [a157]
 unfold J28 at *
 refine J0m [0] 5 l.length (fun i s h1 n1=>MJ Jh0 J72 J18 4 h n id I l k i (s 1) h1 n1) hlim (by simp) (by simpa using MJ.start hT) ?_ ?_
 ·rintro i s h1 n1 R hi hg hk s5 hw hJ hR hret _
  simp at hk
  obtain ⟨x,ki,rows,cells,I2,s1,hki,hki2,hlen,hc0,hnd,hI2,hstart,hclose⟩:=hJ.step2 hI hn hi
  simp only [J18] at hc0
  simp only [J72] at hki2
  obtain ⟨_,rfl,hc1⟩:=J3d.1 hc0
  obtain ⟨_,rfl,hc2⟩:=J7t.1 hc1
  obtain ⟨_,rfl,hc3⟩:=J3d.1 hc2
  obtain ⟨_,rfl,hc4⟩:=J3d.1 hc3
  obtain ⟨rfl,rfl⟩:=J2o.1 hc4
  have S:=hstart _ Kids.nil
  have e:=S.e
  have w0:IntKind.i64.wrap (ki+1)=ki+1:=J0p (by omega)
  have w1:IntKind.i64.wrap (ki+1+1)=ki+1+1:=J0p (by omega)
  have w2:IntKind.i64.wrap (ki+1+1+1)=ki+1+1+1:=J0p (by omega)
  have w3:IntKind.i64.wrap (ki+1+1+1+1)=ki+1+1+1+1:=J0p (by omega)
  simp [hk,s5,hi,hw,s1,e,hlen,w0,w1,w2,w3]
  intro _
  first|refine J00 (J1q (ki) (by omega)) (by simp) ?_|refine J01 (J1q (ki) (by omega)) (by simp) ?_
  rintro r rfl
  simp [hk,s5,hi,hw,s1,e,hlen,w0,w1,w2,w3]
  first|refine J00 (J1q (ki+1+1) (by omega)) (by simp) ?_|refine J01 (J1q (ki+1+1) (by omega)) (by simp) ?_
  rintro r rfl
  simp [hk,s5,hi,hw,s1,e,hlen,w0,w1,w2,w3]
  first|refine J00 (J1q (ki+1+1+1) (by omega)) (by simp) ?_|refine J01 (J1q (ki+1+1+1) (by omega)) (by simp) ?_
  rintro r rfl
  simp [hk,s5,hi,hw,s1,e,hlen,w0,w1,w2,w3]
  refine hR _ _ _ (by simp [hk]) (by simp) (hclose _ _ [.str (mtx (ki)),.bool ((ki+1).tmod 3==0),.str (mtx (ki+1+1)),.str (mtx (ki+1+1+1))] _ _ S.store (J3d.2 ⟨_,rfl,(J7t.2 ⟨_,rfl,(J3d.2 ⟨_,rfl,(J3d.2 ⟨_,rfl,(J2o.2 ⟨rfl,rfl⟩)⟩)⟩)⟩)⟩) (by simp [i64,J72];try omega))
 ·rintro s h1 n1 R hk s5 hJ hret hX
  simp at hk
  obtain ⟨s1,hn1,hf,ht⟩:=hJ.fin
  simp [hk,s5,s1]
  refine ⟨J76 ht,fun _ => ?_⟩
  refine hX _ _ _ _ ?_
  simp [hk,s5,s1]
  exact hK _ _ hn1 hf ht
set_option maxHeartbeats 1000000 in
theorem Jkn (l:List DCall) (k:Int) (h0:0≤k∧k+J5y l≤4611686018427387904):Jac Tryz.prog 159 (.us 3 (l.map J3a)) k (.us 3 ((Jri l k).map J3a)) (k+J5y l):=by
 intro h n a I K hT hI hn hK
 obtain ⟨id,rows0,I0,rfl,_,hB,_⟩:=Jco hT
 simp only [List.length_map] at hT hB hK ⊢
 refine J4l Tryz.func159 rfl rfl (by rw [hB];simp) fun hlim => ?_
 refine J0z Tryz.func159 a159_ok rfl (by simp [a159]) ?_
 simp [a159]
 unfold J5y at *
 refine J0m [0] 5 l.length (fun i s h1 n1=>MJ Jlc Jem J3a 3 h n id I l k i (s 1) h1 n1) hlim (by simp) (by simpa using MJ.start hT) ?_ ?_
 ·rintro i s h1 n1 R hi hg hk s5 hw hJ hR hret _
  simp at hk
  obtain ⟨x,ki,rows,cells,I2,s1,hki,hki2,hlen,hc0,hnd,hI2,hstart,hclose⟩:=hJ.step2 hI hn hi
  simp only [J3a] at hc0
  simp only [Jem] at hki2
  obtain ⟨_,rfl,hc1⟩:=J3d.1 hc0
  obtain ⟨_,rfl,hc2⟩:=J3d.1 hc1
  obtain ⟨d2,len2,_,J2,_,rfl,rfl,hl2,ht2,hc3⟩:=J7g hc2
  have hq2:len2=(x.Args).length:=by simpa using hl2
  subst hq2
  obtain ⟨rfl,rfl⟩:=J2o.1 hc3
  have S:=hstart _ (Kids.cons ht2 hnd hI2 fun hnd hI2=>Kids.nil)
  have e:=S.e
  have w0:IntKind.i64.wrap (ki+1)=ki+1:=J0p (by omega)
  have w1:IntKind.i64.wrap (ki+1+1)=ki+1+1:=J0p (by omega)
  simp [hk,s5,hi,hw,s1,e,hlen,w0,w1]
  intro _
  first|refine J00 (J1q (ki) (by omega)) (by simp) ?_|refine J01 (J1q (ki) (by omega)) (by simp) ?_
  rintro r rfl
  simp [hk,s5,hi,hw,s1,e,hlen,w0,w1]
  first|refine J00 (J1q (ki+1) (by omega)) (by simp) ?_|refine J01 (J1q (ki+1) (by omega)) (by simp) ?_
  rintro r rfl
  simp [hk,s5,hi,hw,s1,e,hlen,w0,w1]
  refine RS.mark (T1:=[]) (Jo3 _ _ (by omega)) S.store ?_
  clear S e
  intro h2 n2 S
  have e:=S.e
  simp [hk,s5,hi,hw,s1,e,hlen,w0,w1]
  refine hR _ _ _ (by simp [hk]) (by simp) (hclose _ _ [.str (mtx (ki)),.str (mtx (ki+1)),.ref d2 0 (x.Args).length] _ _ S (J3d.2 ⟨_,rfl,(J3d.2 ⟨_,rfl,(J43 (S.live.ids (_,.ref d2 0 _,J2) (by simp [Jlc])).1 (J2o.2 ⟨rfl,rfl⟩))⟩)⟩) (by simp [i64,Jem];try omega))
 ·rintro s h1 n1 R hk s5 hJ hret hX
  simp at hk
  obtain ⟨s1,hn1,hf,ht⟩:=hJ.fin
  simp [hk,s5,s1]
  refine ⟨J76 ht,fun _ => ?_⟩
  refine hX _ _ _ _ ?_
  simp [hk,s5,s1]
  exact hK _ _ hn1 hf ht
set_option maxHeartbeats 1000000 in
theorem Jko (l:List DRule) (k:Int) (h0:0≤k∧k+Jk1 l≤4611686018427387904):Jac Tryz.prog 77 (.us 7 (l.map J1z)) k (.us 7 ((Jlf l k).map J1z)) (k+Jk1 l):=by
 intro h n a I K hT hI hn hK
 obtain ⟨id,rows0,I0,rfl,_,hB,_⟩:=Jco hT
 simp only [List.length_map] at hT hB hK ⊢
 refine J4l Tryz.func77 rfl rfl (by rw [hB];simp) fun hlim => ?_
 refine J0z Tryz.func77 a77_ok rfl (by simp [a77]) ?_
 simp [a77]
 unfold Jk1 at *
 refine J0m [0] 5 l.length (fun i s h1 n1=>MJ Jcn Jfk J1z 7 h n id I l k i (s 1) h1 n1) hlim (by simp) (by simpa using MJ.start hT) ?_ ?_
 ·rintro i s h1 n1 R hi hg hk s5 hw hJ hR hret _
  simp at hk
  obtain ⟨x,ki,rows,cells,I2,s1,hki,hki2,hlen,hc0,hnd,hI2,hstart,hclose⟩:=hJ.step2 hI hn hi
  simp only [J1z] at hc0
  simp only [Jfk] at hki2
  obtain ⟨_,rfl,hc1⟩:=J3d.1 hc0
  obtain ⟨d1,len1,_,J1,_,rfl,rfl,hl1,ht1,hc2⟩:=J7g hc1
  have hq1:len1=(x.Patterns).length:=by simpa using hl1
  subst hq1
  obtain ⟨d2,len2,_,J2,_,rfl,rfl,hl2,ht2,hc3⟩:=J7g hc2
  have hq2:len2=(x.Guards).length:=by simpa using hl2
  subst hq2
  obtain ⟨d3,len3,_,J3,_,rfl,rfl,hl3,ht3,hc4⟩:=J7g hc3
  have hq3:len3=(x.Calls).length:=by simpa using hl3
  subst hq3
  obtain ⟨_,rfl,hc5⟩:=J7t.1 hc4
  obtain ⟨d5,len5,_,J5,_,rfl,rfl,hl5,ht5,hc6⟩:=J7g hc5
  have hq5:len5=(x.Result.Heads).length:=by simpa using hl5
  subst hq5
  obtain ⟨_,rfl,hc7⟩:=J3d.1 hc6
  obtain ⟨rfl,rfl⟩:=J2o.1 hc7
  have S:=hstart _ (Kids.cons ht1 hnd hI2 fun hnd hI2=>(Kids.cons ht2 hnd hI2 fun hnd hI2=>(Kids.cons ht3 hnd hI2 fun hnd hI2=>(Kids.cons ht5 hnd hI2 fun hnd hI2=>Kids.nil))))
  have e:=S.e
  have w0:IntKind.i64.wrap (ki+1)=ki+1:=J0p (by omega)
  have w1:IntKind.i64.wrap (ki+1+J28 x.Patterns+J4m x.Guards+J5y x.Calls+1)=ki+1+J28 x.Patterns+J4m x.Guards+J5y x.Calls+1:=J0p (by omega)
  have w2:IntKind.i64.wrap (ki+1+J28 x.Patterns+J4m x.Guards+J5y x.Calls+1+J4m x.Result.Heads+1)=ki+1+J28 x.Patterns+J4m x.Guards+J5y x.Calls+1+J4m x.Result.Heads+1:=J0p (by omega)
  simp [hk,s5,hi,hw,s1,e,hlen,w0,w1,w2]
  intro _
  first|refine J00 (J1q (ki) (by omega)) (by simp) ?_|refine J01 (J1q (ki) (by omega)) (by simp) ?_
  rintro r rfl
  simp [hk,s5,hi,hw,s1,e,hlen,w0,w1,w2]
  refine RS.mark (T1:=[]) (Jg2 _ _ (by omega)) S.store ?_
  clear S e
  intro h2 n2 S
  have e:=S.e
  simp [hk,s5,hi,hw,s1,e,hlen,w0,w1,w2]
  refine RS.mark (T1:=[_]) (Jct _ _ (by omega)) S ?_
  clear S e
  intro h2 n2 S
  have e:=S.e
  simp [hk,s5,hi,hw,s1,e,hlen,w0,w1,w2]
  refine RS.mark (T1:=[_,_]) (Jkn _ _ (by omega)) S ?_
  clear S e
  intro h2 n2 S
  have e:=S.e
  simp [hk,s5,hi,hw,s1,e,hlen,w0,w1,w2]
  refine RS.mark (T1:=[_,_,_]) (Jct _ _ (by omega)) S.store ?_
  clear S e
  intro h2 n2 S
  have e:=S.e
  simp [hk,s5,hi,hw,s1,e,hlen,w0,w1,w2]
  first|refine J00 (J1q (ki+1+J28 x.Patterns+J4m x.Guards+J5y x.Calls+1+J4m x.Result.Heads) (by omega)) (by simp) ?_|refine J01 (J1q (ki+1+J28 x.Patterns+J4m x.Guards+J5y x.Calls+1+J4m x.Result.Heads) (by omega)) (by simp) ?_
  rintro r rfl
  simp [hk,s5,hi,hw,s1,e,hlen,w0,w1,w2]
  have S:=S.store (cells':=[.str (mtx (ki)),.ref d1 0 (x.Patterns).length,.ref d2 0 (x.Guards).length,.ref d3 0 (x.Calls).length,.bool ((ki+1+J28 x.Patterns+J4m x.Guards+J5y x.Calls).tmod 3==0),.ref d5 0 (x.Result.Heads).length,.str (mtx (ki+1+J28 x.Patterns+J4m x.Guards+J5y x.Calls+1+J4m x.Result.Heads))])
  refine hR _ _ _ (by simp [hk]) (by simp) (hclose _ _ [.str (mtx (ki)),.ref d1 0 (x.Patterns).length,.ref d2 0 (x.Guards).length,.ref d3 0 (x.Calls).length,.bool ((ki+1+J28 x.Patterns+J4m x.Guards+J5y x.Calls).tmod 3==0),.ref d5 0 (x.Result.Heads).length,.str (mtx (ki+1+J28 x.Patterns+J4m x.Guards+J5y x.Calls+1+J4m x.Result.Heads))] _ _ S (J3d.2 ⟨_,rfl,(J43 (S.live.ids (_,.ref d1 0 _,J1) (by simp [Jcn])).1 (J43 (S.live.ids (_,.ref d2 0 _,J2) (by simp [Jcn])).1 (J43 (S.live.ids (_,.ref d3 0 _,J3) (by simp [Jcn])).1 (J7t.2 ⟨_,rfl,(J43 (S.live.ids (_,.ref d5 0 _,J5) (by simp [Jcn])).1 (J3d.2 ⟨_,rfl,(J2o.2 ⟨rfl,rfl⟩)⟩))⟩))))⟩) (by simp [i64,Jfk];try omega))
 ·rintro s h1 n1 R hk s5 hJ hret hX
  simp at hk
  obtain ⟨s1,hn1,hf,ht⟩:=hJ.fin
  simp [hk,s5,s1]
  refine ⟨J76 ht,fun _ => ?_⟩
  refine hX _ _ _ _ ?_
  simp [hk,s5,s1]
  exact hK _ _ hn1 hf ht
set_option maxHeartbeats 1000000 in
theorem Jhl (x:DProgram) (k:Int) (h0:0≤k∧k+J6y x≤4611686018427387904):Jac Tryz.prog 18 (.agg (J2f x)) k (.agg (J2f (Jjo x k))) (k+J6y x):=by
 intro h n a I K hT hI hn hK
 obtain ⟨cs,rfl,hc0⟩:=Jw5.1 hT
 simp only [J6y] at h0
 obtain ⟨d0,len0,_,J0,_,rfl,rfl,hl0,ht0,hc1⟩:=J7g hc0
 have hq0:len0=(x.Functions).length:=by simpa using hl0
 subst hq0
 obtain ⟨d1,len1,_,J1,_,rfl,rfl,hl1,ht1,hc2⟩:=J7g hc1
 have hq1:len1=(x.Rules).length:=by simpa using hl1
 subst hq1
 obtain ⟨rfl,rfl⟩:=J2o.1 hc2
 refine J0z Tryz.func18 a18_ok rfl (by simp [a18]) ?_
 simp [a18]
 have S:=RS.box (sz:=2) (cells:=[.ref d0 0 (x.Functions).length,.ref d1 0 (x.Rules).length]) (Kids.cons (ht0) hI hn fun hI hn=>(Kids.cons (ht1) hI hn fun hI hn=>Kids.nil)) hn
 refine RS.mark (T1:=[]) (Jfp x.Functions (k) (by omega)) S ?_
 clear S
 intro h2 n2 S
 have e:=S.e
 simp [e]
 refine RS.mark (T1:=[_]) (Jko x.Rules (k+J5f x.Functions) (by omega)) S ?_
 clear S
 intro h2 n2 S
 have e:=S.e
 simp [e]
 have hb:=S.unbox
 have ht:TR h2 (.agg (J2f (Jjo x k))) _ _:=Jqn.2 (J43 (S.live.ids (.us 4 ((Jb2 x.Functions (k)).map J0e),.ref d0 0 (x.Functions).length,J0) (by simp)).1 (J43 (S.live.ids (.us 7 ((Jlf x.Rules (k+J5f x.Functions)).map J1z),.ref d1 0 (x.Rules).length,J1) (by simp)).1 (J2o.2 ⟨rfl,rfl⟩)))
 have hk:=hK _ _ hb.1 hb.2 ht
 simp only [J6y] at hk
 refine cast ?_ hk
 congr 2
 first|done|(simp;try omega)
set_option maxHeartbeats 1000000 in
theorem Jj7 (x:DBounds) (k:Int) (h0:0≤k∧k+Jb3 x≤4611686018427387904):Jac Tryz.prog 36 (.agg (J2z x)) k (.agg (J2z (Jmw x k))) (k+Jb3 x):=by
 intro h n a I K hT hI hn hK
 obtain ⟨cs,rfl,hc0⟩:=Jw5.1 hT
 simp only [Jb3] at h0
 obtain ⟨_,rfl,hc1⟩:=J5s.1 hc0
 obtain ⟨d1,len1,_,J1,_,rfl,rfl,hl1,ht1,hc2⟩:=J7g hc1
 have hq1:len1=(x.Lins).length:=by simpa using hl1
 subst hq1
 obtain ⟨rfl,rfl⟩:=J2o.1 hc2
 refine J0z Tryz.func36 a36_ok rfl (by simp [a36]) ?_
 simp [a36]
 have S:=RS.box (sz:=2) (cells:=[.int .i64 (x.Kind),.ref d1 0 (x.Lins).length]) (Kids.cons (ht1) hI hn fun hI hn=>Kids.nil) hn
 refine RS.mark (T1:=[]) (Jcs x.Lins (k) (by omega)) S ?_
 clear S
 intro h2 n2 S
 have e:=S.e
 simp [e]
 have hb:=S.unbox
 have ht:TR h2 (.agg (J2z (Jmw x k))) _ _:=Jqn.2 (J5s.2 ⟨_,rfl,(J43 (S.live.ids (.us 2 ((Jeg x.Lins (k)).map J08),.ref d1 0 (x.Lins).length,J1) (by simp)).1 (J2o.2 ⟨rfl,rfl⟩))⟩)
 have hk:=hK _ _ hb.1 hb.2 ht
 simp only [Jb3] at hk
 refine cast ?_ hk
 congr 2
 first|done|(simp;try omega)
def a80:AFn:= ⟨12,[.t 4],(.seq (.reg [⟨some 4,.mv (.k (.int .i64 0)),no⟩]) (.seq (.reg [⟨some 5,.mv (.t 1),no⟩,⟨some 6,.mv (.t 0),no⟩,⟨some 7,.len false (.t 6),no⟩,⟨some 8,.bin .sub (.t 5) (.t 7),no⟩,⟨some 1,.mv (.t 8),no⟩]) (.seq (.seq (.reg [⟨some 9,.mv (.t 1),no⟩,⟨some 10,.bin .lss (.t 9) (.k (.int .i64 0)),no⟩]) (.cond (.t 10) (.seq (.reg [⟨some 4,.mv (.k (.int .i64 (-1))),no⟩]) .ret) .skip)) (.seq (.reg [⟨some 11,.mv (.t 1),no⟩,⟨some 4,.mv (.t 11),no⟩]) .ret))))⟩
theorem a80_ok:J09 Tryz.prog Tryz.f80=some a80:=by kernel_rfl
def a83:AFn:= ⟨22,[.t 2],(.seq (.reg [⟨some 2,.mv (.k (.nil 1)),no⟩]) (.seq (.reg [⟨some 5,.mv (.t 0),no⟩,⟨some 6,.len false (.t 5),no⟩,⟨some 7,.mks 8 [(.int .i64 0)] (.t 6) (.t 6),no⟩,⟨some 3,.mv (.t 7),no⟩]) (.seq (.seq (.reg [⟨some 4,.mv (.k (.int .i64 0)),no⟩]) (.blk 0 (.loop (.seq (.seq (.reg [⟨some 8,.mv (.t 4),no⟩,⟨some 9,.mv (.t 0),no⟩,⟨some 10,.len false (.t 9),no⟩,⟨some 11,.bin .lss (.t 8) (.t 10),no⟩]) (.cond (.t 11) .skip (.exit 0))) (.seq (.blk 1 (.reg [⟨some 14,.mv (.t 3),no⟩,⟨some 15,.mv (.t 4),no⟩,⟨some 16,.mv (.t 0),no⟩,⟨some 17,.mv (.t 4),no⟩,⟨some 18,.ixa 1 (.t 16) (.t 17),no⟩,⟨some 19,.ld false 1 (.t 18),no⟩,⟨some 20,.ixa 1 (.t 14) (.t 15),no⟩,⟨no,.st 1 (.t 20) (.t 19),no⟩])) (.reg [⟨some 12,.mv (.t 4),no⟩,⟨some 13,.bin .add (.t 12) (.k (.int .i64 1)),no⟩,⟨some 4,.mv (.t 13),no⟩])))))) (.seq (.reg [⟨some 21,.mv (.t 3),no⟩,⟨some 2,.mv (.t 21),no⟩]) .ret))))⟩
theorem a83_ok:J09 Tryz.prog Tryz.f83=some a83:=by kernel_rfl
def a87:AFn:= ⟨26,[.t 4],(.seq (.reg [⟨some 4,.mv (.k (.bool false)),no⟩]) (.seq (.seq (.reg [⟨some 6,.mv (.t 0),no⟩,⟨some 7,.len false (.t 6),no⟩,⟨some 8,.mv (.t 1),no⟩,⟨some 9,.len false (.t 8),no⟩,⟨some 10,.bin .neq (.t 7) (.t 9),no⟩]) (.cond (.t 10) (.seq (.reg [⟨some 4,.mv (.k (.bool false)),no⟩]) .ret) .skip)) (.seq (.seq (.reg [⟨some 5,.mv (.k (.int .i64 0)),no⟩]) (.blk 0 (.loop (.seq (.seq (.reg [⟨some 11,.mv (.t 5),no⟩,⟨some 12,.mv (.t 0),no⟩,⟨some 13,.len false (.t 12),no⟩,⟨some 14,.bin .lss (.t 11) (.t 13),no⟩]) (.cond (.t 14) .skip (.exit 0))) (.seq (.blk 1 (.seq (.draw (.op ⟨some 17,.mv (.t 0),no⟩ (.op ⟨some 18,.mv (.t 5),no⟩ (.op ⟨some 19,.ixa 1 (.t 17) (.t 18),no⟩ (.op ⟨some 20,.ld false 1 (.t 19),no⟩ (.op ⟨some 21,.mv (.t 1),no⟩ (.op ⟨some 22,.mv (.t 5),no⟩ (.op ⟨some 23,.ixa 1 (.t 21) (.t 22),no⟩ (.op ⟨some 24,.ld false 1 (.t 23),no⟩ (.op ⟨some 25,.bin .neq (.t 20) (.t 24),no⟩ .fin)))))))))) (.cond (.t 25) (.seq (.reg [⟨some 4,.mv (.k (.bool false)),no⟩]) .ret) .skip))) (.reg [⟨some 15,.mv (.t 5),no⟩,⟨some 16,.bin .add (.t 15) (.k (.int .i64 1)),no⟩,⟨some 5,.mv (.t 16),no⟩])))))) (.seq (.reg [⟨some 4,.mv (.k (.bool true)),no⟩]) .ret))))⟩
theorem a87_ok:J09 Tryz.prog Tryz.f87=some a87:=by kernel_rfl
def a211:AFn:= ⟨28,[.t 4],(.seq (.reg [⟨some 4,.mv (.k (.int .i64 0)),no⟩]) (.seq (.reg [⟨some 6,.mv (.t 1),no⟩,⟨some 7,.mv (.t 0),no⟩,⟨some 8,.len false (.t 7),no⟩,⟨some 9,.bin .sub (.t 6) (.t 8),no⟩,⟨some 1,.mv (.t 9),no⟩]) (.seq (.seq (.reg [⟨some 10,.mv (.t 1),no⟩,⟨some 11,.bin .lss (.t 10) (.k (.int .i64 0)),no⟩]) (.cond (.t 11) (.seq (.reg [⟨some 4,.mv (.k (.int .i64 (-1))),no⟩]) .ret) .skip)) (.seq (.seq (.reg [⟨some 5,.mv (.k (.int .i64 0)),no⟩]) (.blk 0 (.loop (.seq (.seq (.reg [⟨some 12,.mv (.t 5),no⟩,⟨some 13,.mv (.t 0),no⟩,⟨some 14,.len false (.t 13),no⟩,⟨some 15,.bin .lss (.t 12) (.t 14),no⟩]) (.cond (.t 15) .skip (.exit 0))) (.seq (.blk 1 (.seq (.reg [⟨some 18,.mv (.t 1),no⟩,⟨some 19,.mv (.t 0),no⟩,⟨some 20,.mv (.t 5),no⟩,⟨some 21,.ixa 1 (.t 19) (.t 20),no⟩,⟨some 22,.ld false 1 (.t 21),no⟩,⟨some 23,.len true (.t 22),no⟩,⟨some 24,.bin .sub (.t 18) (.t 23),no⟩,⟨some 1,.mv (.t 24),no⟩]) (.seq (.reg [⟨some 25,.mv (.t 1),no⟩,⟨some 26,.bin .lss (.t 25) (.k (.int .i64 0)),no⟩]) (.cond (.t 26) (.seq (.reg [⟨some 4,.mv (.k (.int .i64 (-1))),no⟩]) .ret) .skip)))) (.reg [⟨some 16,.mv (.t 5),no⟩,⟨some 17,.bin .add (.t 16) (.k (.int .i64 1)),no⟩,⟨some 5,.mv (.t 17),no⟩])))))) (.seq (.reg [⟨some 27,.mv (.t 1),no⟩,⟨some 4,.mv (.t 27),no⟩]) .ret)))))⟩
theorem a211_ok:J09 Tryz.prog Tryz.f211=some a211:=by kernel_rfl
def a225:AFn:= ⟨22,[.t 2],(.seq (.reg [⟨some 2,.mv (.k (.nil 1)),no⟩]) (.seq (.reg [⟨some 5,.mv (.t 0),no⟩,⟨some 6,.len false (.t 5),no⟩,⟨some 7,.mks 16 [(.str [])] (.t 6) (.t 6),no⟩,⟨some 3,.mv (.t 7),no⟩]) (.seq (.seq (.reg [⟨some 4,.mv (.k (.int .i64 0)),no⟩]) (.blk 0 (.loop (.seq (.seq (.reg [⟨some 8,.mv (.t 4),no⟩,⟨some 9,.mv (.t 0),no⟩,⟨some 10,.len false (.t 9),no⟩,⟨some 11,.bin .lss (.t 8) (.t 10),no⟩]) (.cond (.t 11) .skip (.exit 0))) (.seq (.blk 1 (.reg [⟨some 14,.mv (.t 3),no⟩,⟨some 15,.mv (.t 4),no⟩,⟨some 16,.mv (.t 0),no⟩,⟨some 17,.mv (.t 4),no⟩,⟨some 18,.ixa 1 (.t 16) (.t 17),no⟩,⟨some 19,.ld false 1 (.t 18),no⟩,⟨some 20,.ixa 1 (.t 14) (.t 15),no⟩,⟨no,.st 1 (.t 20) (.t 19),no⟩])) (.reg [⟨some 12,.mv (.t 4),no⟩,⟨some 13,.bin .add (.t 12) (.k (.int .i64 1)),no⟩,⟨some 4,.mv (.t 13),no⟩])))))) (.seq (.reg [⟨some 21,.mv (.t 3),no⟩,⟨some 2,.mv (.t 21),no⟩]) .ret))))⟩
theorem a225_ok:J09 Tryz.prog Tryz.f225=some a225:=by kernel_rfl
def a73:AFn:= ⟨26,[.t 4],(.seq (.reg [⟨some 4,.mv (.k (.bool false)),no⟩]) (.seq (.seq (.reg [⟨some 6,.mv (.t 0),no⟩,⟨some 7,.len false (.t 6),no⟩,⟨some 8,.mv (.t 1),no⟩,⟨some 9,.len false (.t 8),no⟩,⟨some 10,.bin .neq (.t 7) (.t 9),no⟩]) (.cond (.t 10) (.seq (.reg [⟨some 4,.mv (.k (.bool false)),no⟩]) .ret) .skip)) (.seq (.seq (.reg [⟨some 5,.mv (.k (.int .i64 0)),no⟩]) (.blk 0 (.loop (.seq (.seq (.reg [⟨some 11,.mv (.t 5),no⟩,⟨some 12,.mv (.t 0),no⟩,⟨some 13,.len false (.t 12),no⟩,⟨some 14,.bin .lss (.t 11) (.t 13),no⟩]) (.cond (.t 14) .skip (.exit 0))) (.seq (.blk 1 (.seq (.draw (.op ⟨some 17,.mv (.t 0),no⟩ (.op ⟨some 18,.mv (.t 5),no⟩ (.op ⟨some 19,.ixa 1 (.t 17) (.t 18),no⟩ (.op ⟨some 20,.ld false 1 (.t 19),no⟩ (.op ⟨some 21,.mv (.t 1),no⟩ (.op ⟨some 22,.mv (.t 5),no⟩ (.op ⟨some 23,.ixa 1 (.t 21) (.t 22),no⟩ (.op ⟨some 24,.ld false 1 (.t 23),no⟩ (.op ⟨some 25,.bin .neq (.t 20) (.t 24),no⟩ .fin)))))))))) (.cond (.t 25) (.seq (.reg [⟨some 4,.mv (.k (.bool false)),no⟩]) .ret) .skip))) (.reg [⟨some 15,.mv (.t 5),no⟩,⟨some 16,.bin .add (.t 15) (.k (.int .i64 1)),no⟩,⟨some 5,.mv (.t 16),no⟩])))))) (.seq (.reg [⟨some 4,.mv (.k (.bool true)),no⟩]) .ret))))⟩
theorem a73_ok:J09 Tryz.prog Tryz.f73=some a73:=by kernel_rfl
def a21:AFn:= ⟨12,[.t 4],(.seq (.reg [⟨some 2,.boxv (.t 0),no⟩,⟨some 4,.mv (.k (.int .i64 0)),no⟩]) (.seq (.reg [⟨some 5,.fld 1 (.t 2),no⟩,⟨some 6,.ld false 1 (.t 5),no⟩,⟨some 7,.mv (.t 1),no⟩,⟨some 8,.call (.k (.fn (.func 80) [] [])) [.t 6,.t 7],no⟩,⟨some 1,.mv (.t 8),no⟩]) (.seq (.seq (.reg [⟨some 9,.mv (.t 1),no⟩,⟨some 10,.bin .lss (.t 9) (.k (.int .i64 0)),no⟩]) (.cond (.t 10) (.seq (.reg [⟨some 4,.mv (.k (.int .i64 (-1))),no⟩]) .ret) .skip)) (.seq (.reg [⟨some 11,.mv (.t 1),no⟩,⟨some 4,.mv (.t 11),no⟩]) .ret))))⟩
theorem a21_ok:J09 Tryz.prog Tryz.f21=some a21:=by kernel_rfl
def a23:AFn:= ⟨12,[(.c 2 true 2)],(.seq (.reg [⟨some 1,.boxv (.t 0),no⟩,⟨some 2,.box [(.int .i64 0),(.nil 1)],no⟩]) (.seq (.reg [⟨some 3,.box [(.int .i64 0),(.nil 1)],no⟩]) (.seq (.reg [⟨some 4,.fld 0 (.t 1),no⟩,⟨some 5,.ld false 1 (.t 4),no⟩,⟨some 6,.fld 0 (.t 3),no⟩,⟨no,.st 1 (.t 6) (.t 5),no⟩]) (.seq (.reg [⟨some 7,.fld 1 (.t 1),no⟩,⟨some 8,.ld false 1 (.t 7),no⟩,⟨some 9,.call (.k (.fn (.func 83) [] [])) [.t 8],no⟩,⟨some 10,.fld 1 (.t 3),no⟩,⟨no,.st 1 (.t 10) (.t 9),no⟩]) (.seq (.reg [⟨some 11,.ld true 2 (.t 3),no⟩,⟨no,.st 2 (.t 2) (.t 11),no⟩]) .ret)))))⟩
theorem a23_ok:J09 Tryz.prog Tryz.f23=some a23:=by kernel_rfl
def a25:AFn:= ⟨16,[.t 4],(.seq (.reg [⟨some 2,.boxv (.t 0),no⟩,⟨some 3,.boxv (.t 1),no⟩,⟨some 4,.mv (.k (.bool false)),no⟩]) (.seq (.seq (.reg [⟨some 5,.fld 0 (.t 2),no⟩,⟨some 6,.ld false 1 (.t 5),no⟩,⟨some 7,.fld 0 (.t 3),no⟩,⟨some 8,.ld false 1 (.t 7),no⟩,⟨some 9,.bin .neq (.t 6) (.t 8),no⟩]) (.cond (.t 9) (.seq (.reg [⟨some 4,.mv (.k (.bool false)),no⟩]) .ret) .skip)) (.seq (.seq (.reg [⟨some 10,.fld 1 (.t 2),no⟩,⟨some 11,.ld false 1 (.t 10),no⟩,⟨some 12,.fld 1 (.t 3),no⟩,⟨some 13,.ld false 1 (.t 12),no⟩,⟨some 14,.call (.k (.fn (.func 87) [] [])) [.t 11,.t 13],no⟩,⟨some 15,.un .not (.t 14),no⟩]) (.cond (.t 15) (.seq (.reg [⟨some 4,.mv (.k (.bool false)),no⟩]) .ret) .skip)) (.seq (.reg [⟨some 4,.mv (.k (.bool true)),no⟩]) .ret))))⟩
theorem a25_ok:J09 Tryz.prog Tryz.f25=some a25:=by kernel_rfl
def a194:AFn:= ⟨16,[.t 4],(.seq (.reg [⟨some 2,.boxv (.t 0),no⟩,⟨some 3,.boxv (.t 1),no⟩,⟨some 4,.mv (.k (.bool false)),no⟩]) (.seq (.seq (.reg [⟨some 5,.fld 0 (.t 2),no⟩,⟨some 6,.ld false 1 (.t 5),no⟩,⟨some 7,.fld 0 (.t 3),no⟩,⟨some 8,.ld false 1 (.t 7),no⟩,⟨some 9,.bin .neq (.t 6) (.t 8),no⟩]) (.cond (.t 9) (.seq (.reg [⟨some 4,.mv (.k (.bool false)),no⟩]) .ret) .skip)) (.seq (.seq (.reg [⟨some 10,.fld 1 (.t 2),no⟩,⟨some 11,.ld false 1 (.t 10),no⟩,⟨some 12,.fld 1 (.t 3),no⟩,⟨some 13,.ld false 1 (.t 12),no⟩,⟨some 14,.call (.k (.fn (.func 107) [] [])) [.t 11,.t 13],no⟩,⟨some 15,.un .not (.t 14),no⟩]) (.cond (.t 15) (.seq (.reg [⟨some 4,.mv (.k (.bool false)),no⟩]) .ret) .skip)) (.seq (.reg [⟨some 4,.mv (.k (.bool true)),no⟩]) .ret))))⟩
theorem a194_ok:J09 Tryz.prog Tryz.f194=some a194:=by kernel_rfl
def a106:AFn:= ⟨17,[.t 4],(.seq (.reg [⟨some 2,.boxv (.t 0),no⟩,⟨some 3,.boxv (.t 1),no⟩,⟨some 4,.mv (.k (.bool false)),no⟩]) (.seq (.seq (.reg [⟨some 5,.fld 0 (.t 2),no⟩,⟨some 6,.ld true 2 (.t 5),no⟩,⟨some 7,.fld 0 (.t 3),no⟩,⟨some 8,.ld true 2 (.t 7),no⟩,⟨some 9,.call (.k (.fn (.func 194) [] [])) [.t 6,.t 8],no⟩,⟨some 10,.un .not (.t 9),no⟩]) (.cond (.t 10) (.seq (.reg [⟨some 4,.mv (.k (.bool false)),no⟩]) .ret) .skip)) (.seq (.seq (.reg [⟨some 11,.fld 2 (.t 2),no⟩,⟨some 12,.ld true 2 (.t 11),no⟩,⟨some 13,.fld 2 (.t 3),no⟩,⟨some 14,.ld true 2 (.t 13),no⟩,⟨some 15,.call (.k (.fn (.func 25) [] [])) [.t 12,.t 14],no⟩,⟨some 16,.un .not (.t 15),no⟩]) (.cond (.t 16) (.seq (.reg [⟨some 4,.mv (.k (.bool false)),no⟩]) .ret) .skip)) (.seq (.reg [⟨some 4,.mv (.k (.bool true)),no⟩]) .ret))))⟩
theorem a106_ok:J09 Tryz.prog Tryz.f106=some a106:=by kernel_rfl
theorem Jt5 (l:List Int) (left:Int) (h0:0≤left∧left≤4611686018427387904):Holds Tryz.prog 80 [.sl 1 (J0k l),i64 left] (fun r=>r=i64 (J3b left (Jjb l))):=by
 refine J03 Tryz.func80 a80_ok rfl (by simp [a80]) ?_
 simp [a80]
 unfold LIM
 intro h1
 rw [J0p (by omega)]
 unfold J3b Jjb
 exact ⟨fun h=>by rw [if_pos h],fun h=>by rw [if_neg (by omega)]⟩
theorem Jsm (a:List Int) (hw:Jjb a≤1048576):Holds Tryz.prog 83 [.sl 1 (J0k a)] (fun r=>r = .us 1 (J0k a)):=by
 unfold Jjb at hw
 refine J03 Tryz.func83 a83_ok rfl (by simp [a83]) ?_
 simp [a83]
 intro h1
 refine ⟨by unfold LIM;omega,Jdi (fun k s h n=>∃ (i:Nat) (rows:List (List AV)),k=a.length - i∧i≤a.length∧s 0=K1y a∧s 3 = .ref 0 0 a.length∧s 4=i64 i∧h=upd J87 0 (some ⟨false,1,rows⟩)∧n=1 ∧
  rows.length=a.length∧(∀ j,j<i→rows[j]? = (J0k a)[j]?)∧(∀ j (hj:j<rows.length),rows[j].length=1)) a.length ⟨0,List.replicate a.length [i64 0],by simp⟩ ?_⟩
 rintro k s h n ⟨i,rows,rfl,hi,s0,s3,s4,rfl,rfl,hr,hj,hc⟩
 by_cases hlt:i<a.length
 ·have hm:=hc i (by omega)
  have htl:rows[i].tail=[]:=List.eq_nil_of_length_eq_zero (by simp [hm])
  simp [s0,s3,s4,hlt,hr,hm]
  intro _
  refine ⟨a.length - (i+1),by omega,i+1,rfl,by omega,by rw [J0p (by omega)];rfl,rows.set i [i64 a[i]],by simp [htl],by simp [hr],fun j hj' => ?_,fun j hj' => ?_⟩
  ·rw [List.getElem?_set]
   by_cases hji:i=j
   ·subst hji;simp [hr,hlt]
   ·rw [if_neg hji];simpa using hj j (by omega)
  ·rw [List.getElem_set]
   split
   ·rfl
   ·exact hc j (by simpa using hj')
 ·simp [s0,s3,s4,hlt,hr]
  intro _
  have:rows=J0k a:=List.ext_getElem? fun j=>by
   by_cases hji:j<i
   ·exact hj j hji
   ·rw [List.getElem?_eq_none (by omega),List.getElem?_eq_none (by simp;omega)]
  subst this
  simp [List.take_of_length_le]
theorem Jur (a b:List Int):Holds Tryz.prog 87 [.sl 1 (J0k a),.sl 1 (J0k b)] (fun r=>r = .bool (decide (a=b))):=by
 refine J03 Tryz.func87 a87_ok rfl (by simp [a87]) ?_
 simp [a87]
 intro h1 h2
 refine ⟨fun h e=>h (by rw [e]),fun hl=>Jdi (fun k s h n=>∃ i:Nat,k=a.length - i∧i≤a.length∧s 0=K1y a∧s 1=K1y b∧s 5=i64 i∧(∀ j,j<i→a[j]? = b[j]?)∧h=J87∧n=0) a.length ⟨0,by simp⟩ ?_⟩
 rintro k s h n ⟨i,rfl,hi,s0,s1,s5,hj,rfl,rfl⟩
 have hl:a.length=b.length:=by omega
 by_cases hlt:i<a.length
 ·have hlt':i<b.length:=by omega
  unfold LIM at h1
  simp [s0,s1,s5,hlt,hlt']
  intro _
  refine ⟨fun h e=>h (by subst e;rfl),fun e=>⟨a.length - (i+1),by omega,i+1,rfl,by omega,by rw [J0p (by omega)];rfl,fun j hj' => ?_⟩⟩
  by_cases hji:j=i
  ·subst hji;simp [hlt,hlt',e]
  ·exact hj j (by omega)
 ·simp [s0,s1,s5,hlt]
  intro _
  refine List.ext_getElem? fun j => ?_
  by_cases hji:j<i
  ·exact hj j hji
  ·rw [List.getElem?_eq_none (by omega),List.getElem?_eq_none (by omega)]
theorem Jl1 (l:List Str) (left:Int) (h0:0≤left∧left≤4611686018427387904):Holds Tryz.prog 211 [.sl 1 (J0d l),i64 left] (fun r=>r=i64 (J3b left (J3q l))):=by
 rw [show J3q l=wL List.length l from rfl,←J6r (w:=List.length) (g:=fun x lf=>J3b lf x.length) (fun _ _ _=>rfl) l left h0.1]
 refine J03 Tryz.func211 a211_ok rfl (by simp [a211]) ?_
 simp [a211]
 intro h1
 unfold LIM at h1
 unfold szL
 rw [J0p (by omega)]
 refine ⟨fun h=>by rw [if_pos (by omega)],fun h=>Jdi (fun k s h n=>∃ (i:Nat) (lf:Int),k=l.length - i∧i≤l.length∧s 0=strs l∧s 1=i64 lf∧s 5=i64 i∧0≤lf∧lf≤left∧J8d (fun (x:Str) lf=>J3b lf x.length) (l.drop i) lf=J8d (fun (x:Str) lf=>J3b lf x.length) l (left - l.length)∧h=J87∧n=0) l.length ⟨0,left - l.length,by simp;omega⟩ ?_⟩
 rintro k s h n ⟨i,lf,rfl,hi,s0,s1,s5,hf,hlf,hj,rfl,rfl⟩
 rw [if_neg (by omega),←hj]
 by_cases hlt:i<l.length
 ·rw [List.drop_eq_getElem_cons hlt] at hj ⊢
  simp only [J8d] at hj ⊢
  simp [s0,s1,s5,hlt]
  intro _ h2
  unfold LIM at h2
  rw [J0p (by omega)]
  by_cases hx:lf - (l[i].length:Int)<0
  ·rw [Jdt hx]
   simp;exact fun h=>by omega
  ·rw [Jn8 hx] at hj ⊢
   rw [if_neg hx] at hj ⊢
   refine ⟨fun h=>by omega,fun _=>⟨l.length - (i+1),by omega,i+1,rfl,by omega,by rw [J0p (by omega)];rfl,by omega,by omega,rfl⟩⟩
 ·rw [List.drop_eq_nil_of_le (by omega)] at hj ⊢
  simp [s0,s1,s5,hlt,J8d]
theorem Jlu (a:List Str) (hw:J3q a≤1048576):Holds Tryz.prog 225 [.sl 1 (J0d a)] (fun r=>r = .us 1 (J0d a)):=by
 have hw:=Nat.le_trans (J2h _ _) hw
 refine J03 Tryz.func225 a225_ok rfl (by simp [a225]) ?_
 simp [a225]
 intro h1
 refine ⟨by unfold LIM;omega,Jdi (fun k s h n=>∃ (i:Nat) (rows:List (List AV)),k=a.length - i∧i≤a.length∧s 0=strs a∧s 3 = .ref 0 0 a.length∧s 4=i64 i∧h=upd J87 0 (some ⟨false,1,rows⟩)∧n=1 ∧
  rows.length=a.length∧(∀ j,j<i→rows[j]? = (J0d a)[j]?)∧(∀ j (hj:j<rows.length),rows[j].length=1)) a.length ⟨0,List.replicate a.length [.str []],by simp⟩ ?_⟩
 rintro k s h n ⟨i,rows,rfl,hi,s0,s3,s4,rfl,rfl,hr,hj,hc⟩
 by_cases hlt:i<a.length
 ·have hm:=hc i (by omega)
  have htl:rows[i].tail=[]:=List.eq_nil_of_length_eq_zero (by simp [hm])
  simp [s0,s3,s4,hlt,hr,hm]
  intro _
  refine ⟨a.length - (i+1),by omega,i+1,rfl,by omega,by rw [J0p (by omega)];rfl,rows.set i [.str a[i]],by simp [htl],by simp [hr],fun j hj' => ?_,fun j hj' => ?_⟩
  ·rw [List.getElem?_set]
   by_cases hji:i=j
   ·subst hji;simp [hr,hlt]
   ·rw [if_neg hji];simpa using hj j (by omega)
  ·rw [List.getElem_set]
   split
   ·rfl
   ·exact hc j (by simpa using hj')
 ·simp [s0,s3,s4,hlt,hr]
  intro _
  have:rows=J0d a:=List.ext_getElem? fun j=>by
   by_cases hji:j<i
   ·exact hj j hji
   ·rw [List.getElem?_eq_none (by omega),List.getElem?_eq_none (by simp;omega)]
  subst this
  simp [List.take_of_length_le]
theorem Jlm (a b:List Str):Holds Tryz.prog 73 [.sl 1 (J0d a),.sl 1 (J0d b)] (fun r=>r = .bool (decide (a=b))):=by
 refine J03 Tryz.func73 a73_ok rfl (by simp [a73]) ?_
 simp [a73]
 intro h1 h2
 refine ⟨fun h e=>h (by rw [e]),fun hl=>Jdi (fun k s h n=>∃ i:Nat,k=a.length - i∧i≤a.length∧s 0=strs a∧s 1=strs b∧s 5=i64 i∧(∀ j,j<i→a[j]? = b[j]?)∧h=J87∧n=0) a.length ⟨0,by simp⟩ ?_⟩
 rintro k s h n ⟨i,rfl,hi,s0,s1,s5,hj,rfl,rfl⟩
 have hl:a.length=b.length:=by omega
 by_cases hlt:i<a.length
 ·have hlt':i<b.length:=by omega
  unfold LIM at h1
  simp [s0,s1,s5,hlt,hlt']
  intro _
  refine ⟨fun h e=>h (by subst e;rfl),fun e=>⟨a.length - (i+1),by omega,i+1,rfl,by omega,by rw [J0p (by omega)];rfl,fun j hj' => ?_⟩⟩
  by_cases hji:j=i
  ·subst hji;simp [hlt,hlt',e]
  ·exact hj j (by omega)
 ·simp [s0,s1,s5,hlt]
  intro _
  refine List.ext_getElem? fun j => ?_
  by_cases hji:j<i
  ·exact hj j hji
  ·rw [List.getElem?_eq_none (by omega),List.getElem?_eq_none (by omega)]
theorem Jxq (x:DLin) (left:Int) (h0:0≤left∧left≤4611686018427387904):Holds Tryz.prog 21 [.agg (J06 x),i64 left] (fun r=>r=i64 (J3b left (Jbw x))):=by
 refine J03 Tryz.func21 a21_ok rfl (by simp [a21]) ?_
 simp [a21,J06]
 have e0:Jbw x=Jbw x:=rfl
 conv at e0=>rhs;unfold Jbw
 refine J01 (Jt5 x.Coeffs left (by omega)) (by simp) ?_
 rintro r rfl
 by_cases h1:left - (Jjb x.Coeffs:Nat)<0
 case pos=>
  have q:left - (Jbw x:Int)<0:=by omega
  simp [J3b,h1,q]
  try first|omega|(constructor <;> intros <;> omega)
 simp [J3b,h1]
 try (rw [if_neg (by omega)];omega)
theorem Jwj (x:DLin) (_hw:Jbw x≤1048576):Holds Tryz.prog 23 [.agg (J06 x)] (fun r=>r = .agg (J08 x)):=by
 have hw:=_hw;unfold Jbw at hw
 refine J03 Tryz.func23 a23_ok rfl (by simp [a23]) ?_
 simp [a23,J06]
 refine J01 (Jsm x.Coeffs (by omega)) (by simp []) ?_
 rintro r rfl
 simp []
 try simp [J08]
theorem Jp6 (x y:DLin):Holds Tryz.prog 25 [.agg (J06 x),.agg (J06 y)] (fun r=>r = .bool (decide (x=y))):=by
 refine J03 Tryz.func25 a25_ok rfl (by simp [a25]) ?_
 simp [a25,J06]
 by_cases h0:x.Const=y.Const
 case neg=>simp [h0];try exact fun e=>h0 (by rw [e])
 simp [h0]
 refine J01 (Jur x.Coeffs y.Coeffs) (by simp []) ?_
 rintro r rfl
 by_cases h1:x.Coeffs=y.Coeffs
 case neg=>simp [h1];try exact fun e=>h1 (by rw [e])
 simp [h1]
 cases x;cases y;simp_all
theorem a95_ok:J09 Tryz.prog Tryz.f95=some (tSz true 2 21):=by kernel_rfl
theorem Jm5 (l:List DLin) (left:Int) (h0:0≤left∧left≤4611686018427387904):Holds Tryz.prog 95 [.sl 2 (l.map J06),i64 left] (fun r=>r=i64 (J3b left (J96 l))):=by
 rw [show J96 l=wL Jbw l from rfl,←J6r (w:=Jbw) (g:=fun x lf=>J3b lf (Jbw x)) (fun _ _ _=>rfl) l left h0.1]
 exact J6g Tryz.func95 a95_ok rfl (rowOf:=J06) (eltOf:=(fun x => .agg (J06 x))) (fun x=>by simp [J06]) (fun x h=>by simp [J06]) (fun x lf h=>J9k h) l left h0 (fun x lf _ hl=>Jxq x lf hl)
theorem a101_ok:J09 Tryz.prog Tryz.f101=some (tTo true 2 32 23 [.int .i64 0,.nil 1]):=by kernel_rfl
theorem Jlx (l:List DLin) (hw:J96 l≤1048576):Holds Tryz.prog 101 [.sl 2 (l.map J06)] (fun r=>r = .us 2 (l.map J08)):=
 J6c Tryz.func101 a101_ok rfl (rowOf:=J06) (eltOf:=(fun x => .agg (J06 x))) (eltU:=(fun x => .agg (J08 x))) (fun x=>by simp [J06]) (fun x h=>by simp [J06]) (fun x=>by simp) (fun x=>by simp [J08]) (fun x=>by simp [J08]) rfl l (by have:=J2h Jbw l;unfold J96 at hw;unfold LIM;omega) (fun x h=>Jwj x (by have:=J3n (w:=Jbw) h;unfold J96 at hw;omega))
theorem a107_ok:J09 Tryz.prog Tryz.f107=some (tEq true 2 25):=by kernel_rfl
theorem Ji3 (l m:List DLin):Holds Tryz.prog 107 [.sl 2 (l.map J06),.sl 2 (m.map J06)] (fun r=>r = .bool (decide (l=m))):=by
 rw [←J81]
 exact J5m Tryz.func107 a107_ok rfl (rowOf:=J06) (eltOf:=(fun x => .agg (J06 x))) (fun x=>by simp [J06]) (fun x h=>by simp [J06]) l m (fun x y _ _=>Jp6 x y)
theorem Jnr (x y:DSystem):Holds Tryz.prog 194 [.agg (J4f x),.agg (J4f y)] (fun r=>r = .bool (decide (x=y))):=by
 refine J03 Tryz.func194 a194_ok rfl (by simp [a194]) ?_
 simp [a194,J4f]
 by_cases h0:x.N=y.N
 case neg=>simp [h0];try exact fun e=>h0 (by rw [e])
 simp [h0]
 refine J01 (Ji3 x.Rows y.Rows) (by simp []) ?_
 rintro r rfl
 by_cases h1:x.Rows=y.Rows
 case neg=>simp [h1];try exact fun e=>h1 (by rw [e])
 simp [h1]
 cases x;cases y;simp_all
theorem Jg3 (x y:DObligation):Holds Tryz.prog 106 [.agg (J0n x),.agg (J0n y)] (fun r=>r = .bool (decide (x=y))):=by
 refine J03 Tryz.func106 a106_ok rfl (by simp [a106]) ?_
 simp [a106,J0n]
 refine J01 (Jnr x.System y.System) (by simp [J4f]) ?_
 rintro r rfl
 by_cases h0:x.System=y.System
 case neg=>simp [h0];try exact fun e=>h0 (by rw [e])
 simp [h0]
 refine J01 (Jp6 x.Target y.Target) (by simp [J06]) ?_
 rintro r rfl
 by_cases h1:x.Target=y.Target
 case neg=>simp [h1];try exact fun e=>h1 (by rw [e])
 simp [h1]
 cases x;cases y;simp_all
theorem a34_ok:J09 Tryz.prog Tryz.f34=some (tEq true 4 106):=by kernel_rfl
theorem J3r (l m:List DObligation):Holds Tryz.prog 34 [.sl 4 (l.map J0n),.sl 4 (m.map J0n)] (fun r=>r = .bool (decide (l=m))):=by
 rw [←J81]
 exact J5m Tryz.func34 a34_ok rfl (rowOf:=J0n) (eltOf:=(fun x => .agg (J0n x))) (fun x=>by simp [J0n]) (fun x h=>by simp [J0n]) l m (fun x y _ _=>Jg3 x y)
end Go.Proofs.YtoclolkigjbcgaaGreat
