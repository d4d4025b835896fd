/- Contracts: an expression at the values of its arguments. -/
import Derived.Test.YtoclolkigjbcgaaGreatWC1
import Derived.Test.YtoclolkigjbcgaaGreatWT1
namespace Go.Proofs.YtoclolkigjbcgaaGreat
set_option maxRecDepth 40000
set_option maxHeartbeats 4000000
open Go Go.RowKit Go.Proofs
set_option linter.all false
theorem a144_ok:J0a Tryz.prog Tryz.f144=some (J2r 231):=by kernel_rfl
theorem a231_ok:J0a Tryz.prog Tryz.f231=some (J3h true 2):=by kernel_rfl
def a307:AFn:= ⟨8,[.t 3],(.seq (.reg [Zo 2 (.boxv (.t 0)),Zo 3 (.mv (.k (.bool false)))]) (.seq (.reg [Zl 4 true 2 2,Zl 5 false 1 1,Zc 6 146 [.t 4,.t 5],Zo 7 (.un .not (.t 6)),Zv 3 7]) .ret))⟩
theorem a307_ok:J0a Tryz.prog Tryz.f307=some a307:=by kernel_rfl
def a272:AFn:= ⟨57,[(.c 4 true 2),.t 5],(.seq (.reg [Zo 2 (.boxv (.t 0)),Zo 4 (.box [(.int .i64 0),(.nil 1)]),Zo 5 (.mv (.k (.bool false)))]) (.seq (.reg [Zo 6 (.box [(.int .i64 0)]),⟨no,.st 1 (.t 6) (.k (.int .i64 0)),no⟩]) (.seq (.seq (.reg [Zv 11 1,Zo 12 (.len false (.t 11)),Zo 13 (.bin .gtr (.t 12) (.k (.int .i64 0)))]) (.cond (.t 13) (.reg [Zv 14 1,Zo 15 (.ixa 2 (.t 14) (.k (.int .i64 0))),Zf 16 1 15,Zl 17 false 1 16,Zo 18 (.len false (.t 17)),⟨no,.st 1 (.t 6) (.t 18),no⟩]) .skip)) (.seq (.seq (.reg [Zl 19 true 2 2,Zv 20 1,Zo 21 (.len false (.t 20)),Zc 22 146 [.t 19,.t 21],Zo 23 (.un .not (.t 22)),Zv 24 23,⟨some 25,.mv (.t 1),(some (24,false))⟩,⟨some 26,.mkf (.func 307) [] [.t 6],(some (24,false))⟩,⟨some 27,.call (.k (.fn (.func 144) [] [])) [.t 25,.t 26],(some (24,false))⟩,Zo 28 (.pick (.t 24) (.k (.bool true)) (.t 27))]) (.cond (.t 28) (.seq (.reg [Zo 29 (.build [(.int .i64 0),(.nil 1)] []),⟨no,.st 2 (.t 4) (.t 29),no⟩,Zo 5 (.mv (.k (.bool false)))]) .ret) .skip)) (.seq (.reg [Zf 30 0 2,Zl 31 false 1 30,Zl 32 false 1 6,Zc 33 178 [.t 31,.t 32],Zo 7 (.box [(.int .i64 0),(.nil 1)]),⟨no,.st 2 (.t 7) (.t 33),no⟩]) (.seq (.reg [Zo 8 (.mv (.k (.bool true)))]) (.seq (.seq (.reg [Zv 34 1,Zo 35 (.len false (.t 34)),Zo 36 (.mv (.k (.int .i64 0)))]) (.blk 0 (.loop (.seq (.reg [Zo 37 (.bin .lss (.t 36) (.t 35))]) (.seq (.cond (.t 37) .skip (.exit 0)) (.seq (.blk 1 (.seq (.reg [Zv 38 36,Zo 39 (.ixa 2 (.t 34) (.t 36)),Zl 40 true 2 39,Zo 10 (.box [(.int .i64 0),(.nil 1)]),Zv 9 38,⟨no,.st 2 (.t 10) (.t 40),no⟩]) (.seq (.draw (.op (Zl 42 true 2 7) (.op (Zf 43 1 2) (.op (Zl 44 false 1 43) (.op (Zv 45 9) (.op (Zo 46 (.ixa 1 (.t 44) (.t 45))) (.op (Zl 47 false 1 46) (.op (Zl 48 true 2 10) (.op (Zc 49 193 [.t 42,.t 47,.t 48]) (.op (Zv 41 49) (.op (Zo 50 (.ext (.t 41) 0)) (.op (Zo 51 (.ext (.t 41) 1)) (.hop ⟨no,.st 2 (.t 7) (.t 50),no⟩ [] (.op (Zv 8 51) .fin)))))))))))))) (.seq (.reg [Zv 52 8,Zo 53 (.un .not (.t 52))]) (.cond (.t 53) (.seq (.reg [Zo 54 (.build [(.int .i64 0),(.nil 1)] []),⟨no,.st 2 (.t 4) (.t 54),no⟩,Zo 5 (.mv (.k (.bool false)))]) .ret) .skip))))) (.reg [Zo 55 (.bin .add (.t 36) (.k (.int .i64 1))),Zv 36 55]))))))) (.seq (.reg [Zl 56 true 2 7,⟨no,.st 2 (.t 4) (.t 56),no⟩,Zo 5 (.mv (.k (.bool true)))]) .ret))))))))⟩
theorem a272_ok:J0a Tryz.prog Tryz.f272=some a272:=by kernel_rfl
def a269:AFn:= ⟨60,[(.c 4 true 2),.t 5],(.seq (.reg [Zo 2 (.boxv (.t 0)),Zo 4 (.box [(.int .i64 0),(.nil 1)]),Zo 5 (.mv (.k (.bool false)))]) (.seq (.reg [Zo 6 (.mv (.k (.int .i64 0)))]) (.seq (.seq (.reg [Zv 11 1,Zo 12 (.len false (.t 11)),Zo 13 (.bin .gtr (.t 12) (.k (.int .i64 0)))]) (.cond (.t 13) (.reg [Zv 14 1,Zo 15 (.ixa 2 (.t 14) (.k (.int .i64 0))),Zf 16 1 15,Zl 17 false 1 16,Zo 18 (.len false (.t 17)),Zv 6 18]) .skip)) (.seq (.reg [Zf 19 0 2,Zl 20 false 1 19,Zv 21 6,Zc 22 99 [.t 20,.t 21],Zo 7 (.box [(.int .i64 0),(.nil 1)]),⟨no,.st 2 (.t 7) (.t 22),no⟩]) (.seq (.seq (.reg [Zl 23 true 2 2,Zv 24 1,Zo 25 (.len false (.t 24)),Zc 26 179 [.t 23,.t 25],Zo 27 (.un .not (.t 26)),Zv 28 27,⟨some 29,.ld true 2 (.t 7),(some (28,false))⟩,⟨some 30,.mv (.t 6),(some (28,false))⟩,⟨some 31,.call (.k (.fn (.func 179) [] [])) [.t 29,.t 30],(some (28,false))⟩,⟨some 32,.un .not (.t 31),(some (28,false))⟩,Zo 33 (.pick (.t 28) (.k (.bool true)) (.t 32))]) (.cond (.t 33) (.seq (.reg [Zo 34 (.build [(.int .i64 0),(.nil 1)] []),⟨no,.st 2 (.t 4) (.t 34),no⟩,Zo 5 (.mv (.k (.bool false)))]) .ret) .skip)) (.seq (.seq (.reg [Zo 8 (.mv (.k (.int .i64 0)))]) (.blk 0 (.loop (.seq (.seq (.reg [Zv 35 8,Zv 36 1,Zo 37 (.len false (.t 36)),Zo 38 (.bin .lss (.t 35) (.t 37))]) (.cond (.t 38) .skip (.exit 0))) (.seq (.blk 1 (.seq (.draw (.op (Zl 42 true 2 7) (.op (Zf 43 1 2) (.op (Zl 44 false 1 43) (.op (Zv 45 8) (.op (Zo 46 (.ixa 1 (.t 44) (.t 45))) (.op (Zl 47 false 1 46) (.op (Zv 48 1) (.op (Zv 49 8) (.op (Zo 50 (.ixa 2 (.t 48) (.t 49))) (.op (Zl 51 true 2 50) (.both (.op (Zc 52 98 [.t 42,.t 47,.t 51]) (.op (Zv 41 52) (.op (Zo 53 (.ext (.t 41) 0)) (.op (Zo 54 (.ext (.t 41) 1)) (.op (Zo 9 (.box [(.int .i64 0),(.nil 1)])) (.hop ⟨no,.st 2 (.t 9) (.t 53),no⟩ [] (.op (Zv 10 54) .fin))))))) (.op (Zo 9 (.box [(.int .i64 0),(.nil 1)])) (.op (Zc 52 98 [.t 42,.t 47,.t 51]) (.op (Zv 41 52) (.op (Zo 53 (.ext (.t 41) 0)) (.op (Zo 54 (.ext (.t 41) 1)) (.hop ⟨no,.st 2 (.t 9) (.t 53),no⟩ [] (.op (Zv 10 54) .fin))))))))))))))))))) (.seq (.seq (.reg [Zv 55 10,Zo 56 (.un .not (.t 55))]) (.cond (.t 56) (.seq (.reg [Zo 57 (.build [(.int .i64 0),(.nil 1)] []),⟨no,.st 2 (.t 4) (.t 57),no⟩,Zo 5 (.mv (.k (.bool false)))]) .ret) .skip)) (.reg [Zl 58 true 2 9,⟨no,.st 2 (.t 7) (.t 58),no⟩])))) (.reg [Zv 39 8,Zo 40 (.bin .add (.t 39) (.k (.int .i64 1))),Zv 8 40])))))) (.seq (.reg [Zl 59 true 2 7,⟨no,.st 2 (.t 4) (.t 59),no⟩,Zo 5 (.mv (.k (.bool true)))]) .ret)))))))⟩
theorem a269_ok:J0a Tryz.prog Tryz.f269=some a269:=by kernel_rfl
def J5d:List (Int×DLin)→DLin→Option DLin
 | [],o=>some o
 | p::l,o=>match J0b o p.1 p.2 with
  | some o'=>J5d l o'
  | Option.none=>Option.none
def Jgn (args:List DLin):Nat:=match args with | []=>0|a::_=>a.Coeffs.length
def J3q (l:DLin) (args:List DLin):Option DLin:=
 if J1c l args.length&&J1c (J04 l.Const (Jgn args)) (Jgn args) then J5d (l.Coeffs.zip args) (J04 l.Const (Jgn args)) else Option.none
theorem J7f {a b o:DLin}{k:Int}(h:J0b a k b=some o):o.Coeffs.length=a.Coeffs.length∧J1c b a.Coeffs.length=true:=by
 unfold J0b at h
 split at h
 ·rename_i hc
  simp only [Bool.and_eq_true] at hc
  have h1:=J1t hc.1.1.1.1
  have h2:=J1t hc.1.1.1.2
  cases h
  refine ⟨?_,hc.1.1.1.2⟩
  simp [J4i];omega
 ·cases h
theorem Jfz {n:Nat} : ∀ (l:List (Int×DLin)) (o:DLin),o.Coeffs.length=n→(∃ p∈l,J1c p.2 n=false)→J5d l o=Option.none
 | [],o,_,h=>by obtain ⟨p,hp,_⟩:=h;cases hp
 | q::l,o,hn,h=>by
  obtain ⟨p,hp,hb⟩:=h
  simp only [J5d]
  split
  ·rename_i o' ho
   obtain ⟨h1,h2⟩:=J7f ho
   rcases List.mem_cons.1 hp with rfl|hp
   ·rw [hn,hb] at h2;cases h2
   ·exact Jfz l o' (by omega) ⟨p,hp,hb⟩
  ·rfl
theorem J4a {c:Int}{n:Nat}(hc:okC c=true) (hn:(n:Int)≤8):J04 c n=⟨c,List.replicate n 0⟩∧J1c (J04 c n) n=true:=by
 have h:J04 c n=⟨c,List.replicate n 0⟩:=by
  unfold J04
  rw [if_pos (by simp [inR,hc];omega)];simp
 refine ⟨h,?_⟩
 rw [h]
 simp [J1c,inR,hc,hn]
 right;decide
theorem Jha {l:DLin}{n:Int}(h:J1c l n=true):okC l.Const=true:=by
 unfold J1c at h;simp only [Bool.and_eq_true] at h;exact h.1.2
theorem Jdx {l:DLin}{args:List DLin}(h1:J1c l args.length=true):J3q l args=if args.all (fun a=>J1c a (Jgn args)) then J5d (l.Coeffs.zip args) (J04 l.Const (Jgn args)) else Option.none:=by
 unfold J3q
 rw [h1,Bool.true_and]
 have hl:=J1t h1
 cases h2:args.all (fun a=>J1c a (Jgn args))
 ·simp only [Bool.false_eq_true,if_false]
  split
  ·rename_i h3
   have h3':=J1t h3
   rw [List.all_eq_false] at h2
   obtain ⟨a,ha,hb⟩:=h2
   obtain ⟨i,hi,rfl⟩:=List.mem_iff_getElem.1 ha
   refine Jfz (n:=Jgn args) _ _ (by omega) ⟨(l.Coeffs[i]'(by omega),args[i]),List.mem_iff_getElem.2 ⟨i,by simp;omega,by simp⟩,by simpa using hb⟩
  ·rfl
 ·have hn:((Jgn args:Nat):Int)≤8:=by
   cases args with
   | nil=>simp [Jgn]
   | cons a rest=>
    simp only [List.all_cons,Bool.and_eq_true] at h2
    exact (J1t h2.1).2.2
  rw [if_pos (J4a (Jha h1) hn).2,if_pos rfl]
theorem Jlw {h:Heap}{n id:Nat}{v:Int}(x:DLin) (hv:h id=some ⟨true,1,[[i64 v]]⟩) (hid:id<n):Jf2 Tryz.prog 307 [] [.ptr id 0 0] h n (.agg (J06 x)) (.bool (!J1c x v)):=by
 intro K hK
 refine J9a ?_
 refine J1z Tryz.func307 a307_ok rfl (by simp [a307]) ?_
 have n1:¬id=n:=by omega
 simp [a307,hv,n1,J06]
 first|refine J00 (J0z x v) (by first|simp [J06];done|rfl) ?_|refine J01 (J0z x v) (by first|simp [J06];done|rfl) ?_
 rintro r rfl
 simp [Jo0,hK]
 intro j hj hj'
 omega
set_option maxHeartbeats 1000000 in
theorem J8d (l:DLin) (args:List DLin):Holds Tryz.prog 272 [.agg (J06 l),.sl 2 (args.map J06)] (fun r=>r=J0s (J3q l args)):=by
 refine J1k Tryz.func272 rfl rfl fun hlm => ?_
 simp [J06] at hlm
 have hN:(args.length=0∧Jgn args=0)∨∃ hz:0<args.length,Jgn args=(args[0]'hz).Coeffs.length:=by
  cases args with
  | nil=>exact .inl ⟨rfl,rfl⟩
  | cons a rest=>exact .inr ⟨by simp,rfl⟩
 rcases hN with ⟨hz,hN⟩|⟨hz,hN⟩
 ·refine J02 Tryz.func272 a272_ok rfl (by simp [a272]) ?_
  simp [a272,J06]
  simp [hz]
  intro hnil
  subst hnil
  first|refine J00 (J0z l 0) (by first|simp [J06];done|rfl) ?_|refine J01 (J0z l 0) (by first|simp [J06];done|rfl) ?_
  rintro r rfl
  cases h1:J1c l 0
  ·have e:J3q l []=Option.none:=by simp [J3q,h1]
   simp [e,J0s,J1d,J07,J0e]
  have e:J3q l []=some (J04 l.Const 0):=by rw [Jdx h1];simp [Jgn,J5d]
  rw [e]
  simp
  refine J1e (p:=fun x => !J1c x 0) (rowOf:=J06) (eltOf:=fun x => .agg (J06 x)) Tryz.func144 a144_ok rfl Tryz.func231 a231_ok rfl (fun x=>by simp) [] (fun x hx=>by cases hx) ?_
  simp
  first|refine J00 (J11 l.Const 0) (by first|simp;done|rfl) ?_|refine J01 (J11 l.Const 0) (by first|simp;done|rfl) ?_
  rintro r rfl
  simp [J07]
  refine J4m [4,5,7,35] 36 0 (fun i s=>True) (by decide) (by simp) trivial ?_ ?_
  ·intro i s h R hi;omega
  ·rintro s h R hk s36 _ hh _ hX
   simp at hk hh
   simp [hk,s36,hh]
   refine hX _ _ ?_
   simp [hk,hh,J0s,J07]
 ·refine J02 Tryz.func272 a272_ok rfl (by simp [a272]) ?_
  simp [a272,J06]
  have hne:¬args=[]:=by rintro rfl;simp at hz
  simp [hz,hne,J06]
  intro _ _ _
  first|refine J00 (J0z l args.length) (by first|simp [J06];done|rfl) ?_|refine J01 (J0z l args.length) (by first|simp [J06];done|rfl) ?_
  rintro r rfl
  cases h1:J1c l args.length
  ·have e:J3q l args=Option.none:=by simp [J3q,h1]
   simp [e,J0s,J1d,J07,J0e]
  rw [Jdx h1,hN]
  generalize hc3:(args.all fun x=>J1c x (args[0].Coeffs.length:Int))=b3
  have hla:=J1t h1
  simp
  refine J1e (p:=fun x => !J1c x (args[0].Coeffs.length:Int)) (rowOf:=J06) (eltOf:=fun x => .agg (J06 x)) Tryz.func144 a144_ok rfl Tryz.func231 a231_ok rfl (fun x=>by simp) args (fun x _=>Jlw x (by simp [i64]) (by omega)) ?_
  rw [J88 (fun x:DLin=>J1c x (args[0].Coeffs.length:Int)),hc3]
  cases b3
  ·simp [J0s,J1d,J07,J0e]
  simp
  first|refine J00 (J11 l.Const (args[0].Coeffs.length:Int)) (by first|simp;done|rfl) ?_|refine J01 (J11 l.Const (args[0].Coeffs.length:Int)) (by first|simp;done|rfl) ?_
  rintro r rfl
  simp [J07]
  intro _
  have hzl:(l.Coeffs.zip args).length=args.length:=by simp;omega
  generalize hG:J5d (l.Coeffs.zip args) (J04 l.Const (args[0].Coeffs.length:Int))=G
  refine J0k [1,2,4,7,34,35] 36 args.length (fun i s h n=>h 0=some ⟨true,2,[[.int .i64 l.Const,.sl 1 (J0e l.Coeffs)]]⟩∧h 1=some ⟨true,2,[[.int .i64 0,.nil 1]]⟩∧4<n ∧
   ∃ (o:DLin) (id:Nat),h 4=some ⟨true,2,[[.int .i64 o.Const,.ref id 0 o.Coeffs.length]]⟩∧h id=some ⟨false,1,J0e o.Coeffs⟩∧id<n∧(id=3∨4<id)∧J5d ((l.Coeffs.zip args).drop i) o=G)
   hlm.2 (by simp) ⟨by simp,by simp,by simp,J04 l.Const (args[0].Coeffs.length:Int),3,by simp,by simp,by omega,by omega,by simpa using hG⟩ ?_ ?_
  ·rintro i s h n R hi hg hk s36 hw ⟨e0,e1,hn,o,id,e4,eid,hidn,hid,hJ⟩ hR hret _
   simp at hk
   have hir:i<l.Coeffs.length:=by omega
   rw [List.drop_eq_getElem_cons (by omega:i<(l.Coeffs.zip args).length)] at hJ
   simp only [J5d,List.getElem_zip] at hJ
   have n0:¬0=n:=by omega
   have n1:¬1=n:=by omega
   have n4:¬4=n:=by omega
   have n4':¬n=4:=by omega
   have nid:¬id=n:=by omega
   simp [hk,s36,hi,hg,hw,hir,e0,e1,e4,eid,n0,n1,n4,n4',nid]
   refine ⟨by simp [J06],?_⟩
   have m0:¬0=n+1:=by omega
   have m1:¬1=n+1:=by omega
   have m4:¬4=n+1:=by omega
   have m4':¬n+1=4:=by omega
   have m3':¬n=3:=by omega
   have z0:¬n=0:=by omega
   first|refine J00 (J0q o (l.Coeffs[i]'hir) (args[i]'hi)) (by first|simp [J06,eid,nid];done|rfl) ?_|refine J01 (J0q o (l.Coeffs[i]'hir) (args[i]'hi)) (by first|simp [J06,eid,nid];done|rfl) ?_
   rintro r rfl
   cases ho:J0b o l.Coeffs[i] args[i]
   ·rw [ho] at hJ
    simp [J0s,J1d,J07,hk,e0,e1,e4,n0,n1,n4,n4',m0,m1,m4,m4',m3',z0]
    refine hret _ _ _ ?_
    simp [hk,←hJ,J0s,J1d,J07,J0e,m1,n1,z0]
   ·rename_i o'
    rw [ho] at hJ
    simp only at hJ
    simp [J0s,J07,hk,s36,hw,e0,e1,e4,n0,n1,n4,n4',m0,m1,m4,m4',m3',z0]
    exact hR _ _ _ (by simp [hk]) (by simp) ⟨by simp [e0,n0,m0],by simp [e1,n1,m1,z0],by omega,o',n+1,by simp,by simp [m3'],by omega,by omega,hJ⟩
  ·rintro s h n R hk s36 ⟨e0,e1,hn,o,id,e4,eid,hidn,hid,hJ⟩ hret hX
   simp at hk
   rw [List.drop_eq_nil_of_le (by omega)] at hJ
   simp only [J5d] at hJ
   simp [hk,s36]
   refine hX _ _ _ _ ?_
   have i1:¬1=id:=by omega
   have i1':¬id=1:=by omega
   simp [hk,e1,e4,eid,←hJ,J0s,J07,i1,i1']
set_option maxHeartbeats 1000000 in
theorem J7t (l:DLin) (args:List DLin):Holds Tryz.prog 269 [.agg (J06 l),.sl 2 (args.map J06)] (fun r=>r=J0s (J3q l args)):=by
 refine J1k Tryz.func269 rfl rfl fun hlm => ?_
 simp [J06] at hlm
 have hN:(args.length=0∧Jgn args=0)∨∃ hz:0<args.length,Jgn args=(args[0]'hz).Coeffs.length:=by
  cases args with
  | nil=>exact .inl ⟨rfl,rfl⟩
  | cons a rest=>exact .inr ⟨by simp,rfl⟩
 rcases hN with ⟨hz,hN⟩|⟨hz,hN⟩
 ·refine J02 Tryz.func269 a269_ok rfl (by simp [a269]) ?_
  simp [a269,J06]
  simp [hz]
  intro hnil
  subst hnil
  first|refine J00 (J13 l.Const 0) (by first|simp;done|rfl) ?_|refine J01 (J13 l.Const 0) (by first|simp;done|rfl) ?_
  rintro r rfl
  simp [J07]
  first|refine J00 (J0p l 0) (by first|simp [J06];done|rfl) ?_|refine J01 (J0p l 0) (by first|simp [J06];done|rfl) ?_
  rintro r rfl
  cases h1:J1c l 0
  ·have e:J3q l []=Option.none:=by simp [J3q,h1]
   simp [e,J0s,J1d,J07,J0e]
  have e:J3q l []=some (J04 l.Const 0):=by rw [Jdx h1];simp [Jgn,J5d]
  rw [e]
  simp
  first|refine J00 (J0p (J04 l.Const 0) 0) (by first|simp [J06];done|rfl) ?_|refine J01 (J0p (J04 l.Const 0) 0) (by first|simp [J06];done|rfl) ?_
  rintro r rfl
  have h2:=(J4a (n:=0) (Jha h1) (by decide)).2
  rw [show ((0:Nat):Int)=0 from rfl] at h2
  simp [h2]
  refine J4m [1,4,5,6,7] 8 0 (fun i s=>True) (by decide) (by simp) trivial ?_ ?_
  ·intro i s h R hi;omega
  ·rintro s h R hk s8 _ hh _ hX
   simp at hk hh
   simp [hk,s8,hh]
   refine hX _ _ ?_
   simp [hk,hh,J0s,J07]
 ·refine J02 Tryz.func269 a269_ok rfl (by simp [a269]) ?_
  simp [a269,J06]
  have hne:¬args=[]:=by rintro rfl;simp at hz
  simp [hz,hne,J06]
  intro _ _
  first|refine J00 (J13 l.Const (args[0].Coeffs.length:Int)) (by first|simp;done|rfl) ?_|refine J01 (J13 l.Const (args[0].Coeffs.length:Int)) (by first|simp;done|rfl) ?_
  rintro r rfl
  simp [J07]
  intro _
  first|refine J00 (J0p l args.length) (by first|simp [J06];done|rfl) ?_|refine J01 (J0p l args.length) (by first|simp [J06];done|rfl) ?_
  rintro r rfl
  cases h1:J1c l args.length
  ·have e:J3q l args=Option.none:=by simp [J3q,h1]
   simp [e,J0s,J1d,J07,J0e]
  have e:J3q l args=if J1c (J04 l.Const (args[0].Coeffs.length:Int)) (args[0].Coeffs.length:Int) then J5d (l.Coeffs.zip args) (J04 l.Const (args[0].Coeffs.length:Int)) else Option.none:=by
   unfold J3q;rw [h1,hN,Bool.true_and]
  rw [e]
  have hla:=J1t h1
  simp
  first|refine J00 (J0p (J04 l.Const (args[0].Coeffs.length:Int)) (args[0].Coeffs.length:Int)) (by first|simp [J06];done|rfl) ?_|refine J01 (J0p (J04 l.Const (args[0].Coeffs.length:Int)) (args[0].Coeffs.length:Int)) (by first|simp [J06];done|rfl) ?_
  rintro r rfl
  generalize hc3:J1c (J04 l.Const (args[0].Coeffs.length:Int)) (args[0].Coeffs.length:Int)=b3
  cases b3
  ·simp [J0s,J1d,J07,J0e]
  simp
  have hzl:(l.Coeffs.zip args).length=args.length:=by simp;omega
  generalize hG:J5d (l.Coeffs.zip args) (J04 l.Const (args[0].Coeffs.length:Int))=G
  refine J0k [1,2,4,6,7] 8 args.length (fun i s h n=>h 0=some ⟨true,2,[[.int .i64 l.Const,.sl 1 (J0e l.Coeffs)]]⟩∧h 1=some ⟨true,2,[[.int .i64 0,.nil 1]]⟩∧3<n ∧
   ∃ (o:DLin) (id:Nat),h 3=some ⟨true,2,[[.int .i64 o.Const,.ref id 0 o.Coeffs.length]]⟩∧h id=some ⟨false,1,J0e o.Coeffs⟩∧id<n∧(id=2∨3<id)∧J5d ((l.Coeffs.zip args).drop i) o=G)
   hlm.2 (by simp) ⟨by simp,by simp,by simp,J04 l.Const (args[0].Coeffs.length:Int),2,by simp,by simp,by omega,by omega,by simpa using hG⟩ ?_ ?_
  ·rintro i s h n R hi hg hk s8 hw ⟨e0,e1,hn,o,id,e3,eid,hidn,hid,hJ⟩ hR hret _
   simp at hk
   have hir:i<l.Coeffs.length:=by omega
   rw [List.drop_eq_getElem_cons (by omega:i<(l.Coeffs.zip args).length)] at hJ
   simp only [J5d,List.getElem_zip] at hJ
   have n0:¬0=n:=by omega
   have n1:¬1=n:=by omega
   have n3:¬3=n:=by omega
   have n3':¬n=3:=by omega
   have nid:¬id=n:=by omega
   have m0:¬0=n+1:=by omega
   have m1:¬1=n+1:=by omega
   have m3:¬3=n+1:=by omega
   have m3':¬n+1=3:=by omega
   have mid:¬id=n+1:=by omega
   have z0:¬n=0:=by omega
   have z2:¬n=2:=by omega
   simp [hk,s8,hi,hg,hir,e0,e1,e3,eid]
   intro _
   constructor
   ·skip
    first|refine J00 (J0m o (l.Coeffs[i]'hir) (args[i]'hi)) (by first|simp [J06,eid];done|rfl) ?_|refine J01 (J0m o (l.Coeffs[i]'hir) (args[i]'hi)) (by first|simp [J06,eid];done|rfl) ?_
    rintro r rfl
    cases ho:J0b o l.Coeffs[i] args[i]
    ·rw [ho] at hJ
     simp [J0s,J1d,J07,hk,s8,hi,e0,e1,e3,n0,n1,n3,n3',z0,z2]
     refine hret _ _ _ ?_
     simp [hk,←hJ,J0s,J1d,J07,J0e]
    ·rename_i o'
     rw [ho] at hJ
     simp only at hJ
     simp [J0s,J07,hk,s8,hi,hw,e0,e1,e3,n0,n1,n3,n3',z0,z2]
     exact hR _ _ _ (by simp [hk]) (by simp) ⟨by simp [e0,n0],by simp [e1,n1,z0],by omega,o',n,by simp,by simp [n3'],by omega,by omega,hJ⟩
   ·skip
    first|refine J00 (J0m o (l.Coeffs[i]'hir) (args[i]'hi)) (by first|simp [J06,eid,mid,nid];done|rfl) ?_|refine J01 (J0m o (l.Coeffs[i]'hir) (args[i]'hi)) (by first|simp [J06,eid,mid,nid];done|rfl) ?_
    rintro r rfl
    cases ho:J0b o l.Coeffs[i] args[i]
    ·rw [ho] at hJ
     simp [J0s,J1d,J07,hk,s8,hi,e0,e1,e3,n0,n1,n3,n3',z0,z2]
     refine hret _ _ _ ?_
     simp [hk,←hJ,J0s,J1d,J07,J0e]
    ·rename_i o'
     rw [ho] at hJ
     simp only at hJ
     simp [J0s,J07,hk,s8,hi,hw,e0,e1,e3,n0,n1,n3,n3',z0,z2]
     exact hR _ _ _ (by simp [hk]) (by simp) ⟨by simp [e0,n0],by simp [e1,n1,z0],by omega,o',n+1,by simp,by simp [z2],by omega,by omega,hJ⟩
  ·rintro s h n R hk s8 ⟨e0,e1,hn,o,id,e3,eid,hidn,hid,hJ⟩ hret hX
   simp at hk
   rw [List.drop_eq_nil_of_le (by omega)] at hJ
   simp only [J5d] at hJ
   simp [hk,s8]
   intro _
   refine hX _ _ _ _ ?_
   have i1:¬1=id:=by omega
   have i1':¬id=1:=by omega
   simp [hk,e1,e3,eid,←hJ,J0s,J07,i1,i1']
structure DDer where
 l:DLin
 mult:List Int
 scale:Int
def Jct (j x k y:Int):Int×Bool:=((J4b (J63 j x).1 k y).1,(J63 j x).2&&(J4b (J63 j x).1 k y).2)
def J8l (j:Int) (xs:List Int) (k:Int) (ys:List Int):List (Int×Bool):=List.zipWith (fun x y=>Jct j x k y) xs ys
def J87 (a:DDer) (j:Int) (b:DDer) (k:Int):Option DDer:=
 match J0b (J04 0 a.l.Coeffs.length) j a.l with
 | Option.none=>Option.none
 | some l1=>match J0b l1 k b.l with
  | Option.none=>Option.none
  | some l2=>if (Jct j a.scale k b.scale).2&&(J8l j a.mult k b.mult).all (·.2) then some ⟨l2,(J8l j a.mult k b.mult).map (·.1),(Jct j a.scale k b.scale).1⟩ else Option.none
def J15 (v:Nat) (d:DDer):Int:=d.l.Coeffs.getD v 0
def Jlu (p q:Int):Nat:=Nat.gcd p.toNat q.toNat
def J7q (v:Nat) (a b:DDer):Option DDer:=
 J87 a ((-(J15 v b)).tdiv (Jlu (J15 v a) (-(J15 v b)))) b ((J15 v a).tdiv (Jlu (J15 v a) (-(J15 v b))))
def J9m (v:Nat) (l:List DDer) (a:DDer):List DDer:=
 if J15 v a≤0 then [] else l.filterMap fun b=>if -(J15 v b)≤0 then Option.none else J7q v a b
def J6s (v:Nat) (l:List DDer):List DDer:=l.filter (fun d=>J15 v d==0)++l.flatMap (J9m v l)
def goE:Nat→Nat→List DDer→Option (List DDer)
 | _,0,l=>some l
 | v,n+1,l=>if (J6s v l).length≤60 then goE (v+1) n (J6s v l) else Option.none
def J89 (m k:Nat):List Int:=(List.replicate m 0).set k 1
def J8n (rows:List DLin) (last:DLin):List DDer:=
 (List.range rows.length).map (fun k=>(⟨rows.getD k J1d,J89 rows.length k,0⟩:DDer))++[⟨last,List.replicate rows.length 0,1⟩]
def J5j:DFarkas:=⟨0,[]⟩
def J7m (s:DSystem) (t:DLin) (L:List DDer):Option DFarkas:=
 match L.find? fun d=>decide (d.l.Const<0) with
 | Option.none=>Option.none
 | some d=>if J7b s t ⟨d.scale,d.mult⟩ then some ⟨d.scale,d.mult⟩ else Option.none
def Jbq (s:DSystem) (t:DLin):Option DFarkas:=
 if J7y s&&J1c t s.N then
  match J0b (J04 (-1) s.N) (-1) t with
  | Option.none=>Option.none
  | some last=>match goE 0 s.N.toNat (J8n s.Rows last) with
   | Option.none=>Option.none
   | some L=>J7m s t L
 else Option.none
def J9l (o:Option DFarkas):AV := .tup [.agg (J1i (o.getD J5j)),.bool o.isSome]
theorem Jx9 {x y:Int}(h:(Jcf x y).2=true):okC (Jcf x y).1=true:=by
 unfold Jcf at h ⊢
 split at h
 ·rename_i hc
  simp only [Bool.and_eq_true] at hc
  rw [if_pos (by simp [hc])];exact hc.2
 ·cases h
theorem Jf6 {x k y v:Int}(h:J24 x k y=some v):okC v=true:=by
 unfold J24 at h
 split at h
 ·rename_i hc
  simp only [Bool.and_eq_true] at hc
  cases h;exact Jx9 hc.2
 ·cases h
theorem J8y {a b o:DLin}{k:Int}(h:J0b a k b=some o):J1c o a.Coeffs.length=true:=by
 obtain ⟨hl,_⟩:=J7f h
 unfold J0b at h
 split at h
 ·rename_i hc
  simp only [Bool.and_eq_true] at hc
  have h1:=hc.1.1.1.1
  have h4:=hc.1.2
  have h5:=hc.2
  have h6:=J1t h1
  cases h
  unfold J1c
  simp only [Bool.and_eq_true,decide_eq_true_eq,List.all_eq_true]
  refine ⟨⟨⟨by simp [inR];omega,by simp only at hl ⊢;omega⟩,?_⟩,?_⟩
  ·obtain ⟨v,hv⟩:=Option.isSome_iff_exists.1 h4
   rw [hv];exact Jf6 hv
  ·intro y hy
   simp only [List.mem_map] at hy
   obtain ⟨z,hz,rfl⟩:=hy
   have h7:=List.all_eq_true.1 h5 z hz
   obtain ⟨v,rfl⟩:=Option.isSome_iff_exists.1 h7
   unfold J4i at hz
   rw [List.mem_iff_getElem] at hz
   obtain ⟨i,hi,he⟩:=hz
   simp only [List.getElem_zipWith] at he
   exact Jf6 he
 ·cases h
structure GD (N m:Nat) (d:DDer):Prop where
 ok:J1c d.l N=true
 len:d.mult.length=m
theorem GD.cl {N m:Nat}{d:DDer}(g:GD N m d):d.l.Coeffs.length=N:=by have:=J1t g.ok;omega
theorem GD.coef {N m:Nat}{d:DDer}(g:GD N m d) {v:Nat}(hv:v<N):okC (J15 v d)=true:=by
 have h:=g.ok
 have hl:=g.cl
 unfold J1c at h
 simp only [Bool.and_eq_true,List.all_eq_true] at h
 have hlt:v<d.l.Coeffs.length:=by omega
 have e:J15 v d=d.l.Coeffs[v]:=by simp [J15,hlt]
 rw [e]
 exact h.2 _ (List.getElem_mem _)
theorem Jrz {N m:Nat}{a b d:DDer}{j k:Int}(ga:GD N m a) (gb:GD N m b) (h:J87 a j b k=some d):GD N m d:=by
 unfold J87 at h
 have hc:=ga.cl
 have h8:=J1t ga.ok
 have hk0:(J04 0 (a.l.Coeffs.length:Int)).Coeffs.length=N:=by
  rw [(J4a (by decide) (by omega)).1];simp [hc]
 split at h
 ·cases h
 rename_i l1 e1
 split at h
 ·cases h
 rename_i l2 e2
 split at h
 ·cases h
  have k1:=J8y e1
  rw [hk0] at k1
  have k2:=J8y e2
  have k3:=J1t k1
  refine ⟨?_,?_⟩
  ·have:l1.Coeffs.length=N:=by omega
   rw [this] at k2;exact k2
  ·simp [J8l,ga.len,gb.len]
 ·cases h
theorem Jgf {N m v:Nat}{l:List DDer}(h:∀ d∈l,GD N m d):∀ d∈J6s v l,GD N m d:=by
 intro d hd
 unfold J6s at hd
 rcases List.mem_append.1 hd with hd|hd
 ·exact h d (List.mem_filter.1 hd).1
 ·obtain ⟨a,ha,hd⟩:=List.mem_flatMap.1 hd
  unfold J9m at hd
  split at hd
  ·cases hd
  ·obtain ⟨b,hb,he⟩:=List.mem_filterMap.1 hd
   split at he
   ·cases he
   ·exact Jrz (h a ha) (h b hb) he
theorem Jnc {v:Nat}{l:List DDer}{a:DDer} : (J9m v l a).length≤l.length:=by
 unfold J9m
 split
 ·simp
 ·exact List.length_filterMap_le _ _
theorem Jkj {v:Nat}{L:List DDer} : ∀ {l:List DDer},(l.flatMap (J9m v L)).length≤l.length*L.length
 | []=>by simp
 | a::l=>by
  have h1:=Jkj (v:=v) (L:=L) (l:=l)
  have h2:=Jnc (v:=v) (l:=L) (a:=a)
  simp only [List.flatMap_cons,List.length_append,List.length_cons,Nat.succ_mul];omega
theorem Jbk {v:Nat}{l:List DDer} : (J6s v l).length≤l.length+l.length*l.length:=by
 have h1:=List.length_filter_le (fun d=>J15 v d==0) l
 have h2:=Jkj (v:=v) (L:=l) (l:=l)
 unfold J6s
 rw [List.length_append];omega
theorem Jfu (rows:List DLin) (last:DLin):(J8n rows last).length=rows.length+1:=by simp [J8n]
theorem Jp1 {N:Nat}{rows:List DLin}{last:DLin}(h:∀ r∈rows,J1c r N=true) (hl:J1c last N=true):∀ d∈J8n rows last,GD N rows.length d:=by
 intro d hd
 unfold J8n at hd
 rcases List.mem_append.1 hd with hd|hd
 ·obtain ⟨k,hk,rfl⟩:=List.mem_map.1 hd
  have hk:=List.mem_range.1 hk
  refine ⟨?_,by simp [J89]⟩
  have e:rows.getD k J1d=rows[k]:=by simp [hk]
  show J1c (rows.getD k J1d) N=true
  rw [e]
  exact h _ (List.getElem_mem hk)
 ·simp only [List.mem_singleton] at hd
  subst hd
  exact ⟨hl,by simp⟩
theorem Jd8 {s:DSystem}(h:J7y s=true):s.Rows.length≤20∧(0≤s.N∧s.N≤8)∧∀ r∈s.Rows,J1c r (s.N.toNat:Nat)=true:=by
 unfold J7y at h
 simp only [Bool.and_eq_true,decide_eq_true_eq,List.all_eq_true] at h
 have h1:=h.1.1
 simp [inR] at h1
 refine ⟨h.1.2,h1,fun r hr => ?_⟩
 have:((s.N.toNat:Nat):Int)=s.N:=by omega
 rw [this];exact h.2 r hr
theorem Jwr {s:DSystem}{t last:DLin}(hs:J7y s=true) (h:J0b (J04 (-1) s.N) (-1) t=some last):J1c last (s.N.toNat:Nat)=true:=by
 obtain ⟨_,h1,_⟩:=Jd8 hs
 have h2:=J8y h
 have:s.N=(s.N.toNat:Nat):=by omega
 rw [this] at h2
 rw [(J4a (by decide) (by omega)).1] at h2
 simpa using h2
theorem Jks {p q:Int}(hp:0<p):0<Jlu p q:=Nat.gcd_pos_of_pos_left _ (by omega)
theorem Jnf {p q:Int}(hp:0<p) (hb:p≤1000000000):Jlu p q≤1000000000:=by
 have:=Nat.gcd_le_left (n:=q.toNat) (m:=p.toNat) (by omega)
 unfold Jlu;omega
theorem Jbx {p g:Int}(hp:0≤p) (hb:p≤1000000000) (hg:0≤g):0≤p.tdiv g∧p.tdiv g≤1000000000:=by
 have h1:=Int.tdiv_nonneg hp hg
 have h2:=Int.tdiv_le_self g hp
 omega
theorem Jt7 {N m:Nat} : ∀ {n v:Nat}{l L:List DDer},(∀ d∈l,GD N m d)→goE v n l=some L→∀ d∈L,GD N m d
 | 0,v,l,L,h,e=>by simp only [goE,Option.some.injEq] at e;subst e;exact h
 | n+1,v,l,L,h,e=>by
  simp only [goE] at e
  split at e
  ·exact Jt7 (Jgf h) e
  ·cases e
theorem Jh0 {s:DSystem}{t last:DLin}(hs:J7y s=true) (h:J0b (J04 (-1) s.N) (-1) t=some last):∀ d∈J8n s.Rows last,GD s.N.toNat s.Rows.length d:=
 Jp1 (Jd8 hs).2.2 (Jwr hs h)
def Jc5:List DFarkas→List DObligation→Option (List DFarkas)
 | acc,[]=>some acc
 | acc,o::l=>match Jbq o.System o.Target with
  | Option.none=>Option.none
  | some f=>Jc5 (acc++[f]) l
def J6f (os:List DObligation):Option (List DFarkas):=Jc5 [] os
def Ji0 (o:Option (List DFarkas)):AV := .tup [.us 2 ((o.getD []).map J1i),.bool o.isSome]
theorem a162_ok:J0a Tryz.prog Tryz.f162=some (J3h true 4):=by kernel_rfl
def a252:AFn:= ⟨8,[.t 2],(.seq (.reg [Zo 2 (.mv (.k (.nil 1)))]) (.seq (.seq (.reg [Zv 3 0,Zo 4 (.inil false (.t 3))]) (.cond (.t 4) (.seq (.reg [Zo 2 (.mv (.k (.nil 1)))]) .ret) .skip)) (.seq (.reg [Zo 5 (.bsl 1 []),Zv 6 0,Zo 7 (.app 16 1 (.t 5) (.t 6)),Zv 2 7]) .ret)))⟩
theorem a252_ok:J0a Tryz.prog Tryz.f252=some a252:=by kernel_rfl
def a209:AFn:= ⟨19,[.t 2],(.seq (.reg [Zo 2 (.mv (.k (.nil 2)))]) (.seq (.reg [Zo 3 (.mv (.k (.nil 2)))]) (.seq (.seq (.reg [Zv 6 0,Zo 7 (.len false (.t 6)),Zo 8 (.mv (.k (.int .i64 0)))]) (.blk 0 (.loop (.seq (.reg [Zo 9 (.bin .lss (.t 8) (.t 7))]) (.seq (.cond (.t 9) .skip (.exit 0)) (.seq (.blk 1 (.seq (.reg [Zo 10 (.ixa 2 (.t 6) (.t 8)),Zl 11 true 2 10,Zo 5 (.box [(.int .i64 0),(.nil 1)]),⟨no,.st 2 (.t 5) (.t 11),no⟩]) (.reg [Zv 12 3,Zl 13 true 2 5,Zc 14 86 [.t 13],Zo 15 (.bsl 2 [.t 14]),Zo 16 (.app 32 2 (.t 12) (.t 15)),Zv 3 16]))) (.reg [Zo 17 (.bin .add (.t 8) (.k (.int .i64 1))),Zv 8 17]))))))) (.seq (.reg [Zv 18 3,Zv 2 18]) .ret))))⟩
theorem a209_ok:J0a Tryz.prog Tryz.f209=some a209:=by kernel_rfl
def a164:AFn:= ⟨14,[(.c 2 true 4)],(.seq (.reg [Zo 1 (.boxv (.t 0)),Zo 2 (.box [(.str []),(.nil 1),(.bool false),(.nil 2)])]) (.seq (.draw (.op (Zf 3 0 1) (.op (Zl 4 false 1 3) (.op (Zf 5 1 1) (.op (Zl 6 false 1 5) (.op (Zf 8 2 1) (.op (Zl 9 false 1 8) (.op (Zf 10 3 1) (.op (Zl 11 false 1 10) (.op (Zc 7 252 [.t 6]) (.op (Zc 12 209 [.t 11]) (.op (Zo 13 (.build [(.str []),(.nil 1),(.bool false),(.nil 2)] [(0,(1,(.t 4))),(1,(1,(.t 7))),(2,(1,(.t 9))),(3,(1,(.t 12)))])) (.hop ⟨no,.st 4 (.t 2) (.t 13),no⟩ [] .fin))))))))))))) .ret))⟩
theorem a164_ok:J0a Tryz.prog Tryz.f164=some a164:=by kernel_rfl
def a163:AFn:= ⟨8,[.t 3],(.seq (.reg [Zo 2 (.boxv (.t 0)),Zo 3 (.mv (.k (.bool false)))]) (.seq (.reg [Zf 4 0 2,Zl 5 false 1 4,Zl 6 false 1 1,Zo 7 (.bin .eql (.t 5) (.t 6)),Zv 3 7]) .ret))⟩
theorem a163_ok:J0a Tryz.prog Tryz.f163=some a163:=by kernel_rfl
def a84:AFn:= ⟨9,[.t 4],(.seq (.reg [Zo 2 (.boxv (.t 0)),Zo 3 (.boxv (.t 1)),Zo 4 (.mv (.k (.int .i64 0)))]) (.seq (.reg [Zf 5 0 2,Zl 6 false 1 5,Zo 7 (.mkf (.func 163) [] [.t 3]),Zc 8 162 [.t 6,.t 7],Zv 4 8]) .ret))⟩
theorem a84_ok:J0a Tryz.prog Tryz.f84=some a84:=by kernel_rfl
def a176:AFn:= ⟨19,[(.c 4 true 4),.t 5],(.seq (.reg [Zo 2 (.boxv (.t 0)),Zo 4 (.box [(.str []),(.nil 1),(.bool false),(.nil 2)]),Zo 5 (.mv (.k (.bool false)))]) (.seq (.reg [Zl 7 true 2 2,Zv 8 1,Zc 9 84 [.t 7,.t 8],Zv 6 9]) (.seq (.seq (.reg [Zv 10 6,Zo 11 (.bin .lss (.t 10) (.k (.int .i64 0)))]) (.cond (.t 11) (.seq (.reg [Zo 12 (.build [(.str []),(.nil 1),(.bool false),(.nil 2)] []),⟨no,.st 4 (.t 4) (.t 12),no⟩,Zo 5 (.mv (.k (.bool false)))]) .ret) .skip)) (.seq (.reg [Zf 13 0 2,Zl 14 false 1 13,Zv 15 6,Zo 16 (.ixa 4 (.t 14) (.t 15)),Zl 17 true 4 16,Zc 18 164 [.t 17],⟨no,.st 4 (.t 4) (.t 18),no⟩,Zo 5 (.mv (.k (.bool true)))]) .ret))))⟩
theorem a176_ok:J0a Tryz.prog Tryz.f176=some a176:=by kernel_rfl
def a160:AFn:= ⟨33,[(.c 2 true 4)],(.seq (.reg [Zo 1 (.boxv (.t 0)),Zo 2 (.box [(.str []),(.nil 1),(.bool false),(.nil 2)])]) (.seq (.draw (.op (Zf 5 0 1) (.op (Zl 6 false 1 5) (.op (Zf 8 1 1) (.op (Zl 9 false 1 8) (.op (Zf 11 2 1) (.op (Zl 12 false 1 11) (.both (.hop (Zo 7 (.bsl 1 [])) [(.ld false 1 (.t 11)),(.fld 2 (.t 1)),(.ld false 1 (.t 8)),(.fld 1 (.t 1)),(.ld false 1 (.t 5)),(.fld 0 (.t 1))] (.both (.hop (Zo 10 (.app 16 1 (.t 7) (.t 9))) [(.ld false 1 (.t 11)),(.fld 2 (.t 1)),(.ld false 1 (.t 5)),(.fld 0 (.t 1))] (.op (Zo 13 (.build [(.str []),(.nil 1),(.bool false),(.nil 2)] [(0,(1,(.t 6))),(1,(1,(.t 10))),(2,(1,(.t 12)))])) (.op (Zo 3 (.box [(.str []),(.nil 1),(.bool false),(.nil 2)])) (.hop ⟨no,.st 4 (.t 3) (.t 13),no⟩ [] .fin)))) (.op (Zo 3 (.box [(.str []),(.nil 1),(.bool false),(.nil 2)])) (.hop (Zo 10 (.app 16 1 (.t 7) (.t 9))) [(.ld false 1 (.t 11)),(.fld 2 (.t 1)),(.ld false 1 (.t 5)),(.fld 0 (.t 1))] (.op (Zo 13 (.build [(.str []),(.nil 1),(.bool false),(.nil 2)] [(0,(1,(.t 6))),(1,(1,(.t 10))),(2,(1,(.t 12)))])) (.hop ⟨no,.st 4 (.t 3) (.t 13),no⟩ [] .fin)))))) (.op (Zo 3 (.box [(.str []),(.nil 1),(.bool false),(.nil 2)])) (.hop (Zo 7 (.bsl 1 [])) [(.ld false 1 (.t 11)),(.fld 2 (.t 1)),(.ld false 1 (.t 8)),(.fld 1 (.t 1)),(.ld false 1 (.t 5)),(.fld 0 (.t 1))] (.hop (Zo 10 (.app 16 1 (.t 7) (.t 9))) [(.ld false 1 (.t 11)),(.fld 2 (.t 1)),(.ld false 1 (.t 5)),(.fld 0 (.t 1))] (.op (Zo 13 (.build [(.str []),(.nil 1),(.bool false),(.nil 2)] [(0,(1,(.t 6))),(1,(1,(.t 10))),(2,(1,(.t 12)))])) (.hop ⟨no,.st 4 (.t 3) (.t 13),no⟩ [] .fin))))))))))))) (.seq (.seq (.reg [Zo 4 (.mv (.k (.int .i64 0)))]) (.blk 0 (.loop (.seq (.seq (.reg [Zv 14 4,Zf 15 3 1,Zl 16 false 1 15,Zo 17 (.len false (.t 16)),Zo 18 (.bin .lss (.t 14) (.t 17))]) (.cond (.t 18) .skip (.exit 0))) (.seq (.blk 1 (.draw (.op (Zf 21 3 3) (.op (Zl 22 false 1 21) (.op (Zf 23 3 1) (.op (Zl 24 false 1 23) (.op (Zv 25 4) (.op (Zo 26 (.ixa 2 (.t 24) (.t 25))) (.op (Zl 27 true 2 26) (.op (Zc 28 82 [.t 27]) (.hop (Zo 29 (.bsl 2 [.t 28])) [(.ld false 1 (.t 21)),(.fld 3 (.t 3))] (.hop (Zo 30 (.app 32 2 (.t 22) (.t 29))) [] (.op (Zf 31 3 3) (.hop ⟨no,.st 1 (.t 31) (.t 30),no⟩ [] .fin)))))))))))))) (.reg [Zv 19 4,Zo 20 (.bin .add (.t 19) (.k (.int .i64 1))),Zv 4 20])))))) (.seq (.reg [Zl 32 true 4 3,⟨no,.st 4 (.t 2) (.t 32),no⟩]) .ret))))⟩
theorem a160_ok:J0a Tryz.prog Tryz.f160=some a160:=by kernel_rfl
def a172:AFn:= ⟨29,[(.c 4 true 4),.t 5],(.seq (.reg [Zo 2 (.boxv (.t 0)),Zo 4 (.box [(.str []),(.nil 1),(.bool false),(.nil 2)]),Zo 5 (.mv (.k (.bool false)))]) (.seq (.seq (.reg [Zo 6 (.mv (.k (.int .i64 0)))]) (.blk 0 (.loop (.seq (.seq (.reg [Zv 7 6,Zf 8 0 2,Zl 9 false 1 8,Zo 10 (.len false (.t 9)),Zo 11 (.bin .lss (.t 7) (.t 10))]) (.cond (.t 11) .skip (.exit 0))) (.seq (.blk 1 (.seq (.reg [Zf 14 0 2,Zl 15 false 1 14,Zv 16 6,Zo 17 (.ixa 4 (.t 15) (.t 16)),Zf 18 0 17,Zl 19 false 1 18,Zv 20 1,Zo 21 (.bin .eql (.t 19) (.t 20))]) (.cond (.t 21) (.seq (.reg [Zf 22 0 2,Zl 23 false 1 22,Zv 24 6,Zo 25 (.ixa 4 (.t 23) (.t 24)),Zl 26 true 4 25,Zc 27 160 [.t 26],⟨no,.st 4 (.t 4) (.t 27),no⟩,Zo 5 (.mv (.k (.bool true)))]) .ret) .skip))) (.reg [Zv 12 6,Zo 13 (.bin .add (.t 12) (.k (.int .i64 1))),Zv 6 13])))))) (.seq (.reg [Zo 28 (.build [(.str []),(.nil 1),(.bool false),(.nil 2)] []),⟨no,.st 4 (.t 4) (.t 28),no⟩,Zo 5 (.mv (.k (.bool false)))]) .ret)))⟩
theorem a172_ok:J0a Tryz.prog Tryz.f172=some a172:=by kernel_rfl
theorem J9d (l:List Str) (hl:l.length≤1048576):Holds Tryz.prog 252 [.sl 1 (J0d l)] (fun r=>r = .us 1 (J0d l)):=by
 refine J02 Tryz.func252 a252_ok rfl (by simp [a252]) ?_
 simp [a252]
 unfold LIM
 omega
theorem J9f (l:List DLin) (hw:J5x l≤1048576):Holds Tryz.prog 209 [.sl 2 (l.map J06)] (fun r=>r = .us 2 (l.map J07)):=by
 have hlen:l.length≤1048576:=Nat.le_trans (J2b J9z l) hw
 refine J02 Tryz.func209 a209_ok rfl (by simp [a209]) ?_
 simp [a209]
 intro hlm
 refine J0k [6,7] 8 l.length (fun i s h n=>(i=0∧s 3 = .nil 2)∨∃ id,id<n∧s 3 = .ref id 0 i∧h id=some ⟨false,2,(l.map J07).take i⟩) hlm (by simp) (by simp) ?_ ?_
 ·rintro i s h n R hi hg hk s8 hw8 hJ hR _ _
  simp at hk
  have hwi:(l[i]).Coeffs.length≤1048576:=by
   have:=J3o (w:=J9z) (List.getElem_mem hi)
   unfold J5x at hw
   rw [show J9z l[i]=(l[i]).Coeffs.length from rfl] at this
   omega
  have htk:(l.map J07).take (i+1)=(l.map J07).take i++[J07 l[i]]:=by rw [List.take_succ_eq_append_getElem (by simpa using hi)];simp
  rcases hJ with ⟨rfl,s3⟩|⟨id,hid,s3,eid⟩
  ·simp [hk,s8,hi,hw8,s3,J06]
   first|refine J00 (J4t (l[0]'hi) hwi) (by first|simp [J06];done|rfl) ?_|refine J01 (J4t (l[0]'hi) hwi) (by first|simp [J06];done|rfl) ?_
   rintro r rfl
   simp [hk,s8,hi,hw8,s3,J07]
   refine ⟨by unfold LIM;omega,?_⟩
   exact hR _ _ _ (by simp [hk]) (by simp;exact J19 (by omega)) (.inr ⟨n+3,by omega,by simp,by simp [htk,J07]⟩)
  ·have n0:¬id=n:=by omega
   have n1:¬id=n+1:=by omega
   have n2:¬id=n+1+1:=by omega
   have n3:¬n+1+1=id:=by omega
   have n4:¬n+1=id:=by omega
   simp [hk,s8,hi,hw8,s3,J06,eid,n0]
   first|refine J00 (J4t (l[i]'hi) hwi) (by first|simp [J06];done|rfl) ?_|refine J01 (J4t (l[i]'hi) hwi) (by first|simp [J06];done|rfl) ?_
   rintro r rfl
   simp [hk,s8,hi,hw8,s3,J07,eid,n0,n1,n2,n3,n4]
   refine ⟨by omega,by unfold LIM;omega,?_⟩
   exact hR _ _ _ (by simp [hk]) (by simp) (.inr ⟨n+3,by omega,by simp,by simp [htk,J07,List.take_take]⟩)
 ·rintro s h n R hk s8 hJ hret hX
  simp at hk
  simp [hk,s8]
  refine hX _ _ _ _ ?_
  rcases hJ with ⟨h0,s3⟩|⟨id,hid,s3,eid⟩
  ·have:l=[]:=List.eq_nil_of_length_eq_zero h0
   subst this
   simp [s3]
  ·simp [s3,eid]
theorem Ja0 (f:DFunction) (hw:J12 f≤1048576):Holds Tryz.prog 164 [.agg (J05 f)] (fun r=>r = .agg (J0j f)):=by
 have hw':=hw
 unfold J12 at hw'
 have hl:f.Params.length≤1048576:=by have:=J2b List.length f.Params;unfold J44 at hw';omega
 refine J02 Tryz.func164 a164_ok rfl (by simp [a164]) ?_
 simp [a164,J05]
 first|refine J00 (J9d f.Params hl) (by first|simp;done|rfl) ?_|refine J01 (J9d f.Params hl) (by first|simp;done|rfl) ?_
 rintro r rfl
 simp
 first|refine J00 (J9f f.Pre (by omega)) (by first|simp;done|rfl) ?_|refine J01 (J9f f.Pre (by omega)) (by first|simp;done|rfl) ?_
 rintro r rfl
 simp [J0j]
def J1p (l:List DFunction) (name:Str):Option DFunction:=l.find? fun f=>f.Name==name
def fn0:DFunction:=⟨[],[],false,[]⟩
def J8q (o:Option DFunction):AV := .tup [.agg (J0j (o.getD fn0)),.bool o.isSome]
theorem Jcb {α:Type}{p:α→Bool} : ∀ {l:List α}{k:Nat},(l.find? p=Option.none∧J1r p l k = -1)∨∃ j:Nat,∃ hj:j<l.length,J1r p l k=(k:Int)+j∧l.find? p=some l[j]
 | [],k => .inl ⟨rfl,rfl⟩
 | x::l,k=>by
  simp only [J1r]
  cases hp:p x
  ·simp only [Bool.false_eq_true,if_false,List.find?_cons,hp]
   rcases Jcb (p:=p) (l:=l) (k:=k+1) with ⟨h1,h2⟩|⟨j,hj,h1,h2⟩
   ·exact .inl ⟨h1,h2⟩
   ·exact .inr ⟨j+1,by simp;omega,by rw [h1];omega,by simpa using h2⟩
  ·exact .inr ⟨0,by simp,by simp,by simp [hp]⟩
theorem Jjz {h:Heap}{n id:Nat}{name:Str}(x:DFunction) (hv:h id=some ⟨true,1,[[.str name]]⟩) (hid:id<n):Jf2 Tryz.prog 163 [] [.ptr id 0 0] h n (.agg (J05 x)) (.bool (x.Name==name)):=by
 intro K hK
 refine J9a ?_
 refine J1z Tryz.func163 a163_ok rfl (by simp [a163]) ?_
 have n1:¬id=n:=by omega
 simp [a163,hv,n1,J05,Jo0,hK]
 intro j hj hj'
 omega
theorem J77 (p:DProgram) (name:Str):Holds Tryz.prog 84 [.agg (J03 p),.str name] (fun r=>r=i64 (J1r (fun f=>f.Name==name) p.Functions 0)):=by
 refine J02 Tryz.func84 a84_ok rfl (by simp [a84]) ?_
 simp [a84,J03]
 refine J8g (p:=fun f=>f.Name==name) (rowOf:=J05) (eltOf:=fun x => .agg (J05 x)) Tryz.func162 a162_ok rfl (fun x=>by simp) p.Functions
  (fun x _=>Jjz x (by simp) (by omega)) ?_
 simp
theorem J23 (p:DProgram) (name:Str) (hw:J0r p≤1048576):Holds Tryz.prog 176 [.agg (J03 p),.str name] (fun r=>r=J8q (J1p p.Functions name)):=by
 have hw':=hw
 unfold J0r J29 at hw'
 refine J02 Tryz.func176 a176_ok rfl (by simp [a176]) ?_
 simp [a176,J03]
 first|refine J00 (J77 p name) (by first|simp [J03];done|rfl) ?_|refine J01 (J77 p name) (by first|simp [J03];done|rfl) ?_
 rintro r rfl
 unfold J8q J1p
 rcases Jcb (p:=fun f:DFunction=>f.Name==name) (l:=p.Functions) (k:=0) with ⟨h1,h2⟩|⟨j,hj,h1,h2⟩
 ·rw [h1,h2]
  simp [fn0,J0j,J0d]
 ·rw [h1,h2]
  have hwf:J12 p.Functions[j]≤1048576:=by have:=J3o (w:=J12) (List.getElem_mem hj);omega
  simp [hj]
  first|refine J00 (Ja0 (p.Functions[j]'hj) hwf) (by first|simp;done|rfl) ?_|refine J01 (Ja0 (p.Functions[j]'hj) hwf) (by first|simp;done|rfl) ?_
  rintro r rfl
  simp [J0j]
set_option maxHeartbeats 1000000 in
theorem J9o (f:DFunction) (hw:J12 f≤1048576):Holds Tryz.prog 160 [.agg (J05 f)] (fun r=>r = .agg (J0j f)):=by
 have hw':=hw
 unfold J12 J5x at hw'
 have hl:f.Params.length≤1048576:=by have:=J2b List.length f.Params;unfold J44 at hw';omega
 have hlp:f.Pre.length≤1048576:=by have:=J2b J9z f.Pre;omega
 refine J02 Tryz.func160 a160_ok rfl (by simp [a160]) ?_
 simp [a160,J05]
 have hA:f.Params.length*16≤LIM:=by unfold LIM;omega
 refine ⟨⟨⟨hA,?_⟩,hA,?_⟩,hA,?_⟩
 ·skip
  refine J0k [1,2] 4 f.Pre.length (fun i s h n=>h 0=some ⟨true,4,[[.str f.Name,.sl 1 (J0d f.Params),.bool f.ListResult,.sl 2 (f.Pre.map J06)]]⟩∧h 1=some ⟨true,4,[[.str [],.nil 1,.bool false,.nil 2]]⟩∧4<n∧s 3 = .ptr 4 0 0 ∧
   h 3=some ⟨false,1,J0d f.Params⟩∧((i=0∧h 4=some ⟨true,4,[[.str f.Name,.ref 3 0 f.Params.length,.bool f.ListResult,.nil 2]]⟩)∨∃ id,4<id∧id<n∧h 4=some ⟨true,4,[[.str f.Name,.ref 3 0 f.Params.length,.bool f.ListResult,.ref id 0 i]]⟩∧h id=some ⟨false,2,(f.Pre.map J07).take i⟩))
   (by unfold LIM;omega) (by simp) ⟨by simp,by simp,by simp,by simp,by simp,.inl ⟨rfl,by simp⟩⟩ ?_ ?_
  ·rintro i s h n R hi hg hk s4 hw4 ⟨e0,e1,hn,s3,ep,hJ⟩ hR _ _
   simp at hk
   have hwi:(f.Pre[i]).Coeffs.length≤1048576:=by
    have:=J3o (w:=J9z) (List.getElem_mem hi)
    rw [show J9z f.Pre[i]=(f.Pre[i]).Coeffs.length from rfl] at this
    omega
   have htk:(f.Pre.map J07).take (i+1)=(f.Pre.map J07).take i++[J07 f.Pre[i]]:=by rw [List.take_succ_eq_append_getElem (by simpa using hi)];simp
   have n0:¬0=n:=by omega
   have n1:¬1=n:=by omega
   have n2:¬4=n:=by omega
   have n3:¬3=n:=by omega
   have m0:¬0=n+1:=by omega
   have m1:¬1=n+1:=by omega
   have m2:¬4=n+1:=by omega
   have m3:¬3=n+1:=by omega
   have q0:¬0=n+1+1:=by omega
   have q1:¬1=n+1+1:=by omega
   have q2:¬4=n+1+1:=by omega
   have q3:¬3=n+1+1:=by omega
   have z0:¬n=0:=by omega
   have z1:¬n=1:=by omega
   have z2:¬n=2:=by omega
   have z3:¬n=3:=by omega
   have z4:¬n=4:=by omega
   rcases hJ with ⟨rfl,eb⟩|⟨id,hid4,hid,eb,eid⟩
   ·simp [hk,s4,s3,hi,hg,hw4,e0,e1,eb,ep]
    intro _
    first|refine J00 (J2c (f.Pre[0]'hi) hwi) (by first|simp;done|rfl) ?_|refine J01 (J2c (f.Pre[0]'hi) hwi) (by first|simp;done|rfl) ?_
    rintro r rfl
    simp [hk,s4,s3,hi,hw4,J07,e0,e1,eb,ep,n0,n1,n2,n3,m0,m1,m2,m3,q0,q1,q2,q3,z0,z1,z2,z3,z4]
    refine ⟨by unfold LIM;omega,?_⟩
    exact hR _ _ _ (by simp [hk]) (by simp;exact J19 (by omega)) ⟨by simp [e0,n0,n1,n2,n3,m0,m1,m2,m3,q0,q1,q2,q3,z0,z1,z2,z3,z4],by simp [e1,n0,n1,n2,n3,m0,m1,m2,m3,q0,q1,q2,q3,z0,z1,z2,z3,z4],by omega,by simp [s3],by simp [ep,n0,n1,n2,n3,m0,m1,m2,m3,q0,q1,q2,q3,z0,z1,z2,z3,z4],.inr ⟨n+2,by omega,by omega,by simp,by simp [htk,J07,n0,n1,n2,n3,m0,m1,m2,m3,q0,q1,q2,q3,z0,z1,z2,z3,z4]⟩⟩
   ·have i0:¬0=id:=by omega
    have i1:¬1=id:=by omega
    have i2:¬4=id:=by omega
    have i3:¬3=id:=by omega
    have i4:¬id=n:=by omega
    have i5:¬id=n+1:=by omega
    have i6:¬id=n+1+1:=by omega
    have i7:¬n=id:=by omega
    have i8:¬n+1=id:=by omega
    have i9:¬n+1+1=id:=by omega
    have j2:¬id=2:=by omega
    have j3:¬id=3:=by omega
    have j4:¬id=4:=by omega
    simp [hk,s4,s3,hi,hg,hw4,e0,e1,eb,ep,eid]
    intro _
    first|refine J00 (J2c (f.Pre[i]'hi) hwi) (by first|simp;done|rfl) ?_|refine J01 (J2c (f.Pre[i]'hi) hwi) (by first|simp;done|rfl) ?_
    rintro r rfl
    simp [hk,s4,s3,hi,hw4,J07,e0,e1,eb,ep,eid,n0,n1,n2,n3,m0,m1,m2,m3,q0,q1,q2,q3,z0,z1,z2,z3,z4,i0,i1,i2,i3,i4,i5,i6,i7,i8,i9,j2,j3,j4]
    refine ⟨by omega,by unfold LIM;omega,?_⟩
    exact hR _ _ _ (by simp [hk]) (by simp) ⟨by simp [e0,n0,n1,n2,n3,m0,m1,m2,m3,q0,q1,q2,q3,z0,z1,z2,z3,z4,i0],by simp [e1,n0,n1,n2,n3,m0,m1,m2,m3,q0,q1,q2,q3,z0,z1,z2,z3,z4,i1],by omega,by simp [s3],by simp [ep,n0,n1,n2,n3,m0,m1,m2,m3,q0,q1,q2,q3,z0,z1,z2,z3,z4,i3],.inr ⟨n+2,by omega,by omega,by simp,by simp [htk,J07,List.take_take,n0,n1,n2,n3,m0,m1,m2,m3,q0,q1,q2,q3,z0,z1,z2,z3,z4,i4,i5]⟩⟩
  ·rintro s h n R hk s4 ⟨e0,e1,hn,s3,ep,hJ⟩ hret hX
   simp at hk
   simp [hk,s4,e0]
   intro _
   refine hX _ _ _ _ ?_
   rcases hJ with ⟨h0,eb⟩|⟨id,hid4,hid,eb,eid⟩
   ·have:f.Pre=[]:=List.eq_nil_of_length_eq_zero h0
    simp [hk,s3,eb,e1,ep,this,J0j]
   ·have i1:¬1=id:=by omega
    have i3:¬3=id:=by omega
    have i4:¬id=1:=by omega
    have i5:¬id=3:=by omega
    simp [hk,s3,eb,e1,ep,eid,J0j,i1,i3,i4,i5]
 ·skip
  refine J0k [1,2] 4 f.Pre.length (fun i s h n=>h 0=some ⟨true,4,[[.str f.Name,.sl 1 (J0d f.Params),.bool f.ListResult,.sl 2 (f.Pre.map J06)]]⟩∧h 1=some ⟨true,4,[[.str [],.nil 1,.bool false,.nil 2]]⟩∧4<n∧s 3 = .ptr 3 0 0 ∧
   h 4=some ⟨false,1,J0d f.Params⟩∧((i=0∧h 3=some ⟨true,4,[[.str f.Name,.ref 4 0 f.Params.length,.bool f.ListResult,.nil 2]]⟩)∨∃ id,4<id∧id<n∧h 3=some ⟨true,4,[[.str f.Name,.ref 4 0 f.Params.length,.bool f.ListResult,.ref id 0 i]]⟩∧h id=some ⟨false,2,(f.Pre.map J07).take i⟩))
   (by unfold LIM;omega) (by simp) ⟨by simp,by simp,by simp,by simp,by simp,.inl ⟨rfl,by simp⟩⟩ ?_ ?_
  ·rintro i s h n R hi hg hk s4 hw4 ⟨e0,e1,hn,s3,ep,hJ⟩ hR _ _
   simp at hk
   have hwi:(f.Pre[i]).Coeffs.length≤1048576:=by
    have:=J3o (w:=J9z) (List.getElem_mem hi)
    rw [show J9z f.Pre[i]=(f.Pre[i]).Coeffs.length from rfl] at this
    omega
   have htk:(f.Pre.map J07).take (i+1)=(f.Pre.map J07).take i++[J07 f.Pre[i]]:=by rw [List.take_succ_eq_append_getElem (by simpa using hi)];simp
   have n0:¬0=n:=by omega
   have n1:¬1=n:=by omega
   have n2:¬3=n:=by omega
   have n3:¬4=n:=by omega
   have m0:¬0=n+1:=by omega
   have m1:¬1=n+1:=by omega
   have m2:¬3=n+1:=by omega
   have m3:¬4=n+1:=by omega
   have q0:¬0=n+1+1:=by omega
   have q1:¬1=n+1+1:=by omega
   have q2:¬3=n+1+1:=by omega
   have q3:¬4=n+1+1:=by omega
   have z0:¬n=0:=by omega
   have z1:¬n=1:=by omega
   have z2:¬n=2:=by omega
   have z3:¬n=3:=by omega
   have z4:¬n=4:=by omega
   rcases hJ with ⟨rfl,eb⟩|⟨id,hid4,hid,eb,eid⟩
   ·simp [hk,s4,s3,hi,hg,hw4,e0,e1,eb,ep]
    intro _
    first|refine J00 (J2c (f.Pre[0]'hi) hwi) (by first|simp;done|rfl) ?_|refine J01 (J2c (f.Pre[0]'hi) hwi) (by first|simp;done|rfl) ?_
    rintro r rfl
    simp [hk,s4,s3,hi,hw4,J07,e0,e1,eb,ep,n0,n1,n2,n3,m0,m1,m2,m3,q0,q1,q2,q3,z0,z1,z2,z3,z4]
    refine ⟨by unfold LIM;omega,?_⟩
    exact hR _ _ _ (by simp [hk]) (by simp;exact J19 (by omega)) ⟨by simp [e0,n0,n1,n2,n3,m0,m1,m2,m3,q0,q1,q2,q3,z0,z1,z2,z3,z4],by simp [e1,n0,n1,n2,n3,m0,m1,m2,m3,q0,q1,q2,q3,z0,z1,z2,z3,z4],by omega,by simp [s3],by simp [ep,n0,n1,n2,n3,m0,m1,m2,m3,q0,q1,q2,q3,z0,z1,z2,z3,z4],.inr ⟨n+2,by omega,by omega,by simp,by simp [htk,J07,n0,n1,n2,n3,m0,m1,m2,m3,q0,q1,q2,q3,z0,z1,z2,z3,z4]⟩⟩
   ·have i0:¬0=id:=by omega
    have i1:¬1=id:=by omega
    have i2:¬3=id:=by omega
    have i3:¬4=id:=by omega
    have i4:¬id=n:=by omega
    have i5:¬id=n+1:=by omega
    have i6:¬id=n+1+1:=by omega
    have i7:¬n=id:=by omega
    have i8:¬n+1=id:=by omega
    have i9:¬n+1+1=id:=by omega
    have j2:¬id=2:=by omega
    have j3:¬id=3:=by omega
    have j4:¬id=4:=by omega
    simp [hk,s4,s3,hi,hg,hw4,e0,e1,eb,ep,eid]
    intro _
    first|refine J00 (J2c (f.Pre[i]'hi) hwi) (by first|simp;done|rfl) ?_|refine J01 (J2c (f.Pre[i]'hi) hwi) (by first|simp;done|rfl) ?_
    rintro r rfl
    simp [hk,s4,s3,hi,hw4,J07,e0,e1,eb,ep,eid,n0,n1,n2,n3,m0,m1,m2,m3,q0,q1,q2,q3,z0,z1,z2,z3,z4,i0,i1,i2,i3,i4,i5,i6,i7,i8,i9,j2,j3,j4]
    refine ⟨by omega,by unfold LIM;omega,?_⟩
    exact hR _ _ _ (by simp [hk]) (by simp) ⟨by simp [e0,n0,n1,n2,n3,m0,m1,m2,m3,q0,q1,q2,q3,z0,z1,z2,z3,z4,i0],by simp [e1,n0,n1,n2,n3,m0,m1,m2,m3,q0,q1,q2,q3,z0,z1,z2,z3,z4,i1],by omega,by simp [s3],by simp [ep,n0,n1,n2,n3,m0,m1,m2,m3,q0,q1,q2,q3,z0,z1,z2,z3,z4,i3],.inr ⟨n+2,by omega,by omega,by simp,by simp [htk,J07,List.take_take,n0,n1,n2,n3,m0,m1,m2,m3,q0,q1,q2,q3,z0,z1,z2,z3,z4,i4,i5]⟩⟩
  ·rintro s h n R hk s4 ⟨e0,e1,hn,s3,ep,hJ⟩ hret hX
   simp at hk
   simp [hk,s4,e0]
   intro _
   refine hX _ _ _ _ ?_
   rcases hJ with ⟨h0,eb⟩|⟨id,hid4,hid,eb,eid⟩
   ·have:f.Pre=[]:=List.eq_nil_of_length_eq_zero h0
    simp [hk,s3,eb,e1,ep,this,J0j]
   ·have i1:¬1=id:=by omega
    have i3:¬4=id:=by omega
    have i4:¬id=1:=by omega
    have i5:¬id=4:=by omega
    simp [hk,s3,eb,e1,ep,eid,J0j,i1,i3,i4,i5]
 ·skip
  refine J0k [1,2] 4 f.Pre.length (fun i s h n=>h 0=some ⟨true,4,[[.str f.Name,.sl 1 (J0d f.Params),.bool f.ListResult,.sl 2 (f.Pre.map J06)]]⟩∧h 1=some ⟨true,4,[[.str [],.nil 1,.bool false,.nil 2]]⟩∧4<n∧s 3 = .ptr 2 0 0 ∧
   h 4=some ⟨false,1,J0d f.Params⟩∧((i=0∧h 2=some ⟨true,4,[[.str f.Name,.ref 4 0 f.Params.length,.bool f.ListResult,.nil 2]]⟩)∨∃ id,4<id∧id<n∧h 2=some ⟨true,4,[[.str f.Name,.ref 4 0 f.Params.length,.bool f.ListResult,.ref id 0 i]]⟩∧h id=some ⟨false,2,(f.Pre.map J07).take i⟩))
   (by unfold LIM;omega) (by simp) ⟨by simp,by simp,by simp,by simp,by simp,.inl ⟨rfl,by simp⟩⟩ ?_ ?_
  ·rintro i s h n R hi hg hk s4 hw4 ⟨e0,e1,hn,s3,ep,hJ⟩ hR _ _
   simp at hk
   have hwi:(f.Pre[i]).Coeffs.length≤1048576:=by
    have:=J3o (w:=J9z) (List.getElem_mem hi)
    rw [show J9z f.Pre[i]=(f.Pre[i]).Coeffs.length from rfl] at this
    omega
   have htk:(f.Pre.map J07).take (i+1)=(f.Pre.map J07).take i++[J07 f.Pre[i]]:=by rw [List.take_succ_eq_append_getElem (by simpa using hi)];simp
   have n0:¬0=n:=by omega
   have n1:¬1=n:=by omega
   have n2:¬2=n:=by omega
   have n3:¬4=n:=by omega
   have m0:¬0=n+1:=by omega
   have m1:¬1=n+1:=by omega
   have m2:¬2=n+1:=by omega
   have m3:¬4=n+1:=by omega
   have q0:¬0=n+1+1:=by omega
   have q1:¬1=n+1+1:=by omega
   have q2:¬2=n+1+1:=by omega
   have q3:¬4=n+1+1:=by omega
   have z0:¬n=0:=by omega
   have z1:¬n=1:=by omega
   have z2:¬n=2:=by omega
   have z3:¬n=3:=by omega
   have z4:¬n=4:=by omega
   rcases hJ with ⟨rfl,eb⟩|⟨id,hid4,hid,eb,eid⟩
   ·simp [hk,s4,s3,hi,hg,hw4,e0,e1,eb,ep]
    intro _
    first|refine J00 (J2c (f.Pre[0]'hi) hwi) (by first|simp;done|rfl) ?_|refine J01 (J2c (f.Pre[0]'hi) hwi) (by first|simp;done|rfl) ?_
    rintro r rfl
    simp [hk,s4,s3,hi,hw4,J07,e0,e1,eb,ep,n0,n1,n2,n3,m0,m1,m2,m3,q0,q1,q2,q3,z0,z1,z2,z3,z4]
    refine ⟨by unfold LIM;omega,?_⟩
    exact hR _ _ _ (by simp [hk]) (by simp;exact J19 (by omega)) ⟨by simp [e0,n0,n1,n2,n3,m0,m1,m2,m3,q0,q1,q2,q3,z0,z1,z2,z3,z4],by simp [e1,n0,n1,n2,n3,m0,m1,m2,m3,q0,q1,q2,q3,z0,z1,z2,z3,z4],by omega,by simp [s3],by simp [ep,n0,n1,n2,n3,m0,m1,m2,m3,q0,q1,q2,q3,z0,z1,z2,z3,z4],.inr ⟨n+2,by omega,by omega,by simp,by simp [htk,J07,n0,n1,n2,n3,m0,m1,m2,m3,q0,q1,q2,q3,z0,z1,z2,z3,z4]⟩⟩
   ·have i0:¬0=id:=by omega
    have i1:¬1=id:=by omega
    have i2:¬2=id:=by omega
    have i3:¬4=id:=by omega
    have i4:¬id=n:=by omega
    have i5:¬id=n+1:=by omega
    have i6:¬id=n+1+1:=by omega
    have i7:¬n=id:=by omega
    have i8:¬n+1=id:=by omega
    have i9:¬n+1+1=id:=by omega
    have j2:¬id=2:=by omega
    have j3:¬id=3:=by omega
    have j4:¬id=4:=by omega
    simp [hk,s4,s3,hi,hg,hw4,e0,e1,eb,ep,eid]
    intro _
    first|refine J00 (J2c (f.Pre[i]'hi) hwi) (by first|simp;done|rfl) ?_|refine J01 (J2c (f.Pre[i]'hi) hwi) (by first|simp;done|rfl) ?_
    rintro r rfl
    simp [hk,s4,s3,hi,hw4,J07,e0,e1,eb,ep,eid,n0,n1,n2,n3,m0,m1,m2,m3,q0,q1,q2,q3,z0,z1,z2,z3,z4,i0,i1,i2,i3,i4,i5,i6,i7,i8,i9,j2,j3,j4]
    refine ⟨by omega,by unfold LIM;omega,?_⟩
    exact hR _ _ _ (by simp [hk]) (by simp) ⟨by simp [e0,n0,n1,n2,n3,m0,m1,m2,m3,q0,q1,q2,q3,z0,z1,z2,z3,z4,i0],by simp [e1,n0,n1,n2,n3,m0,m1,m2,m3,q0,q1,q2,q3,z0,z1,z2,z3,z4,i1],by omega,by simp [s3],by simp [ep,n0,n1,n2,n3,m0,m1,m2,m3,q0,q1,q2,q3,z0,z1,z2,z3,z4,i3],.inr ⟨n+2,by omega,by omega,by simp,by simp [htk,J07,List.take_take,n0,n1,n2,n3,m0,m1,m2,m3,q0,q1,q2,q3,z0,z1,z2,z3,z4,i4,i5]⟩⟩
  ·rintro s h n R hk s4 ⟨e0,e1,hn,s3,ep,hJ⟩ hret hX
   simp at hk
   simp [hk,s4,e0]
   intro _
   refine hX _ _ _ _ ?_
   rcases hJ with ⟨h0,eb⟩|⟨id,hid4,hid,eb,eid⟩
   ·have:f.Pre=[]:=List.eq_nil_of_length_eq_zero h0
    simp [hk,s3,eb,e1,ep,this,J0j]
   ·have i1:¬1=id:=by omega
    have i3:¬4=id:=by omega
    have i4:¬id=1:=by omega
    have i5:¬id=4:=by omega
    simp [hk,s3,eb,e1,ep,eid,J0j,i1,i3,i4,i5]
theorem J20 (p:DProgram) (name:Str) (hw:J0r p≤1048576):Holds Tryz.prog 172 [.agg (J03 p),.str name] (fun r=>r=J8q (J1p p.Functions name)):=by
 have hw':=hw
 unfold J0r J29 at hw'
 have hl:p.Functions.length≤LIM:=by have:=J2b J12 p.Functions;unfold LIM;omega
 refine J02 Tryz.func172 a172_ok rfl (by simp [a172]) ?_
 simp [a172,J03]
 generalize hG:J1p p.Functions name=G
 refine J4m [1,2,4] 6 p.Functions.length (fun i _=>(p.Functions.drop i).find? (fun f=>f.Name==name)=G) hl (by simp) (by simpa [J1p] using hG) ?_ ?_
 ·rintro i s h R hi hg hk s6 hw6 hJ hh hR hret _
  simp at hk hh
  rw [List.drop_eq_getElem_cons hi,List.find?_cons] at hJ
  have hwf:J12 p.Functions[i]≤1048576:=by have:=J3o (w:=J12) (List.getElem_mem hi);omega
  simp [hk,s6,hi,hg,hh,hw6,J05]
  intro _
  by_cases hn:(p.Functions[i]).Name=name
  ·simp [hn] at hJ
   simp [hn,hi,hh,hk,s6]
   first|refine J00 (J9o (p.Functions[i]'hi) hwf) (by first|simp [J05,hn];done|rfl) ?_|refine J01 (J9o (p.Functions[i]'hi) hwf) (by first|simp [J05,hn];done|rfl) ?_
   rintro r rfl
   simp [J0j,hk,hh]
   refine hret _ _ _ ?_
   simp [hk,←hJ,J8q,J0j]
  ·have hn':((p.Functions[i]).Name==name)=false:=by simpa using hn
   simp only [hn',Bool.false_eq_true,if_false] at hJ
   simp [hn,hk,s6,hw6]
   exact hR _ (by simp [hk]) (by simp) hJ
 ·rintro s h R hk s6 hJ hh _ hX
  simp at hk hh
  rw [List.drop_eq_nil_of_le (by omega)] at hJ
  simp only [List.find?_nil] at hJ
  simp [hk,s6,hh]
  intro _
  refine hX _ _ ?_
  simp [hk,hh,←hJ,J8q,fn0,J0j,J0d]
def a240:AFn:= ⟨66,[.t 6],(.seq (.reg [Zo 3 (.boxv (.t 0)),Zo 4 (.boxv (.t 1)),Zo 6 (.mv (.k (.nil 1)))]) (.seq (.reg [Zl 15 true 2 3,Zf 16 0 4,Zl 17 false 1 16,Zc 18 176 [.t 15,.t 17],Zv 14 18,Zo 19 (.ext (.t 14) 0),Zo 20 (.ext (.t 14) 1),Zo 7 (.box [(.str []),(.nil 1),(.bool false),(.nil 2)]),⟨no,.st 4 (.t 7) (.t 19),no⟩,Zv 8 20]) (.seq (.seq (.reg [Zv 21 8,Zo 22 (.un .not (.t 21)),Zv 23 22,⟨some 24,.mv (.t 2),(some (23,false))⟩,⟨some 25,.fld 3 (.t 4),(some (23,false))⟩,⟨some 26,.ld false 1 (.t 25),(some (23,false))⟩,⟨some 27,.len false (.t 26),(some (23,false))⟩,⟨some 28,.call (.k (.fn (.func 102) [] [])) [.t 24,(.k (.int .i64 0)),.t 27],(some (23,false))⟩,⟨some 29,.un .not (.t 28),(some (23,false))⟩,Zo 30 (.pick (.t 23) (.k (.bool true)) (.t 29))]) (.cond (.t 30) (.seq (.reg [Zo 6 (.mv (.k (.nil 1)))]) .ret) .skip)) (.seq (.reg [Zf 31 1 7,Zl 32 false 1 31,Zv 9 32]) (.seq (.seq (.reg [Zf 33 1 4,Zl 34 false 1 33,Zo 35 (.len false (.t 34)),Zo 36 (.mv (.k (.int .i64 0)))]) (.blk 0 (.loop (.seq (.reg [Zo 37 (.bin .lss (.t 36) (.t 35))]) (.seq (.cond (.t 37) .skip (.exit 0)) (.seq (.blk 1 (.seq (.reg [Zo 38 (.ixa 4 (.t 34) (.t 36)),Zl 39 true 4 38,Zo 11 (.box [(.str []),(.bool false),(.str []),(.str [])]),⟨no,.st 4 (.t 11) (.t 39),no⟩]) (.seq (.reg [Zf 40 1 11,Zl 41 false 1 40]) (.cond (.t 41) (.reg [Zv 42 9,Zf 43 2 11,Zl 44 false 1 43,Zf 45 3 11,Zl 46 false 1 45,Zo 47 (.bsl 1 [.t 44,.t 46]),Zo 48 (.app 16 1 (.t 42) (.t 47)),Zv 9 48]) .skip)))) (.reg [Zo 49 (.bin .add (.t 36) (.k (.int .i64 1))),Zv 36 49]))))))) (.seq (.seq (.reg [Zf 50 3 4,Zl 51 false 1 50,Zv 52 2,Zo 53 (.slc false 3 (.t 51) Option.none (some (.t 52))),Zo 54 (.len false (.t 53)),Zo 55 (.mv (.k (.int .i64 0)))]) (.blk 2 (.loop (.seq (.reg [Zo 56 (.bin .lss (.t 55) (.t 54))]) (.seq (.cond (.t 56) .skip (.exit 2)) (.seq (.blk 3 (.seq (.reg [Zo 57 (.ixa 3 (.t 53) (.t 55)),Zl 58 true 3 57,Zo 13 (.box [(.str []),(.str []),(.nil 3)]),⟨no,.st 3 (.t 13) (.t 58),no⟩]) (.reg [Zv 59 9,Zf 60 0 13,Zl 61 false 1 60,Zo 62 (.bsl 1 [.t 61]),Zo 63 (.app 16 1 (.t 59) (.t 62)),Zv 9 63]))) (.reg [Zo 64 (.bin .add (.t 55) (.k (.int .i64 1))),Zv 55 64]))))))) (.seq (.reg [Zv 65 9,Zv 6 65]) .ret)))))))⟩
theorem a240_ok:J0a Tryz.prog Tryz.f240=some a240:=by kernel_rfl
def a221:AFn:= ⟨78,[.t 6],(.seq (.reg [Zo 3 (.boxv (.t 0)),Zo 4 (.boxv (.t 1)),Zo 6 (.mv (.k (.nil 1)))]) (.seq (.reg [Zl 13 true 2 3,Zf 14 0 4,Zl 15 false 1 14,Zc 16 172 [.t 13,.t 15],Zv 12 16,Zo 17 (.ext (.t 12) 0),Zo 18 (.ext (.t 12) 1),Zo 7 (.box [(.str []),(.nil 1),(.bool false),(.nil 2)]),⟨no,.st 4 (.t 7) (.t 17),no⟩,Zv 8 18]) (.seq (.reg [Zo 19 (.bsl 1 []),Zv 9 19]) (.seq (.seq (.reg [Zv 20 8,Zo 21 (.un .not (.t 20)),Zv 22 21,⟨some 23,.mv (.t 2),(some (22,false))⟩,⟨some 24,.fld 3 (.t 4),(some (22,false))⟩,⟨some 25,.ld false 1 (.t 24),(some (22,false))⟩,⟨some 26,.len false (.t 25),(some (22,false))⟩,⟨some 27,.call (.k (.fn (.func 183) [] [])) [.t 23,(.k (.int .i64 0)),.t 26],(some (22,false))⟩,⟨some 28,.un .not (.t 27),(some (22,false))⟩,Zo 29 (.pick (.t 22) (.k (.bool true)) (.t 28))]) (.cond (.t 29) (.seq (.reg [Zv 30 9,Zv 6 30]) .ret) .skip)) (.seq (.reg [Zv 31 9,Zf 32 1 7,Zl 33 false 1 32,Zo 34 (.app 16 1 (.t 31) (.t 33)),Zv 9 34]) (.seq (.seq (.reg [Zo 10 (.mv (.k (.int .i64 0)))]) (.blk 0 (.loop (.seq (.seq (.reg [Zv 35 10,Zf 36 1 4,Zl 37 false 1 36,Zo 38 (.len false (.t 37)),Zo 39 (.bin .lss (.t 35) (.t 38))]) (.cond (.t 39) .skip (.exit 0))) (.seq (.blk 1 (.seq (.reg [Zf 42 1 4,Zl 43 false 1 42,Zv 44 10,Zo 45 (.ixa 4 (.t 43) (.t 44)),Zf 46 1 45,Zl 47 false 1 46]) (.cond (.t 47) (.draw (.op (Zv 48 9) (.op (Zf 49 1 4) (.op (Zl 50 false 1 49) (.op (Zv 51 10) (.op (Zo 52 (.ixa 4 (.t 50) (.t 51))) (.op (Zf 53 2 52) (.op (Zl 54 false 1 53) (.op (Zf 55 1 4) (.op (Zl 56 false 1 55) (.op (Zv 57 10) (.op (Zo 58 (.ixa 4 (.t 56) (.t 57))) (.op (Zf 59 3 58) (.op (Zl 60 false 1 59) (.hop (Zo 61 (.bsl 1 [.t 54,.t 60])) [] (.hop (Zo 62 (.app 16 1 (.t 48) (.t 61))) [] (.hop (Zv 9 62) [] .fin))))))))))))))))) .skip))) (.reg [Zv 40 10,Zo 41 (.bin .add (.t 40) (.k (.int .i64 1))),Zv 10 41])))))) (.seq (.seq (.reg [Zo 11 (.mv (.k (.int .i64 0)))]) (.blk 2 (.loop (.seq (.seq (.reg [Zv 63 11,Zv 64 2,Zo 65 (.bin .lss (.t 63) (.t 64))]) (.cond (.t 65) .skip (.exit 2))) (.seq (.blk 3 (.reg [Zv 68 9,Zf 69 3 4,Zl 70 false 1 69,Zv 71 11,Zo 72 (.ixa 3 (.t 70) (.t 71)),Zf 73 0 72,Zl 74 false 1 73,Zo 75 (.bsl 1 [.t 74]),Zo 76 (.app 16 1 (.t 68) (.t 75)),Zv 9 76])) (.reg [Zv 66 11,Zo 67 (.bin .add (.t 66) (.k (.int .i64 1))),Zv 11 67])))))) (.seq (.reg [Zv 77 9,Zv 6 77]) .ret))))))))⟩
theorem a221_ok:J0a Tryz.prog Tryz.f221=some a221:=by kernel_rfl
def J9p:List DPattern→List Str
 | []=>[]
 | q::l=>(if q.Cons then [q.Head,q.Tail] else [])++J9p l
def J1j (p:DProgram) (r:DRule) (n:Int):List Str:=
 if (J1p p.Functions r.Func).isSome&&inR n 0 r.Calls.length then ((J1p p.Functions r.Func).getD fn0).Params++J9p r.Patterns++(r.Calls.take n.toNat).map (·.Bind) else []
theorem Jgm:∀ l:List DPattern,(J9p l).length≤2*l.length
 | []=>Nat.le_refl _
 | q::l=>by
  have:=Jgm l
  simp only [J9p,List.length_append,List.length_cons]
  split <;> simp <;> omega
theorem Jhu (p:DProgram) (r:DRule) (hp:J0r p≤1048576) (hr:J4l r≤1048576):((J1p p.Functions r.Func).getD fn0).Params.length≤1048576∧r.Patterns.length≤1048576∧r.Calls.length≤1048576:=by
 have h1:=J2b J38 r.Patterns
 have h2:=J2b J61 r.Calls
 unfold J4l J31 J8f at hr
 refine ⟨?_,by omega,by omega⟩
 cases hf:J1p p.Functions r.Func with
 | none=>simp [fn0]
 | some f=>
  have h3:=J3o (w:=J12) (List.mem_of_find?_eq_some hf)
  have h4:=J2b List.length f.Params
  unfold J0r J29 at hp
  rw [show J12 f=f.Name.length+J44 f.Params+J5x f.Pre from rfl] at h3
  unfold J44 at h3
  simp only [Option.getD_some];omega
set_option maxHeartbeats 1000000 in
theorem J7i (p:DProgram) (r:DRule) (k:Int) (hp:J0r p≤1048576) (hr:J4l r≤1048576):Holds Tryz.prog 240 [.agg (J03 p),.agg (J0c r),i64 k] (fun x=>x = .us 1 (J0d (J1j p r k))):=by
 obtain ⟨hl1,hl2,hl3⟩:=Jhu p r hp hr
 refine J02 Tryz.func240 a240_ok rfl (by simp [a240]) ?_
 simp [a240,J03,J0c]
 first|refine J00 (J23 p r.Func hp) (by first|simp [J03];done|rfl) ?_|refine J01 (J23 p r.Func hp) (by first|simp [J03];done|rfl) ?_
 rintro r rfl
 unfold J1j
 generalize hG:(J1p p.Functions r.Func).getD fn0=G at *
 simp only [J8q,hG]
 generalize hb1:(J1p p.Functions r.Func).isSome=b1
 simp [J0j]
 cases b1
 ·simp [J0d]
 simp
 intro _
 first|refine J00 (J1v k 0 r.Calls.length) (by first|simp;done|rfl) ?_|refine J01 (J1v k 0 r.Calls.length) (by first|simp;done|rfl) ?_
 rintro r rfl
 cases h2:inR k 0 r.Calls.length
 ·simp [J0d]
 have hk0:0≤k∧k≤r.Calls.length:=by simpa [inR] using h2
 obtain ⟨m,rfl⟩:∃ m:Nat,k=m:=⟨k.toNat,by omega⟩
 simp
 intro _
 have hpl:=Jgm r.Patterns
 generalize hT1:G.Params++J9p r.Patterns=T1
 have hT1l:T1.length≤3145728:=by rw [←hT1];simp;omega
 refine J0k [1,2,4,34,35] 36 r.Patterns.length (fun i s h n=>h 1=some ⟨true,7,[J0c r]⟩∧4<n∧∃ (acc:List Str) (id:Nat),s 9 = .ref id 0 acc.length∧h id=some ⟨false,1,J0d acc⟩∧(id=2∨4<id)∧id<n∧acc++J9p (r.Patterns.drop i)=T1)
  (by unfold LIM;omega) (by simp) ⟨by simp [J0c],by simp,G.Params,2,by simp,by simp,by omega,by omega,by simpa using hT1⟩ ?_ ?_
 ·rintro i s h n R hi hg hk s36 hw ⟨e1,hn,acc,id,s9,eid,hid2,hidn,hJ⟩ hR _ _
  simp at hk
  rw [List.drop_eq_getElem_cons hi] at hJ
  simp only [J9p] at hJ
  have hal:=congrArg List.length hJ
  simp only [List.length_append] at hal
  have n0:¬id=n:=by omega
  have n1:¬1=n:=by omega
  have n2:¬id=n+1:=by omega
  have n3:¬1=n+1:=by omega
  have n4:¬1=n+1+1:=by omega
  have n5:¬1=id:=by omega
  have n6:¬n=0:=by omega
  have n7:¬n+1=id:=by omega
  have n8:¬n=id:=by omega
  have n9:¬id=n+1+1:=by omega
  simp [hk,s36,hi,hw,J08,e1,eid,n0,n1,n2,n3,n4,n5,n6]
  cases hc:(r.Patterns[i]).Cons
  ·rw [hc] at hJ
   simp only [Bool.false_eq_true,if_false,List.nil_append] at hJ
   simp [s36,hw]
   exact hR _ _ _ (by simp [hk]) (by simp) ⟨by simp [e1,n1],by omega,acc,id,by simp [s9],by simp [eid,n0],hid2,by omega,hJ⟩
  ·rw [hc] at hJ hal
   simp only [if_true] at hJ hal
   simp [s9,eid,n0,n2,n7,n8,s36,hw]
   refine ⟨by simp at hal;unfold LIM;omega,?_⟩
   exact hR _ _ _ (by simp [hk]) (by simp) ⟨by simp [e1,n1,n3,n4,n5,n6],by omega,acc++[(r.Patterns[i]).Head,(r.Patterns[i]).Tail],n+2,by simp,by simp [J0d],by omega,by omega,by rw [List.append_assoc];exact hJ⟩
 ·rintro s h n R hk s36 ⟨e1,hn,acc,id,s9,eid,hid2,hidn,hJ⟩ hret hX
  simp at hk
  rw [List.drop_eq_nil_of_le (by omega)] at hJ
  simp only [J9p,List.append_nil] at hJ
  subst hJ
  simp [hk,s36]
  refine hX _ _ _ _ ?_
  have hm:m≤r.Calls.length:=by omega
  simp [hk,e1,J0c,J3z,asI,Nat.min_eq_left hm,hm]
  intro _
  generalize hT2:G.Params++(J9p r.Patterns++List.take m (List.map (fun x=>x.Bind) r.Calls))=T2
  have hT2l:T2.length≤4194304:=by rw [←hT2];simp;omega
  refine J0k [53,54] 55 m (fun i s h n=>∃ (acc:List Str) (id:Nat),s 9 = .ref id 0 acc.length∧h id=some ⟨false,1,J0d acc⟩∧id<n∧acc++((r.Calls.map (·.Bind)).take m).drop i=T2)
   (by unfold LIM;omega) (by simp) ⟨acc,id,by simp [s9],by simp [eid],hidn,by rw [←hT2,←hT1];simp⟩ ?_ ?_
  ·rintro i s h n R hi hg hk s55 hw ⟨acc,id,s9,eid,hidn,hJ⟩ hR _ _
   simp at hk
   have hir:i<r.Calls.length:=by omega
   rw [List.drop_eq_getElem_cons (by simp;omega)] at hJ
   have hal:=congrArg List.length hJ
   simp at hJ hal
   have n0:¬id=n:=by omega
   have n2:¬id=n+1:=by omega
   have n7:¬n+1=id:=by omega
   have n8:¬n=id:=by omega
   simp [hk,s55,hi,hw,hir,J0y,s9,eid,n0,n2,n7,n8]
   refine ⟨by omega,by unfold LIM;omega,?_⟩
   exact hR _ _ _ (by simp [hk]) (by simp) ⟨acc++[(r.Calls[i]).Bind],n+2,by simp,by simp [J0d],by omega,by simpa using hJ⟩
  ·rintro s h n R hk s55 ⟨acc,id,s9,eid,hidn,hJ⟩ hret hX
   simp at hk
   rw [List.drop_eq_nil_of_le (by simp;omega),List.append_nil] at hJ
   subst hJ
   simp [hk,s55]
   refine hX _ _ _ _ ?_
   simp [s9,eid]
set_option maxHeartbeats 1000000 in
theorem J6l (p:DProgram) (r:DRule) (k:Int) (hp:J0r p≤1048576) (hr:J4l r≤1048576):Holds Tryz.prog 221 [.agg (J03 p),.agg (J0c r),i64 k] (fun x=>x = .us 1 (J0d (J1j p r k))):=by
 obtain ⟨hl1,hl2,hl3⟩:=Jhu p r hp hr
 refine J02 Tryz.func221 a221_ok rfl (by simp [a221]) ?_
 simp [a221,J03,J0c]
 first|refine J00 (J20 p r.Func hp) (by first|simp [J03];done|rfl) ?_|refine J01 (J20 p r.Func hp) (by first|simp [J03];done|rfl) ?_
 rintro r rfl
 unfold J1j
 generalize hG:(J1p p.Functions r.Func).getD fn0=G at *
 simp only [J8q,hG]
 generalize hb1:(J1p p.Functions r.Func).isSome=b1
 simp [J0j]
 cases b1
 ·simp [J0d]
 simp
 intro _
 first|refine J00 (J43 k 0 r.Calls.length) (by first|simp;done|rfl) ?_|refine J01 (J43 k 0 r.Calls.length) (by first|simp;done|rfl) ?_
 rintro r rfl
 cases h2:inR k 0 r.Calls.length
 ·simp [J0d]
 have hk0:0≤k∧k≤r.Calls.length:=by simpa [inR] using h2
 obtain ⟨m,rfl⟩:∃ m:Nat,k=m:=⟨k.toNat,by omega⟩
 simp
 refine ⟨by unfold LIM;omega,?_⟩
 have hpl:=Jgm r.Patterns
 generalize hT1:G.Params++J9p r.Patterns=T1
 have hT1l:T1.length≤3145728:=by rw [←hT1];simp;omega
 refine J0k [1,2,4] 10 r.Patterns.length (fun i s h n=>h 1=some ⟨true,7,[J0c r]⟩∧4<n∧∃ (acc:List Str) (id:Nat),s 9 = .ref id 0 acc.length∧h id=some ⟨false,1,J0d acc⟩∧4<id∧id<n∧acc++J9p (r.Patterns.drop i)=T1)
  (by unfold LIM;omega) (by simp) ⟨by simp [J0c],by simp,G.Params,6,by simp,by simp,by omega,by omega,by simpa using hT1⟩ ?_ ?_
 ·rintro i s h n R hi hg hk s10 hw ⟨e1,hn,acc,id,s9,eid,hid2,hidn,hJ⟩ hR _ _
  simp at hk
  rw [List.drop_eq_getElem_cons hi] at hJ
  simp only [J9p] at hJ
  have hal:=congrArg List.length hJ
  simp only [List.length_append] at hal
  have n0:¬id=n:=by omega
  have n1:¬1=n:=by omega
  have n2:¬id=n+1:=by omega
  have n3:¬1=n+1:=by omega
  have n5:¬1=id:=by omega
  have n5':¬id=1:=by omega
  have n6:¬n=0:=by omega
  have n7:¬n+1=id:=by omega
  have n8:¬n=id:=by omega
  simp [hk,s10,hi,hg,hw,J08,e1,J0c]
  intro _
  cases hc:(r.Patterns[i]).Cons
  ·rw [hc] at hJ
   simp only [Bool.false_eq_true,if_false,List.nil_append] at hJ
   simp [s10,hw]
   exact hR _ _ _ (by simp [hk]) (by simp) ⟨by simp [e1],by omega,acc,id,by simp [s9],by simp [eid],hid2,by omega,hJ⟩
  ·rw [hc] at hJ hal
   simp only [if_true] at hJ hal
   simp [hk,hi,J08,e1,J0c,s9,eid,n0,n1,n2,n3,n5,n5',n6,n7,n8,s10,hw]
   refine ⟨by simp at hal;unfold LIM;omega,?_⟩
   exact hR _ _ _ (by simp [hk]) (by simp) ⟨by simp [e1,n1,n3,n5,n6],by omega,acc++[(r.Patterns[i]).Head,(r.Patterns[i]).Tail],n+1,by simp,by simp [J0d],by omega,by omega,by rw [List.append_assoc];exact hJ⟩
 ·rintro s h n R hkk s10 ⟨e1,hn,acc,id,s9,eid,hid2,hidn,hJ⟩ hret hX
  simp at hkk
  rw [List.drop_eq_nil_of_le (by omega)] at hJ
  simp only [J9p,List.append_nil] at hJ
  subst hJ
  simp [hkk,s10,e1,J0c]
  intro _
  refine hX _ _ _ _ ?_
  have hm:m≤r.Calls.length:=by omega
  simp [hkk]
  generalize hT2:G.Params++(J9p r.Patterns++List.take m (List.map (fun x=>x.Bind) r.Calls))=T2
  have hT2l:T2.length≤4194304:=by rw [←hT2];simp;omega
  refine J0k [2,4] 11 m (fun i s h n=>h 1=some ⟨true,7,[J0c r]⟩∧4<n∧∃ (acc:List Str) (id:Nat),s 9 = .ref id 0 acc.length∧h id=some ⟨false,1,J0d acc⟩∧4<id∧id<n∧acc++((r.Calls.map (·.Bind)).take m).drop i=T2)
   (by unfold LIM;omega) (by simp) ⟨by simp [e1],hn,acc,id,by simp [s9],by simp [eid],hid2,hidn,by rw [←hT2,←hT1];simp⟩ ?_ ?_
  ·rintro i s h n R hi hg hk s11 hw ⟨e1,hn,acc,id,s9,eid,hid2,hidn,hJ⟩ hR _ _
   simp at hk
   have hir:i<r.Calls.length:=by omega
   rw [List.drop_eq_getElem_cons (by simp;omega)] at hJ
   have hal:=congrArg List.length hJ
   simp at hJ hal
   have n0:¬id=n:=by omega
   have n1:¬1=n:=by omega
   have n2:¬id=n+1:=by omega
   have n3:¬1=n+1:=by omega
   have n5:¬1=id:=by omega
   have n5':¬id=1:=by omega
   have n6:¬n=0:=by omega
   have n7:¬n+1=id:=by omega
   have n8:¬n=id:=by omega
   simp [hk,hkk,s11,hi,hw,hir,e1,J0c,J0y,s9,eid,n0,n2,n7,n8]
   refine ⟨by unfold LIM;omega,?_⟩
   exact hR _ _ _ (by simp [hk,hkk]) (by simp) ⟨by simp [e1,J0c,n1,n3,n5,n6],by omega,acc++[(r.Calls[i]).Bind],n+1,by simp,by simp [J0d],by omega,by omega,by simpa using hJ⟩
  ·rintro s h n R hk s11 ⟨e1,hn,acc,id,s9,eid,hid2,hidn,hJ⟩ hret hX
   simp at hk
   rw [List.drop_eq_nil_of_le (by simp;omega),List.append_nil] at hJ
   subst hJ
   simp [hk,hkk,s11]
   refine hX _ _ _ _ ?_
   simp [s9,eid]
end Go.Proofs.YtoclolkigjbcgaaGreat
