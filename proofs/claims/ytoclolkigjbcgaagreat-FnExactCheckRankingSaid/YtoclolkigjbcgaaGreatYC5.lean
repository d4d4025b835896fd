/- Contracts: combinations of rows. -/
import Derived.Test.YtoclolkigjbcgaaGreatYC1
import Derived.Test.YtoclolkigjbcgaaGreatYC13
import Derived.Test.YtoclolkigjbcgaaGreatYE4
import Derived.Test.YtoclolkigjbcgaaGreatYV7
import Derived.Test.YtoclolkigjbcgaaGreatYT1
import Derived.Test.YtoclolkigjbcgaaGreatProg
namespace Go.Proofs.YtoclolkigjbcgaaGreat
set_option maxRecDepth 40000
set_option maxHeartbeats 4000000
open Go Go.RowKit Go.Proofs
set_option linter.all false
def a309:AFn:= ⟨6,[.t 2],(.seq (.reg [Zo 2 (.mv (.k (.bool false)))]) (.seq (.reg [Zv 3 0,Zc 4 102 [.t 3,(.k (.int .i64 0)),(.k (.int .i64 1000000000))],Zo 5 (.un .not (.t 4)),Zv 2 5]) .ret))⟩
theorem a309_ok:J09 Tryz.prog Tryz.f309=some a309:=by kernel_rfl
def a278:AFn:= ⟨52,[(.c 4 true 2),.t 5],(.seq (.reg [Zo 2 (.boxv (.t 0)),Zo 4 (.box [(.int .i64 0),(.nil 1)]),Zo 5 (.mv (.k (.bool false)))]) (.seq (.seq (.reg [Zl 10 true 2 2,Zc 11 277 [.t 10],Zo 12 (.un .not (.t 11)),Zv 13 12,⟨some 14,.mv (.t 1),(some (13,false))⟩,⟨some 15,.len false (.t 14),(some (13,false))⟩,⟨some 16,.fld 1 (.t 2),(some (13,false))⟩,⟨some 17,.ld false 1 (.t 16),(some (13,false))⟩,⟨some 18,.len false (.t 17),(some (13,false))⟩,⟨some 19,.bin .neq (.t 15) (.t 18),(some (13,false))⟩,Zo 20 (.pick (.t 13) (.k (.bool true)) (.t 19)),Zv 21 20,⟨some 22,.mv (.t 1),(some (21,false))⟩,⟨some 23,.call (.k (.fn (.func 233) [] [])) [.t 22,(.k (.fn (.func 309) [] []))],(some (21,false))⟩,Zo 24 (.pick (.t 21) (.k (.bool true)) (.t 23))]) (.cond (.t 24) (.seq (.reg [Zo 25 (.build [(.int .i64 0),(.nil 1)] []),⟨no,.st 2 (.t 4) (.t 25),no⟩,Zo 5 (.mv (.k (.bool false)))]) .ret) .skip)) (.seq (.reg [Zf 26 0 2,Zl 27 false 1 26,Zc 28 178 [(.k (.int .i64 0)),.t 27],Zo 6 (.box [(.int .i64 0),(.nil 1)]),⟨no,.st 2 (.t 6) (.t 28),no⟩]) (.seq (.reg [Zo 7 (.mv (.k (.bool true)))]) (.seq (.seq (.reg [Zv 29 1,Zo 30 (.len false (.t 29)),Zo 31 (.mv (.k (.int .i64 0)))]) (.blk 0 (.loop (.seq (.reg [Zo 32 (.bin .lss (.t 31) (.t 30))]) (.seq (.cond (.t 32) .skip (.exit 0)) (.seq (.blk 1 (.seq (.reg [Zv 33 31,Zo 34 (.ixa 1 (.t 29) (.t 31)),Zl 35 false 1 34,Zv 8 33,Zv 9 35]) (.seq (.draw (.op (Zl 37 true 2 6) (.op (Zv 38 9) (.op (Zf 39 1 2) (.op (Zl 40 false 1 39) (.op (Zv 41 8) (.op (Zo 42 (.ixa 2 (.t 40) (.t 41))) (.op (Zl 43 true 2 42) (.op (Zc 44 193 [.t 37,.t 38,.t 43]) (.op (Zv 36 44) (.op (Zo 45 (.ext (.t 36) 0)) (.op (Zo 46 (.ext (.t 36) 1)) (.hop ⟨no,.st 2 (.t 6) (.t 45),no⟩ [] (.op (Zv 7 46) .fin)))))))))))))) (.seq (.reg [Zv 47 7,Zo 48 (.un .not (.t 47))]) (.cond (.t 48) (.seq (.reg [Zo 49 (.build [(.int .i64 0),(.nil 1)] []),⟨no,.st 2 (.t 4) (.t 49),no⟩,Zo 5 (.mv (.k (.bool false)))]) .ret) .skip))))) (.reg [Zo 50 (.bin .add (.t 31) (.k (.int .i64 1))),Zv 31 50]))))))) (.seq (.reg [Zl 51 true 2 6,⟨no,.st 2 (.t 4) (.t 51),no⟩,Zo 5 (.mv (.k (.bool true)))]) .ret))))))⟩
theorem a278_ok:J09 Tryz.prog Tryz.f278=some a278:=by kernel_rfl
def a275:AFn:= ⟨57,[(.c 4 true 2),.t 5],(.seq (.reg [Zo 2 (.boxv (.t 0)),Zo 4 (.box [(.int .i64 0),(.nil 1)]),Zo 5 (.mv (.k (.bool false)))]) (.seq (.seq (.reg [Zl 10 true 2 2,Zc 11 258 [.t 10],Zo 12 (.un .not (.t 11)),Zv 13 12,⟨some 14,.mv (.t 1),(some (13,false))⟩,⟨some 15,.len false (.t 14),(some (13,false))⟩,⟨some 16,.fld 1 (.t 2),(some (13,false))⟩,⟨some 17,.ld false 1 (.t 16),(some (13,false))⟩,⟨some 18,.len false (.t 17),(some (13,false))⟩,⟨some 19,.bin .neq (.t 15) (.t 18),(some (13,false))⟩,Zo 20 (.pick (.t 13) (.k (.bool true)) (.t 19))]) (.cond (.t 20) (.seq (.reg [Zo 21 (.build [(.int .i64 0),(.nil 1)] []),⟨no,.st 2 (.t 4) (.t 21),no⟩,Zo 5 (.mv (.k (.bool false)))]) .ret) .skip)) (.seq (.reg [Zf 22 0 2,Zl 23 false 1 22,Zc 24 99 [(.k (.int .i64 0)),.t 23],Zo 6 (.box [(.int .i64 0),(.nil 1)]),⟨no,.st 2 (.t 6) (.t 24),no⟩]) (.seq (.seq (.reg [Zo 7 (.mv (.k (.int .i64 0)))]) (.blk 0 (.loop (.seq (.seq (.reg [Zv 25 7,Zv 26 1,Zo 27 (.len false (.t 26)),Zo 28 (.bin .lss (.t 25) (.t 27))]) (.cond (.t 28) .skip (.exit 0))) (.seq (.blk 1 (.seq (.draw (.op (Zl 32 true 2 6) (.op (Zv 33 1) (.op (Zv 34 7) (.op (Zo 35 (.ixa 1 (.t 33) (.t 34))) (.op (Zl 36 false 1 35) (.op (Zf 37 1 2) (.op (Zl 38 false 1 37) (.op (Zv 39 7) (.op (Zo 40 (.ixa 2 (.t 38) (.t 39))) (.op (Zl 41 true 2 40) (.both (.op (Zc 42 98 [.t 32,.t 36,.t 41]) (.op (Zv 31 42) (.op (Zo 43 (.ext (.t 31) 0)) (.op (Zo 44 (.ext (.t 31) 1)) (.op (Zo 8 (.box [(.int .i64 0),(.nil 1)])) (.hop ⟨no,.st 2 (.t 8) (.t 43),no⟩ [] (.op (Zv 9 44) .fin))))))) (.op (Zo 8 (.box [(.int .i64 0),(.nil 1)])) (.op (Zc 42 98 [.t 32,.t 36,.t 41]) (.op (Zv 31 42) (.op (Zo 43 (.ext (.t 31) 0)) (.op (Zo 44 (.ext (.t 31) 1)) (.hop ⟨no,.st 2 (.t 8) (.t 43),no⟩ [] (.op (Zv 9 44) .fin))))))))))))))))))) (.seq (.seq (.reg [Zv 45 9,Zo 46 (.un .not (.t 45)),Zv 47 46,⟨some 48,.mv (.t 1),(some (47,false))⟩,⟨some 49,.mv (.t 7),(some (47,false))⟩,⟨some 50,.ixa 1 (.t 48) (.t 49),(some (47,false))⟩,⟨some 51,.ld false 1 (.t 50),(some (47,false))⟩,⟨some 52,.bin .lss (.t 51) (.k (.int .i64 0)),(some (47,false))⟩,Zo 53 (.pick (.t 47) (.k (.bool true)) (.t 52))]) (.cond (.t 53) (.seq (.reg [Zo 54 (.build [(.int .i64 0),(.nil 1)] []),⟨no,.st 2 (.t 4) (.t 54),no⟩,Zo 5 (.mv (.k (.bool false)))]) .ret) .skip)) (.reg [Zl 55 true 2 8,⟨no,.st 2 (.t 6) (.t 55),no⟩])))) (.reg [Zv 29 7,Zo 30 (.bin .add (.t 29) (.k (.int .i64 1))),Zv 7 30])))))) (.seq (.reg [Zl 56 true 2 6,⟨no,.st 2 (.t 4) (.t 56),no⟩,Zo 5 (.mv (.k (.bool true)))]) .ret)))))⟩
theorem a275_ok:J09 Tryz.prog Tryz.f275=some a275:=by kernel_rfl
def J8m:List (Int×DLin)→DLin→Option DLin
 | [],o=>some o
 | p::l,o=>match J0g o p.1 p.2 with
  | some o'=>if p.1<0 then Option.none else J8m l o'
  | Option.none=>Option.none
def J8s (x:DSystem) (m:List Int):Option DLin:=
 if Jfc x&&decide (m.length=x.Rows.length) then J8m (m.zip x.Rows) (J06 0 x.N) else Option.none
theorem Jgf:∀ (l:List (Int×DLin)) (o:DLin),(∃ p∈l,inR p.1 0 1000000000=false)→J8m l o=Option.none
 | [],o,h=>by obtain ⟨p,hp,_⟩:=h;cases hp
 | q::l,o,h=>by
  obtain ⟨p,hp,hb⟩:=h
  simp only [J8m]
  split
  ·rename_i o' ho
   split
   ·rfl
   ·rename_i hq
    rcases List.mem_cons.1 hp with rfl|hp
    ·exfalso
     have hk:okC p.1=true:=by
      cases hc:okC p.1
      ·unfold J0g at ho;rw [hc] at ho;simp at ho
      ·rfl
     rw [Jcj] at hk
     simp [inR] at hb
     omega
    ·exact Jgf l o' ⟨p,hp,hb⟩
  ·rfl
theorem Jwe {m:List Int}{rows:List DLin}(hl:m.length=rows.length) (h:m.all (fun v=>inR v 0 1000000000)=false):∃ p∈m.zip rows,inR p.1 0 1000000000=false:=by
 rw [List.all_eq_false] at h
 obtain ⟨v,hv,hb⟩:=h
 obtain ⟨i,hi,rfl⟩:=List.mem_iff_getElem.1 hv
 exact ⟨(m[i],rows[i]),List.mem_iff_getElem.2 ⟨i,by simp;omega,by simp⟩,by simpa using hb⟩
theorem Jfx (n:Int):Holds Tryz.prog 309 [i64 n] (fun r=>r = .bool (!(inR n 0 1000000000))):=by
 refine J03 Tryz.func309 a309_ok rfl (by simp [a309]) ?_
 simp [a309]
 first|refine J01 (J1v n 0 1000000000) (by first|simp;done|rfl) ?_|refine J02 (J1v n 0 1000000000) (by first|simp;done|rfl) ?_
 rintro r rfl
 simp
set_option maxHeartbeats 1000000 in
theorem Jbs (x:DSystem) (m:List Int):Holds Tryz.prog 278 [.agg (J0z x),.sl 1 (J0l m)] (fun r=>r=J0s (J8s x m)):=by
 refine J03 Tryz.func278 a278_ok rfl (by simp [a278]) ?_
 simp [a278,J0z]
 first|refine J01 (J5h x) (by first|simp [J0z];done|rfl) ?_|refine J02 (J5h x) (by first|simp [J0z];done|rfl) ?_
 rintro r rfl
 unfold J8s
 cases h1:Jfc x
 ·simp [J0s,J0y,J07,J0l]
 simp
 intro hlm hlr
 by_cases h2:m.length=x.Rows.length
 case neg=>simp [h2,J0s,J0y,J07,J0l];omega
 simp [h2]
 refine J1i (p:=fun n => !(inR n 0 1000000000)) (rowOf:=fun n=>[i64 n]) (eltOf:=i64) Tryz.func233 a233_ok rfl Tryz.func292 a292_ok rfl (fun x=>by simp) m
  (fun x _=>J50 (Jfx x) rfl rfl) ?_
 rw [J8d (fun n:Int=>inR n 0 1000000000)]
 cases h3:m.all (fun n=>inR n 0 1000000000)
 ·rw [Jgf _ _ (Jwe h2 h3)]
  simp [J0s,J0y,J07,J0l]
 simp
 first|refine J01 (J1w 0 x.N) (by first|simp;done|rfl) ?_|refine J02 (J1w 0 x.N) (by first|simp;done|rfl) ?_
 rintro r rfl
 simp [J07]
 intro _
 have hzl:(m.zip x.Rows).length=m.length:=by simp [h2]
 refine J0n [2,4,6,29,30] 31 m.length (fun i s h n=>h 0=some ⟨true,2,[[.int .i64 x.N,.sl 2 (x.Rows.map J05)]]⟩∧h 1=some ⟨true,2,[[.int .i64 0,.nil 1]]⟩∧3<n ∧
  ∃ (o:DLin) (id:Nat),h 3=some ⟨true,2,[[.int .i64 o.Const,.ref id 0 o.Coeffs.length]]⟩∧h id=some ⟨false,1,J0l o.Coeffs⟩∧id<n∧(id=2∨3<id)∧J8m ((m.zip x.Rows).drop i) o=J8m (m.zip x.Rows) (J06 0 x.N))
  hlm (by simp) ⟨by simp,by simp,by simp,J06 0 x.N,2,by simp,by simp,by omega,by omega,rfl⟩ ?_ ?_
 ·rintro i s h n R hi hg hk s31 hw ⟨e0,e1,hn,o,id,e3,eid,hidn,hid,hJ⟩ hR hret _
  simp at hk
  have hir:i<x.Rows.length:=by omega
  rw [List.drop_eq_getElem_cons (by omega:i<(m.zip x.Rows).length)] at hJ
  simp only [J8m,List.getElem_zip] at hJ
  have hm:=List.all_eq_true.1 h3 _ (List.getElem_mem hi)
  simp [inR] at hm
  have n0:¬0=n:=by omega
  have n1:¬1=n:=by omega
  have n3:¬3=n:=by omega
  have n3':¬n=3:=by omega
  have nid:¬id=n:=by omega
  simp [hk,s31,hi,hg,hw,hir,e0,e1,e3,eid]
  first|refine J01 (J1u o (m[i]'hi) (x.Rows[i]'hir)) (by first|simp [J05,eid];done|rfl) ?_|refine J02 (J1u o (m[i]'hi) (x.Rows[i]'hir)) (by first|simp [J05,eid];done|rfl) ?_
  rintro r rfl
  cases ho:J0g o m[i] x.Rows[i]
  ·rw [ho] at hJ
   simp [J0s,J0y,J07,hk,e0,e1,e3,n0,n1,n3,n3']
   refine hret _ _ _ ?_
   simp [hk,←hJ,J0s,J0y,J07,J0l]
  ·rename_i o'
   rw [ho] at hJ
   simp only at hJ
   rw [if_neg (by omega)] at hJ
   simp [J0s,J07,hk,s31,hw,e0,e1,e3,n0,n1,n3,n3']
   exact hR _ _ _ (by simp [hk]) (by simp) ⟨by simp [e0,n0],by simp [e1,n1],by omega,o',n,by simp,by simp [n3'],by omega,by omega,hJ⟩
 ·rintro s h n R hk s31 ⟨e0,e1,hn,o,id,e3,eid,hidn,hid,hJ⟩ hret hX
  simp at hk
  rw [List.drop_eq_nil_of_le (by omega)] at hJ
  simp only [J8m] at hJ
  simp [hk,s31]
  refine hX _ _ _ _ ?_
  have i1:¬1=id:=by omega
  have i1':¬id=1:=by omega
  simp [hk,e1,e3,eid,←hJ,J0s,J07,i1,i1']
theorem Jah (x:DSystem) (m:List Int):Holds Tryz.prog 275 [.agg (J0z x),.sl 1 (J0l m)] (fun r=>r=J0s (J8s x m)):=by
 refine J1l Tryz.func275 rfl rfl fun hlm => ?_
 simp [J0z] at hlm
 refine J03 Tryz.func275 a275_ok rfl (by simp [a275]) ?_
 simp [a275,J0z]
 first|refine J01 (J8l x) (by first|simp [J0z];done|rfl) ?_|refine J02 (J8l x) (by first|simp [J0z];done|rfl) ?_
 rintro r rfl
 unfold J8s
 cases h1:Jfc x
 ·simp [J0s,J0y,J07,J0l]
 simp
 intro _ _
 by_cases h2:m.length=x.Rows.length
 case neg=>simp [h2,J0s,J0y,J07,J0l];omega
 simp [h2]
 first|refine J01 (J1m 0 x.N) (by first|simp;done|rfl) ?_|refine J02 (J1m 0 x.N) (by first|simp;done|rfl) ?_
 rintro r rfl
 simp [J07]
 have hzl:(m.zip x.Rows).length=m.length:=by simp [h2]
 refine J0n [1,2,4,6] 7 m.length (fun i s h n=>h 0=some ⟨true,2,[[.int .i64 x.N,.sl 2 (x.Rows.map J05)]]⟩∧h 1=some ⟨true,2,[[.int .i64 0,.nil 1]]⟩∧3<n ∧
  ∃ (o:DLin) (id:Nat),h 3=some ⟨true,2,[[.int .i64 o.Const,.ref id 0 o.Coeffs.length]]⟩∧h id=some ⟨false,1,J0l o.Coeffs⟩∧id<n∧(id=2∨3<id)∧J8m ((m.zip x.Rows).drop i) o=J8m (m.zip x.Rows) (J06 0 x.N))
  hlm.2 (by simp) ⟨by simp,by simp,by simp,J06 0 x.N,2,by simp,by simp,by omega,by omega,rfl⟩ ?_ ?_
 ·rintro i s h n R hi hg hk s7 hw ⟨e0,e1,hn,o,id,e3,eid,hidn,hid,hJ⟩ hR hret _
  simp at hk
  have hir:i<x.Rows.length:=by omega
  rw [List.drop_eq_getElem_cons (by omega:i<(m.zip x.Rows).length)] at hJ
  simp only [J8m,List.getElem_zip] at hJ
  have n0:¬0=n:=by omega
  have n1:¬1=n:=by omega
  have n3:¬3=n:=by omega
  have n3':¬n=3:=by omega
  have nid:¬id=n:=by omega
  have m0:¬0=n+1:=by omega
  have m1:¬1=n+1:=by omega
  have m3:¬3=n+1:=by omega
  have m3':¬n+1=3:=by omega
  have mid:¬id=n+1:=by omega
  have z0:¬n=0:=by omega
  have z2:¬n=2:=by omega
  simp [hk,s7,hi,hg,hir,e0,e1,e3,eid]
  intro _
  constructor
  ·skip
   first|refine J01 (J0q o (m[i]'hi) (x.Rows[i]'hir)) (by first|simp [J05,eid];done|rfl) ?_|refine J02 (J0q o (m[i]'hi) (x.Rows[i]'hir)) (by first|simp [J05,eid];done|rfl) ?_
   rintro r rfl
   cases ho:J0g o m[i] x.Rows[i]
   ·rw [ho] at hJ
    simp [J0s,J0y,J07,hk,s7,hi,e0,e1,e3,n0,n1,n3,n3',z0,z2]
    refine hret _ _ _ ?_
    simp [hk,←hJ,J0s,J0y,J07,J0l]
   ·rename_i o'
    rw [ho] at hJ
    simp only at hJ
    simp [J0s,J07,hk,s7,hi,hw,e0,e1,e3,n0,n1,n3,n3',z0,z2]
    refine ⟨fun hm => ?_,fun hm => ?_⟩
    ·rw [if_pos hm] at hJ
     refine hret _ _ _ ?_
     simp [hk,←hJ,J0s,J0y,J07,J0l]
    ·rw [if_neg (by omega)] at hJ
     exact hR _ _ _ (by simp [hk]) (by simp) ⟨by simp [e0,n0],by simp [e1,n1,z0],by omega,o',n,by simp,by simp [n3'],by omega,by omega,hJ⟩
  ·skip
   first|refine J01 (J0q o (m[i]'hi) (x.Rows[i]'hir)) (by first|simp [J05,eid,mid,nid];done|rfl) ?_|refine J02 (J0q o (m[i]'hi) (x.Rows[i]'hir)) (by first|simp [J05,eid,mid,nid];done|rfl) ?_
   rintro r rfl
   cases ho:J0g o m[i] x.Rows[i]
   ·rw [ho] at hJ
    simp [J0s,J0y,J07,hk,s7,hi,e0,e1,e3,n0,n1,n3,n3',z0,z2]
    refine hret _ _ _ ?_
    simp [hk,←hJ,J0s,J0y,J07,J0l]
   ·rename_i o'
    rw [ho] at hJ
    simp only at hJ
    simp [J0s,J07,hk,s7,hi,hw,e0,e1,e3,n0,n1,n3,n3',z0,z2]
    refine ⟨fun hm => ?_,fun hm => ?_⟩
    ·rw [if_pos hm] at hJ
     refine hret _ _ _ ?_
     simp [hk,←hJ,J0s,J0y,J07,J0l]
    ·rw [if_neg (by omega)] at hJ
     exact hR _ _ _ (by simp [hk]) (by simp) ⟨by simp [e0,n0],by simp [e1,n1,z0],by omega,o',n+1,by simp,by simp [z2],by omega,by omega,hJ⟩
 ·rintro s h n R hk s7 ⟨e0,e1,hn,o,id,e3,eid,hidn,hid,hJ⟩ hret hX
  simp at hk
  rw [List.drop_eq_nil_of_le (by omega)] at hJ
  simp only [J8m] at hJ
  simp [hk,s7]
  intro _
  refine hX _ _ _ _ ?_
  have i1:¬1=id:=by omega
  have i1':¬id=1:=by omega
  simp [hk,e1,e3,eid,←hJ,J0s,J07,i1,i1']
def a196:AFn:= ⟨66,[.t 6],(.seq (.reg [Zo 3 (.boxv (.t 0)),Zo 4 (.boxv (.t 1)),Zo 5 (.boxv (.t 2)),Zo 6 (.mv (.k (.bool false)))]) (.seq (.seq (.reg [Zl 13 true 2 3,Zc 14 277 [.t 13],Zo 15 (.un .not (.t 14)),Zv 16 15,⟨some 17,.ld true 2 (.t 4),(some (16,false))⟩,⟨some 18,.fld 0 (.t 3),(some (16,false))⟩,⟨some 19,.ld false 1 (.t 18),(some (16,false))⟩,⟨some 20,.call (.k (.fn (.func 146) [] [])) [.t 17,.t 19],(some (16,false))⟩,⟨some 21,.un .not (.t 20),(some (16,false))⟩,Zo 22 (.pick (.t 16) (.k (.bool true)) (.t 21)),Zv 23 22,⟨some 24,.fld 0 (.t 5),(some (23,false))⟩,⟨some 25,.ld false 1 (.t 24),(some (23,false))⟩,⟨some 26,.call (.k (.fn (.func 102) [] [])) [.t 25,(.k (.int .i64 0)),(.k (.int .i64 1000000000))],(some (23,false))⟩,⟨some 27,.un .not (.t 26),(some (23,false))⟩,Zo 28 (.pick (.t 23) (.k (.bool true)) (.t 27))]) (.cond (.t 28) (.seq (.reg [Zo 6 (.mv (.k (.bool false)))]) .ret) .skip)) (.seq (.reg [Zl 30 true 2 3,Zf 31 1 5,Zl 32 false 1 31,Zc 33 278 [.t 30,.t 32],Zv 29 33,Zo 34 (.ext (.t 29) 0),Zo 35 (.ext (.t 29) 1),Zo 7 (.box [(.int .i64 0),(.nil 1)]),⟨no,.st 2 (.t 7) (.t 34),no⟩,Zv 8 35]) (.seq (.reg [Zl 37 true 2 4,Zc 38 189 [.t 37,(.k (.int .i64 1))],Zv 36 38,Zo 39 (.ext (.t 36) 0),Zo 40 (.ext (.t 36) 1),Zo 9 (.box [(.int .i64 0),(.nil 1)]),⟨no,.st 2 (.t 9) (.t 39),no⟩,Zv 10 40]) (.seq (.seq (.reg [Zv 41 8,Zo 42 (.un .not (.t 41)),Zv 43 42,⟨some 44,.mv (.t 10),(some (43,false))⟩,⟨some 45,.un .not (.t 44),(some (43,false))⟩,Zo 46 (.pick (.t 43) (.k (.bool true)) (.t 45))]) (.cond (.t 46) (.seq (.reg [Zo 6 (.mv (.k (.bool false)))]) .ret) .skip)) (.seq (.reg [Zl 48 true 2 7,Zf 49 0 5,Zl 50 false 1 49,Zo 51 (.un .neg (.t 50)),Zl 52 true 2 9,Zc 53 193 [.t 48,.t 51,.t 52],Zv 47 53,Zo 54 (.ext (.t 47) 0),Zo 55 (.ext (.t 47) 1),Zo 11 (.box [(.int .i64 0),(.nil 1)]),⟨no,.st 2 (.t 11) (.t 54),no⟩,Zv 12 55]) (.seq (.reg [Zv 56 12,Zv 57 56,⟨some 58,.ld true 2 (.t 11),(some (57,true))⟩,⟨some 59,.call (.k (.fn (.func 279) [] [])) [.t 58],(some (57,true))⟩,Zo 60 (.pick (.t 57) (.t 59) (.k (.bool false))),Zv 61 60,⟨some 62,.fld 0 (.t 11),(some (61,true))⟩,⟨some 63,.ld false 1 (.t 62),(some (61,true))⟩,⟨some 64,.bin .lss (.t 63) (.k (.int .i64 0)),(some (61,true))⟩,Zo 65 (.pick (.t 61) (.t 64) (.k (.bool false))),Zv 6 65]) .ret)))))))⟩
theorem a196_ok:J09 Tryz.prog Tryz.f196=some a196:=by kernel_rfl
def a195:AFn:= ⟨65,[.t 6],(.seq (.reg [Zo 3 (.boxv (.t 0)),Zo 4 (.boxv (.t 1)),Zo 5 (.boxv (.t 2)),Zo 6 (.mv (.k (.bool false)))]) (.seq (.reg [Zl 14 true 2 3,Zf 15 1 5,Zl 16 false 1 15,Zc 17 275 [.t 14,.t 16],Zv 13 17,Zo 18 (.ext (.t 13) 0),Zo 19 (.ext (.t 13) 1),Zo 7 (.box [(.int .i64 0),(.nil 1)]),⟨no,.st 2 (.t 7) (.t 18),no⟩,Zv 8 19]) (.seq (.seq (.reg [Zv 20 8,Zo 21 (.un .not (.t 20)),Zv 22 21,⟨some 23,.ld true 2 (.t 4),(some (22,false))⟩,⟨some 24,.fld 0 (.t 3),(some (22,false))⟩,⟨some 25,.ld false 1 (.t 24),(some (22,false))⟩,⟨some 26,.call (.k (.fn (.func 179) [] [])) [.t 23,.t 25],(some (22,false))⟩,⟨some 27,.un .not (.t 26),(some (22,false))⟩,Zo 28 (.pick (.t 22) (.k (.bool true)) (.t 27)),Zv 29 28,⟨some 30,.fld 0 (.t 5),(some (29,false))⟩,⟨some 31,.ld false 1 (.t 30),(some (29,false))⟩,⟨some 32,.call (.k (.fn (.func 183) [] [])) [.t 31,(.k (.int .i64 0)),(.k (.int .i64 1000000000))],(some (29,false))⟩,⟨some 33,.un .not (.t 32),(some (29,false))⟩,Zo 34 (.pick (.t 29) (.k (.bool true)) (.t 33))]) (.cond (.t 34) (.seq (.reg [Zo 6 (.mv (.k (.bool false)))]) .ret) .skip)) (.seq (.draw (.op (Zl 36 true 2 4) (.op (Zf 37 0 3) (.op (Zl 38 false 1 37) (.both (.op (Zc 39 99 [(.k (.int .i64 1)),.t 38]) (.both (.op (Zc 40 98 [.t 36,(.k (.int .i64 1)),.t 39]) (.op (Zv 35 40) (.op (Zo 41 (.ext (.t 35) 0)) (.op (Zo 42 (.ext (.t 35) 1)) (.op (Zo 9 (.box [(.int .i64 0),(.nil 1)])) (.hop ⟨no,.st 2 (.t 9) (.t 41),no⟩ [] (.op (Zv 10 42) .fin))))))) (.op (Zo 9 (.box [(.int .i64 0),(.nil 1)])) (.op (Zc 40 98 [.t 36,(.k (.int .i64 1)),.t 39]) (.op (Zv 35 40) (.op (Zo 41 (.ext (.t 35) 0)) (.op (Zo 42 (.ext (.t 35) 1)) (.hop ⟨no,.st 2 (.t 9) (.t 41),no⟩ [] (.op (Zv 10 42) .fin))))))))) (.op (Zo 9 (.box [(.int .i64 0),(.nil 1)])) (.op (Zc 39 99 [(.k (.int .i64 1)),.t 38]) (.op (Zc 40 98 [.t 36,(.k (.int .i64 1)),.t 39]) (.op (Zv 35 40) (.op (Zo 41 (.ext (.t 35) 0)) (.op (Zo 42 (.ext (.t 35) 1)) (.hop ⟨no,.st 2 (.t 9) (.t 41),no⟩ [] (.op (Zv 10 42) .fin))))))))))))) (.seq (.reg [Zl 44 true 2 7,Zf 45 0 5,Zl 46 false 1 45,Zo 47 (.bin .sub (.k (.int .i64 0)) (.t 46)),Zl 48 true 2 9,Zc 49 98 [.t 44,.t 47,.t 48],Zv 43 49,Zo 50 (.ext (.t 43) 0),Zo 51 (.ext (.t 43) 1),Zo 11 (.box [(.int .i64 0),(.nil 1)]),⟨no,.st 2 (.t 11) (.t 50),no⟩,Zv 12 51]) (.seq (.reg [Zv 52 10,Zv 53 52,⟨some 54,.mv (.t 12),(some (53,true))⟩,Zo 55 (.pick (.t 53) (.t 54) (.k (.bool false))),Zv 56 55,⟨some 57,.ld true 2 (.t 11),(some (56,true))⟩,⟨some 58,.call (.k (.fn (.func 276) [] [])) [.t 57],(some (56,true))⟩,Zo 59 (.pick (.t 56) (.t 58) (.k (.bool false))),Zv 60 59,⟨some 61,.fld 0 (.t 11),(some (60,true))⟩,⟨some 62,.ld false 1 (.t 61),(some (60,true))⟩,⟨some 63,.bin .lss (.t 62) (.k (.int .i64 0)),(some (60,true))⟩,Zo 64 (.pick (.t 60) (.t 63) (.k (.bool false))),Zv 6 64]) .ret))))))⟩
theorem a195_ok:J09 Tryz.prog Tryz.f195=some a195:=by kernel_rfl
def Jcm (x:DSystem) (t:DLin) (f:DFarkas):Option DLin:=J0g ((J8s x f.Mult).getD J0y) (-f.Scale) ((J6o t 1).getD J0y)
def J9c (x:DSystem) (t:DLin) (f:DFarkas):Bool:=
 (J8s x f.Mult).isSome&&J1g t x.N&&inR f.Scale 0 1000000000&&(J6o t 1).isSome&&(Jcm x t f).isSome&&J8x ((Jcm x t f).getD J0y)&&decide (((Jcm x t f).getD J0y).Const<0)
theorem Jtt {x:DSystem}{m:List Int}(h:(J8s x m).isSome=true):Jfc x=true:=by
 unfold J8s at h
 cases hs:Jfc x
 ·rw [hs] at h;simp at h
 ·rfl
theorem Jr7 {t:DLin}{n:Int}(h:J1g t n=true):J0g t 1 (J06 1 n)=J6o t 1:=by
 have hl:=J27 h
 have hc:J06 1 n=⟨1,List.replicate n.toNat 0⟩:=by
  unfold J06
  rw [if_pos (by simp [inR,okC];omega)]
 have hz:∀ c,okC c=true→J23 c 1 0=some c:=fun c hc=>by
  have h0:okC 0=true:=by decide
  have h1:okC 1=true:=by decide
  simp [J23,Jcg,Jdr,h0,h1,hc]
 have h1:J23 t.Const 1 1=if (Jdr t.Const 1).2 then some (Jdr t.Const 1).1 else Option.none:=by
  have h1:okC 1=true:=by decide
  simp [J23,Jcg,h1]
 have hok:J1g t t.Coeffs.length=true:=by rw [hl.1];exact h
 have hok2:J1g (J06 1 n) t.Coeffs.length=true:=by
  rw [hc];unfold J1g
  simp [inR]
  exact ⟨⟨⟨by omega,by omega⟩,by decide⟩,.inr (by decide)⟩
 have hall:t.Coeffs.all okC=true:=by
  unfold J1g at h;simp at h;simpa using h.2
 have hZ:J4l t 1 (J06 1 n)=t.Coeffs.map some:=by
  rw [hc]
  unfold J4l
  refine List.ext_getElem (by simp;omega) fun i h1 h2 => ?_
  simp
  exact hz _ (List.all_eq_true.1 hall _ (List.getElem_mem _))
 have hO:Ja5 t 1 (J06 1 n)=true:=by unfold Ja5;rw [hZ];simp
 unfold J0g J6o
 rw [hok,hok2,hO,hZ]
 have hc1:(J06 1 n).Const=1:=by rw [hc]
 rw [hc1,h1]
 have h11:okC 1=true:=by decide
 rw [h11]
 cases (Jdr t.Const 1).2 <;> simp [Function.comp_def]
theorem Jbi (x:DSystem) (t:DLin) (f:DFarkas):Holds Tryz.prog 196 [.agg (J0z x),.agg (J05 t),.agg (J0u f)] (fun r=>r = .bool (J9c x t f)):=by
 refine J03 Tryz.func196 a196_ok rfl (by simp [a196]) ?_
 simp [a196,J0z,J05,J0u]
 first|refine J01 (J5h x) (by first|simp [J0z];done|rfl) ?_|refine J02 (J5h x) (by first|simp [J0z];done|rfl) ?_
 rintro r rfl
 unfold J9c
 cases h1:Jfc x
 ·have h1':(J8s x f.Mult).isSome=false:=by
   cases hc:(J8s x f.Mult).isSome
   ·rfl
   ·rw [Jtt hc] at h1;cases h1
  simp [h1']
 simp
 first|refine J01 (J14 t x.N) (by first|simp [J05];done|rfl) ?_|refine J02 (J14 t x.N) (by first|simp [J05];done|rfl) ?_
 rintro r rfl
 cases h2:J1g t x.N
 ·simp
 simp
 first|refine J01 (J1v f.Scale 0 1000000000) (by first|simp;done|rfl) ?_|refine J02 (J1v f.Scale 0 1000000000) (by first|simp;done|rfl) ?_
 rintro r rfl
 cases h3:inR f.Scale 0 1000000000
 ·simp
 have hs:0≤f.Scale∧f.Scale≤1000000000:=by simpa [inR] using h3
 simp
 first|refine J01 (Jbs x f.Mult) (by first|simp [J0z];done|rfl) ?_|refine J02 (Jbs x f.Mult) (by first|simp [J0z];done|rfl) ?_
 rintro r rfl
 rw [J0r]
 generalize hb1:(J8s x f.Mult).isSome=b1
 simp [J07]
 first|refine J01 (Jg8 t 1) (by first|simp [J05];done|rfl) ?_|refine J02 (Jg8 t 1) (by first|simp [J05];done|rfl) ?_
 rintro r rfl
 rw [J0r]
 generalize hb2:(J6o t 1).isSome=b2
 cases b1
 ·simp [J07]
 cases b2
 ·simp [J07]
 simp [J07]
 rw [J1h (by omega)]
 first|refine J01 (J1u ((J8s x f.Mult).getD J0y) (-f.Scale) ((J6o t 1).getD J0y)) (by first|simp [J05];done|rfl) ?_|refine J02 (J1u ((J8s x f.Mult).getD J0y) (-f.Scale) ((J6o t 1).getD J0y)) (by first|simp [J05];done|rfl) ?_
 rintro r rfl
 rw [show J0g ((J8s x f.Mult).getD J0y) (-f.Scale) ((J6o t 1).getD J0y)=Jcm x t f from rfl,J0r]
 generalize hb3:(Jcm x t f).isSome=b3
 cases b3
 ·simp [J07]
 simp [J07]
 first|refine J01 (Jcw ((Jcm x t f).getD J0y)) (by first|simp [J05];done|rfl) ?_|refine J02 (Jcw ((Jcm x t f).getD J0y)) (by first|simp [J05];done|rfl) ?_
 rintro r rfl
 cases h7:J8x ((Jcm x t f).getD J0y) <;> simp
theorem Jaj (x:DSystem) (t:DLin) (f:DFarkas):Holds Tryz.prog 195 [.agg (J0z x),.agg (J05 t),.agg (J0u f)] (fun r=>r = .bool (J9c x t f)):=by
 refine J03 Tryz.func195 a195_ok rfl (by simp [a195]) ?_
 simp [a195,J0z,J05,J0u]
 first|refine J01 (Jah x f.Mult) (by first|simp [J0z];done|rfl) ?_|refine J02 (Jah x f.Mult) (by first|simp [J0z];done|rfl) ?_
 rintro r rfl
 rw [J0r]
 unfold J9c
 generalize hb1:(J8s x f.Mult).isSome=b1
 cases b1
 ·simp [J07]
 simp [J07]
 first|refine J01 (J0t t x.N) (by first|simp [J05];done|rfl) ?_|refine J02 (J0t t x.N) (by first|simp [J05];done|rfl) ?_
 rintro r rfl
 cases h2:J1g t x.N
 ·simp
 simp
 first|refine J01 (J3y f.Scale 0 1000000000) (by first|simp;done|rfl) ?_|refine J02 (J3y f.Scale 0 1000000000) (by first|simp;done|rfl) ?_
 rintro r rfl
 cases h3:inR f.Scale 0 1000000000
 ·simp
 have hs:0≤f.Scale∧f.Scale≤1000000000:=by simpa [inR] using h3
 simp
 refine ⟨?_,?_⟩
 all_goals
  first|refine J01 (J1m 1 x.N) (by first|simp;done|rfl) ?_|refine J02 (J1m 1 x.N) (by first|simp;done|rfl) ?_
  rintro r rfl
  simp [J07]
 refine And.intro ?_ ?_
 all_goals
  first|refine J01 (J0q t 1 (J06 1 x.N)) (by first|simp [J05];done|rfl) ?_|refine J02 (J0q t 1 (J06 1 x.N)) (by first|simp [J05];done|rfl) ?_
  rintro r rfl
  rw [Jr7 h2,J0r]
  generalize hb2:(J6o t 1).isSome=b2
  simp [J07]
  rw [J1h (by omega)]
  first|refine J01 (J0q ((J8s x f.Mult).getD J0y) (-f.Scale) ((J6o t 1).getD J0y)) (by first|simp [J05];done|rfl) ?_|refine J02 (J0q ((J8s x f.Mult).getD J0y) (-f.Scale) ((J6o t 1).getD J0y)) (by first|simp [J05];done|rfl) ?_
  rintro r rfl
  rw [show J0g ((J8s x f.Mult).getD J0y) (-f.Scale) ((J6o t 1).getD J0y)=Jcm x t f from rfl,J0r]
  generalize hb3:(Jcm x t f).isSome=b3
  cases b2
  ·simp [J07]
  cases b3
  ·simp [J07]
  simp [J07]
  first|refine J01 (Jbm ((Jcm x t f).getD J0y)) (by first|simp [J05];done|rfl) ?_|refine J02 (Jbm ((Jcm x t f).getD J0y)) (by first|simp [J05];done|rfl) ?_
  rintro r rfl
  cases h7:J8x ((Jcm x t f).getD J0y) <;> simp
structure DDer where
 l:DLin
 mult:List Int
 scale:Int
theorem bwA {c:Int}{l:List Int}{v:AV}{h:Heap}(x:Go.Proofs.YtoclolkigjbcgaaGreat.bw v h=some (.sl 1 (J0l l))):Go.Proofs.YtoclolkigjbcgaaGreat.bw (.agg [.int .i64 c,v]) h=some (.agg (J05 ⟨c,l⟩)):=by
 simp only [Go.Proofs.YtoclolkigjbcgaaGreat.bw,bwl,x];rfl
def wa:AC:=(.reg [Zo 21 (.ixa 4 (.t 17) (.t 19)),Zl 22 true 4 21,Zo 7 (.box [(.int .i64 0),(.nil 1),(.nil 1),(.int .i64 0)]),⟨no,.st 4 (.t 7) (.t 22),no⟩])
def wc:AC:=(.reg [Zv 30 5,Zl 31 true 4 7,Zo 32 (.bslb 4 [.t 31]),Zo 33 (.appb 64 4 (.t 30) (.t 32)),Zv 5 33])
def wg:AC:=(.reg [Zo 53 (.ixa 4 (.t 49) (.t 51)),Zl 54 true 4 53,Zo 12 (.box [(.int .i64 0),(.nil 1),(.nil 1),(.int .i64 0)]),⟨no,.st 4 (.t 12) (.t 54),no⟩])
def wl:AC:=(.reg [Zv 80 5,Zl 81 true 4 15,Zo 82 (.bslb 4 [.t 81]),Zo 83 (.appb 64 4 (.t 80) (.t 82)),Zv 5 83])
def ea:AC:=(.reg [Zv 18 0,Zv 19 6,Zo 20 (.ixa 3 (.t 18) (.t 19)),Zf 21 0 20,Zf 22 1 21,Zl 23 false 1 22,Zv 24 1,Zo 25 (.ixa 1 (.t 23) (.t 24)),Zl 26 false 1 25,Zo 27 (.bin .eql (.t 26) (.k (.int .i64 0)))])
def eb:AC:=(.reg [Zv 28 5,Zv 29 0,Zv 30 6,Zo 31 (.ixa 3 (.t 29) (.t 30)),Zl 32 true 3 31,Zo 33 (.bslb 3 [.t 32]),Zo 34 (.appb 56 3 (.t 28) (.t 33)),Zv 5 34])
def ed:AC:=(.draw (.op (Zv 70 0) (.op (Zv 71 7) (.op (Zo 72 (.ixa 3 (.t 70) (.t 71))) (.op (Zl 73 true 3 72) (.op (Zv 74 0) (.op (Zv 75 8) (.op (Zo 76 (.ixa 3 (.t 74) (.t 75))) (.op (Zl 77 true 3 76) (.op (Zv 78 1) (.both (.op (Zc 79 304 [.t 73,.t 77,.t 78]) (.op (Zv 69 79) (.op (Zo 80 (.ext (.t 69) 0)) (.op (Zo 81 (.ext (.t 69) 1)) (.op (Zo 9 (.box [(.int .i64 0),(.nil 1),(.nil 1)])) (.hop ⟨no,.st 3 (.t 9) (.t 80),no⟩ [] (.op (Zv 10 81) .fin))))))) (.op (Zo 9 (.box [(.int .i64 0),(.nil 1),(.nil 1)])) (.op (Zc 79 304 [.t 73,.t 77,.t 78]) (.op (Zv 69 79) (.op (Zo 80 (.ext (.t 69) 0)) (.op (Zo 81 (.ext (.t 69) 1)) (.hop ⟨no,.st 3 (.t 9) (.t 80),no⟩ [] (.op (Zv 10 81) .fin))))))))))))))))))
def fd:AC:=(.reg [Zv 53 8,Zl 54 true 2 10,Zv 55 11,Zo 56 (.build [(.int .i64 0),(.nil 1),(.nil 1),(.int .i64 0)] [(0,(2,(.t 54))),(2,(1,(.t 55))),(3,(1,(.k (.int .i64 0))))]),Zo 57 (.bslb 4 [.t 56]),Zo 58 (.appb 64 4 (.t 53) (.t 57)),Zv 8 58])
def a131:AFn:= ⟨31,[.t 2,.t 3],(.seq (.reg [Zo 2 (.mv (.k (.nil 2))),Zo 3 (.mv (.k (.bool false)))]) (.seq (.reg [Zo 4 (.mv (.k (.nil 2)))]) (.seq (.seq (.reg [Zv 9 0,Zo 10 (.len false (.t 9)),Zo 11 (.mv (.k (.int .i64 0)))]) (.blk 0 (.loop (.seq (.reg [Zo 12 (.bin .lss (.t 11) (.t 10))]) (.seq (.cond (.t 12) .skip (.exit 0)) (.seq (.blk 1 (.seq (.reg [Zo 13 (.ixa 4 (.t 9) (.t 11)),Zl 14 true 4 13,Zo 6 (.box [(.int .i64 0),(.nil 2),(.int .i64 0),(.nil 1)]),⟨no,.st 4 (.t 6) (.t 14),no⟩]) (.seq (.reg [Zf 16 0 6,Zl 17 true 2 16,Zf 18 2 6,Zl 19 true 2 18,Zc 20 210 [.t 17,.t 19],Zv 15 20,Zo 21 (.ext (.t 15) 0),Zo 22 (.ext (.t 15) 1),Zo 7 (.box [(.int .i64 0),(.nil 1)]),⟨no,.st 2 (.t 7) (.t 21),no⟩,Zv 8 22]) (.seq (.seq (.reg [Zv 23 8,Zo 24 (.un .not (.t 23))]) (.cond (.t 24) (.seq (.reg [Zo 2 (.mv (.k (.nil 2))),Zo 3 (.mv (.k (.bool false)))]) .ret) .skip)) (.reg [Zv 25 4,Zl 26 true 2 7,Zo 27 (.bsl 2 [.t 26]),Zo 28 (.app 32 2 (.t 25) (.t 27)),Zv 4 28]))))) (.reg [Zo 29 (.bin .add (.t 11) (.k (.int .i64 1))),Zv 11 29]))))))) (.seq (.reg [Zv 30 4,Zv 2 30,Zo 3 (.mv (.k (.bool true)))]) .ret))))⟩
def a80:AFn:= ⟨12,[.t 4],(.seq (.reg [Zo 4 (.mv (.k (.int .i64 0)))]) (.seq (.reg [Zv 5 1,Zv 6 0,Zo 7 (.len false (.t 6)),Zo 8 (.bin .sub (.t 5) (.t 7)),Zv 1 8]) (.seq (.seq (.reg [Zv 9 1,Zo 10 (.bin .lss (.t 9) (.k (.int .i64 0)))]) (.cond (.t 10) (.seq (.reg [Zo 4 (.mv (.k (.int .i64 (-1))))]) .ret) .skip)) (.seq (.reg [Zv 11 1,Zv 4 11]) .ret))))⟩
theorem a80_ok:J09 Tryz.prog Tryz.f80=some a80:=by kernel_rfl
def a83:AFn:= ⟨22,[.t 2],(.seq (.reg [Zo 2 (.mv (.k (.nil 1)))]) (.seq (.reg [Zv 5 0,Zo 6 (.len false (.t 5)),Zo 7 (.mks 8 [(.int .i64 0)] (.t 6) (.t 6)),Zv 3 7]) (.seq (.seq (.reg [Zo 4 (.mv (.k (.int .i64 0)))]) (.blk 0 (.loop (.seq (.seq (.reg [Zv 8 4,Zv 9 0,Zo 10 (.len false (.t 9)),Zo 11 (.bin .lss (.t 8) (.t 10))]) (.cond (.t 11) .skip (.exit 0))) (.seq (.blk 1 (.reg [Zv 14 3,Zv 15 4,Zv 16 0,Zv 17 4,Zo 18 (.ixa 1 (.t 16) (.t 17)),Zl 19 false 1 18,Zo 20 (.ixa 1 (.t 14) (.t 15)),⟨no,.st 1 (.t 20) (.t 19),no⟩])) (.reg [Zv 12 4,Zo 13 (.bin .add (.t 12) (.k (.int .i64 1))),Zv 4 13])))))) (.seq (.reg [Zv 21 3,Zv 2 21]) .ret))))⟩
theorem a83_ok:J09 Tryz.prog Tryz.f83=some a83:=by kernel_rfl
def a87:AFn:= ⟨26,[.t 4],(.seq (.reg [Zo 4 (.mv (.k (.bool false)))]) (.seq (.seq (.reg [Zv 6 0,Zo 7 (.len false (.t 6)),Zv 8 1,Zo 9 (.len false (.t 8)),Zo 10 (.bin .neq (.t 7) (.t 9))]) (.cond (.t 10) (.seq (.reg [Zo 4 (.mv (.k (.bool false)))]) .ret) .skip)) (.seq (.seq (.reg [Zo 5 (.mv (.k (.int .i64 0)))]) (.blk 0 (.loop (.seq (.seq (.reg [Zv 11 5,Zv 12 0,Zo 13 (.len false (.t 12)),Zo 14 (.bin .lss (.t 11) (.t 13))]) (.cond (.t 14) .skip (.exit 0))) (.seq (.blk 1 (.seq (.draw (.op (Zv 17 0) (.op (Zv 18 5) (.op (Zo 19 (.ixa 1 (.t 17) (.t 18))) (.op (Zl 20 false 1 19) (.op (Zv 21 1) (.op (Zv 22 5) (.op (Zo 23 (.ixa 1 (.t 21) (.t 22))) (.op (Zl 24 false 1 23) (.op (Zo 25 (.bin .neq (.t 20) (.t 24))) .fin)))))))))) (.cond (.t 25) (.seq (.reg [Zo 4 (.mv (.k (.bool false)))]) .ret) .skip))) (.reg [Zv 15 5,Zo 16 (.bin .add (.t 15) (.k (.int .i64 1))),Zv 5 16])))))) (.seq (.reg [Zo 4 (.mv (.k (.bool true)))]) .ret))))⟩
theorem a87_ok:J09 Tryz.prog Tryz.f87=some a87:=by kernel_rfl
def a211:AFn:= ⟨28,[.t 4],(.seq (.reg [Zo 4 (.mv (.k (.int .i64 0)))]) (.seq (.reg [Zv 6 1,Zv 7 0,Zo 8 (.len false (.t 7)),Zo 9 (.bin .sub (.t 6) (.t 8)),Zv 1 9]) (.seq (.seq (.reg [Zv 10 1,Zo 11 (.bin .lss (.t 10) (.k (.int .i64 0)))]) (.cond (.t 11) (.seq (.reg [Zo 4 (.mv (.k (.int .i64 (-1))))]) .ret) .skip)) (.seq (.seq (.reg [Zo 5 (.mv (.k (.int .i64 0)))]) (.blk 0 (.loop (.seq (.seq (.reg [Zv 12 5,Zv 13 0,Zo 14 (.len false (.t 13)),Zo 15 (.bin .lss (.t 12) (.t 14))]) (.cond (.t 15) .skip (.exit 0))) (.seq (.blk 1 (.seq (.reg [Zv 18 1,Zv 19 0,Zv 20 5,Zo 21 (.ixa 1 (.t 19) (.t 20)),Zl 22 false 1 21,Zo 23 (.len true (.t 22)),Zo 24 (.bin .sub (.t 18) (.t 23)),Zv 1 24]) (.seq (.reg [Zv 25 1,Zo 26 (.bin .lss (.t 25) (.k (.int .i64 0)))]) (.cond (.t 26) (.seq (.reg [Zo 4 (.mv (.k (.int .i64 (-1))))]) .ret) .skip)))) (.reg [Zv 16 5,Zo 17 (.bin .add (.t 16) (.k (.int .i64 1))),Zv 5 17])))))) (.seq (.reg [Zv 27 1,Zv 4 27]) .ret)))))⟩
theorem a211_ok:J09 Tryz.prog Tryz.f211=some a211:=by kernel_rfl
def a225:AFn:= ⟨22,[.t 2],(.seq (.reg [Zo 2 (.mv (.k (.nil 1)))]) (.seq (.reg [Zv 5 0,Zo 6 (.len false (.t 5)),Zo 7 (.mks 16 [(.str [])] (.t 6) (.t 6)),Zv 3 7]) (.seq (.seq (.reg [Zo 4 (.mv (.k (.int .i64 0)))]) (.blk 0 (.loop (.seq (.seq (.reg [Zv 8 4,Zv 9 0,Zo 10 (.len false (.t 9)),Zo 11 (.bin .lss (.t 8) (.t 10))]) (.cond (.t 11) .skip (.exit 0))) (.seq (.blk 1 (.reg [Zv 14 3,Zv 15 4,Zv 16 0,Zv 17 4,Zo 18 (.ixa 1 (.t 16) (.t 17)),Zl 19 false 1 18,Zo 20 (.ixa 1 (.t 14) (.t 15)),⟨no,.st 1 (.t 20) (.t 19),no⟩])) (.reg [Zv 12 4,Zo 13 (.bin .add (.t 12) (.k (.int .i64 1))),Zv 4 13])))))) (.seq (.reg [Zv 21 3,Zv 2 21]) .ret))))⟩
theorem a225_ok:J09 Tryz.prog Tryz.f225=some a225:=by kernel_rfl
def a73:AFn:= ⟨26,[.t 4],(.seq (.reg [Zo 4 (.mv (.k (.bool false)))]) (.seq (.seq (.reg [Zv 6 0,Zo 7 (.len false (.t 6)),Zv 8 1,Zo 9 (.len false (.t 8)),Zo 10 (.bin .neq (.t 7) (.t 9))]) (.cond (.t 10) (.seq (.reg [Zo 4 (.mv (.k (.bool false)))]) .ret) .skip)) (.seq (.seq (.reg [Zo 5 (.mv (.k (.int .i64 0)))]) (.blk 0 (.loop (.seq (.seq (.reg [Zv 11 5,Zv 12 0,Zo 13 (.len false (.t 12)),Zo 14 (.bin .lss (.t 11) (.t 13))]) (.cond (.t 14) .skip (.exit 0))) (.seq (.blk 1 (.seq (.draw (.op (Zv 17 0) (.op (Zv 18 5) (.op (Zo 19 (.ixa 1 (.t 17) (.t 18))) (.op (Zl 20 false 1 19) (.op (Zv 21 1) (.op (Zv 22 5) (.op (Zo 23 (.ixa 1 (.t 21) (.t 22))) (.op (Zl 24 false 1 23) (.op (Zo 25 (.bin .neq (.t 20) (.t 24))) .fin)))))))))) (.cond (.t 25) (.seq (.reg [Zo 4 (.mv (.k (.bool false)))]) .ret) .skip))) (.reg [Zv 15 5,Zo 16 (.bin .add (.t 15) (.k (.int .i64 1))),Zv 5 16])))))) (.seq (.reg [Zo 4 (.mv (.k (.bool true)))]) .ret))))⟩
theorem a73_ok:J09 Tryz.prog Tryz.f73=some a73:=by kernel_rfl
def a21:AFn:= ⟨12,[.t 4],(.seq (.reg [Zo 2 (.boxv (.t 0)),Zo 4 (.mv (.k (.int .i64 0)))]) (.seq (.reg [Zf 5 1 2,Zl 6 false 1 5,Zv 7 1,Zc 8 80 [.t 6,.t 7],Zv 1 8]) (.seq (.seq (.reg [Zv 9 1,Zo 10 (.bin .lss (.t 9) (.k (.int .i64 0)))]) (.cond (.t 10) (.seq (.reg [Zo 4 (.mv (.k (.int .i64 (-1))))]) .ret) .skip)) (.seq (.reg [Zv 11 1,Zv 4 11]) .ret))))⟩
theorem a21_ok:J09 Tryz.prog Tryz.f21=some a21:=by kernel_rfl
def a23:AFn:= ⟨12,[(.c 2 true 2)],(.seq (.reg [Zo 1 (.boxv (.t 0)),Zo 2 (.box [(.int .i64 0),(.nil 1)])]) (.seq (.reg [Zo 3 (.box [(.int .i64 0),(.nil 1)])]) (.seq (.reg [Zf 4 0 1,Zl 5 false 1 4,Zf 6 0 3,⟨no,.st 1 (.t 6) (.t 5),no⟩]) (.seq (.reg [Zf 7 1 1,Zl 8 false 1 7,Zc 9 83 [.t 8],Zf 10 1 3,⟨no,.st 1 (.t 10) (.t 9),no⟩]) (.seq (.reg [Zl 11 true 2 3,⟨no,.st 2 (.t 2) (.t 11),no⟩]) .ret)))))⟩
theorem a23_ok:J09 Tryz.prog Tryz.f23=some a23:=by kernel_rfl
def a25:AFn:= ⟨16,[.t 4],(.seq (.reg [Zo 2 (.boxv (.t 0)),Zo 3 (.boxv (.t 1)),Zo 4 (.mv (.k (.bool false)))]) (.seq (.seq (.reg [Zf 5 0 2,Zl 6 false 1 5,Zf 7 0 3,Zl 8 false 1 7,Zo 9 (.bin .neq (.t 6) (.t 8))]) (.cond (.t 9) (.seq (.reg [Zo 4 (.mv (.k (.bool false)))]) .ret) .skip)) (.seq (.seq (.reg [Zf 10 1 2,Zl 11 false 1 10,Zf 12 1 3,Zl 13 false 1 12,Zc 14 87 [.t 11,.t 13],Zo 15 (.un .not (.t 14))]) (.cond (.t 15) (.seq (.reg [Zo 4 (.mv (.k (.bool false)))]) .ret) .skip)) (.seq (.reg [Zo 4 (.mv (.k (.bool true)))]) .ret))))⟩
theorem a25_ok:J09 Tryz.prog Tryz.f25=some a25:=by kernel_rfl
def a111:AFn:= ⟨12,[.t 4],(.seq (.reg [Zo 2 (.boxv (.t 0)),Zo 4 (.mv (.k (.int .i64 0)))]) (.seq (.reg [Zf 5 1 2,Zl 6 false 1 5,Zv 7 1,Zc 8 80 [.t 6,.t 7],Zv 1 8]) (.seq (.seq (.reg [Zv 9 1,Zo 10 (.bin .lss (.t 9) (.k (.int .i64 0)))]) (.cond (.t 10) (.seq (.reg [Zo 4 (.mv (.k (.int .i64 (-1))))]) .ret) .skip)) (.seq (.reg [Zv 11 1,Zv 4 11]) .ret))))⟩
theorem a111_ok:J09 Tryz.prog Tryz.f111=some a111:=by kernel_rfl
def a114:AFn:= ⟨12,[(.c 2 true 2)],(.seq (.reg [Zo 1 (.boxv (.t 0)),Zo 2 (.box [(.int .i64 0),(.nil 1)])]) (.seq (.reg [Zo 3 (.box [(.int .i64 0),(.nil 1)])]) (.seq (.reg [Zf 4 0 1,Zl 5 false 1 4,Zf 6 0 3,⟨no,.st 1 (.t 6) (.t 5),no⟩]) (.seq (.reg [Zf 7 1 1,Zl 8 false 1 7,Zc 9 83 [.t 8],Zf 10 1 3,⟨no,.st 1 (.t 10) (.t 9),no⟩]) (.seq (.reg [Zl 11 true 2 3,⟨no,.st 2 (.t 2) (.t 11),no⟩]) .ret)))))⟩
theorem a114_ok:J09 Tryz.prog Tryz.f114=some a114:=by kernel_rfl
def a116:AFn:= ⟨16,[.t 4],(.seq (.reg [Zo 2 (.boxv (.t 0)),Zo 3 (.boxv (.t 1)),Zo 4 (.mv (.k (.bool false)))]) (.seq (.seq (.reg [Zf 5 0 2,Zl 6 false 1 5,Zf 7 0 3,Zl 8 false 1 7,Zo 9 (.bin .neq (.t 6) (.t 8))]) (.cond (.t 9) (.seq (.reg [Zo 4 (.mv (.k (.bool false)))]) .ret) .skip)) (.seq (.seq (.reg [Zf 10 1 2,Zl 11 false 1 10,Zf 12 1 3,Zl 13 false 1 12,Zc 14 87 [.t 11,.t 13],Zo 15 (.un .not (.t 14))]) (.cond (.t 15) (.seq (.reg [Zo 4 (.mv (.k (.bool false)))]) .ret) .skip)) (.seq (.reg [Zo 4 (.mv (.k (.bool true)))]) .ret))))⟩
theorem a116_ok:J09 Tryz.prog Tryz.f116=some a116:=by kernel_rfl
theorem Jhy (l:List Int) (left:Int) (h0:0≤left∧left≤4611686018427387904):Holds Tryz.prog 80 [.sl 1 (J0l l),i64 left] (fun r=>r=i64 (J2x left (Jg4 l))):=by
 refine J03 Tryz.func80 a80_ok rfl (by simp [a80]) ?_
 simp [a80]
 unfold LIM
 intro h1
 rw [J1h (by omega)]
 unfold J2x Jg4
 exact ⟨fun h=>by rw [if_pos h],fun h=>by rw [if_neg (by omega)]⟩
theorem Jhh (a:List Int) (hw:Jg4 a≤1048576):Holds Tryz.prog 83 [.sl 1 (J0l a)] (fun r=>r = .us 1 (J0l a)):=by
 unfold Jg4 at hw
 refine J03 Tryz.func83 a83_ok rfl (by simp [a83]) ?_
 simp [a83]
 intro h1
 refine ⟨by unfold LIM;omega,Jdh (fun k s h n=>∃ (i:Nat) (rows:List (List AV)),k=a.length - i∧i≤a.length∧s 0=K26 a∧s 3 = .ref 0 0 a.length∧s 4=i64 i∧h=upd J7m 0 (some ⟨false,1,rows⟩)∧n=1 ∧
  rows.length=a.length∧(∀ j,j<i→rows[j]? = (J0l a)[j]?)∧(∀ j (hj:j<rows.length),rows[j].length=1)) a.length ⟨0,List.replicate a.length [i64 0],by simp⟩ ?_⟩
 rintro k s h n ⟨i,rows,rfl,hi,s0,s3,s4,rfl,rfl,hr,hj,hc⟩
 by_cases hlt:i<a.length
 ·have hm:=hc i (by omega)
  have htl:rows[i].tail=[]:=List.eq_nil_of_length_eq_zero (by simp [hm])
  simp [s0,s3,s4,hlt,hr,hm]
  intro _
  refine ⟨a.length - (i+1),by omega,i+1,rfl,by omega,by rw [J1h (by omega)];rfl,rows.set i [i64 a[i]],by simp [htl],by simp [hr],fun j hj' => ?_,fun j hj' => ?_⟩
  ·rw [List.getElem?_set]
   by_cases hji:i=j
   ·subst hji;simp [hr,hlt]
   ·rw [if_neg hji];simpa using hj j (by omega)
  ·rw [List.getElem_set]
   split
   ·rfl
   ·exact hc j (by simpa using hj')
 ·simp [s0,s3,s4,hlt,hr]
  intro _
  have:rows=J0l a:=List.ext_getElem? fun j=>by
   by_cases hji:j<i
   ·exact hj j hji
   ·rw [List.getElem?_eq_none (by omega),List.getElem?_eq_none (by simp;omega)]
  subst this
  simp [List.take_of_length_le]
theorem Jhk (a b:List Int):Holds Tryz.prog 87 [.sl 1 (J0l a),.sl 1 (J0l b)] (fun r=>r = .bool (decide (a=b))):=by
 refine J03 Tryz.func87 a87_ok rfl (by simp [a87]) ?_
 simp [a87]
 intro h1 h2
 refine ⟨fun h e=>h (by rw [e]),fun hl=>Jdh (fun k s h n=>∃ i:Nat,k=a.length - i∧i≤a.length∧s 0=K26 a∧s 1=K26 b∧s 5=i64 i∧(∀ j,j<i→a[j]? = b[j]?)∧h=J7m∧n=0) a.length ⟨0,by simp⟩ ?_⟩
 rintro k s h n ⟨i,rfl,hi,s0,s1,s5,hj,rfl,rfl⟩
 have hl:a.length=b.length:=by omega
 by_cases hlt:i<a.length
 ·have hlt':i<b.length:=by omega
  unfold LIM at h1
  simp [s0,s1,s5,hlt,hlt']
  intro _
  refine ⟨fun h e=>h (by subst e;rfl),fun e=>⟨a.length - (i+1),by omega,i+1,rfl,by omega,by rw [J1h (by omega)];rfl,fun j hj' => ?_⟩⟩
  by_cases hji:j=i
  ·subst hji;simp [hlt,hlt',e]
  ·exact hj j (by omega)
 ·simp [s0,s1,s5,hlt]
  intro _
  refine List.ext_getElem? fun j => ?_
  by_cases hji:j<i
  ·exact hj j hji
  ·rw [List.getElem?_eq_none (by omega),List.getElem?_eq_none (by omega)]
theorem Jkm (l:List Str) (left:Int) (h0:0≤left∧left≤4611686018427387904):Holds Tryz.prog 211 [.sl 1 (J0b l),i64 left] (fun r=>r=i64 (J2x left (J4c l))):=by
 rw [show J4c l=wL List.length l from rfl,←J5i (w:=List.length) (g:=fun x lf=>J2x lf x.length) (fun _ _ _=>rfl) l left h0.1]
 refine J03 Tryz.func211 a211_ok rfl (by simp [a211]) ?_
 simp [a211]
 intro h1
 unfold LIM at h1
 unfold szL
 rw [J1h (by omega)]
 refine ⟨fun h=>by rw [if_pos (by omega)],fun h=>Jdh (fun k s h n=>∃ (i:Nat) (lf:Int),k=l.length - i∧i≤l.length∧s 0=strs l∧s 1=i64 lf∧s 5=i64 i∧0≤lf∧lf≤left∧J7r (fun (x:Str) lf=>J2x lf x.length) (l.drop i) lf=J7r (fun (x:Str) lf=>J2x lf x.length) l (left - l.length)∧h=J7m∧n=0) l.length ⟨0,left - l.length,by simp;omega⟩ ?_⟩
 rintro k s h n ⟨i,lf,rfl,hi,s0,s1,s5,hf,hlf,hj,rfl,rfl⟩
 rw [if_neg (by omega),←hj]
 by_cases hlt:i<l.length
 ·rw [List.drop_eq_getElem_cons hlt] at hj ⊢
  simp only [J7r] at hj ⊢
  simp [s0,s1,s5,hlt]
  intro _ h2
  unfold LIM at h2
  rw [J1h (by omega)]
  by_cases hx:lf - (l[i].length:Int)<0
  ·rw [Jdn hx]
   simp;exact fun h=>by omega
  ·rw [Jls hx] at hj ⊢
   rw [if_neg hx] at hj ⊢
   refine ⟨fun h=>by omega,fun _=>⟨l.length - (i+1),by omega,i+1,rfl,by omega,by rw [J1h (by omega)];rfl,by omega,by omega,rfl⟩⟩
 ·rw [List.drop_eq_nil_of_le (by omega)] at hj ⊢
  simp [s0,s1,s5,hlt,J7r]
theorem Jkw (a:List Str) (hw:J4c a≤1048576):Holds Tryz.prog 225 [.sl 1 (J0b a)] (fun r=>r = .us 1 (J0b a)):=by
 have hw:=Nat.le_trans (J2c _ _) hw
 refine J03 Tryz.func225 a225_ok rfl (by simp [a225]) ?_
 simp [a225]
 intro h1
 refine ⟨by unfold LIM;omega,Jdh (fun k s h n=>∃ (i:Nat) (rows:List (List AV)),k=a.length - i∧i≤a.length∧s 0=strs a∧s 3 = .ref 0 0 a.length∧s 4=i64 i∧h=upd J7m 0 (some ⟨false,1,rows⟩)∧n=1 ∧
  rows.length=a.length∧(∀ j,j<i→rows[j]? = (J0b a)[j]?)∧(∀ j (hj:j<rows.length),rows[j].length=1)) a.length ⟨0,List.replicate a.length [.str []],by simp⟩ ?_⟩
 rintro k s h n ⟨i,rows,rfl,hi,s0,s3,s4,rfl,rfl,hr,hj,hc⟩
 by_cases hlt:i<a.length
 ·have hm:=hc i (by omega)
  have htl:rows[i].tail=[]:=List.eq_nil_of_length_eq_zero (by simp [hm])
  simp [s0,s3,s4,hlt,hr,hm]
  intro _
  refine ⟨a.length - (i+1),by omega,i+1,rfl,by omega,by rw [J1h (by omega)];rfl,rows.set i [.str a[i]],by simp [htl],by simp [hr],fun j hj' => ?_,fun j hj' => ?_⟩
  ·rw [List.getElem?_set]
   by_cases hji:i=j
   ·subst hji;simp [hr,hlt]
   ·rw [if_neg hji];simpa using hj j (by omega)
  ·rw [List.getElem_set]
   split
   ·rfl
   ·exact hc j (by simpa using hj')
 ·simp [s0,s3,s4,hlt,hr]
  intro _
  have:rows=J0b a:=List.ext_getElem? fun j=>by
   by_cases hji:j<i
   ·exact hj j hji
   ·rw [List.getElem?_eq_none (by omega),List.getElem?_eq_none (by simp;omega)]
  subst this
  simp [List.take_of_length_le]
theorem Jl8 (a b:List Str):Holds Tryz.prog 73 [.sl 1 (J0b a),.sl 1 (J0b b)] (fun r=>r = .bool (decide (a=b))):=by
 refine J03 Tryz.func73 a73_ok rfl (by simp [a73]) ?_
 simp [a73]
 intro h1 h2
 refine ⟨fun h e=>h (by rw [e]),fun hl=>Jdh (fun k s h n=>∃ i:Nat,k=a.length - i∧i≤a.length∧s 0=strs a∧s 1=strs b∧s 5=i64 i∧(∀ j,j<i→a[j]? = b[j]?)∧h=J7m∧n=0) a.length ⟨0,by simp⟩ ?_⟩
 rintro k s h n ⟨i,rfl,hi,s0,s1,s5,hj,rfl,rfl⟩
 have hl:a.length=b.length:=by omega
 by_cases hlt:i<a.length
 ·have hlt':i<b.length:=by omega
  unfold LIM at h1
  simp [s0,s1,s5,hlt,hlt']
  intro _
  refine ⟨fun h e=>h (by subst e;rfl),fun e=>⟨a.length - (i+1),by omega,i+1,rfl,by omega,by rw [J1h (by omega)];rfl,fun j hj' => ?_⟩⟩
  by_cases hji:j=i
  ·subst hji;simp [hlt,hlt',e]
  ·exact hj j (by omega)
 ·simp [s0,s1,s5,hlt]
  intro _
  refine List.ext_getElem? fun j => ?_
  by_cases hji:j<i
  ·exact hj j hji
  ·rw [List.getElem?_eq_none (by omega),List.getElem?_eq_none (by omega)]
theorem Jwo (x:DLin) (left:Int) (h0:0≤left∧left≤4611686018427387904):Holds Tryz.prog 21 [.agg (J05 x),i64 left] (fun r=>r=i64 (J2x left (Jaa x))):=by
 refine J03 Tryz.func21 a21_ok rfl (by simp [a21]) ?_
 simp [a21,J05]
 have e0:Jaa x=Jaa x:=rfl
 conv at e0=>rhs;unfold Jaa
 refine J02 (Jhy x.Coeffs left (by omega)) (by simp) ?_
 rintro r rfl
 by_cases h1:left - (Jg4 x.Coeffs:Nat)<0
 case pos=>
  have q:left - (Jaa x:Int)<0:=by omega
  simp [J2x,h1,q]
  try first|omega|(constructor <;> intros <;> omega)
 simp [J2x,h1]
 try (rw [if_neg (by omega)];omega)
theorem Jxb (x:DLin) (_hw:Jaa x≤1048576):Holds Tryz.prog 23 [.agg (J05 x)] (fun r=>r = .agg (J07 x)):=by
 have hw:=_hw;unfold Jaa at hw
 refine J03 Tryz.func23 a23_ok rfl (by simp [a23]) ?_
 simp [a23,J05]
 refine J02 (Jhh x.Coeffs (by omega)) (by simp []) ?_
 rintro r rfl
 simp []
 try simp [J07]
theorem Jvw (x y:DLin):Holds Tryz.prog 25 [.agg (J05 x),.agg (J05 y)] (fun r=>r = .bool (decide (x=y))):=by
 refine J03 Tryz.func25 a25_ok rfl (by simp [a25]) ?_
 simp [a25,J05]
 by_cases h0:x.Const=y.Const
 case neg=>simp [h0];try exact fun e=>h0 (by rw [e])
 simp [h0]
 refine J02 (Jhk x.Coeffs y.Coeffs) (by simp []) ?_
 rintro r rfl
 by_cases h1:x.Coeffs=y.Coeffs
 case neg=>simp [h1];try exact fun e=>h1 (by rw [e])
 simp [h1]
 cases x;cases y;simp_all
theorem a95_ok:J09 Tryz.prog Tryz.f95=some (tSz true 2 21):=by kernel_rfl
theorem Jm7 (l:List DLin) (left:Int) (h0:0≤left∧left≤4611686018427387904):Holds Tryz.prog 95 [.sl 2 (l.map J05),i64 left] (fun r=>r=i64 (J2x left (J4q l))):=by
 rw [show J4q l=wL Jaa l from rfl,←J5i (w:=Jaa) (g:=fun x lf=>J2x lf (Jaa x)) (fun _ _ _=>rfl) l left h0.1]
 exact J4z Tryz.func95 a95_ok rfl (rowOf:=J05) (eltOf:=(fun x => .agg (J05 x))) (fun x=>by simp [J05]) (fun x h=>by simp [J05]) (fun x lf h=>J7h h) l left h0 (fun x lf _ hl=>Jwo x lf hl)
theorem a101_ok:J09 Tryz.prog Tryz.f101=some (tTo true 2 32 23 [.int .i64 0,.nil 1]):=by kernel_rfl
theorem Jly (l:List DLin) (hw:J4q l≤1048576):Holds Tryz.prog 101 [.sl 2 (l.map J05)] (fun r=>r = .us 2 (l.map J07)):=
 J52 Tryz.func101 a101_ok rfl (rowOf:=J05) (eltOf:=(fun x => .agg (J05 x))) (eltU:=(fun x => .agg (J07 x))) (fun x=>by simp [J05]) (fun x h=>by simp [J05]) (fun x=>by simp) (fun x=>by simp [J07]) (fun x=>by simp [J07]) rfl l (by have:=J2c Jaa l;unfold J4q at hw;unfold LIM;omega) (fun x h=>Jxb x (by have:=J3p (w:=Jaa) h;unfold J4q at hw;omega))
theorem a107_ok:J09 Tryz.prog Tryz.f107=some (tEq true 2 25):=by kernel_rfl
theorem Jmo (l m:List DLin):Holds Tryz.prog 107 [.sl 2 (l.map J05),.sl 2 (m.map J05)] (fun r=>r = .bool (decide (l=m))):=by
 rw [←J6y]
 exact J4v Tryz.func107 a107_ok rfl (rowOf:=J05) (eltOf:=(fun x => .agg (J05 x))) (fun x=>by simp [J05]) (fun x h=>by simp [J05]) l m (fun x y _ _=>Jvw x y)
theorem a117_ok:J09 Tryz.prog Tryz.f117=some (tSz false 1 95):=by kernel_rfl
theorem Jo2 (l:List (List DLin)) (left:Int) (h0:0≤left∧left≤4611686018427387904):Holds Tryz.prog 117 [.sl 1 (l.map J2r),i64 left] (fun r=>r=i64 (J2x left (Jbl l))):=by
 rw [show Jbl l=wL J4q l from rfl,←J5i (w:=J4q) (g:=fun x lf=>J2x lf (J4q x)) (fun _ _ _=>rfl) l left h0.1]
 exact J4z Tryz.func117 a117_ok rfl (rowOf:=J2r) (eltOf:=(fun x => .sl 2 (x.map J05))) (fun x=>by simp [J2r]) (fun x h=>by simp [J2r]) (fun x lf h=>J7h h) l left h0 (fun x lf _ hl=>Jm7 x lf hl)
theorem a119_ok:J09 Tryz.prog Tryz.f119=some (tTo false 1 24 101 [.nil 2]):=by kernel_rfl
theorem Joz (l:List (List DLin)) (hw:Jbl l≤1048576):Holds Tryz.prog 119 [.sl 1 (l.map J2r)] (fun r=>r = .us 1 (l.map J20)):=
 J52 Tryz.func119 a119_ok rfl (rowOf:=J2r) (eltOf:=(fun x => .sl 2 (x.map J05))) (eltU:=(fun x => .us 2 (x.map J07))) (fun x=>by simp [J2r]) (fun x h=>by simp [J2r]) (fun x=>by simp) (fun x=>by simp [J20]) (fun x=>by simp [J20]) rfl l (by have:=J2c J4q l;unfold Jbl at hw;unfold LIM;omega) (fun x h=>Jly x (by have:=J3p (w:=J4q) h;unfold Jbl at hw;omega))
theorem a120_ok:J09 Tryz.prog Tryz.f120=some (tEq false 1 107):=by kernel_rfl
theorem Jp5 (l m:List (List DLin)):Holds Tryz.prog 120 [.sl 1 (l.map J2r),.sl 1 (m.map J2r)] (fun r=>r = .bool (decide (l=m))):=by
 rw [←J6y]
 exact J4v Tryz.func120 a120_ok rfl (rowOf:=J2r) (eltOf:=(fun x => .sl 2 (x.map J05))) (fun x=>by simp [J2r]) (fun x h=>by simp [J2r]) l m (fun x y _ _=>Jmo x y)
theorem Jno (x:DFarkas) (left:Int) (h0:0≤left∧left≤4611686018427387904):Holds Tryz.prog 111 [.agg (J0u x),i64 left] (fun r=>r=i64 (J2x left (J63 x))):=by
 refine J03 Tryz.func111 a111_ok rfl (by simp [a111]) ?_
 simp [a111,J0u]
 have e0:J63 x=J63 x:=rfl
 conv at e0=>rhs;unfold J63
 refine J02 (Jhy x.Mult left (by omega)) (by simp) ?_
 rintro r rfl
 by_cases h1:left - (Jg4 x.Mult:Nat)<0
 case pos=>
  have q:left - (J63 x:Int)<0:=by omega
  simp [J2x,h1,q]
  try first|omega|(constructor <;> intros <;> omega)
 simp [J2x,h1]
 try (rw [if_neg (by omega)];omega)
theorem Jnc (x:DFarkas) (_hw:J63 x≤1048576):Holds Tryz.prog 114 [.agg (J0u x)] (fun r=>r = .agg (J37 x)):=by
 have hw:=_hw;unfold J63 at hw
 refine J03 Tryz.func114 a114_ok rfl (by simp [a114]) ?_
 simp [a114,J0u]
 refine J02 (Jhh x.Mult (by omega)) (by simp []) ?_
 rintro r rfl
 simp []
 try simp [J37]
theorem Jn4 (x y:DFarkas):Holds Tryz.prog 116 [.agg (J0u x),.agg (J0u y)] (fun r=>r = .bool (decide (x=y))):=by
 refine J03 Tryz.func116 a116_ok rfl (by simp [a116]) ?_
 simp [a116,J0u]
 by_cases h0:x.Scale=y.Scale
 case neg=>simp [h0];try exact fun e=>h0 (by rw [e])
 simp [h0]
 refine J02 (Jhk x.Mult y.Mult) (by simp []) ?_
 rintro r rfl
 by_cases h1:x.Mult=y.Mult
 case neg=>simp [h1];try exact fun e=>h1 (by rw [e])
 simp [h1]
 cases x;cases y;simp_all
theorem a39_ok:J09 Tryz.prog Tryz.f39=some (tSz true 2 111):=by kernel_rfl
theorem Jek (l:List DFarkas) (left:Int) (h0:0≤left∧left≤4611686018427387904):Holds Tryz.prog 39 [.sl 2 (l.map J0u),i64 left] (fun r=>r=i64 (J2x left (J88 l))):=by
 rw [show J88 l=wL J63 l from rfl,←J5i (w:=J63) (g:=fun x lf=>J2x lf (J63 x)) (fun _ _ _=>rfl) l left h0.1]
 exact J4z Tryz.func39 a39_ok rfl (rowOf:=J0u) (eltOf:=(fun x => .agg (J0u x))) (fun x=>by simp [J0u]) (fun x h=>by simp [J0u]) (fun x lf h=>J7h h) l left h0 (fun x lf _ hl=>Jno x lf hl)
theorem a41_ok:J09 Tryz.prog Tryz.f41=some (tTo true 2 32 114 [.int .i64 0,.nil 1]):=by kernel_rfl
theorem J62 (l:List DFarkas) (hw:J88 l≤1048576):Holds Tryz.prog 41 [.sl 2 (l.map J0u)] (fun r=>r = .us 2 (l.map J37)):=
 J52 Tryz.func41 a41_ok rfl (rowOf:=J0u) (eltOf:=(fun x => .agg (J0u x))) (eltU:=(fun x => .agg (J37 x))) (fun x=>by simp [J0u]) (fun x h=>by simp [J0u]) (fun x=>by simp) (fun x=>by simp [J37]) (fun x=>by simp [J37]) rfl l (by have:=J2c J63 l;unfold J88 at hw;unfold LIM;omega) (fun x h=>Jnc x (by have:=J3p (w:=J63) h;unfold J88 at hw;omega))
theorem a43_ok:J09 Tryz.prog Tryz.f43=some (tEq true 2 116):=by kernel_rfl
theorem Jeo (l m:List DFarkas):Holds Tryz.prog 43 [.sl 2 (l.map J0u),.sl 2 (m.map J0u)] (fun r=>r = .bool (decide (l=m))):=by
 rw [←J6y]
 exact J4v Tryz.func43 a43_ok rfl (rowOf:=J0u) (eltOf:=(fun x => .agg (J0u x))) (fun x=>by simp [J0u]) (fun x h=>by simp [J0u]) l m (fun x y _ _=>Jn4 x y)
end Go.Proofs.YtoclolkigjbcgaaGreat
