/- Contracts: the form of a ranking (program). -/
import Derived.Test.YtoclolkigjbcgaaGreatYE4
import Derived.Test.YtoclolkigjbcgaaGreatYHSD
import Derived.Test.YtoclolkigjbcgaaGreatYHM3
namespace Go.Proofs.YtoclolkigjbcgaaGreat
set_option maxRecDepth 40000
set_option maxHeartbeats 4000000
open Go Go.RowKit Go.Proofs
set_option linter.all false
def rg0:AC:=(.reg [Zo 2 (.boxv (.t 0)),Zo 3 (.boxv (.t 1)),Zo 4 (.mv (.k (.bool false)))])
def rg1:AC:=(.reg [Zl 10 true 2 2,Zc 11 125 [.t 10],Zv 5 11])
def rg2:AC:=(.seq (.reg [Zl 12 true 2 2,Zc 13 67 [.t 12],Zo 14 (.un .not (.t 13)),Zv 15 14,⟨some 16,.fld 0 (.t 3),(some (15,false))⟩,⟨some 17,.ld false 1 (.t 16),(some (15,false))⟩,⟨some 18,.len false (.t 17),(some (15,false))⟩,⟨some 19,.bin .gtr (.t 18) (.k (.int .i64 3)),(some (15,false))⟩,Zo 20 (.pick (.t 15) (.k (.bool true)) (.t 19)),Zv 21 20,⟨some 22,.fld 1 (.t 3),(some (21,false))⟩,⟨some 23,.ld false 1 (.t 22),(some (21,false))⟩,⟨some 24,.len false (.t 23),(some (21,false))⟩,⟨some 25,.mv (.t 5),(some (21,false))⟩,⟨some 26,.len false (.t 25),(some (21,false))⟩,⟨some 27,.bin .neq (.t 24) (.t 26),(some (21,false))⟩,Zo 28 (.pick (.t 21) (.k (.bool true)) (.t 27))]) (.cond (.t 28) (.seq (.reg [Zo 4 (.mv (.k (.bool false)))]) .ret) .skip))
def rg3:AC:=(.seq (.reg [Zf 29 0 3,Zl 30 false 1 29,Zo 31 (.len false (.t 30)),Zo 32 (.mv (.k (.int .i64 0)))]) (.blk 0 (.loop (.seq (.reg [Zo 33 (.bin .lss (.t 32) (.t 31))]) (.seq (.cond (.t 33) .skip (.exit 0)) (.seq (.blk 1 (.seq (.reg [Zo 34 (.ixa 1 (.t 30) (.t 32)),Zl 35 false 1 34,Zv 7 35]) (.seq (.reg [Zl 36 true 2 2,Zv 37 7,Zc 38 103 [.t 36,.t 37],Zo 39 (.un .not (.t 38))]) (.cond (.t 39) (.seq (.reg [Zo 4 (.mv (.k (.bool false)))]) .ret) .skip)))) (.reg [Zo 40 (.bin .add (.t 32) (.k (.int .i64 1))),Zv 32 40])))))))
def rg4:AC:=(.seq (.reg [Zv 41 5,Zo 42 (.len false (.t 41)),Zo 43 (.mv (.k (.int .i64 0)))]) (.blk 2 (.loop (.seq (.reg [Zo 44 (.bin .lss (.t 43) (.t 42))]) (.seq (.cond (.t 44) .skip (.exit 2)) (.seq (.blk 3 (.seq (.reg [Zv 45 43,Zo 46 (.ixa 2 (.t 41) (.t 43)),Zl 47 true 2 46,Zo 9 (.box [(.int .i64 0),(.int .i64 0)]),Zv 8 45,⟨no,.st 2 (.t 9) (.t 47),no⟩]) (.seq (.reg [Zl 48 true 2 2,Zl 49 true 2 9,Zc 50 201 [.t 48,.t 49]]) (.cond (.t 50) (.seq (.draw (.op (Zf 51 1 3) (.op (Zl 52 false 1 51) (.op (Zv 53 8) (.op (Zo 54 (.ixa 1 (.t 52) (.t 53))) (.op (Zl 55 false 1 54) (.op (Zf 56 0 3) (.op (Zl 57 false 1 56) (.op (Zo 58 (.len false (.t 57))) (.op (Zc 59 102 [.t 55,(.k (.int .i64 1)),.t 58]) (.op (Zo 60 (.un .not (.t 59))) .fin))))))))))) (.cond (.t 60) (.seq (.reg [Zo 4 (.mv (.k (.bool false)))]) .ret) .skip)) (.seq (.reg [Zf 61 1 3,Zl 62 false 1 61,Zv 63 8,Zo 64 (.ixa 1 (.t 62) (.t 63)),Zl 65 false 1 64,Zo 66 (.bin .neq (.t 65) (.k (.int .i64 0)))]) (.cond (.t 66) (.seq (.reg [Zo 4 (.mv (.k (.bool false)))]) .ret) .skip)))))) (.reg [Zo 67 (.bin .add (.t 43) (.k (.int .i64 1))),Zv 43 67])))))))
def rg5:AC:=(.reg [Zo 4 (.mv (.k (.bool true)))])
def a124:AFn:=⟨68,[.t 4],(.seq rg0 (.seq rg1 (.seq rg2 (.seq rg3 (.seq rg4 (.seq rg5 .ret))))))⟩
theorem a124_ok:J09 Tryz.prog Tryz.f124=some a124:=by kernel_rfl
theorem Jfo {p:DProgram}{es:List DEdge}{ks:List Int}{n i:Nat}(hi:i<es.length) (hk:ks.length=es.length):((es.drop i).zip (ks.drop i)).all (fun y=>J68 p n y.1 y.2)=(J68 p n es[i] (ks[i]'(by omega))&&((es.drop (i+1)).zip (ks.drop (i+1))).all (fun y=>J68 p n y.1 y.2)):=by
 rw [List.drop_eq_getElem_cons hi,List.drop_eq_getElem_cons (show i<ks.length by omega),List.zip_cons_cons,List.all_cons]
theorem Jn7 {p:DProgram}{e:DEdge}(h:e∈J0f p):Jhj p e=Jao p e:=by unfold Jhj;rw [decide_eq_true h,Bool.true_and]
section
variable {ks:List Kt}{s:Env}{h h':Heap}{n:Nat}{Q:Fin}
theorem Jw0 {p:DProgram}{x:DRanking}(hn:2<n) (s2:s 2 = .ptr 0 0 0) (s3:s 3 = .ptr 1 0 0) (e0:h 0=some ⟨true,2,[J00 p]⟩) (e1:h 1=some ⟨true,2,[J0d x]⟩) (hL:x.Levels.length≤3)
 (hret:x.Levels.all (J80 p.Functions)=false→∀ s' h' n',s' 4 = .bool false→J2f Tryz.prog ks .ret s' h' n' Q)
 (hK:∀ s',(∀ j∈[2,3,5],s' j=s j)→x.Levels.all (J80 p.Functions)=true→J2f Tryz.prog ks .normal s' h n Q):rC Tryz.prog rg3 ks s h n Q:=by
 generalize hF:x.Levels.all (J80 p.Functions)=F at *
 simp [rg3,s3,e1,J0d]
 intro _
 refine J0n [2,3,5,30,31] 32 x.Levels.length (fun i s h' m=>h'=h∧m=n∧(x.Levels.drop i).all (J80 p.Functions)=F) (by unfold LIM;omega) (by simp) ⟨rfl,rfl,by simpa using hF⟩ ?_ ?_
 ·rintro i st h1 m1 R hi hgi hk s32 hw ⟨rfl,rfl,hJ⟩ hR hrt _
  simp at hk
  rw [List.drop_eq_getElem_cons hi,List.all_cons] at hJ
  simp [hk,s32,hi,s2,e0,J2r]
  first|refine J01 (Jmu p (x.Levels[i]'hi)) (by first|simp;done|rfl) ?_|refine J02 (Jmu p (x.Levels[i]'hi)) (by first|simp;done|rfl) ?_
  rintro r rfl
  cases hc:J80 p.Functions x.Levels[i]
  ·rw [hc,Bool.false_and] at hJ
   simp
   exact hrt _ _ _ (hret hJ.symm _ _ _ (by simp))
  ·rw [hc,Bool.true_and] at hJ
   simp [s32,hw]
   exact hR _ _ _ (by simp [hk]) (by simp) ⟨rfl,rfl,hJ⟩
 ·rintro st h1 m1 R hk s32 ⟨rfl,rfl,hJ⟩ hrt hX
  simp at hk
  rw [List.drop_eq_nil_of_le (by omega)] at hJ
  simp [hk,s32]
  refine hX _ _ _ _ ?_
  simp
  exact hK _ (by simp [hk]) (by rw [←hJ];rfl)
theorem Jwv {p:DProgram}(hp:J0j p≤1048576) {x:DRanking}(hn:2<n) (s2:s 2 = .ptr 0 0 0) (s3:s 3 = .ptr 1 0 0) (s5:s 5 = .ref 2 0 (J0f p).length) (e0:h 0=some ⟨true,2,[J00 p]⟩) (e1:h 1=some ⟨true,2,[J0d x]⟩) (e2:h 2=some ⟨false,2,(J0f p).map J25⟩) (hL:x.Levels.length≤3) (hE:x.Edges.length=(J0f p).length)
 (hret:(((J0f p).zip x.Edges).all fun y=>J68 p x.Levels.length y.1 y.2)=false→∀ s' h' n',s' 4 = .bool false→J2f Tryz.prog ks .ret s' h' n' Q)
 (hK:∀ s' h' n',(((J0f p).zip x.Edges).all fun y=>J68 p x.Levels.length y.1 y.2)=true→J2f Tryz.prog ks .normal s' h' n' Q):rC Tryz.prog rg4 ks s h n Q:=by
 have h16:=Jaz (p:=p)
 generalize hF:(((J0f p).zip x.Edges).all fun y=>J68 p x.Levels.length y.1 y.2)=F at *
 simp [rg4,s5,e2]
 intro _
 refine J0n [2,3,41,42] 43 (J0f p).length (fun i s h' m=>n≤m∧(∀ id,id<n→h' id=h id)∧(((J0f p).drop i).zip (x.Edges.drop i)).all (fun y=>J68 p x.Levels.length y.1 y.2)=F) (by unfold LIM;omega) (by simp) ⟨Nat.le_refl _,fun _ _=>rfl,by simpa using hF⟩ ?_ ?_
 ·rintro i st h1 m1 R hi hgi hk s43 hw ⟨hm1,hf,hJ⟩ hR hrt _
  simp at hk
  rw [Jfo hi hE] at hJ
  have hie:i<x.Edges.length:=by omega
  have z0:h1 0=some ⟨true,2,[J00 p]⟩:=by rw [hf 0 (by omega),e0]
  have z1:h1 1=some ⟨true,2,[J0d x]⟩:=by rw [hf 1 (by omega),e1]
  have z2:h1 2=some ⟨false,2,(J0f p).map J25⟩:=by rw [hf 2 (by omega),e2]
  have ne:¬0=m1∧¬1=m1∧¬2=m1:=by omega
  have fr:∀ id,id<n→¬id=m1:=by intro id _;omega
  have hin:=Jn7 (List.getElem_mem hi)
  have hf':∀ H:Heap,H=upd h1 m1 (some ⟨true,2,[J0o (J0f p)[i]]⟩)→∀ id,id<n→H id=h id:=fun H hH id hid=>by rw [hH];simp [fr id hid,hf id hid]
  simp [hk,s43,hi,s2,z0,z2,ne,J25]
  first|refine J01 (Jjw p hp ((J0f p)[i]'hi)) (by first|simp [J0o];done|rfl) ?_|refine J02 (Jjw p hp ((J0f p)[i]'hi)) (by first|simp [J0o];done|rfl) ?_
  rintro r rfl
  rw [hin]
  cases hc:Jao p (J0f p)[i]
  ·have hev:J68 p x.Levels.length (J0f p)[i] (x.Edges[i]'hie)=decide ((x.Edges[i]'hie)=0):=by unfold J68;rw [hc];rfl
   rw [hev] at hJ
   by_cases hz:(x.Edges[i]'hie)=0
   ·simp [hz] at hJ
    simp [hk,s3,z1,ne,J0d,hie,hz,s43,hw]
    exact hR _ _ _ (by simp [hk]) (by simp) ⟨by omega,fun id hid=>by simp [fr id hid,hf id hid],by simpa using hJ⟩
   ·simp [hz] at hJ
    simp [hk,s3,z1,ne,J0d,hie,hz]
    exact hrt _ _ _ (hret hJ _ _ _ (by simp))
  ·have hev:J68 p x.Levels.length (J0f p)[i] (x.Edges[i]'hie)=inR (x.Edges[i]'hie) 1 x.Levels.length:=by unfold J68;rw [hc];rfl
   rw [hev] at hJ
   simp [hk,s3,z1,ne,J0d,hie]
   first|refine J01 (J1v (x.Edges[i]'hie) 1 x.Levels.length) (by first|simp;done|rfl) ?_|refine J02 (J1v (x.Edges[i]'hie) 1 x.Levels.length) (by first|simp;done|rfl) ?_
   rintro r rfl
   cases hz:inR (x.Edges[i]'hie) 1 x.Levels.length
   ·rw [hz,Bool.false_and] at hJ
    simp
    exact hrt _ _ _ (hret hJ.symm _ _ _ (by simp))
   ·rw [hz,Bool.true_and] at hJ
    simp [s43,hw]
    exact hR _ _ _ (by simp [hk]) (by simp) ⟨by omega,fun id hid=>by simp [fr id hid,hf id hid],hJ⟩
 ·rintro st h1 m1 R hk s43 ⟨hm1,hf,hJ⟩ hrt hX
  simp at hk
  rw [List.drop_eq_nil_of_le (by omega)] at hJ
  simp [hk,s43]
  refine hX _ _ _ _ ?_
  simp
  exact hK _ _ _ (by rw [←hJ];rfl)
end
theorem Jfa (p:DProgram) (hp:J0j p≤1048576) (x:DRanking):Holds Tryz.prog 124 [.agg (J00 p),.agg (J0d x)] (fun r=>r = .bool (Jcb p x)):=by
 have h16:=Jaz (p:=p)
 refine J03 Tryz.func124 a124_ok rfl (by simp [a124]) ?_
 simp [a124,rg0,rg1]
 first|refine J01 (J7n p hp) (by first|simp;done|rfl) ?_|refine J02 (J7n p hp) (by first|simp;done|rfl) ?_
 rintro r rfl
 simp [rg2]
 first|refine J01 (J2n p hp) (by first|simp;done|rfl) ?_|refine J02 (J2n p hp) (by first|simp;done|rfl) ?_
 rintro r rfl
 have hrk:Jcb p x=(J2e p&&decide (x.Levels.length≤3)&&decide (x.Edges.length=(J0f p).length)&&(x.Levels.all (J80 p.Functions)&&((J0f p).zip x.Edges).all fun y=>J68 p x.Levels.length y.1 y.2)):=rfl
 cases h1:J2e p
 ·rw [h1] at hrk
  simp at hrk
  simp [hrk]
 rw [h1] at hrk
 by_cases h2:x.Levels.length≤3
 case neg=>
  have h2':(3:Int)<x.Levels.length:=by omega
  have h2'':3<x.Levels.length:=by omega
  simp [h2] at hrk
  simp [J0d,h2',h2'',hrk]
 have h2':¬(3:Int)<x.Levels.length:=by omega
 have h2'':¬3<x.Levels.length:=by omega
 by_cases h3:x.Edges.length=(J0f p).length
 case neg=>
  have h3':¬(x.Edges.length:Int)=(J0f p).length:=by omega
  simp [h3] at hrk
  simp [J0d,h2',h2'',h3,h3',hrk]
 simp [h2,h3] at hrk
 simp [J0d,h2',h2'',h3]
 intros
 refine Jw0 (p:=p) (x:=x) (by omega) (by simp) (by simp) (by simp) (by simp [J0d]) h2 ?_ ?_
 ·intro hF s' h' n' s4
  rw [hF] at hrk
  simp at hrk
  simp [s4,hrk]
 ·intro s' hk' hF
  simp at hk'
  rw [hF] at hrk
  simp
  refine Jwv hp (x:=x) (by omega) (by simp [hk']) (by simp [hk']) (by simp [hk']) (by simp) (by simp [J0d]) (by simp) h2 h3 ?_ ?_
  ·intro hF2 s' h' n' s4
   rw [hF2] at hrk
   simp at hrk
   simp [s4,hrk]
  ·intro s' h' n' hF2
   rw [hF2] at hrk
   simp at hrk
   simp [rg5,hrk]
def a197:AFn:= ⟨31,[.t 4],(.seq (.reg [Zo 2 (.boxv (.t 0)),Zo 4 (.mv (.k (.bool false)))]) (.seq (.seq (.reg [Zv 6 1,Zo 7 (.len false (.t 6)),Zf 8 0 2,Zl 9 false 1 8,Zo 10 (.len false (.t 9)),Zo 11 (.bin .neq (.t 7) (.t 10))]) (.cond (.t 11) (.seq (.reg [Zo 4 (.mv (.k (.bool false)))]) .ret) .skip)) (.seq (.seq (.reg [Zo 5 (.mv (.k (.int .i64 0)))]) (.blk 0 (.loop (.seq (.seq (.reg [Zv 12 5,Zv 13 1,Zo 14 (.len false (.t 13)),Zo 15 (.bin .lss (.t 12) (.t 14))]) (.cond (.t 15) .skip (.exit 0))) (.seq (.blk 1 (.seq (.draw (.op (Zv 18 1) (.op (Zv 19 5) (.op (Zo 20 (.ixa 2 (.t 18) (.t 19))) (.op (Zl 21 true 2 20) (.op (Zf 22 0 2) (.op (Zl 23 false 1 22) (.op (Zv 24 5) (.op (Zo 25 (.ixa 4 (.t 23) (.t 24))) (.op (Zf 26 1 25) (.op (Zl 27 false 1 26) (.op (Zo 28 (.len false (.t 27))) (.op (Zc 29 179 [.t 21,.t 28]) (.op (Zo 30 (.un .not (.t 29))) .fin)))))))))))))) (.cond (.t 30) (.seq (.reg [Zo 4 (.mv (.k (.bool false)))]) .ret) .skip))) (.reg [Zv 16 5,Zo 17 (.bin .add (.t 16) (.k (.int .i64 1))),Zv 5 17])))))) (.seq (.reg [Zo 4 (.mv (.k (.bool true)))]) .ret))))⟩
theorem a197_ok:J09 Tryz.prog Tryz.f197=some a197:=by kernel_rfl
def lh0:AC:=(.reg [Zo 2 (.boxv (.t 0)),Zo 3 (.boxv (.t 1)),Zo 4 (.mv (.k (.bool false)))])
def lh1:AC:=(.reg [Zl 9 true 2 2,Zc 10 122 [.t 9],Zv 5 10])
def lh2:AC:=(.seq (.reg [Zl 11 true 2 2,Zc 12 61 [.t 11],Zo 13 (.un .not (.t 12)),Zv 14 13,⟨some 15,.fld 0 (.t 3),(some (14,false))⟩,⟨some 16,.ld false 1 (.t 15),(some (14,false))⟩,⟨some 17,.len false (.t 16),(some (14,false))⟩,⟨some 18,.bin .gtr (.t 17) (.k (.int .i64 3)),(some (14,false))⟩,Zo 19 (.pick (.t 14) (.k (.bool true)) (.t 18)),Zv 20 19,⟨some 21,.fld 1 (.t 3),(some (20,false))⟩,⟨some 22,.ld false 1 (.t 21),(some (20,false))⟩,⟨some 23,.len false (.t 22),(some (20,false))⟩,⟨some 24,.mv (.t 5),(some (20,false))⟩,⟨some 25,.len false (.t 24),(some (20,false))⟩,⟨some 26,.bin .neq (.t 23) (.t 25),(some (20,false))⟩,Zo 27 (.pick (.t 20) (.k (.bool true)) (.t 26))]) (.cond (.t 27) (.seq (.reg [Zo 4 (.mv (.k (.bool false)))]) .ret) .skip))
def lh3:AC:=(.seq (.reg [Zo 6 (.mv (.k (.int .i64 0)))]) (.blk 0 (.loop (.seq (.seq (.reg [Zv 28 6,Zf 29 0 3,Zl 30 false 1 29,Zo 31 (.len false (.t 30)),Zo 32 (.bin .lss (.t 28) (.t 31))]) (.cond (.t 32) .skip (.exit 0))) (.seq (.blk 1 (.seq (.draw (.op (Zl 35 true 2 2) (.op (Zf 36 0 3) (.op (Zl 37 false 1 36) (.op (Zv 38 6) (.op (Zo 39 (.ixa 1 (.t 37) (.t 38))) (.op (Zl 40 false 1 39) (.op (Zc 41 197 [.t 35,.t 40]) (.op (Zo 42 (.un .not (.t 41))) .fin))))))))) (.cond (.t 42) (.seq (.reg [Zo 4 (.mv (.k (.bool false)))]) .ret) .skip))) (.reg [Zv 33 6,Zo 34 (.bin .add (.t 33) (.k (.int .i64 1))),Zv 6 34]))))))
def lh4:AC:=(.seq (.reg [Zo 7 (.mv (.k (.int .i64 0)))]) (.blk 2 (.loop (.seq (.seq (.reg [Zv 43 7,Zv 44 5,Zo 45 (.len false (.t 44)),Zo 46 (.bin .lss (.t 43) (.t 45))]) (.cond (.t 46) .skip (.exit 2))) (.seq (.blk 3 (.seq (.draw (.op (Zl 49 true 2 2) (.op (Zv 50 5) (.op (Zv 51 7) (.op (Zo 52 (.ixa 2 (.t 50) (.t 51))) (.op (Zl 53 true 2 52) (.op (Zc 54 198 [.t 49,.t 53]) (.op (Zv 8 54) .fin)))))))) (.seq (.draw (.op (Zv 55 8) (.op (Zv 56 55) (.op ⟨some 57,.fld 1 (.t 3),(some (56,true))⟩ (.op ⟨some 58,.ld false 1 (.t 57),(some (56,true))⟩ (.op ⟨some 59,.mv (.t 7),(some (56,true))⟩ (.op ⟨some 60,.ixa 1 (.t 58) (.t 59),(some (56,true))⟩ (.op ⟨some 61,.ld false 1 (.t 60),(some (56,true))⟩ (.op ⟨some 62,.fld 0 (.t 3),(some (56,true))⟩ (.op ⟨some 63,.ld false 1 (.t 62),(some (56,true))⟩ (.op ⟨some 64,.len false (.t 63),(some (56,true))⟩ (.op ⟨some 65,.call (.k (.fn (.func 183) [] [])) [.t 61,(.k (.int .i64 1)),.t 64],(some (56,true))⟩ (.op ⟨some 66,.un .not (.t 65),(some (56,true))⟩ (.op (Zo 67 (.pick (.t 56) (.t 66) (.k (.bool false)))) (.op (Zv 68 67) (.op ⟨some 69,.mv (.t 8),(some (68,false))⟩ (.op ⟨some 70,.un .not (.t 69),(some (68,false))⟩ (.op ⟨some 71,.mv (.t 70),(some (68,false))⟩ (.op ⟨some 72,.fld 1 (.t 3),(some (71,true))⟩ (.op ⟨some 73,.ld false 1 (.t 72),(some (71,true))⟩ (.op ⟨some 74,.mv (.t 7),(some (71,true))⟩ (.op ⟨some 75,.ixa 1 (.t 73) (.t 74),(some (71,true))⟩ (.op ⟨some 76,.ld false 1 (.t 75),(some (71,true))⟩ (.op ⟨some 77,.bin .neq (.t 76) (.k (.int .i64 0)),(some (71,true))⟩ (.op ⟨some 78,.pick (.t 71) (.t 77) (.k (.bool false)),(some (68,false))⟩ (.op (Zo 79 (.pick (.t 68) (.k (.bool true)) (.t 78))) .fin)))))))))))))))))))))))))) (.cond (.t 79) (.seq (.reg [Zo 4 (.mv (.k (.bool false)))]) .ret) .skip)))) (.reg [Zv 47 7,Zo 48 (.bin .add (.t 47) (.k (.int .i64 1))),Zv 7 48]))))))
def lh5:AC:=(.reg [Zo 4 (.mv (.k (.bool true)))])
def a121:AFn:=⟨80,[.t 4],(.seq lh0 (.seq lh1 (.seq lh2 (.seq lh3 (.seq lh4 (.seq lh5 .ret))))))⟩
theorem a121_ok:J09 Tryz.prog Tryz.f121=some a121:=by kernel_rfl
theorem Jfl (p:DProgram) (ls:List DLin):Holds Tryz.prog 197 [.agg (J00 p),.sl 2 (ls.map J05)] (fun x=>x = .bool (J80 p.Functions ls)):=by
 refine J03 Tryz.func197 a197_ok rfl (by simp [a197]) ?_
 simp [a197,J00]
 unfold J80
 by_cases hl:ls.length=p.Functions.length
 case neg=>
  have hl':¬(ls.length:Int)=p.Functions.length:=by omega
  simp [hl,hl']
 simp [hl]
 intro hlm
 refine J0n [1,2] 5 ls.length (fun i s h n=>0<n∧h 0=some ⟨true,2,[J00 p]⟩∧((ls.drop i).zip (p.Functions.drop i)).all (fun x=>J1g x.1 x.2.Params.length)=(ls.zip p.Functions).all (fun x=>J1g x.1 x.2.Params.length)) (by omega) (by simp) ⟨by simp,by simp [J00],rfl⟩ ?_ ?_
 ·rintro i s h n R hi hg hk s5 hw ⟨hn,e0,hJ⟩ hR hret _
  have hi':i<p.Functions.length:=by omega
  simp at hk
  rw [List.drop_eq_getElem_cons hi,List.drop_eq_getElem_cons hi',List.zip_cons_cons,List.all_cons] at hJ
  simp [hk,s5,hi,hi',hw,e0,J05,J00,J04,hl]
  try intro _
  first|refine J01 (J0t (ls[i]'hi) (p.Functions[i]'hi').Params.length) (by first|simp [J05];done|rfl) ?_|refine J02 (J0t (ls[i]'hi) (p.Functions[i]'hi').Params.length) (by first|simp [J05];done|rfl) ?_
  rintro r rfl
  cases h0:J1g ls[i] (p.Functions[i]).Params.length
  ·rw [h0] at hJ
   have hJ:(ls.zip p.Functions).all (fun x=>J1g x.1 x.2.Params.length)=false:=by rw [←hJ];rfl
   simp
   refine hret _ _ _ ?_
   simp [hJ]
  ·rw [h0,Bool.true_and] at hJ
   simp [hk,s5,hi,hw]
   exact hR _ _ _ (by simp [hk]) (by simp) ⟨by omega,by simp [e0,J00],hJ⟩
 ·rintro s h n R hk s5 ⟨hn,e0,hJ⟩ hret hX
  simp at hk
  rw [List.drop_eq_nil_of_le (Nat.le_refl _)] at hJ
  simp [hk,s5,hl]
  try intro _
  refine hX _ _ _ _ ?_
  rw [←hJ]
  simp
section
variable {ks:List Kt}{s:Env}{h h':Heap}{n:Nat}{Q:Fin}
theorem Jv2 {p:DProgram}{x:DRanking}(hn:2<n) (s2:s 2 = .ptr 0 0 0) (s3:s 3 = .ptr 1 0 0) (e0:h 0=some ⟨true,2,[J00 p]⟩) (e1:h 1=some ⟨true,2,[J0d x]⟩) (hL:x.Levels.length≤3)
 (hret:x.Levels.all (J80 p.Functions)=false→∀ s' h' n',s' 4 = .bool false→J2f Tryz.prog ks .ret s' h' n' Q)
 (hK:∀ s',(∀ j∈[2,3,5],s' j=s j)→x.Levels.all (J80 p.Functions)=true→J2f Tryz.prog ks .normal s' h n Q):rC Tryz.prog lh3 ks s h n Q:=by
 generalize hF:x.Levels.all (J80 p.Functions)=F at *
 simp [lh3]
 refine J0n [2,3,5] 6 x.Levels.length (fun i s h' m=>h'=h∧m=n∧(x.Levels.drop i).all (J80 p.Functions)=F) (by unfold LIM;omega) (by simp) ⟨rfl,rfl,by simpa using hF⟩ ?_ ?_
 ·rintro i st h1 m1 R hi hgi hk s6 hw ⟨rfl,rfl,hJ⟩ hR hrt _
  simp at hk
  rw [List.drop_eq_getElem_cons hi,List.all_cons] at hJ
  simp [hk,s6,hi,s2,s3,e0,e1,J2r,J0d]
  try intro _
  first|refine J01 (Jfl p (x.Levels[i]'hi)) (by simp) ?_|refine J02 (Jfl p (x.Levels[i]'hi)) (by simp) ?_
  rintro r rfl
  cases hc:J80 p.Functions x.Levels[i]
  ·rw [hc,Bool.false_and] at hJ
   simp
   exact hrt _ _ _ (hret hJ.symm _ _ _ (by simp))
  ·rw [hc,Bool.true_and] at hJ
   simp [s6,hw]
   exact hR _ _ _ (by simp [hk]) (by simp) ⟨rfl,rfl,hJ⟩
 ·rintro st h1 m1 R hk s6 ⟨rfl,rfl,hJ⟩ hrt hX
  simp at hk
  rw [List.drop_eq_nil_of_le (by omega)] at hJ
  simp [hk,s6,s3,e1,J0d]
  try intro _
  refine hX _ _ _ _ ?_
  simp
  exact hK _ (by simp [hk]) (by rw [←hJ];rfl)
theorem Jx8 {p:DProgram}(hp:J0j p≤1048576) {x:DRanking}(hn:2<n) (s2:s 2 = .ptr 0 0 0) (s3:s 3 = .ptr 1 0 0) (s5:s 5 = .ref 2 0 (J0f p).length) (e0:h 0=some ⟨true,2,[J00 p]⟩) (e1:h 1=some ⟨true,2,[J0d x]⟩) (e2:h 2=some ⟨false,2,(J0f p).map J25⟩) (hL:x.Levels.length≤3) (hE:x.Edges.length=(J0f p).length)
 (hret:(((J0f p).zip x.Edges).all fun y=>J68 p x.Levels.length y.1 y.2)=false→∀ s' h' n',s' 4 = .bool false→J2f Tryz.prog ks .ret s' h' n' Q)
 (hK:∀ s' h' n',(((J0f p).zip x.Edges).all fun y=>J68 p x.Levels.length y.1 y.2)=true→J2f Tryz.prog ks .normal s' h' n' Q):rC Tryz.prog lh4 ks s h n Q:=by
 have h16:=Jaz (p:=p)
 generalize hF:(((J0f p).zip x.Edges).all fun y=>J68 p x.Levels.length y.1 y.2)=F at *
 simp [lh4]
 refine J0n [2,3,5] 7 (J0f p).length (fun i s h' m=>h'=h∧m=n∧(((J0f p).drop i).zip (x.Edges.drop i)).all (fun y=>J68 p x.Levels.length y.1 y.2)=F) (by unfold LIM;omega) (by simp) ⟨rfl,rfl,by simpa using hF⟩ ?_ ?_
 ·rintro i st h1 m1 R hi hgi hk s7 hw ⟨rfl,rfl,hJ⟩ hR hrt _
  simp at hk
  rw [Jfo hi hE] at hJ
  have hie:i<x.Edges.length:=by omega
  obtain ⟨_,a,b,ha,hb,hab⟩:=Jha (List.getElem_mem hi)
  refine J0c (J0i [2,3,5,7] (fun s=>s 46 = .bool true) ?_ ?_)
  ·simp [hk,s7,s5,e2,hi]
  intro st1 hk1 s46
  simp at hk1
  refine J1y s46 (J0c (J17 ?_))
  refine J0i [2,3,5,7] (fun s=>s 8 = .bool (Jao p (J0f p)[i])) ?_ ?_
  ·simp [hk1,hk,s7,s5,s2,e0,e2,hi,J25]
   rw [hab]
   first|refine J01 (Jee p hp ha hb) (by simp [J0o]) ?_|refine J02 (Jee p hp ha hb) (by simp [J0o]) ?_
   rintro r rfl
   simp
  intro st2 hk2 s8
  simp at hk2
  cases hc:Jao p (J0f p)[i]
  ·have hev:J68 p x.Levels.length (J0f p)[i] (x.Edges[i]'hie)=decide ((x.Edges[i]'hie)=0):=by unfold J68;rw [hc];rfl
   rw [hev] at hJ
   rw [hc] at s8
   by_cases hz:(x.Edges[i]'hie)=0
   ·simp [hz] at hJ
    simp [hk2,hk1,hk,s8,s3,e1,J0d,hie,hz,s7,hw]
    exact hR _ _ _ (by simp [hk2,hk1,hk]) (by simp) ⟨rfl,rfl,by simpa using hJ⟩
   ·simp [hz] at hJ
    simp [hk2,hk1,hk,s8,s3,e1,J0d,hie,hz,s7]
    exact hrt _ _ _ (hret hJ _ _ _ (by simp))
  ·have hev:J68 p x.Levels.length (J0f p)[i] (x.Edges[i]'hie)=inR (x.Edges[i]'hie) 1 x.Levels.length:=by unfold J68;rw [hc];rfl
   rw [hev] at hJ
   rw [hc] at s8
   simp [hk2,hk1,hk,s8,s3,e1,J0d,hie,s7]
   first|refine J01 (J3y (x.Edges[i]'hie) 1 x.Levels.length) (by simp) ?_|refine J02 (J3y (x.Edges[i]'hie) 1 x.Levels.length) (by simp) ?_
   rintro r rfl
   cases hz:inR (x.Edges[i]'hie) 1 x.Levels.length
   ·rw [hz,Bool.false_and] at hJ
    simp [s8]
    exact hrt _ _ _ (hret hJ.symm _ _ _ (by simp))
   ·rw [hz,Bool.true_and] at hJ
    simp [s8,hk2,hk1,s7,hw]
    exact hR _ _ _ (by simp [hk2,hk1,hk]) (by simp) ⟨rfl,rfl,hJ⟩
 ·rintro st h1 m1 R hk s7 ⟨rfl,rfl,hJ⟩ hrt hX
  simp at hk
  rw [List.drop_eq_nil_of_le (by omega)] at hJ
  simp [hk,s7,s5,e2]
  try intro _
  refine hX _ _ _ _ ?_
  simp
  exact hK _ _ _ (by rw [←hJ];rfl)
end
theorem Jgt (p:DProgram) (hp:J0j p≤1048576) (x:DRanking):Holds Tryz.prog 121 [.agg (J00 p),.agg (J0d x)] (fun r=>r = .bool (Jcb p x)):=by
 have h16:=Jaz (p:=p)
 refine J03 Tryz.func121 a121_ok rfl (by simp [a121]) ?_
 simp [a121,lh0,lh1]
 first|refine J01 (J61 p hp) (by first|simp;done|rfl) ?_|refine J02 (J61 p hp) (by first|simp;done|rfl) ?_
 rintro r rfl
 simp [lh2]
 first|refine J01 (J2d p hp) (by first|simp;done|rfl) ?_|refine J02 (J2d p hp) (by first|simp;done|rfl) ?_
 rintro r rfl
 have hrk:Jcb p x=(J2e p&&decide (x.Levels.length≤3)&&decide (x.Edges.length=(J0f p).length)&&(x.Levels.all (J80 p.Functions)&&((J0f p).zip x.Edges).all fun y=>J68 p x.Levels.length y.1 y.2)):=rfl
 cases h1:J2e p
 ·rw [h1] at hrk
  simp at hrk
  simp [hrk]
 rw [h1] at hrk
 by_cases h2:x.Levels.length≤3
 case neg=>
  have h2':(3:Int)<x.Levels.length:=by omega
  have h2'':3<x.Levels.length:=by omega
  simp [h2] at hrk
  simp [J0d,h2',h2'',hrk]
 have h2':¬(3:Int)<x.Levels.length:=by omega
 have h2'':¬3<x.Levels.length:=by omega
 by_cases h3:x.Edges.length=(J0f p).length
 case neg=>
  have h3':¬(x.Edges.length:Int)=(J0f p).length:=by omega
  simp [h3] at hrk
  simp [J0d,h2',h2'',h3,h3',hrk]
 simp [h2,h3] at hrk
 simp [J0d,h2',h2'',h3]
 intros
 refine Jv2 (p:=p) (x:=x) (by omega) (by simp) (by simp) (by simp) (by simp [J0d]) h2 ?_ ?_
 ·intro hF s' h' n' s4
  rw [hF] at hrk
  simp at hrk
  simp [s4,hrk]
 ·intro s' hk' hF
  simp at hk'
  rw [hF] at hrk
  simp
  refine Jx8 hp (x:=x) (by omega) (by simp [hk']) (by simp [hk']) (by simp [hk']) (by simp) (by simp [J0d]) (by simp) h2 h3 ?_ ?_
  ·intro hF2 s' h' n' s4
   rw [hF2] at hrk
   simp at hrk
   simp [s4,hrk]
  ·intro s' h' n' hF2
   rw [hF2] at hrk
   simp at hrk
   simp [lh5,hrk]
def xa0:AC:=(.reg [Zo 2 (.boxv (.t 0)),Zo 3 (.boxv (.t 1)),Zo 4 (.mv (.k (.nil 4))),Zo 5 (.mv (.k (.bool false)))])
def xa1:AC:=(.seq (.reg [Zl 18 true 2 2,Zl 19 true 2 3,Zc 20 124 [.t 18,.t 19],Zo 21 (.un .not (.t 20))]) (.cond (.t 21) (.seq (.reg [Zo 4 (.mv (.k (.nil 4))),Zo 5 (.mv (.k (.bool false)))]) .ret) .skip))
def xa2:AC:=(.reg [Zo 6 (.mv (.k (.nil 4)))])
def xb1:AC:=(.reg [Zv 27 25,Zo 28 (.ixa 2 (.t 23) (.t 25)),Zl 29 true 2 28,Zo 8 (.box [(.int .i64 0),(.int .i64 0)]),Zv 7 27,⟨no,.st 2 (.t 8) (.t 29),no⟩])
def xb2:AC:=(.reg [Zl 31 true 2 2,Zf 32 0 8,Zl 33 false 1 32,Zc 34 126 [.t 31,.t 33],Zv 30 34,Zo 35 (.ext (.t 30) 0),Zo 36 (.ext (.t 30) 1),Zo 9 (.box [(.int .i64 0),(.nil 2),(.nil 2),(.nil 1),(.int .i64 0),(.nil 1)]),⟨no,.st 6 (.t 9) (.t 35),no⟩,Zv 10 36])
def xy1:AC:=(.reg [Zf 46 0 3,Zl 47 false 1 46,Zv 48 11,Zo 49 (.bin .sub (.t 48) (.k (.int .i64 1))),Zo 50 (.ixa 1 (.t 47) (.t 49)),Zl 51 false 1 50,Zv 12 51])
def xy4:AC:=(.reg [Zl 60 true 2 2,Zl 61 true 6 9,Zl 62 true 2 8,Zv 63 12,Zv 64 13,Zc 65 127 [.t 60,.t 61,.t 62,.t 63,.t 64],Zv 59 65,Zo 66 (.ext (.t 59) 0),Zo 67 (.ext (.t 59) 1),Zo 14 (.box [(.int .i64 0),(.nil 1)]),⟨no,.st 2 (.t 14) (.t 66),no⟩,Zv 15 67])
def xy6:AC:=(.draw (.op (Zv 70 6) (.op (Zf 71 0 9) (.op (Zl 72 true 2 71) (.op (Zl 74 true 2 14) (.op (Zc 73 128 [.t 72]) (.op (Zo 75 (.build [(.int .i64 0),(.nil 2),(.int .i64 0),(.nil 1)] [(0,(2,(.t 73))),(2,(2,(.t 74)))])) (.hop (Zo 76 (.bsl 4 [.t 75])) [] (.hop (Zo 77 (.app 64 4 (.t 70) (.t 76))) [] (.hop (Zv 6 77) [] .fin))))))))))
def xy8:AC:=(.reg [Zl 81 true 2 2,Zl 82 true 6 9,Zl 83 true 2 8,Zv 84 12,Zc 85 129 [.t 81,.t 82,.t 83,.t 84],Zv 80 85,Zo 86 (.ext (.t 80) 0),Zo 87 (.ext (.t 80) 1),Zo 16 (.box [(.int .i64 0),(.nil 1)]),⟨no,.st 2 (.t 16) (.t 86),no⟩,Zv 17 87])
def xy9:AC:=(.draw (.op (Zv 90 6) (.op (Zf 91 0 9) (.op (Zl 92 true 2 91) (.op (Zl 94 true 2 16) (.op (Zc 93 128 [.t 92]) (.op (Zo 95 (.build [(.int .i64 0),(.nil 2),(.int .i64 0),(.nil 1)] [(0,(2,(.t 93))),(2,(2,(.t 94)))])) (.hop (Zo 96 (.bsl 4 [.t 95])) [] (.hop (Zo 97 (.app 64 4 (.t 90) (.t 96))) [] (.hop (Zv 6 97) [] .fin))))))))))
def xin:AC:=(.blk 2 (.loop (.seq (.seq (.reg [Zv 37 11,Zf 38 1 3,Zl 39 false 1 38,Zv 40 7,Zo 41 (.ixa 1 (.t 39) (.t 40)),Zl 42 false 1 41,Zo 43 (.bin .leq (.t 37) (.t 42))]) (.cond (.t 43) .skip (.exit 2))) (.seq (.blk 3 (.seq  xy1 (.seq (.reg [Zo 13 (.mv (.k (.int .i64 0)))]) (.seq (.seq (.reg [Zv 52 11,Zf 53 1 3,Zl 54 false 1 53,Zv 55 7,Zo 56 (.ixa 1 (.t 54) (.t 55)),Zl 57 false 1 56,Zo 58 (.bin .eql (.t 52) (.t 57))]) (.cond (.t 58) (.reg [Zo 13 (.mv (.k (.int .i64 1)))]) .skip)) (.seq  xy4 (.seq (.seq (.reg [Zv 68 15,Zo 69 (.un .not (.t 68))]) (.cond (.t 69) (.seq (.reg [Zo 4 (.mv (.k (.nil 4))),Zo 5 (.mv (.k (.bool false)))]) .ret) .skip)) (.seq xy6 (.seq (.reg [Zv 78 13,Zo 79 (.bin .eql (.t 78) (.k (.int .i64 1)))]) (.cond (.t 79) (.seq  xy8 (.seq (.seq (.reg [Zv 88 17,Zo 89 (.un .not (.t 88))]) (.cond (.t 89) (.seq (.reg [Zo 4 (.mv (.k (.nil 4))),Zo 5 (.mv (.k (.bool false)))]) .ret) .skip)) xy9)) .skip))))))))) (.reg [Zv 44 11,Zo 45 (.bin .add (.t 44) (.k (.int .i64 1))),Zv 11 45])))))
def xa3:AC:=(.seq (.reg [Zl 22 true 2 2,Zc 23 125 [.t 22],Zo 24 (.len false (.t 23)),Zo 25 (.mv (.k (.int .i64 0)))]) (.blk 0 (.loop (.seq (.reg [Zo 26 (.bin .lss (.t 25) (.t 24))]) (.seq (.cond (.t 26) .skip (.exit 0)) (.seq (.blk 1 (.seq  xb1 (.seq  xb2 (.seq (.reg [Zo 11 (.mv (.k (.int .i64 1)))]) xin)))) (.reg [Zo 98 (.bin .add (.t 25) (.k (.int .i64 1))),Zv 25 98])))))))
def xa4:AC:=(.reg [Zv 99 6,Zv 4 99,Zo 5 (.mv (.k (.bool true)))])
def a50:AFn:=⟨100,[.t 4,.t 5],(.seq xa0 (.seq xa1 (.seq xa2 (.seq xa3 (.seq xa4 .ret)))))⟩
theorem a50_ok:J09 Tryz.prog Tryz.f50=some a50:=by kernel_rfl
section
variable {P:Program}{a:AC}{ks:List Kt}{s:Env}{h:Heap}{n:Nat}{Q:Fin}
theorem Jqr (keep:List Nat) (ic N c:Nat) (J:Nat→Env→Heap→Nat→Prop) (hN:N+c≤LIM) (hi0:s ic = .int .i64 c) (hJ0:J 0 s h n)
 (hstep:∀ i s' h' n' (R:Fin),i<N→(∀ j∈keep,s' j=s j)→s' ic = .int .i64 ((i:Int)+c)→IntKind.i64.wrap ((i:Int)+c+1)=(i:Int)+c+1→J i s' h' n' →
  (∀ s'' h'' n'',(∀ j∈keep,s'' j=s j)→s'' ic = .int .i64 ((i:Int)+c+1)→J (i+1) s'' h'' n''→R .normal s'' h'' n'') →
  (∀ s'' h'' n'',J2f P ks .ret s'' h'' n'' Q→R .ret s'' h'' n'')→(∀ x s'' h'' n'',J2f P ks (.exit x) s'' h'' n'' Q→R (.exit x) s'' h'' n'')→rC P a [] s' h' n' R)
 (hend:∀ s' h' n' (R:Fin),(∀ j∈keep,s' j=s j)→s' ic = .int .i64 ((N:Int)+c)→J N s' h' n' →
  (∀ s'' h'' n'',J2f P ks .ret s'' h'' n'' Q→R .ret s'' h'' n'')→(∀ x s'' h'' n'',J2f P ks (.exit x) s'' h'' n'' Q→R (.exit x) s'' h'' n'')→rC P a [] s' h' n' R):rL P a ks s h n Q:=by
 refine Jdh (fun k s' h' n'=>∃ i,k=N - i∧i≤N∧(∀ j∈keep,s' j=s j)∧s' ic = .int .i64 ((i:Int)+c)∧J i s' h' n') N ⟨0,rfl,Nat.zero_le _,fun _ _=>rfl,by simpa using hi0,hJ0⟩ ?_
 rintro k s' h' n' ⟨i,rfl,hi,hk,hic,hJ⟩
 by_cases hlt:i<N
 ·exact hstep i s' h' n' _ hlt hk hic (J1h (by unfold LIM at hN;omega)) hJ (fun s'' h'' n'' g1 g2 g3=>⟨N - (i+1),by omega,i+1,rfl,by omega,g1,by rw [g2];congr 1;omega,g3⟩) (fun _ _ _ h=>h) (fun _ _ _ _ h=>h)
 ·have:i=N:=by omega
  subst this
  exact hend s' h' n' _ hk hic hJ (fun _ _ _ h=>h) (fun _ _ _ _ h=>h)
end
section
variable {ks:List Kt}{s:Env}{h h':Heap}{n:Nat}{Q:Fin}
theorem Kai {a:AC}{md:DModel}{t:DLin}{acc:List DObligation}{v:AV}{k9 k b:Nat}(ha:a=xy6∧b=14∨a=xy9∧b=16) (s6:s 6=v) (s9:s 9 = .ptr k9 0 0) (sb:s b = .ptr k 0 0) (e9:h k9=some ⟨true,6,[J0m md]⟩) (L:J49 t k h n) (B:J31 1 4 (acc.map J08) v h n) (hw:J4q md.System.Rows≤1048576) (hl:acc.length≤3000000)
 (hK:∀ s' h' n',(∀ j∈[2,3,7,8,9,11,12,13,23,24,25],s' j=s j)→n≤n'→(∀ id z rows,id<n→h id=some ⟨true,z,rows⟩→h' id=h id)→J31 1 4 ((acc++[(⟨md.System,t⟩:DObligation)]).map J08) (s' 6) h' n'→J2f Tryz.prog ks .normal s' h' n' Q):rC Tryz.prog a ks s h n Q:=by
 obtain ⟨q,hkn,hqn,hkb,hqb⟩:=L
 have ne:¬q=n∧¬n=q∧¬n=n+1∧¬n+1=n∧¬n+1=q∧¬q=n+1:=by omega
 have fr:∀ id,id<n→¬id=n∧¬id=n+1∧¬id=n+1+1:=by intro id _;omega
 have hqv:∀ l,v ≠ .ref q 0 l:=fun l e=>by have:=(B.lt e).2.2.1;rw [hqb] at this;simp at this
 rcases ha with ⟨rfl,rfl⟩|⟨rfl,rfl⟩
 all_goals
  first|simp [xy6,s6,s9,sb,e9,hkb] | simp [xy9,s6,s9,sb,e9,hkb]
  refine J01 (J9e md.System hw) (by simp) ?_
  rintro r rfl
  simp [J3h,hqb,ne]
  refine J35 (rows:=acc.map J08) (rows2:=[[.int .i64 md.System.N,.us 2 (md.System.Rows.map J07),.int .i64 t.Const,.us 1 (J0l t.Coeffs)]]) (B.keep (n':=n+1+1) (by omega) fun id _ hid e => ?_) (by simp) (fun l e=>by have:=(B.lt e).2.1;omega) (by omega) (by simp;unfold LIM;omega) ?_
  ·have:¬id=q:=fun e'=>hqv _ (by rw [←e'];exact e)
   simp [fr id hid,this]
  intro h1 f1 f2
  simp
  refine hK _ _ _ (by simp) (by omega) ?_ ?_
  ·intro id z rows h1' h3'
   have:¬id=q:=by rintro rfl;rw [hqb] at h3';simp at h3'
   rw [f2 id (by omega) (by omega) fun l e=>B.not_box h3' e];simp [fr id h1',this]
  ·simp
   exact .inr ⟨n+2,by omega,by have:=B;rcases this with ⟨hz,hv⟩|⟨i,h1,h2,_⟩ <;> omega,by simp,by simp [f1,J08]⟩
end
structure EdgeAt (p:DProgram) (x:DRanking) (a b i0:Nat):Prop where
 hpo:J2e p=true
 ha:a<p.Rules.length
 hb:b<(p.Rules[a]).Calls.length
 hf:(J18 p.Functions (p.Rules[a]).Func).isSome=true
 hg:(J18 p.Functions ((p.Rules[a]).Calls[b]).Func).isSome=true
 he:i0<x.Edges.length
 hn:0≤x.Edges[i0]∧x.Edges[i0]≤x.Levels.length
 hL:x.Levels.length≤3
 lv:∀ l∈x.Levels,l.length=p.Functions.length
theorem Jsl {fs:List DFunction}{l:List DLin}(h:J80 fs l=true):l.length=fs.length:=by
 unfold J80 at h
 simp only [Bool.and_eq_true,decide_eq_true_eq] at h
 exact h.1
theorem Jj8 {p:DProgram}{x:DRanking}{i0:Nat}(h:Jcb p x=true) (hi:i0<(J0f p).length):∃ a b:Nat,(J0f p)[i0]=⟨(a:Int),(b:Int)⟩∧EdgeAt p x a b i0:=by
 obtain ⟨h1,h2,h3,h4,h5⟩:=Jhi h
 obtain ⟨_,a,b,ha,hb,he⟩:=Jha (List.getElem_mem hi)
 obtain ⟨f,hff,RI⟩:=Jcf h1 (List.getElem_mem ha)
 have hfc:=Jml RI.calls
 have hie:i0<x.Edges.length:=by omega
 have hz:((J0f p)[i0],x.Edges[i0])∈(J0f p).zip x.Edges:=by
  rw [List.mem_iff_getElem]
  exact ⟨i0,by simp;omega,by simp⟩
 exact ⟨a,b,he,h1,ha,hb,by rw [hff];rfl,hfc _ (List.getElem_mem hb),hie,Jty (h5 _ hz),h2,fun l hl=>Jsl (h4 l hl)⟩
section
variable {ks:List Kt}{s:Env}{h h':Heap}{n:Nat}{Q:Fin}
theorem Jxk {p:DProgram}{x:DRanking}{md:DModel}{a b i0 k8 k9:Nat}{lv:List DLin}{K:Int}(E:EdgeAt p x a b i0) (hl:lv.length=p.Functions.length) (s2:s 2 = .ptr 0 0 0) (s8:s 8 = .ptr k8 0 0) (s9:s 9 = .ptr k9 0 0) (s12:s 12 = .sl 2 (lv.map J05)) (s13:s 13 = .int .i64 K) (e0:h 0=some ⟨true,2,[J00 p]⟩) (e8:h k8=some ⟨true,2,[J0o ⟨a,b⟩]⟩) (e9:h k9=some ⟨true,6,[J0m md]⟩)
 (hK:∀ s' h' n' k,(∀ j∈[2,3,6,7,8,9,11,12,13,23,24,25],s' j=s j)→n≤n'→(∀ id,id<n→h' id=h id)→s' 15 = .bool (J97 md (J4g p (lvB lv) (p.Rules[a]'E.ha).Func) b (J4g p (lvB lv) ((p.Rules[a]'E.ha).Calls[b]'E.hb).Func) K).isSome→s' 14 = .ptr k 0 0→J49 ((J97 md (J4g p (lvB lv) (p.Rules[a]'E.ha).Func) b (J4g p (lvB lv) ((p.Rules[a]'E.ha).Calls[b]'E.hb).Func) K).getD J0y) k h' n'→J2f Tryz.prog ks .normal s' h' n' Q):rC Tryz.prog xy4 ks s h n Q:=by
 have fr:∀ id,id<n→¬id=n∧¬id=n+1:=by intro id _;omega
 simp [xy4,s2,s8,s9,s12,s13,e0,e8,e9]
 refine J02 (Jdc p md E.ha E.hb lv hl E.hf E.hg K) (by simp) ?_
 rintro r rfl
 rw [J0r]
 generalize J97 md (J4g p (lvB lv) (p.Rules[a]'E.ha).Func) b (J4g p (lvB lv) ((p.Rules[a]'E.ha).Calls[b]'E.hb).Func) K=T at *
 simp [J07]
 exact hK _ _ _ (n+1) (by simp) (by omega) (fun id hid=>by simp [fr id hid]) (by simp) (by simp) ⟨n,by omega,by omega,by simp,by simp⟩
theorem Jvi {p:DProgram}{x:DRanking}{md:DModel}{a b i0 k8 k9:Nat}{lv:List DLin}(E:EdgeAt p x a b i0) (hl:lv.length=p.Functions.length) (s2:s 2 = .ptr 0 0 0) (s8:s 8 = .ptr k8 0 0) (s9:s 9 = .ptr k9 0 0) (s12:s 12 = .sl 2 (lv.map J05)) (e0:h 0=some ⟨true,2,[J00 p]⟩) (e8:h k8=some ⟨true,2,[J0o ⟨a,b⟩]⟩) (e9:h k9=some ⟨true,6,[J0m md]⟩)
 (hK:∀ s' h' n' k,(∀ j∈[2,3,6,7,8,9,11,23,24,25],s' j=s j)→n≤n'→(∀ id,id<n→h' id=h id)→s' 17 = .bool (J0w (J4g p (lvB lv) (p.Rules[a]'E.ha).Func) md.Params md.System.N).isSome→s' 16 = .ptr k 0 0→J49 ((J0w (J4g p (lvB lv) (p.Rules[a]'E.ha).Func) md.Params md.System.N).getD J0y) k h' n'→J2f Tryz.prog ks .normal s' h' n' Q):rC Tryz.prog xy8 ks s h n Q:=by
 have fr:∀ id,id<n→¬id=n∧¬id=n+1:=by intro id _;omega
 simp [xy8,s2,s8,s9,s12,e0,e8,e9]
 refine J02 (Jpv p md E.ha E.hb lv hl E.hf) (by simp) ?_
 rintro r rfl
 rw [J0r]
 generalize J0w (J4g p (lvB lv) (p.Rules[a]'E.ha).Func) md.Params md.System.N=T at *
 simp [J07]
 exact hK _ _ _ (n+1) (by simp) (by omega) (fun id hid=>by simp [fr id hid]) (by simp) (by simp) ⟨n,by omega,by omega,by simp,by simp⟩
theorem Jut {p:DProgram}{md:DModel}{a b:Nat}(ha:a<p.Rules.length) (hb:b<(p.Rules[a]).Calls.length) (l:List DLin) (K:Int):obD p md ⟨a,b⟩ l K=(J97 md (J4g p (lvB l) (p.Rules[a]).Func) b (J4g p (lvB l) ((p.Rules[a]).Calls[b]).Func) K).map fun t=>⟨md.System,t⟩:=by
 unfold obD;rw [J9q ha,Jj5 ha hb]
theorem Ju8 {p:DProgram}{md:DModel}{a b:Nat}(ha:a<p.Rules.length) (l:List DLin):obC p md ⟨a,(b:Int)⟩ l=(J0w (J4g p (lvB l) (p.Rules[a]).Func) md.Params md.System.N).map fun t=>⟨md.System,t⟩:=by
 unfold obC;rw [J9q ha]
theorem Jya {p:DProgram}{x:DRanking}{a b i0 k8 k9:Nat}{acc0:List DObligation}{l2:List (Option DObligation)}{F:Option (List DObligation)}(E:EdgeAt p x a b i0) (s2:s 2 = .ptr 0 0 0) (s3:s 3 = .ptr 1 0 0) (s7:s 7 = .int .i64 i0) (s8:s 8 = .ptr k8 0 0) (s9:s 9 = .ptr k9 0 0) (s11:s 11 = .int .i64 1) (hk8:1<k8∧k8<n) (hk9:1<k9∧k9<n)
 (e0:h 0=some ⟨true,2,[J00 p]⟩) (e1:h 1=some ⟨true,2,[J0d x]⟩) (e8:h k8=some ⟨true,2,[J0o ⟨a,b⟩]⟩) (e9:h k9=some ⟨true,6,[J0m (Jc9 p ⟨a,b⟩)]⟩) (B0:J31 1 4 (acc0.map J08) (s 6) h n) (hal0:acc0.length≤1000) (hF:goO acc0 (rkE p x.Levels ⟨a,b⟩ (x.Edges[i0]'E.he)++l2)=F)
 (hret:F=Option.none→∀ s' h' n',s' 4 = .nil 4→s' 5 = .bool false→J2f Tryz.prog ks .ret s' h' n' Q)
 (hK:∀ s' h' n' acc,(∀ j∈[2,3,23,24,25],s' j=s j)→n≤n'→h' 0=some ⟨true,2,[J00 p]⟩→h' 1=some ⟨true,2,[J0d x]⟩→acc.length≤acc0.length+6→J31 1 4 (acc.map J08) (s' 6) h' n'→goO acc l2=F→J2f Tryz.prog ks .normal s' h' n' Q):rC Tryz.prog xin ks s h n Q:=by
 have hE:=E
 obtain ⟨hpo,ha,hb,hf,hg,he,hnn,hL,hlv⟩:=E
 have hsz:=Ji1 hpo (k:=b) ha
 generalize hmd:Jc9 p ⟨a,b⟩=md at *
 unfold rkE at hF
 rw [hmd] at hF
 refine J17 ?_
 rw [Jvp]
 refine Jqr [2,3,7,8,9,23,24,25] 11 (x.Edges[i0]).toNat 1 (fun i s h m=>n≤m∧h 0=some ⟨true,2,[J00 p]⟩∧h 1=some ⟨true,2,[J0d x]⟩∧h k8=some ⟨true,2,[J0o ⟨a,b⟩]⟩∧h k9=some ⟨true,6,[J0m md]⟩∧∃ acc,acc.length≤acc0.length+2*i∧J31 1 4 (acc.map J08) (s 6) h m∧goO acc (((List.range (x.Edges[i0]).toNat).drop i).flatMap (rk1 p md ⟨a,b⟩ x.Levels x.Edges[i0])++l2)=F) (by unfold LIM;omega) (by simp [s11]) ⟨Nat.le_refl _,e0,e1,e8,e9,acc0,by omega,B0,by simpa using hF⟩ ?_ ?_
 ·rintro i st h1 m1 R hi hk s11 hw ⟨hm1,e0,e1,e8,e9,acc,hal,B,hJ⟩ hR hrt _
  simp at hk
  have hir:i<(List.range (x.Edges[i0]).toNat).length:=by simpa using hi
  rw [List.drop_eq_getElem_cons hir,List.flatMap_cons,List.append_assoc] at hJ
  simp only [List.getElem_range] at hJ
  have hil:i<x.Levels.length:=by omega
  have hlvi:=hlv _ (List.getElem_mem hil)
  have hgd:x.Levels.getD i []=x.Levels[i]:=by simp [hil]
  have hle:(i:Int)+1≤x.Edges[i0]:=by omega
  refine J0c (J0i [2,3,6,7,8,9,11,23,24,25] (fun s=>s 43 = .bool true) (by simp [hk,s11,s3,s7,e1,J0d,he,hle]) ?_)
  intro st1 hk1 s43
  simp at hk1
  refine J1y s43 (J0c (J17 ?_))
  have hwi:IntKind.i64.wrap (i:Int)=(i:Int):=J1h (by omega)
  refine J0i [2,3,6,7,8,9,11,23,24,25] (fun s=>s 12 = .sl 2 (x.Levels[i].map J05)) ?_ ?_
  ·simp [xy1,hk1,hk,s11,s3,e1,J0d,hwi,hil,J2r]
  intro st2 hk2 s12
  simp at hk2
  refine J0i [2,3,6,7,8,9,11,12,23,24,25] (fun s=>s 13 = .int .i64 0) (by simp) ?_
  intro st3 hk3 s13
  simp at hk3
  refine J0i [2,3,6,7,8,9,11,12,23,24,25] (fun s=>s 13 = .int .i64 (if (i:Int)+1=x.Edges[i0] then 1 else 0)) ?_ ?_
  ·by_cases hq:(i:Int)+1=x.Edges[i0]
   ·simp [hk3,hk2,hk1,hk,s11,s3,s7,e1,J0d,he,hq]
   ·simp [hk3,hk2,hk1,hk,s11,s3,s7,e1,J0d,he,hq,s13]
  intro st4 hk4 s13'
  simp at hk4
  obtain ⟨K,hKd⟩:∃ K:Int,(if (i:Int)+1=x.Edges[i0] then (1:Int) else 0)=K:=⟨_,rfl⟩
  rw [hKd] at s13'
  refine J0c (Jxk (md:=md) (k8:=k8) (k9:=k9) (lv:=x.Levels[i]) (K:=K) hE hlvi (by simp [hk4,hk3,hk2,hk1,hk,s2]) (by simp [hk4,hk3,hk2,hk1,hk,s8]) (by simp [hk4,hk3,hk2,hk1,hk,s9]) (by simp [hk4,hk3,s12]) s13' e0 e8 e9 ?_)
  intro st5 h5 m5 k14 hk5 hm5 hf5 s15 s14 L14
  simp at hk5
  rw [J5g]
  generalize hT:J97 md (J4g p (lvB x.Levels[i]) (p.Rules[a]'ha).Func) b (J4g p (lvB x.Levels[i]) ((p.Rules[a]'ha).Calls[b]'hb).Func) K=T at *
  have hobd:obD p md ⟨a,b⟩ (x.Levels.getD i []) K=T.map fun t=>⟨md.System,t⟩:=by rw [hgd,Jut ha hb,hT]
  have z0:h5 0=some ⟨true,2,[J00 p]⟩:=by rw [hf5 0 (by omega),e0]
  have z1:h5 1=some ⟨true,2,[J0d x]⟩:=by rw [hf5 1 (by omega),e1]
  have z8:h5 k8=some ⟨true,2,[J0o ⟨a,b⟩]⟩:=by rw [hf5 k8 (by omega),e8]
  have z9:h5 k9=some ⟨true,6,[J0m md]⟩:=by rw [hf5 k9 (by omega),e9]
  have B5:J31 1 4 (acc.map J08) (st 6) h5 m5:=B.keep hm5 fun id _ hid _=>hf5 id hid
  cases T with
  | none=>
   simp only [Option.map_none] at hobd
   have hnone:F=Option.none:=by
    rw [←hJ]
    unfold rk1
    by_cases hq:(i:Int)+1=x.Edges[i0]
    ·rw [if_pos hq] at hKd
     rw [←hKd] at hobd
     rw [if_pos hq,hobd];rfl
    ·rw [if_neg hq] at hKd
     rw [←hKd] at hobd
     rw [if_neg hq,hobd];rfl
   simp [s15]
   exact hrt _ _ _ (hret hnone _ _ _ (by simp) (by simp))
  | some t=>
   simp only [Option.map_some] at hobd
   simp only [Option.getD_some] at L14
   simp [s15]
   refine Kai (md:=md) (t:=t) (acc:=acc) (v:=st 6) (k9:=k9) (k:=k14) (.inl ⟨rfl,rfl⟩) (by simp [hk5,hk4,hk3,hk2,hk1]) (by simp [hk5,hk4,hk3,hk2,hk1,hk,s9]) (by simp [s14]) z9 L14 B5 (by omega) (by omega) ?_
   intro st6 h6 m6 hk6 hm6 bx6 B6
   simp at hk6
   have y0:=bx6 0 _ _ (by omega) z0
   have y1:=bx6 1 _ _ (by omega) z1
   have y8:=bx6 k8 _ _ (by omega) z8
   have y9:=bx6 k9 _ _ (by omega) z9
   rw [z0] at y0
   rw [z1] at y1
   rw [z8] at y8
   rw [z9] at y9
   rw [J5g]
   by_cases hq:(i:Int)+1=x.Edges[i0]
   ·rw [if_pos hq] at hKd
    subst hKd
    have hrk:rk1 p md ⟨a,b⟩ x.Levels x.Edges[i0] i=[some ⟨md.System,t⟩,obC p md ⟨a,b⟩ (x.Levels.getD i [])]:=by unfold rk1;rw [if_pos hq,hobd]
    rw [hrk] at hJ
    simp only [List.cons_append,List.nil_append,goO] at hJ
    refine J0c ?_
    simp [hk6,hk5,s13']
    refine Jvi (md:=md) (k8:=k8) (k9:=k9) (lv:=x.Levels[i]) hE hlvi (by simp [hk6,hk5,hk4,hk3,hk2,hk1,hk,s2]) (by simp [hk6,hk5,hk4,hk3,hk2,hk1,hk,s8]) (by simp [hk6,hk5,hk4,hk3,hk2,hk1,hk,s9]) (by simp [hk6,hk5,hk4,hk3,s12]) y0 y8 y9 ?_
    intro st7 h7 m7 k16 hk7 hm7 hf7 s17 s16 L16
    simp at hk7
    rw [J5g]
    rw [hgd,Ju8 ha] at hJ
    generalize J0w (J4g p (lvB x.Levels[i]) (p.Rules[a]'ha).Func) md.Params md.System.N=U at *
    have B7:J31 1 4 ((acc++[(⟨md.System,t⟩:DObligation)]).map J08) (st6 6) h7 m7:=B6.keep hm7 fun id _ hid _=>hf7 id hid
    have w0:h7 0=some ⟨true,2,[J00 p]⟩:=by rw [hf7 0 (by omega),y0]
    have w1:h7 1=some ⟨true,2,[J0d x]⟩:=by rw [hf7 1 (by omega),y1]
    have w8:h7 k8=some ⟨true,2,[J0o ⟨a,b⟩]⟩:=by rw [hf7 k8 (by omega),y8]
    have w9:h7 k9=some ⟨true,6,[J0m md]⟩:=by rw [hf7 k9 (by omega),y9]
    cases U with
    | none=>
     simp [goO] at hJ
     simp [s17]
     exact hrt _ _ _ (hret hJ.symm _ _ _ (by simp) (by simp))
    | some u=>
     simp only [Option.map_some,goO] at hJ
     simp only [Option.getD_some] at L16
     simp [s17]
     refine Kai (md:=md) (t:=u) (acc:=acc++[⟨md.System,t⟩]) (v:=st6 6) (k9:=k9) (k:=k16) (.inr ⟨rfl,rfl⟩) (by simp [hk7]) (by simp [hk7,hk6,hk5,hk4,hk3,hk2,hk1,hk,s9]) (by simp [s16]) w9 L16 B7 (by omega) (by simp;omega) ?_
     intro st8 h8 m8 hk8' hm8 bx8 B8
     simp at hk8'
     have v0:=bx8 0 _ _ (by omega) w0
     have v1:=bx8 1 _ _ (by omega) w1
     have v8:=bx8 k8 _ _ (by omega) w8
     have v9:=bx8 k9 _ _ (by omega) w9
     rw [w0] at v0
     rw [w1] at v1
     rw [w8] at v8
     rw [w9] at v9
     have hw':IntKind.i64.wrap ((i:Int)+1+1)=(i:Int)+1+1:=by simpa using hw
     simp [hk8',hk7,hk6,hk5,hk4,hk3,hk2,hk1,s11,hw']
     exact hR _ _ _ (by simp [hk8',hk7,hk6,hk5,hk4,hk3,hk2,hk1,hk]) (by simp) ⟨by omega,v0,v1,v8,v9,_,by simp;omega,by simpa using B8,hJ⟩
   ·rw [if_neg hq] at hKd
    subst hKd
    have hrk:rk1 p md ⟨a,b⟩ x.Levels x.Edges[i0] i=[some ⟨md.System,t⟩]:=by unfold rk1;rw [if_neg hq,hobd]
    rw [hrk] at hJ
    simp only [List.cons_append,List.nil_append,goO] at hJ
    have hw':IntKind.i64.wrap ((i:Int)+1+1)=(i:Int)+1+1:=by simpa using hw
    simp [hk6,hk5,s13',hk4,hk3,hk2,hk1,s11,hw']
    exact hR _ _ _ (by simp [hk6,hk5,hk4,hk3,hk2,hk1,hk]) (by simp) ⟨by omega,y0,y1,y8,y9,_,by simp;omega,by simpa using B6,hJ⟩
 ·rintro st h1 m1 R hk s11 ⟨hm1,e0,e1,e8,e9,acc,hal,B,hJ⟩ hrt hX
  simp at hk
  rw [List.drop_eq_nil_of_le (by simp)] at hJ
  simp only [List.flatMap_nil,List.nil_append] at hJ
  have hle:¬((x.Edges[i0]).toNat:Int)+1≤x.Edges[i0]:=by omega
  refine J0c (J0i [2,3,6,23,24,25] (fun s=>s 43 = .bool false) (by simp [hk,s11,s3,s7,e1,J0d,he];omega) ?_)
  intro st1 hk1 s43
  simp at hk1
  refine J22 s43 ?_
  refine hX _ _ _ _ ?_
  simp
  exact hK _ _ _ acc (by simp [hk1,hk]) hm1 e0 e1 (by omega) (by simpa [hk1] using B) hJ
end
theorem Jg7 {p:DProgram}{x:DRanking}{i:Nat}(hi:i<(J0f p).length) (he:x.Edges.length=(J0f p).length):(((J0f p).zip x.Edges).drop i).flatMap (fun y=>rkE p x.Levels y.1 y.2)=rkE p x.Levels (J0f p)[i] (x.Edges[i]'(by omega))++(((J0f p).zip x.Edges).drop (i+1)).flatMap (fun y=>rkE p x.Levels y.1 y.2):=by
 have hz:i<((J0f p).zip x.Edges).length:=by simp;omega
 rw [List.drop_eq_getElem_cons hz,List.flatMap_cons]
 simp
def Jip (p:DProgram) (x:DRanking) (i:Nat):List (Option DObligation):=(((J0f p).zip x.Edges).drop i).flatMap fun y=>rkE p x.Levels y.1 y.2
section
variable {ks:List Kt}{s:Env}{h h':Heap}{n:Nat}{Q:Fin}
theorem Jwz {p:DProgram}(hp:J0j p≤1048576) {x:DRanking}(hR:Jcb p x=true) {F:Option (List DObligation)}(hn:1<n) (s2:s 2 = .ptr 0 0 0) (s3:s 3 = .ptr 1 0 0) (s6:s 6 = .nil 4) (e0:h 0=some ⟨true,2,[J00 p]⟩) (e1:h 1=some ⟨true,2,[J0d x]⟩) (hF:goO [] (Jat p x)=F)
 (hret:F=Option.none→∀ s' h' n',s' 4 = .nil 4→s' 5 = .bool false→J2f Tryz.prog ks .ret s' h' n' Q)
 (hK:∀ s' h' n' acc,J31 1 4 (acc.map J08) (s' 6) h' n'→some acc=F→J2f Tryz.prog ks .normal s' h' n' Q):rC Tryz.prog xa3 ks s h n Q:=by
 have h16:=Jaz (p:=p)
 obtain ⟨hpo,hL,hE,_,_⟩:=Jhi hR
 simp [xa3,s2,e0]
 refine J5l (J7n p hp) (by simp) ?_
 rintro _ rfl
 simp
 intro _
 refine J0n [2,3,23,24] 25 (J0f p).length (fun i s h m=>1<m∧h 0=some ⟨true,2,[J00 p]⟩∧h 1=some ⟨true,2,[J0d x]⟩∧∃ acc,acc.length≤6*i∧J31 1 4 (acc.map J08) (s 6) h m∧goO acc (Jip p x i)=F) (by unfold LIM;omega) (by simp) ⟨hn,e0,e1,[],by simp,.inl ⟨rfl,by simp [s6]⟩,by simpa [Jip,Jat] using hF⟩ ?_ ?_
 ·rintro i st h m R hi hg hk s25 hw' ⟨m1,e0,e1,acc,hal,B,hJ⟩ hRr hrt _
  simp at hk
  unfold Jip at hJ
  rw [Jg7 hi hE] at hJ
  obtain ⟨a,b,hab,E⟩:=Jj8 hR hi
  rw [hab] at hJ
  refine J0i [2,3,6,23,24,25] (fun s=>s 26 = .bool true) (by simp [hk,s25,hi]) ?_
  intro st1 hk1 s26
  simp at hk1
  refine J3e s26 (J0c (J17 ?_))
  have fr:∀ id,id<m→¬id=m:=by intro id _;omega
  refine J1e [2,3,6,23,24,25] (fun s h2 n2=>n2=m+1∧s 8 = .ptr m 0 0∧s 7 = .int .i64 i∧h2 m=some ⟨true,2,[J0o ⟨a,b⟩]⟩∧∀ id,id<m→h2 id=h id) ?_ ?_
  ·simp [xb1,hk1,hk,s25,hi,hab]
   exact fun id hid=>by simp [fr id hid]
  rintro st2 h2 n2 hk2 ⟨rfl,s8,s7,em,hfr2⟩
  simp at hk2
  have c0:h2 0=some ⟨true,2,[J00 p]⟩:=by rw [hfr2 0 (by omega),e0]
  have c1:h2 1=some ⟨true,2,[J0d x]⟩:=by rw [hfr2 1 (by omega),e1]
  refine J1e [2,3,6,7,8,23,24,25] (fun s h3 n3=>n3=m+2∧s 9 = .ptr (m+1) 0 0∧h3 (m+1)=some ⟨true,6,[J0m (Jc9 p ⟨a,b⟩)]⟩∧∀ id,id<m+1→h3 id=h2 id) ?_ ?_
  ·simp [xb2,hk2,hk1,hk,s2,s8,em,c0,J0o]
   refine J5l (Jj6 p hp a) (by simp [J00]) ?_
   rintro _ rfl
   have hmd:(J92 p a).getD Jak=Jc9 p ⟨a,b⟩:=rfl
   unfold J55
   rw [hmd]
   generalize Jc9 p ⟨a,b⟩=md
   simp
   intro id hid
   have:¬id=m+1:=by omega
   simp [this]
  rintro st3 h3 n3 hk3 ⟨rfl,s9,e9,hfr3⟩
  simp at hk3
  have d0:h3 0=some ⟨true,2,[J00 p]⟩:=by rw [hfr3 0 (by omega),c0]
  have d1:h3 1=some ⟨true,2,[J0d x]⟩:=by rw [hfr3 1 (by omega),c1]
  have d8:h3 m=some ⟨true,2,[J0o ⟨a,b⟩]⟩:=by rw [hfr3 m (by omega),em]
  have B3:J31 1 4 (acc.map J08) (st 6) h3 (m+2):=B.keep (by omega) fun id _ hid _=>by rw [hfr3 id (by omega),hfr2 id hid]
  simp
  refine Jya (acc0:=acc) (k8:=m) (k9:=m+1) E (by simp [hk3,hk2,hk1,hk,s2]) (by simp [hk3,hk2,hk1,hk,s3]) (by simp [hk3,s7]) (by simp [hk3,s8]) (by simp [s9]) (by simp) (by omega) (by omega) d0 d1 d8 e9 (by simpa [hk3,hk2,hk1] using B3) (by omega) hJ ?_ ?_
  ·intro hno s' h' n' x4 x5
   simp
   exact hrt _ _ _ (hret hno _ _ _ x4 x5)
  ·intro st4 h4 m4 acc4 hk4 hm4 y0 y1 hal4 B4 hJ4
   simp at hk4
   simp [hk4,hk3,hk2,hk1,s25,hw']
   exact hRr _ _ _ (by simp [hk4,hk3,hk2,hk1,hk]) (by simp) ⟨by omega,y0,y1,acc4,by omega,by simpa using B4,hJ4⟩
 ·rintro st h m R hk s25 ⟨m1,e0,e1,acc,hal,B,hJ⟩ hrt hX
  simp at hk
  unfold Jip at hJ
  rw [List.drop_eq_nil_of_le (by simp;omega)] at hJ
  simp only [List.flatMap_nil,goO] at hJ
  refine J0i [6] (fun s=>s 26 = .bool false) (by simp [hk,s25]) ?_
  intro st1 hk1 s26
  simp at hk1
  refine J32 s26 ?_
  refine hX _ _ _ _ ?_
  simp
  exact hK _ _ _ acc (by rw [hk1];exact B) hJ
end
theorem J7z (p:DProgram) (hp:J0j p≤1048576) (x:DRanking):Holds Tryz.prog 50 [.agg (J00 p),.agg (J0d x)] (fun r=>r = .tup [.us 4 (((J4x p x).getD []).map J08),.bool (J4x p x).isSome]):=by
 refine J03 Tryz.func50 a50_ok rfl (by simp [a50]) ?_
 simp [a50,xa0,xa1]
 first|refine J01 (Jfa p hp x) (by first|simp;done|rfl) ?_|refine J02 (Jfa p hp x) (by first|simp;done|rfl) ?_
 rintro r rfl
 generalize hO:J4x p x=O
 unfold J4x at hO
 cases hB:Jcb p x
 ·rw [hB] at hO
  simp at hO
  subst hO
  simp
 rw [hB,if_pos rfl] at hO
 simp [xa2]
 refine Jwz hp hB (by omega) (by simp) (by simp) (by simp) (by simp) (by simp) hO ?_ ?_
 ·intro hno s' h' n' x4 x5
  subst hno
  simp [x4,x5]
 ·intro s' h' n' acc B hs
  obtain ⟨h2,hd,_⟩:=B.dt
  rw [←hs]
  simp [xa4,hd]
def le0:AC:=(.reg [Zo 4 (.boxv (.t 0)),Zo 6 (.boxv (.t 2)),Zo 8 (.mv (.k (.nil 4))),Zo 9 (.mv (.k (.bool false)))])
def le1:AC:=(.reg [Zl 20 true 2 4,Zf 21 0 6,Zl 22 false 1 21,Zc 23 184 [.t 20,.t 22],Zo 10 (.box [(.int .i64 0),(.nil 2),(.nil 2),(.nil 1),(.int .i64 0),(.nil 1)]),⟨no,.st 6 (.t 10) (.t 23),no⟩])
def le2:AC:=(.reg [Zo 24 (.bsl 4 []),Zv 11 24])
def lea:AC:=(.draw (.op (Zl 30 true 2 4) (.op (Zv 31 1) (.op (Zv 32 12) (.op (Zo 33 (.bin .sub (.t 32) (.k (.int .i64 1)))) (.op (Zo 34 (.ixa 1 (.t 31) (.t 33))) (.op (Zl 35 false 1 34) (.op (Zl 36 true 2 4) (.op (Zl 37 true 2 6) (.both (.op (Zc 38 199 [.t 36,.t 37]) (.both (.op (Zc 39 186 [.t 30,.t 35,.t 38]) (.op (Zo 13 (.box [(.int .i64 0),(.nil 1)])) (.hop ⟨no,.st 2 (.t 13) (.t 39),no⟩ [] .fin))) (.op (Zo 13 (.box [(.int .i64 0),(.nil 1)])) (.op (Zc 39 186 [.t 30,.t 35,.t 38]) (.hop ⟨no,.st 2 (.t 13) (.t 39),no⟩ [] .fin))))) (.op (Zo 13 (.box [(.int .i64 0),(.nil 1)])) (.op (Zc 38 199 [.t 36,.t 37]) (.op (Zc 39 186 [.t 30,.t 35,.t 38]) (.hop ⟨no,.st 2 (.t 13) (.t 39),no⟩ [] .fin))))))))))))))
def leb:AC:=(.draw (.op (Zl 40 true 2 4) (.op (Zv 41 1) (.op (Zv 42 12) (.op (Zo 43 (.bin .sub (.t 42) (.k (.int .i64 1)))) (.op (Zo 44 (.ixa 1 (.t 41) (.t 43))) (.op (Zl 45 false 1 44) (.op (Zl 46 true 2 4) (.op (Zl 47 true 2 6) (.both (.op (Zc 48 173 [.t 46,.t 47]) (.both (.op (Zc 49 186 [.t 40,.t 45,.t 48]) (.op (Zo 14 (.box [(.int .i64 0),(.nil 1)])) (.hop ⟨no,.st 2 (.t 14) (.t 49),no⟩ [] .fin))) (.op (Zo 14 (.box [(.int .i64 0),(.nil 1)])) (.op (Zc 49 186 [.t 40,.t 45,.t 48]) (.hop ⟨no,.st 2 (.t 14) (.t 49),no⟩ [] .fin))))) (.op (Zo 14 (.box [(.int .i64 0),(.nil 1)])) (.op (Zc 48 173 [.t 46,.t 47]) (.op (Zc 49 186 [.t 40,.t 45,.t 48]) (.hop ⟨no,.st 2 (.t 14) (.t 49),no⟩ [] .fin))))))))))))))
def led:AC:=(.reg [Zl 54 true 6 10,Zl 55 true 2 13,Zf 56 1 6,Zl 57 false 1 56,Zl 58 true 2 14,Zv 59 15,Zc 60 200 [.t 54,.t 55,.t 57,.t 58,.t 59],Zv 53 60,Zo 61 (.ext (.t 53) 0),Zo 62 (.ext (.t 53) 1),Zo 16 (.box [(.int .i64 0),(.nil 1)]),⟨no,.st 2 (.t 16) (.t 61),no⟩,Zv 17 62])
def leo:AC:=(.draw (.op (Zv 66 11) (.op (Zf 67 0 10) (.op (Zl 68 true 2 67) (.op (Zl 70 true 2 16) (.op (Zc 69 175 [.t 68]) (.op (Zo 71 (.build [(.int .i64 0),(.nil 2),(.int .i64 0),(.nil 1)] [(0,(2,(.t 69))),(2,(2,(.t 70)))])) (.hop (Zo 72 (.bsl 4 [.t 71])) [] (.hop (Zo 73 (.app 64 4 (.t 66) (.t 72))) [] (.hop (Zv 11 73) [] .fin))))))))))
def lep:AC:=(.reg [Zl 78 true 6 10,Zl 79 true 2 13,Zf 80 2 10,Zl 81 false 1 80,Zc 82 185 [.t 78,.t 79,.t 81],Zv 77 82,Zo 83 (.ext (.t 77) 0),Zo 84 (.ext (.t 77) 1),Zo 18 (.box [(.int .i64 0),(.nil 1)]),⟨no,.st 2 (.t 18) (.t 83),no⟩,Zv 19 84])
def leq:AC:=(.draw (.op (Zv 88 11) (.op (Zf 89 0 10) (.op (Zl 90 true 2 89) (.op (Zl 92 true 2 18) (.op (Zc 91 175 [.t 90]) (.op (Zo 93 (.build [(.int .i64 0),(.nil 2),(.int .i64 0),(.nil 1)] [(0,(2,(.t 91))),(2,(2,(.t 92)))])) (.hop (Zo 94 (.bsl 4 [.t 93])) [] (.hop (Zo 95 (.app 64 4 (.t 88) (.t 94))) [] (.hop (Zv 11 95) [] .fin))))))))))
def le3:AC:=(.seq (.reg [Zo 12 (.mv (.k (.int .i64 1)))]) (.blk 0 (.loop (.seq (.seq (.reg [Zv 25 12,Zv 26 3,Zo 27 (.bin .leq (.t 25) (.t 26))]) (.cond (.t 27) .skip (.exit 0))) (.seq (.blk 1 (.seq lea (.seq leb (.seq (.reg [Zo 15 (.mv (.k (.int .i64 0)))]) (.seq (.seq (.reg [Zv 50 12,Zv 51 3,Zo 52 (.bin .eql (.t 50) (.t 51))]) (.cond (.t 52) (.reg [Zo 15 (.mv (.k (.int .i64 1)))]) .skip)) (.seq  led (.seq (.seq (.reg [Zv 63 17,Zo 64 (.un .not (.t 63))]) (.cond (.t 64) (.seq (.reg [Zv 65 11,Zv 8 65,Zo 9 (.mv (.k (.bool false)))]) .ret) .skip)) (.seq leo (.seq (.reg [Zv 74 12,Zv 75 3,Zo 76 (.bin .eql (.t 74) (.t 75))]) (.cond (.t 76) (.seq  lep (.seq (.seq (.reg [Zv 85 19,Zo 86 (.un .not (.t 85))]) (.cond (.t 86) (.seq (.reg [Zv 87 11,Zv 8 87,Zo 9 (.mv (.k (.bool false)))]) .ret) .skip)) leq)) .skip)))))))))) (.reg [Zv 28 12,Zo 29 (.bin .add (.t 28) (.k (.int .i64 1))),Zv 12 29]))))))
def le4:AC:=(.reg [Zv 96 11,Zv 8 96,Zo 9 (.mv (.k (.bool true)))])
def a123:AFn:=⟨97,[.t 8,.t 9],(.seq le0 (.seq le1 (.seq le2 (.seq le3 (.seq le4 .ret)))))⟩
theorem a123_ok:J09 Tryz.prog Tryz.f123=some a123:=by kernel_rfl
structure EdgeS (p:DProgram) (Ls:List (List DLin)) (a b:Nat) (nE:Int):Prop where
 hp:J0j p≤1048576
 hpo:J2e p=true
 ha:a<p.Rules.length
 hb:b<(p.Rules[a]).Calls.length
 hf:(J18 p.Functions (p.Rules[a]).Func).isSome=true
 hg:(J18 p.Functions ((p.Rules[a]).Calls[b]).Func).isSome=true
 hn:0≤nE∧nE≤Ls.length
 hL:Ls.length≤3
 lv:∀ l∈Ls,l.length=p.Functions.length
section
variable {ks:List Kt}{s:Env}{h h':Heap}{n:Nat}{Q:Fin}
theorem Jxz {p:DProgram}{Ls:List (List DLin)}{a b i:Nat}{nE:Int}(E:EdgeS p Ls a b nE) (hi:i<Ls.length) (s4:s 4 = .ptr 0 0 0) (s6:s 6 = .ptr 1 0 0) (s1:s 1 = .sl 1 (Ls.map J2r)) (s12:s 12 = .int .i64 ((i:Int)+1)) (e0:h 0=some ⟨true,2,[J00 p]⟩) (e1:h 1=some ⟨true,2,[J0o ⟨a,b⟩]⟩)
 (hK:∀ s' h',(∀ j∈[1,3,4,6,10,11,12],s' j=s j)→(∀ id,id<n→h' id=h id)→s' 13 = .ptr n 0 0→h' n=some ⟨true,2,[J05 (J4g p (lvB Ls[i]) (p.Rules[a]'E.ha).Func)]⟩→J2f Tryz.prog ks .normal s' h' (n+1) Q) (h0:1<n):rC Tryz.prog lea ks s h n Q:=by
 obtain ⟨hp,hpo,ha,hb,hf,hg,hn,hL,hlv⟩:=E
 have hwi:IntKind.i64.wrap (i:Int)=(i:Int):=J1h (by omega)
 have fr:∀ id,id<n→¬id=n:=by intro id _;omega
 have ne:¬0=n∧¬1=n:=by omega
 have hlb:(lvB Ls[i]).Lins.length=p.Functions.length:=hlv _ (List.getElem_mem hi)
 simp [lea,s4,s6,s1,s12,e0,e1,hwi,hi,J2r]
 refine ⟨?_,?_⟩
 ·first|refine J01 (J5a p ha (k:=b)) (by simp) ?_|refine J02 (J5a p ha (k:=b)) (by simp) ?_
  rintro r rfl
  simp
  refine ⟨?_,?_⟩
  ·refine J7w hp hf hlb ?_
   simp [J05]
   exact hK _ _ (by simp [s1,s12]) (fun id hid=>by simp [fr id hid]) (by simp) (by simp [J05])
  ·refine J7w hp hf hlb ?_
   simp [J05]
   exact hK _ _ (by simp [s1,s12]) (fun id hid=>by simp [fr id hid]) (by simp) (by simp [J05])
 ·first|refine J01 (J5a p ha (k:=b)) (by simp) ?_|refine J02 (J5a p ha (k:=b)) (by simp) ?_
  rintro r rfl
  simp
  refine J7w hp hf hlb ?_
  simp [J05]
  exact hK _ _ (by simp [s1,s12]) (fun id hid=>by simp [fr id hid]) (by simp) (by simp [J05])
theorem Jy0 {p:DProgram}{Ls:List (List DLin)}{a b i:Nat}{nE:Int}(E:EdgeS p Ls a b nE) (hi:i<Ls.length) (s4:s 4 = .ptr 0 0 0) (s6:s 6 = .ptr 1 0 0) (s1:s 1 = .sl 1 (Ls.map J2r)) (s12:s 12 = .int .i64 ((i:Int)+1)) (e0:h 0=some ⟨true,2,[J00 p]⟩) (e1:h 1=some ⟨true,2,[J0o ⟨a,b⟩]⟩)
 (hK:∀ s' h',(∀ j∈[1,3,4,6,10,11,12,13],s' j=s j)→(∀ id,id<n→h' id=h id)→s' 14 = .ptr n 0 0→h' n=some ⟨true,2,[J05 (J4g p (lvB Ls[i]) ((p.Rules[a]'E.ha).Calls[b]'E.hb).Func)]⟩→J2f Tryz.prog ks .normal s' h' (n+1) Q) (h0:1<n):rC Tryz.prog leb ks s h n Q:=by
 obtain ⟨hp,hpo,ha,hb,hf,hg,hn,hL,hlv⟩:=E
 have hwi:IntKind.i64.wrap (i:Int)=(i:Int):=J1h (by omega)
 have fr:∀ id,id<n→¬id=n:=by intro id _;omega
 have ne:¬0=n∧¬1=n:=by omega
 have hlb:(lvB Ls[i]).Lins.length=p.Functions.length:=hlv _ (List.getElem_mem hi)
 simp [leb,s4,s6,s1,s12,e0,e1,hwi,hi,J2r]
 refine ⟨?_,?_⟩
 ·first|refine J01 (J4a p ha hb) (by simp) ?_|refine J02 (J4a p ha hb) (by simp) ?_
  rintro r rfl
  simp
  refine ⟨?_,?_⟩
  ·refine J7w hp hg hlb ?_
   simp [J05]
   exact hK _ _ (by simp [s1,s12]) (fun id hid=>by simp [fr id hid]) (by simp) (by simp [J05])
  ·refine J7w hp hg hlb ?_
   simp [J05]
   exact hK _ _ (by simp [s1,s12]) (fun id hid=>by simp [fr id hid]) (by simp) (by simp [J05])
 ·first|refine J01 (J4a p ha hb) (by simp) ?_|refine J02 (J4a p ha hb) (by simp) ?_
  rintro r rfl
  simp
  refine J7w hp hg hlb ?_
  simp [J05]
  exact hK _ _ (by simp [s1,s12]) (fun id hid=>by simp [fr id hid]) (by simp) (by simp [J05])
theorem Kaf {a:AC}{md:DModel}{t:DLin}{acc:List DObligation}{v:AV}{k10 k b:Nat}(ha:a=leo∧b=16∨a=leq∧b=18) (s11:s 11=v) (s10:s 10 = .ptr k10 0 0) (sb:s b = .ptr k 0 0) (e10:h k10=some ⟨true,6,[J0m md]⟩) (L:J49 t k h n) (B:J31 2 4 (acc.map J08) v h n) (hw:J4q md.System.Rows≤1048576) (hl:acc.length≤3000000) (hn2:2<n)
 (hK:∀ s' h' n',(∀ j∈[1,3,4,6,10,12,13,15],s' j=s j)→n≤n'→(∀ id z rows,id<n→h id=some ⟨true,z,rows⟩→h' id=h id)→J31 2 4 ((acc++[(⟨md.System,t⟩:DObligation)]).map J08) (s' 11) h' n'→J2f Tryz.prog ks .normal s' h' n' Q):rC Tryz.prog a ks s h n Q:=by
 obtain ⟨q,hkn,hqn,hkb,hqb⟩:=L
 have ne:¬q=n∧¬n=q∧¬n=n+1∧¬n+1=n∧¬n+1=q∧¬q=n+1:=by omega
 have fr:∀ id,id<n→¬id=n∧¬id=n+1∧¬id=n+1+1:=by intro id _;omega
 have hqv:∀ l,v ≠ .ref q 0 l:=fun l e=>by have:=(B.lt e).2.2.1;rw [hqb] at this;simp at this
 rcases ha with ⟨rfl,rfl⟩|⟨rfl,rfl⟩
 all_goals
  first|simp [leo,s11,s10,sb,e10,hkb] | simp [leq,s11,s10,sb,e10,hkb]
  refine J01 (Jfj md.System hw) (by simp) ?_
  rintro r rfl
  simp [J3h,hqb,ne]
  refine J35 (rows:=acc.map J08) (rows2:=[[.int .i64 md.System.N,.us 2 (md.System.Rows.map J07),.int .i64 t.Const,.us 1 (J0l t.Coeffs)]]) (B.keep (n':=n+1+1) (by omega) fun id _ hid e => ?_) (by simp) (fun l e=>by have:=(B.lt e).2.1;omega) (by omega) (by simp;unfold LIM;omega) ?_
  ·have:¬id=q:=fun e'=>hqv _ (by rw [←e'];exact e)
   simp [fr id hid,this]
  intro h1 f1 f2
  simp
  refine hK _ _ _ (by simp) (by omega) ?_ ?_
  ·intro id z rows h1' h3'
   have:¬id=q:=by rintro rfl;rw [hqb] at h3';simp at h3'
   rw [f2 id (by omega) (by omega) fun l e=>B.not_box h3' e];simp [fr id h1',this]
  ·simp
   exact .inr ⟨n+2,by omega,by omega,by simp,by simp [f1,J08]⟩
end
section
variable {ks:List Kt}{s:Env}{h h':Heap}{n:Nat}{Q:Fin}
theorem Jx3 {md:DModel}{la lb:DLin}{a b k10 k13 k14:Nat}{K:Int}(s6:s 6 = .ptr 1 0 0) (s10:s 10 = .ptr k10 0 0) (s13:s 13 = .ptr k13 0 0) (s14:s 14 = .ptr k14 0 0) (s15:s 15 = .int .i64 K) (e1:h 1=some ⟨true,2,[J0o ⟨a,b⟩]⟩) (e10:h k10=some ⟨true,6,[J0m md]⟩) (e13:h k13=some ⟨true,2,[J05 la]⟩) (e14:h k14=some ⟨true,2,[J05 lb]⟩)
 (hK:∀ s' h' n' k,(∀ j∈[1,3,4,6,10,11,12,13,15],s' j=s j)→n≤n'→(∀ id,id<n→h' id=h id)→s' 17 = .bool (J97 md la b lb K).isSome→s' 16 = .ptr k 0 0→J49 ((J97 md la b lb K).getD J0y) k h' n'→J2f Tryz.prog ks .normal s' h' n' Q):rC Tryz.prog led ks s h n Q:=by
 have fr:∀ id,id<n→¬id=n∧¬id=n+1:=by intro id _;omega
 simp [led,s6,s10,s13,s14,s15,e1,e10,e13,e14,J0o]
 refine J02 (Jhe md la b lb K) (by simp) ?_
 rintro r rfl
 rw [J0r]
 generalize J97 md la b lb K=T at *
 simp [J07]
 exact hK _ _ _ (n+1) (by simp) (by omega) (fun id hid=>by simp [fr id hid]) (by simp) (by simp) ⟨n,by omega,by omega,by simp,by simp⟩
theorem Jxm {md:DModel}{la:DLin}{k10 k13:Nat}(s10:s 10 = .ptr k10 0 0) (s13:s 13 = .ptr k13 0 0) (e10:h k10=some ⟨true,6,[J0m md]⟩) (e13:h k13=some ⟨true,2,[J05 la]⟩)
 (hK:∀ s' h' n' k,(∀ j∈[1,3,4,6,10,11,12],s' j=s j)→n≤n'→(∀ id,id<n→h' id=h id)→s' 19 = .bool (J0w la md.Params md.System.N).isSome→s' 18 = .ptr k 0 0→J49 ((J0w la md.Params md.System.N).getD J0y) k h' n'→J2f Tryz.prog ks .normal s' h' n' Q):rC Tryz.prog lep ks s h n Q:=by
 have fr:∀ id,id<n→¬id=n∧¬id=n+1:=by intro id _;omega
 simp [lep,s10,s13,e10,e13,J0m]
 refine J02 (J73 md la md.Params) (by simp [J0m]) ?_
 rintro r rfl
 rw [J0r]
 generalize J0w la md.Params md.System.N=T at *
 simp [J07]
 exact hK _ _ _ (n+1) (by simp) (by omega) (fun id hid=>by simp [fr id hid]) (by simp) (by simp) ⟨n,by omega,by omega,by simp,by simp⟩
theorem Jy6 {p:DProgram}{Ls:List (List DLin)}{a b k10:Nat}{nE:Int}{F:Option (List DObligation)}(E:EdgeS p Ls a b nE) (s1:s 1 = .sl 1 (Ls.map J2r)) (s3:s 3 = .int .i64 nE) (s4:s 4 = .ptr 0 0 0) (s6:s 6 = .ptr 1 0 0) (s10:s 10 = .ptr k10 0 0) (hk10:1<k10∧k10<n) (hn2:2<n)
 (e0:h 0=some ⟨true,2,[J00 p]⟩) (e1:h 1=some ⟨true,2,[J0o ⟨a,b⟩]⟩) (e10:h k10=some ⟨true,6,[J0m (Jc9 p ⟨a,b⟩)]⟩) (B0:J31 2 4 [] (s 11) h n) (hF:goO [] (rkE p Ls ⟨a,b⟩ nE)=F)
 (hret:F=Option.none→∀ s' h' n' (acc:List DObligation),acc.length≤6→J31 2 4 (acc.map J08) (s' 8) h' n'→s' 9 = .bool false→J2f Tryz.prog ks .ret s' h' n' Q)
 (hK:∀ s' h' n' (acc:List DObligation),acc.length≤6→J31 2 4 (acc.map J08) (s' 11) h' n'→some acc=F→J2f Tryz.prog ks .normal s' h' n' Q):rC Tryz.prog le3 ks s h n Q:=by
 have hE:=E
 obtain ⟨hp,hpo,ha,hb,hf,hg,hnn,hL,hlv⟩:=E
 have hsz:=Ji1 hpo (k:=b) ha
 generalize hmd:Jc9 p ⟨a,b⟩=md at *
 unfold rkE at hF
 rw [hmd] at hF
 simp [le3]
 refine Jqr [1,3,4,6,10] 12 nE.toNat 1 (fun i s h m=>n≤m∧h 0=some ⟨true,2,[J00 p]⟩∧h 1=some ⟨true,2,[J0o ⟨a,b⟩]⟩∧h k10=some ⟨true,6,[J0m md]⟩∧∃ acc,acc.length≤2*i∧J31 2 4 (acc.map J08) (s 11) h m∧goO acc (((List.range nE.toNat).drop i).flatMap (rk1 p md ⟨a,b⟩ Ls nE))=F) (by unfold LIM;omega) (by simp) ⟨Nat.le_refl _,e0,e1,e10,[],by simp,by simpa using B0,by simpa using hF⟩ ?_ ?_
 ·rintro i st h1 m1 R hi hk s12 hw ⟨hm1,e0,e1,e10,acc,hal,B,hJ⟩ hR hrt _
  simp at hk
  have s12:st 12 = .int .i64 ((i:Int)+1):=by simpa using s12
  have hir:i<(List.range nE.toNat).length:=by simpa using hi
  rw [List.drop_eq_getElem_cons hir,List.flatMap_cons] at hJ
  simp only [List.getElem_range] at hJ
  have hil:i<Ls.length:=by omega
  have hgd:Ls.getD i []=Ls[i]:=by simp [hil]
  have hle:(i:Int)+1≤nE:=by omega
  refine J0c (J0i [1,3,4,6,10,11,12] (fun s=>s 27 = .bool true) (by simp [hk,s12,s3,hle]) ?_)
  intro st1 hk1 s27
  simp at hk1
  refine J1y s27 (J0c (J17 ?_))
  refine J0c (Jxz hE hil (by simp [hk1,hk,s4]) (by simp [hk1,hk,s6]) (by simp [hk1,hk,s1]) (by simp [hk1,s12]) e0 e1 ?_ (by omega))
  intro st2 h2 hk2 hf2 s13 e13
  simp at hk2
  rw [J5g]
  have z0:h2 0=some ⟨true,2,[J00 p]⟩:=by rw [hf2 0 (by omega),e0]
  have z1:h2 1=some ⟨true,2,[J0o ⟨a,b⟩]⟩:=by rw [hf2 1 (by omega),e1]
  refine J0c (Jy0 hE hil (by simp [hk2,hk1,hk,s4]) (by simp [hk2,hk1,hk,s6]) (by simp [hk2,hk1,hk,s1]) (by simp [hk2,hk1,s12]) z0 z1 ?_ (by omega))
  intro st3 h3 hk3 hf3 s14 e14
  simp at hk3
  rw [J5g]
  have hf30:∀ id,id<m1→h3 id=h1 id:=fun id hid=>by rw [hf3 id (by omega),hf2 id hid]
  have y0:h3 0=some ⟨true,2,[J00 p]⟩:=by rw [hf30 0 (by omega),e0]
  have y1:h3 1=some ⟨true,2,[J0o ⟨a,b⟩]⟩:=by rw [hf30 1 (by omega),e1]
  have y10:h3 k10=some ⟨true,6,[J0m md]⟩:=by rw [hf30 k10 (by omega),e10]
  have y13:h3 m1=some ⟨true,2,[J05 (J4g p (lvB Ls[i]) (p.Rules[a]'ha).Func)]⟩:=by rw [hf3 m1 (by omega),e13]
  have B3:J31 2 4 (acc.map J08) (st 11) h3 (m1+1+1):=B.keep (by omega) fun id _ hid _=>hf30 id hid
  refine J0i [1,3,4,6,10,11,12,13,14] (fun s=>s 15 = .int .i64 0) (by simp) ?_
  intro st4 hk4 s15
  simp at hk4
  refine J0i [1,3,4,6,10,11,12,13,14] (fun s=>s 15 = .int .i64 (if (i:Int)+1=nE then 1 else 0)) ?_ ?_
  ·by_cases hq:(i:Int)+1=nE
   ·simp [hk4,hk3,hk2,hk1,hk,s12,s3,hq]
   ·simp [hk4,hk3,hk2,hk1,hk,s12,s3,hq,s15]
  intro st5 hk5 s15'
  simp at hk5
  obtain ⟨K,hKd⟩:∃ K:Int,(if (i:Int)+1=nE then (1:Int) else 0)=K:=⟨_,rfl⟩
  rw [hKd] at s15'
  have x13:st5 13 = .ptr m1 0 0:=by simp [hk5,hk4,hk3,s13]
  have x14:st5 14 = .ptr (m1+1) 0 0:=by simp [hk5,hk4,s14]
  have x6:st5 6 = .ptr 1 0 0:=by simp [hk5,hk4,hk3,hk2,hk1,hk,s6]
  have x10:st5 10 = .ptr k10 0 0:=by simp [hk5,hk4,hk3,hk2,hk1,hk,s10]
  refine J0c (Jx3 (md:=md) (K:=K) x6 x10 x13 x14 s15' y1 y10 y13 e14 ?_)
  intro st6 h6 m6 k16 hk6 hm6 hf6 s17 s16 L16
  simp at hk6
  rw [J5g]
  generalize hT:J97 md (J4g p (lvB Ls[i]) (p.Rules[a]'ha).Func) b (J4g p (lvB Ls[i]) ((p.Rules[a]'ha).Calls[b]'hb).Func) K=T at *
  have hobd:obD p md ⟨a,b⟩ (Ls.getD i []) K=T.map fun t=>⟨md.System,t⟩:=by rw [hgd,Jut ha hb,hT]
  have w0:h6 0=some ⟨true,2,[J00 p]⟩:=by rw [hf6 0 (by omega),y0]
  have w1:h6 1=some ⟨true,2,[J0o ⟨a,b⟩]⟩:=by rw [hf6 1 (by omega),y1]
  have w10:h6 k10=some ⟨true,6,[J0m md]⟩:=by rw [hf6 k10 (by omega),y10]
  have w13:h6 m1=some ⟨true,2,[J05 (J4g p (lvB Ls[i]) (p.Rules[a]'ha).Func)]⟩:=by rw [hf6 m1 (by omega),y13]
  have B6:J31 2 4 (acc.map J08) (st 11) h6 m6:=B3.keep hm6 fun id _ hid _=>hf6 id hid
  have x11:st6 11=st 11:=by simp [hk6,hk5,hk4,hk3,hk2,hk1]
  cases T with
  | none=>
   simp only [Option.map_none] at hobd
   have hnone:F=Option.none:=by
    rw [←hJ]
    unfold rk1
    by_cases hq:(i:Int)+1=nE
    ·rw [if_pos hq] at hKd
     rw [←hKd] at hobd
     rw [if_pos hq,hobd];rfl
    ·rw [if_neg hq] at hKd
     rw [←hKd] at hobd
     rw [if_neg hq,hobd];rfl
   simp [s17]
   exact hrt _ _ _ (hret hnone _ _ _ acc (by omega) (by simpa [x11] using B6) (by simp))
  | some t=>
   simp only [Option.map_some] at hobd
   simp only [Option.getD_some] at L16
   simp [s17]
   refine Kaf (md:=md) (t:=t) (acc:=acc) (v:=st 11) (k10:=k10) (k:=k16) (.inl ⟨rfl,rfl⟩) (by simp [x11]) (by simp [hk6,x10]) (by simp [s16]) w10 L16 B6 (by omega) (by omega) (by omega) ?_
   intro st7 h7 m7 hk7 hm7 bx7 B7
   simp at hk7
   have u0:=bx7 0 _ _ (by omega) w0
   have u1:=bx7 1 _ _ (by omega) w1
   have u10:=bx7 k10 _ _ (by omega) w10
   have u13:=bx7 m1 _ _ (by omega) w13
   rw [w0] at u0
   rw [w1] at u1
   rw [w10] at u10
   rw [w13] at u13
   rw [J5g]
   have hw':IntKind.i64.wrap ((i:Int)+1+1)=(i:Int)+1+1:=by simpa using hw
   have x12:st7 12 = .int .i64 ((i:Int)+1):=by simp [hk7,hk6,hk5,hk4,hk3,hk2,hk1,s12]
   have x3:st7 3 = .int .i64 nE:=by simp [hk7,hk6,hk5,hk4,hk3,hk2,hk1,hk,s3]
   by_cases hq:(i:Int)+1=nE
   ·rw [if_pos hq] at hKd
    subst hKd
    have hrk:rk1 p md ⟨a,b⟩ Ls nE i=[some ⟨md.System,t⟩,obC p md ⟨a,b⟩ (Ls.getD i [])]:=by unfold rk1;rw [if_pos hq,hobd]
    rw [hrk] at hJ
    simp only [List.cons_append,List.nil_append,goO] at hJ
    refine J0c ?_
    simp [x12,x3,hq]
    refine Jxm (md:=md) (la:=J4g p (lvB Ls[i]) (p.Rules[a]'ha).Func) (k10:=k10) (k13:=m1) (by simp [hk7,hk6,x10]) (by simp [hk7,hk6,x13]) u10 u13 ?_
    intro st8 h8 m8 k18 hk8 hm8 hf8 s19 s18 L18
    simp at hk8
    rw [J5g]
    rw [hgd,Ju8 ha] at hJ
    generalize J0w (J4g p (lvB Ls[i]) (p.Rules[a]'ha).Func) md.Params md.System.N=U at *
    have B8:J31 2 4 ((acc++[(⟨md.System,t⟩:DObligation)]).map J08) (st7 11) h8 m8:=B7.keep hm8 fun id _ hid _=>hf8 id hid
    have v0:h8 0=some ⟨true,2,[J00 p]⟩:=by rw [hf8 0 (by omega),u0]
    have v1:h8 1=some ⟨true,2,[J0o ⟨a,b⟩]⟩:=by rw [hf8 1 (by omega),u1]
    have v10:h8 k10=some ⟨true,6,[J0m md]⟩:=by rw [hf8 k10 (by omega),u10]
    cases U with
    | none=>
     simp [goO] at hJ
     simp [s19]
     exact hrt _ _ _ (hret hJ.symm _ _ _ (acc++[⟨md.System,t⟩]) (by simp;omega) (by simpa [hk8] using B8) (by simp))
    | some u=>
     simp only [Option.map_some,goO] at hJ
     simp only [Option.getD_some] at L18
     simp [s19]
     refine Kaf (md:=md) (t:=u) (acc:=acc++[⟨md.System,t⟩]) (v:=st7 11) (k10:=k10) (k:=k18) (.inr ⟨rfl,rfl⟩) (by simp [hk8]) (by simp [hk8,hk7,hk6,x10]) (by simp [s18]) v10 L18 B8 (by omega) (by simp;omega) (by omega) ?_
     intro st9 h9 m9 hk9 hm9 bx9 B9
     simp at hk9
     have t0:=bx9 0 _ _ (by omega) v0
     have t1:=bx9 1 _ _ (by omega) v1
     have t10:=bx9 k10 _ _ (by omega) v10
     rw [v0] at t0
     rw [v1] at t1
     rw [v10] at t10
     have hw2:IntKind.i64.wrap (nE+1)=nE+1:=by rw [←hq];exact hw'
     simp [hk9,hk8,hq,x12,hw2]
     exact hR _ _ _ (by simp [hk9,hk8,hk7,hk6,hk5,hk4,hk3,hk2,hk1,hk]) (by simp [←hq]) ⟨by omega,t0,t1,t10,_,by simp;omega,by simpa using B9,hJ⟩
   ·rw [if_neg hq] at hKd
    subst hKd
    have hrk:rk1 p md ⟨a,b⟩ Ls nE i=[some ⟨md.System,t⟩]:=by unfold rk1;rw [if_neg hq,hobd]
    rw [hrk] at hJ
    simp only [List.cons_append,List.nil_append,goO] at hJ
    simp [x12,x3,hq,hw']
    exact hR _ _ _ (by simp [hk7,hk6,hk5,hk4,hk3,hk2,hk1,hk]) (by simp) ⟨by omega,u0,u1,u10,_,by simp;omega,by simpa using B7,hJ⟩
 ·rintro st h1 m1 R hk s12 ⟨hm1,e0,e1,e10,acc,hal,B,hJ⟩ hrt hX
  simp at hk
  rw [List.drop_eq_nil_of_le (by simp)] at hJ
  simp only [List.flatMap_nil,goO] at hJ
  refine J0c (J0i [11] (fun s=>s 27 = .bool false) (by simp [hk,s12,s3];omega) ?_)
  intro st1 hk1 s27
  simp at hk1
  refine J22 s27 ?_
  refine hX _ _ _ _ ?_
  simp
  exact hK _ _ _ acc (by omega) (by simpa [hk1] using B) hJ
end
theorem Jnb {p:DProgram}{Ls:List (List DLin)}{a b:Nat}{nE:Int}(E:EdgeS p Ls a b nE):Holds Tryz.prog 123 [.agg (J00 p),.sl 1 (Ls.map J2r),.agg (J0o ⟨a,b⟩),i64 nE] (fun r=>∃ o:List DObligation,r = .tup [.us 4 (o.map J08),.bool (goO [] (rkE p Ls ⟨a,b⟩ nE)).isSome]∧o.length≤6∧∀ y,goO [] (rkE p Ls ⟨a,b⟩ nE)=some y→o=y):=by
 obtain ⟨f,hff,_⟩:=Jcf E.hpo (List.getElem_mem E.ha)
 have hmd:J5t (p.Rules[a]'E.ha) (Jmp p (p.Rules[a]'E.ha))=Jc9 p ⟨a,b⟩:=by
  have:=K12 E.hpo E.ha hff
  have hfa:Jmp p (p.Rules[a]'E.ha)=f:=by unfold Jmp;rw [hff];rfl
  rw [hfa,←this];rfl
 refine J03 Tryz.func123 a123_ok rfl (by simp [a123]) ?_
 simp [a123,le0,le1,J0o]
 refine J5l (Jar p E.hp E.hpo E.ha) (by simp) ?_
 rintro _ rfl
 rw [hmd]
 generalize hF:goO [] (rkE p Ls ⟨a,b⟩ nE)=F
 have hEF:=hF
 simp [le2]
 refine Jy6 (k10:=2) (F:=F) E (by simp) (by simp) (by simp) (by simp) (by simp) (by omega) (by omega) (by simp) (by simp [J0o]) (by simp) (.inr ⟨3,by omega,by omega,by simp,by simp⟩) hF ?_ ?_
 ·intro hno s' h' n' acc hal B s9
  obtain ⟨h2,hd,_⟩:=B.dt
  subst hno
  simp [s9,hd]
  exact ⟨acc,rfl,hal⟩
 ·intro s' h' n' acc hal B hs
  obtain ⟨h2,hd,_⟩:=B.dt
  subst hs
  simp [le4,hd]
  exact hal
def lq0:AC:=(.reg [Zo 2 (.boxv (.t 0)),Zo 3 (.boxv (.t 1)),Zo 4 (.mv (.k (.nil 4))),Zo 5 (.mv (.k (.bool false)))])
def lq1:AC:=(.seq (.reg [Zl 11 true 2 2,Zl 12 true 2 3,Zc 13 121 [.t 11,.t 12],Zo 14 (.un .not (.t 13))]) (.cond (.t 14) (.seq (.reg [Zo 15 (.bsl 4 []),Zv 4 15,Zo 5 (.mv (.k (.bool false)))]) .ret) .skip))
def lq2:AC:=(.reg [Zo 16 (.bsl 4 []),Zv 6 16])
def lq3:AC:=(.reg [Zl 17 true 2 2,Zc 18 122 [.t 17],Zv 7 18])
def lqd:AC:=(.draw (.op (Zl 26 true 2 2) (.op (Zf 27 0 3) (.op (Zl 28 false 1 27) (.op (Zv 29 7) (.op (Zv 30 8) (.op (Zo 31 (.ixa 2 (.t 29) (.t 30))) (.op (Zl 32 true 2 31) (.op (Zf 33 1 3) (.op (Zl 34 false 1 33) (.op (Zv 35 8) (.op (Zo 36 (.ixa 1 (.t 34) (.t 35))) (.op (Zl 37 false 1 36) (.op (Zc 38 123 [.t 26,.t 28,.t 32,.t 37]) (.op (Zv 25 38) (.op (Zo 39 (.ext (.t 25) 0)) (.op (Zo 40 (.ext (.t 25) 1)) (.op (Zv 9 39) (.op (Zv 10 40) .fin)))))))))))))))))))
def lq4:AC:=(.seq (.reg [Zo 8 (.mv (.k (.int .i64 0)))]) (.blk 0 (.loop (.seq (.seq (.reg [Zv 19 8,Zv 20 7,Zo 21 (.len false (.t 20)),Zo 22 (.bin .lss (.t 19) (.t 21))]) (.cond (.t 22) .skip (.exit 0))) (.seq (.blk 1 (.seq lqd (.seq (.seq (.reg [Zv 41 10,Zo 42 (.un .not (.t 41))]) (.cond (.t 42) (.seq (.reg [Zo 43 (.bsl 4 []),Zv 4 43,Zo 5 (.mv (.k (.bool false)))]) .ret) .skip)) (.reg [Zv 44 6,Zv 45 9,Zo 46 (.app 64 4 (.t 44) (.t 45)),Zv 6 46])))) (.reg [Zv 23 8,Zo 24 (.bin .add (.t 23) (.k (.int .i64 1))),Zv 8 24]))))))
def lq5:AC:=(.reg [Zv 47 6,Zv 4 47,Zo 5 (.mv (.k (.bool true)))])
def a49:AFn:=⟨48,[.t 4,.t 5],(.seq lq0 (.seq lq1 (.seq lq2 (.seq lq3 (.seq lq4 (.seq lq5 .ret))))))⟩
theorem a49_ok:J09 Tryz.prog Tryz.f49=some a49:=by kernel_rfl
theorem Jtr {p:DProgram}{x:DRanking}{a b i0:Nat}(hp:J0j p≤1048576) (E:EdgeAt p x a b i0):EdgeS p x.Levels a b (x.Edges[i0]'E.he):=⟨hp,E.hpo,E.ha,E.hb,E.hf,E.hg,E.hn,E.hL,E.lv⟩
section
variable {ks:List Kt}{s:Env}{h h':Heap}{n:Nat}{Q:Fin}
theorem Jw7 {p:DProgram}(hp:J0j p≤1048576) {x:DRanking}(hR:Jcb p x=true) {F:Option (List DObligation)}(hn:3<n) (s2:s 2 = .ptr 0 0 0) (s3:s 3 = .ptr 1 0 0) (s7:s 7 = .ref 3 0 (J0f p).length) (B0:J31 1 4 [] (s 6) h n) (e0:h 0=some ⟨true,2,[J00 p]⟩) (e1:h 1=some ⟨true,2,[J0d x]⟩) (e3:h 3=some ⟨false,2,(J0f p).map J25⟩) (hF:goO [] (Jat p x)=F)
 (hret:F=Option.none→∀ s' h' n' k,s' 4 = .ref k 0 0→h' k=some ⟨false,4,[]⟩→s' 5 = .bool false→J2f Tryz.prog ks .ret s' h' n' Q)
 (hK:∀ s' h' n' acc,J31 1 4 (acc.map J08) (s' 6) h' n'→some acc=F→J2f Tryz.prog ks .normal s' h' n' Q):rC Tryz.prog lq4 ks s h n Q:=by
 have h16:=Jaz (p:=p)
 obtain ⟨hpo,hL,hE,_,_⟩:=Jhi hR
 simp [lq4]
 refine J0n [2,3,7] 8 (J0f p).length (fun i s h m=>3<m∧h 0=some ⟨true,2,[J00 p]⟩∧h 1=some ⟨true,2,[J0d x]⟩∧h 3=some ⟨false,2,(J0f p).map J25⟩∧∃ acc,acc.length≤6*i∧J31 1 4 (acc.map J08) (s 6) h m∧goO acc (Jip p x i)=F) (by unfold LIM;omega) (by simp) ⟨hn,e0,e1,e3,[],by simp,by simpa using B0,by simpa [Jip,Jat] using hF⟩ ?_ ?_
 ·rintro i st h m R hi hg hk s8 hw' ⟨m1,e0,e1,e3,acc,hal,B,hJ⟩ hRr hrt _
  simp at hk
  unfold Jip at hJ
  rw [Jg7 hi hE] at hJ
  obtain ⟨a,b,hab,E⟩:=Jj8 hR hi
  rw [hab] at hJ
  have hie:=E.he
  refine J0c (J0i [2,3,6,7,8] (fun s=>s 22 = .bool true) (by simp [hk,s8,s7,hi,e3]) ?_)
  intro st1 hk1 s22
  simp at hk1
  refine J1y s22 (J0c (J17 ?_))
  generalize hG:goO [] (rkE p x.Levels ⟨a,b⟩ x.Edges[i])=G
  refine J1e [2,3,6,7,8] (fun s h2 n2=>(∀ id,id<m→h2 id=h id)∧s 10 = .bool G.isSome∧∃ o:List DObligation,J31 1 4 (o.map J08) (s 9) h2 n2∧(∀ j l,s 9 = .ref j 0 l→m≤j)∧m≤n2∧o.length≤6∧∀ y,G=some y→o=y) ?_ ?_
  ·simp [lqd,hk1,hk,s2,s3,s7,s8,e0,e1,e3,hi,hab,hie,J25,J0d]
   refine J01 (Jnb (Jtr hp E)) (by simp [J0o]) ?_
   rintro r ⟨o,rfl,ho,hy⟩
   simp
   refine ⟨fun id hid e=>by omega,by rw [hG],o,.inr ⟨m,by omega,by omega,by simp,by simp⟩,ho,fun y e=>hy y (by rw [hG];exact e)⟩
  rintro st2 h2 n2 hk2 ⟨hf2,s10,o,Bo,Bm,hn2,ho,hoy⟩
  simp at hk2
  have c0:h2 0=some ⟨true,2,[J00 p]⟩:=by rw [hf2 0 (by omega),e0]
  have c1:h2 1=some ⟨true,2,[J0d x]⟩:=by rw [hf2 1 (by omega),e1]
  have c3:h2 3=some ⟨false,2,(J0f p).map J25⟩:=by rw [hf2 3 (by omega),e3]
  have B2:J31 1 4 (acc.map J08) (st2 6) h2 n2:=by
   rw [hk2.2.2.1,hk1.2.2.1]
   exact B.keep hn2 fun id _ hid _=>hf2 id hid
  rw [Jy1,Je9] at hJ
  change ((goO [] (rkE p x.Levels ⟨a,b⟩ x.Edges[i])).map _).bind _=F at hJ
  rw [hG] at hJ
  cases G with
  | none=>
   simp at hJ
   simp [s10]
   exact hrt _ _ _ (hret hJ.symm _ _ _ n2 (by simp) (by simp) (by simp))
  | some y=>
   have:=hoy y rfl
   subst this
   simp at hJ
   simp [s10]
   refine Jj7 B2 Bo ?_ (by simp;unfold LIM;omega) ?_
   ·intro j k l e1 e2
    have g1:=B.lt (i:=j) (k:=k) (by rw [←hk1.2.2.1,←hk2.2.2.1];exact e1)
    have g2:=Bm _ _ e2
    omega
   intro h3 hn3 hf3
   have bx0:∀ id z rows,h2 id=some ⟨true,z,rows⟩→id<n2→h3 id=h2 id:=fun id z rows e hid=>hf3 id (by omega) (fun l e'=>B2.not_box e e') (fun l e'=>Bo.not_box e e')
   have bx3:h3 3=h2 3:=by
    refine hf3 3 (by omega) (fun l e' => ?_) (fun l e' => ?_)
    ·have g:=(B2.lt e').2.2.1
     rw [c3] at g
     simp at g
    ·have g:=Bm _ _ e'
     omega
   have d0:h3 0=some ⟨true,2,[J00 p]⟩:=by rw [bx0 0 _ _ c0 (by omega),c0]
   have d1:h3 1=some ⟨true,2,[J0d x]⟩:=by rw [bx0 1 _ _ c1 (by omega),c1]
   have d3:h3 3=some ⟨false,2,(J0f p).map J25⟩:=by rw [bx3,c3]
   simp [hk2,hk1,s8,hw']
   exact hRr _ _ _ (by simp [hk2,hk1,hk]) (by simp) ⟨by omega,d0,d1,d3,acc++o,by simp;omega,.inr ⟨n2,by omega,by omega,by simp,by simpa using hn3⟩,hJ⟩
 ·rintro st h m R hk s8 ⟨m1,e0,e1,e3,acc,hal,B,hJ⟩ hrt hX
  simp at hk
  unfold Jip at hJ
  rw [List.drop_eq_nil_of_le (by simp;omega)] at hJ
  simp only [List.flatMap_nil,goO] at hJ
  refine J0c (J0i [6] (fun s=>s 22 = .bool false) (by simp [hk,s8,s7,e3]) ?_)
  intro st1 hk1 s22
  simp at hk1
  refine J22 s22 ?_
  refine hX _ _ _ _ ?_
  simp
  exact hK _ _ _ acc (by rw [hk1];exact B) hJ
end
theorem J7c (p:DProgram) (hp:J0j p≤1048576) (x:DRanking):Holds Tryz.prog 49 [.agg (J00 p),.agg (J0d x)] (fun r=>r = .tup [.us 4 (((J4x p x).getD []).map J08),.bool (J4x p x).isSome]):=by
 refine J03 Tryz.func49 a49_ok rfl (by simp [a49]) ?_
 simp [a49,lq0,lq1]
 first|refine J01 (Jgt p hp x) (by first|simp;done|rfl) ?_|refine J02 (Jgt p hp x) (by first|simp;done|rfl) ?_
 rintro r rfl
 generalize hO:J4x p x=O
 unfold J4x at hO
 cases hB:Jcb p x
 ·rw [hB] at hO
  simp at hO
  subst hO
  simp
 rw [hB,if_pos rfl] at hO
 simp [lq2,lq3]
 first|refine J01 (J61 p hp) (by first|simp;done|rfl) ?_|refine J02 (J61 p hp) (by first|simp;done|rfl) ?_
 rintro r rfl
 simp
 refine Jw7 hp hB (by omega) (by simp) (by simp) (by simp) (.inr ⟨2,by omega,by omega,by simp,by simp⟩) (by simp) (by simp) (by simp) hO ?_ ?_
 ·intro hno s' h' n' k x4 hk4 x5
  subst hno
  simp [x4,x5,hk4]
 ·intro s' h' n' acc B hs
  obtain ⟨h2,hd,_⟩:=B.dt
  rw [←hs]
  simp [lq5,hd]
end Go.Proofs.YtoclolkigjbcgaaGreat
