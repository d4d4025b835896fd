/- Contracts: rules. -/
import Derived.Test.YtoclolkigjbcgaaGreatXV2
import Derived.Test.YtoclolkigjbcgaaGreatXC1
import Derived.Test.YtoclolkigjbcgaaGreatXQ1
namespace Go.Proofs.YtoclolkigjbcgaaGreat
set_option maxRecDepth 40000
set_option maxHeartbeats 4000000
open Go Go.RowKit Go.Proofs
set_option linter.all false
def a149:AFn:= ⟨105,[.t 4],(.seq (.reg [Zo 2 (.boxv (.t 0)),Zo 3 (.boxv (.t 1)),Zo 4 (.mv (.k (.bool false)))]) (.seq (.reg [Zl 13 true 2 2,Zf 14 0 3,Zl 15 false 1 14,Zc 16 176 [.t 13,.t 15],Zv 12 16,Zo 17 (.ext (.t 12) 0),Zo 18 (.ext (.t 12) 1),Zo 5 (.box [(.str []),(.nil 1),(.bool false),(.nil 2)]),⟨no,.st 4 (.t 5) (.t 17),no⟩,Zv 6 18]) (.seq (.seq (.reg [Zv 19 6,Zo 20 (.un .not (.t 19)),Zv 21 20,⟨some 22,.ld true 4 (.t 5),(some (21,false))⟩,⟨some 23,.fld 1 (.t 3),(some (21,false))⟩,⟨some 24,.ld false 1 (.t 23),(some (21,false))⟩,⟨some 25,.call (.k (.fn (.func 236) [] [])) [.t 22,.t 24],(some (21,false))⟩,⟨some 26,.un .not (.t 25),(some (21,false))⟩,Zo 27 (.pick (.t 21) (.k (.bool true)) (.t 26)),Zv 28 27,⟨some 29,.fld 2 (.t 3),(some (28,false))⟩,⟨some 30,.ld false 1 (.t 29),(some (28,false))⟩,⟨some 31,.len false (.t 30),(some (28,false))⟩,⟨some 32,.bin .gtr (.t 31) (.k (.int .i64 2)),(some (28,false))⟩,Zo 33 (.pick (.t 28) (.k (.bool true)) (.t 32)),Zv 34 33,⟨some 35,.fld 3 (.t 3),(some (34,false))⟩,⟨some 36,.ld false 1 (.t 35),(some (34,false))⟩,⟨some 37,.len false (.t 36),(some (34,false))⟩,⟨some 38,.bin .gtr (.t 37) (.k (.int .i64 2)),(some (34,false))⟩,Zo 39 (.pick (.t 34) (.k (.bool true)) (.t 38))]) (.cond (.t 39) (.seq (.reg [Zo 4 (.mv (.k (.bool false)))]) .ret) .skip)) (.seq (.seq (.reg [Zf 40 2 3,Zl 41 false 1 40,Zo 42 (.len false (.t 41)),Zo 43 (.mv (.k (.int .i64 0)))]) (.blk 0 (.loop (.seq (.reg [Zo 44 (.bin .lss (.t 43) (.t 42))]) (.seq (.cond (.t 44) .skip (.exit 0)) (.seq (.blk 1 (.seq (.reg [Zo 45 (.ixa 2 (.t 41) (.t 43)),Zl 46 true 2 45,Zo 8 (.box [(.int .i64 0),(.nil 2)]),⟨no,.st 2 (.t 8) (.t 46),no⟩]) (.seq (.draw (.op (Zl 47 true 2 8) (.op (Zc 48 237 [.t 47]) (.op (Zo 49 (.un .not (.t 48))) (.op (Zv 50 49) (.op ⟨some 51,.ld true 2 (.t 8),(some (50,false))⟩ (.op ⟨some 53,.ld true 2 (.t 2),(some (50,false))⟩ (.op ⟨some 54,.ld true 7 (.t 3),(some (50,false))⟩ (.op ⟨some 52,.call (.k (.fn (.func 239) [] [])) [.t 51],(some (50,false))⟩ (.op ⟨some 55,.call (.k (.fn (.func 240) [] [])) [.t 53,.t 54,(.k (.int .i64 0))],(some (50,false))⟩ (.op ⟨some 56,.call (.k (.fn (.func 238) [] [])) [.t 52,.t 55],(some (50,false))⟩ (.op ⟨some 57,.un .not (.t 56),(some (50,false))⟩ (.op (Zo 58 (.pick (.t 50) (.k (.bool true)) (.t 57))) .fin))))))))))))) (.cond (.t 58) (.seq (.reg [Zo 4 (.mv (.k (.bool false)))]) .ret) .skip)))) (.reg [Zo 59 (.bin .add (.t 43) (.k (.int .i64 1))),Zv 43 59]))))))) (.seq (.seq (.reg [Zf 60 3 3,Zl 61 false 1 60,Zo 62 (.len false (.t 61)),Zo 63 (.mv (.k (.int .i64 0)))]) (.blk 2 (.loop (.seq (.reg [Zo 64 (.bin .lss (.t 63) (.t 62))]) (.seq (.cond (.t 64) .skip (.exit 2)) (.seq (.blk 3 (.seq (.reg [Zv 65 63,Zo 66 (.ixa 3 (.t 61) (.t 63)),Zl 67 true 3 66,Zo 10 (.box [(.str []),(.str []),(.nil 3)]),Zv 9 65,⟨no,.st 3 (.t 10) (.t 67),no⟩]) (.seq (.draw (.op (Zl 68 true 2 2) (.op (Zl 69 true 3 10) (.op (Zl 70 true 2 2) (.op (Zl 71 true 7 3) (.op (Zv 72 9) (.op (Zc 73 240 [.t 70,.t 71,.t 72]) (.op (Zc 74 241 [.t 68,.t 69,.t 73]) (.op (Zo 75 (.un .not (.t 74))) .fin))))))))) (.cond (.t 75) (.seq (.reg [Zo 4 (.mv (.k (.bool false)))]) .ret) .skip)))) (.reg [Zo 76 (.bin .add (.t 63) (.k (.int .i64 1))),Zv 63 76]))))))) (.seq (.reg [Zl 77 true 2 2,Zl 78 true 7 3,Zf 79 3 3,Zl 80 false 1 79,Zo 81 (.len false (.t 80)),Zc 82 240 [.t 77,.t 78,.t 81],Zv 11 82]) (.seq (.reg [Zf 83 4 3,Zl 84 true 3 83,Zc 85 242 [.t 84],Zv 86 85,⟨some 87,.fld 4 (.t 3),(some (86,true))⟩,⟨some 88,.fld 0 (.t 87),(some (86,true))⟩,⟨some 89,.ld false 1 (.t 88),(some (86,true))⟩,⟨some 90,.fld 2 (.t 5),(some (86,true))⟩,⟨some 91,.ld false 1 (.t 90),(some (86,true))⟩,⟨some 92,.beq false (.t 89) (.t 91),(some (86,true))⟩,Zo 93 (.pick (.t 86) (.t 92) (.k (.bool false))),Zv 94 93,⟨some 95,.fld 4 (.t 3),(some (94,true))⟩,⟨some 96,.ld true 3 (.t 95),(some (94,true))⟩,⟨some 97,.call (.k (.fn (.func 243) [] [])) [.t 96],(some (94,true))⟩,⟨some 98,.mv (.t 11),(some (94,true))⟩,⟨some 99,.call (.k (.fn (.func 238) [] [])) [.t 97,.t 98],(some (94,true))⟩,Zo 100 (.pick (.t 94) (.t 99) (.k (.bool false))),Zv 101 100,⟨some 102,.mv (.t 11),(some (101,true))⟩,⟨some 103,.call (.k (.fn (.func 141) [] [])) [.t 102],(some (101,true))⟩,Zo 104 (.pick (.t 101) (.t 103) (.k (.bool false))),Zv 4 104]) .ret)))))))⟩
theorem a149_ok:J06 Tryz.prog Tryz.f149=some a149:=by kernel_rfl
theorem Jb1 {r:DRule}(hr:J4v r≤1048576):(∀ g∈r.Guards,g.Terms.length≤1048576)∧(∀ c∈r.Calls,J64 c≤1048576)∧Jah r.Result≤1048576∧r.Guards.length≤1048576∧r.Calls.length≤1048576∧r.Patterns.length≤1048576∧J6q r.Guards≤1048576:=by
 have h1:=J2b Jbe r.Guards
 have h2:=J2b J64 r.Calls
 have h3:=J2b J3a r.Patterns
 unfold J4v J39 J6q J8d at hr
 refine ⟨fun g hg => ?_,fun c hc => ?_,by omega,by omega,by omega,by omega,by unfold J6q;omega⟩
 ·have h4:=J4b (w:=Jbe) hg
  have h5:=J2b J7j g.Terms
  rw [show Jbe g=wL J7j g.Terms from rfl] at h4
  omega
 ·have h4:=J4b (w:=J64) hc
  omega
theorem Jan {p:DProgram}{r:DRule}{i:Nat}(hi:i<r.Calls.length):J2m p r i (r.Calls.drop i)=(J9k p r.Calls[i] (J1m p r i)&&J2m p r (i+1) (r.Calls.drop (i+1))):=by
 rw [List.drop_eq_getElem_cons hi];rfl
theorem Jbf (p:DProgram) (r:DRule) (hp:J0k p≤1048576) (hr:J4v r≤1048576):Holds Tryz.prog 149 [.agg (J00 p),.agg (J0c r)] (fun x=>x = .bool (J7u p r)):=by
 obtain ⟨wg,wc,wa,lg,lc,lp,_⟩:=Jb1 hr
 refine J03 Tryz.func149 a149_ok rfl (by simp [a149]) ?_
 simp [a149,J00,J0c]
 first|refine J01 (J2i p r.Func hp) (by first|simp [J00];done|rfl) ?_|refine J02 (J2i p r.Func hp) (by first|simp [J00];done|rfl) ?_
 rintro r rfl
 unfold J7u
 generalize hG:(J1o p.Functions r.Func).getD fn0=G
 simp only [Jcg,hG]
 generalize hb1:(J1o p.Functions r.Func).isSome=b1
 simp [J0g]
 cases b1
 ·simp
 simp
 first|refine J01 (Jdz G r.Patterns) (by first|simp [J04];done|rfl) ?_|refine J02 (Jdz G r.Patterns) (by first|simp [J04];done|rfl) ?_
 rintro r rfl
 cases h1:J45 G.Params [] r.Patterns
 ·simp
 simp
 intro _
 have hdg:decide (r.Guards.length≤2)=decide ((r.Guards.length:Int)≤2):=by rw [decide_eq_decide];omega
 have hdc:decide (r.Calls.length≤2)=decide ((r.Calls.length:Int)≤2):=by rw [decide_eq_decide];omega
 by_cases h2:(r.Guards.length:Int)≤2
 case neg=>
  have h2n:¬r.Guards.length≤2:=by omega
  simp [h2,h2n,Int.not_le.1 h2]
 have h2n:r.Guards.length≤2:=by omega
 simp [h2,h2n,Int.not_lt.2 h2]
 intro _
 by_cases h3:(r.Calls.length:Int)≤2
 case neg=>
  have h3n:¬r.Calls.length≤2:=by omega
  simp [h3,h3n,Int.not_le.1 h3]
 have h3n:r.Calls.length≤2:=by omega
 simp [h3,h3n,Int.not_lt.2 h3]
 intro _
 generalize hB1:r.Guards.all (J4e (J1m p r 0))=B1
 refine J0l [2,3,5,41,42] 43 r.Guards.length (fun i s h n=>4<n∧h 0=some ⟨true,2,[J00 p]⟩∧h 1=some ⟨true,7,[J0c r]⟩∧h 4=some ⟨true,4,[[.str G.Name,.ref 2 0 G.Params.length,.bool G.ListResult,.ref 3 0 G.Pre.length]]⟩∧(r.Guards.drop i).all (J4e (J1m p r 0))=B1) (by unfold LIM;omega) (by simp) ⟨by simp,by simp [J00],by simp [J0c],by simp,by simpa using hB1⟩ ?_ ?_
 ·rintro i st h n R hi hg hk s43 hw ⟨hn,e0,e1,e4,hJ⟩ hR hret _
  simp at hk
  rw [List.drop_eq_getElem_cons hi,List.all_cons] at hJ
  have z0:¬0=n:=by omega
  have z1:¬1=n:=by omega
  have z4:¬4=n:=by omega
  have y0:¬0=n+1:=by omega
  have y1:¬1=n+1:=by omega
  have y4:¬4=n+1:=by omega
  have x0:¬0=n+1+1:=by omega
  have x1:¬1=n+1+1:=by omega
  have x4:¬4=n+1+1:=by omega
  have v0:¬n+1=n+1+1:=by omega
  have v1:¬n+1+1=n+1:=by omega
  have v4:¬n+1=n:=by omega
  have q0:¬n=0:=by omega
  have q1:¬n=1:=by omega
  have q3:¬n=3:=by omega
  have q4:¬n=4:=by omega
  refine J0i [2,3,5,41,42,43] (fun s=>s 44 = .bool true) (by simp [hk,s43,hi]) ?_
  intro st1 hk1 s44
  simp at hk1
  refine J3x s44 (J0b (J1h ?_))
  refine J1n [2,3,5,41,42,43] (fun s h' n'=>s 8 = .ptr n 0 0∧n'=n+1∧h' n=some ⟨true,2,[J1j r.Guards[i]]⟩∧h' 0=some ⟨true,2,[J00 p]⟩∧h' 1=some ⟨true,7,[J0c r]⟩∧h' 4=some ⟨true,4,[[.str G.Name,.ref 2 0 G.Params.length,.bool G.ListResult,.ref 3 0 G.Pre.length]]⟩) (by simp [hk,hk1,s43,hi,J1j,e0,e1,e4,z0,z1,z4,q0,q1,q4]) ?_
  rintro st2 h2' n2 hk2 ⟨s8,rfl,en,e0',e1',e4'⟩
  simp at hk2
  refine J1n [2,3,5,41,42,43] (fun s h' n'=>n<n'∧s 58 = .bool (!J4e (J1m p r 0) r.Guards[i])∧h' 0=some ⟨true,2,[J00 p]⟩∧h' 1=some ⟨true,7,[J0c r]⟩∧h' 4=some ⟨true,4,[[.str G.Name,.ref 2 0 G.Params.length,.bool G.ListResult,.ref 3 0 G.Pre.length]]⟩) ?_ ?_
  ·simp [hk,hk1,hk2,s8,en]
   first|refine J01 (J7r (r.Guards[i]'hi)) (by first|simp;done|rfl) ?_|refine J02 (J7r (r.Guards[i]'hi)) (by first|simp;done|rfl) ?_
   rintro r rfl
   unfold J4e
   cases g1:J98 r.Guards[i]
   ·simp [e0',e1',e4']
   simp [hk,hk1,hk2,s8,en,e0',e1',e4',J00,J0c]
   first|refine J01 (J5k (r.Guards[i]'hi) (wg _ (List.getElem_mem hi))) (by simp [J00,J0c]) ?_|refine J02 (J5k (r.Guards[i]'hi) (wg _ (List.getElem_mem hi))) (by simp [J00,J0c]) ?_|refine J01 (J5k (r.Guards[i]'hi) (wg _ (List.getElem_mem hi))) rfl ?_|refine J02 (J5k (r.Guards[i]'hi) (wg _ (List.getElem_mem hi))) rfl ?_
   rintro r rfl
   simp [hk,hk1,hk2,s8,en,e0',e1',e4',J00,J0c,z0,z1,z4,y0,y1,y4,x0,x1,x4,v0,v1,v4,q0,q1,q3,q4]
   first|refine J01 (J8g p r 0 hp hr) (by first|simp [J00,J0c];done|rfl) ?_|refine J02 (J8g p r 0 hp hr) (by first|simp [J00,J0c];done|rfl) ?_
   rintro r rfl
   simp [hk,hk1,hk2,s8,en,e0',e1',e4',J00,J0c,z0,z1,z4,y0,y1,y4,x0,x1,x4,v0,v1,v4,q0,q1,q3,q4]
   first|refine J01 (J9g (J70 (r.Guards[i]'hi)) (J1m p r 0)) (by first|simp [z0,z1,z4,y0,y1,y4,x0,x1,x4,v0,v1,v4,q0,q1,q3,q4];done|rfl) ?_|refine J02 (J9g (J70 (r.Guards[i]'hi)) (J1m p r 0)) (by first|simp [z0,z1,z4,y0,y1,y4,x0,x1,x4,v0,v1,v4,q0,q1,q3,q4];done|rfl) ?_
   rintro r rfl
   simp [e0',e1',e4',J00,J0c,z0,z1,z4,y0,y1,y4,x0,x1,x4,v0,v1,v4,q0,q1,q3,q4]
  rintro st3 h3' n3 hk3 ⟨hn3,s58,e0'',e1'',e4''⟩
  simp at hk3
  generalize J4e (J1m p r 0) r.Guards[i]=D at *
  cases D
  ·rw [Bool.false_and] at hJ
   subst hJ
   simp [s58]
   refine hret _ _ _ ?_
   simp
  ·rw [Bool.true_and] at hJ
   simp [hk,hk1,hk2,hk3,s58,s43,hw]
   exact hR _ _ _ (by simp [hk,hk1,hk2,hk3]) (by simp) ⟨by omega,e0'',e1'',e4'',hJ⟩
 rintro st h n R hk s43 ⟨hn,e0,e1,e4,hJ⟩ hret hX
 simp at hk
 rw [List.drop_eq_nil_of_le (by omega)] at hJ
 refine J0i [2,3,5,41,42,43] (fun s=>s 44 = .bool false) (by simp [hk,s43]) ?_
 intro st1 hk1 s44
 simp at hk1
 refine J3s s44 ?_
 refine hX _ _ _ _ ?_
 simp at hJ
 subst hJ
 clear hX hret hB1
 simp [hk,hk1,e1,J0c]
 intro _
 generalize hB2:J2m p r 0 r.Calls=B2
 refine J0l [2,3,5,61,62] 63 r.Calls.length (fun i s h n=>4<n∧h 0=some ⟨true,2,[J00 p]⟩∧h 1=some ⟨true,7,[J0c r]⟩∧h 4=some ⟨true,4,[[.str G.Name,.ref 2 0 G.Params.length,.bool G.ListResult,.ref 3 0 G.Pre.length]]⟩∧J2m p r i (r.Calls.drop i)=B2) (by unfold LIM;omega) (by simp) ⟨hn,e0,e1,e4,by simpa using hB2⟩ ?_ ?_
 ·rintro i st h n R hi hg hkk s63 hw ⟨hn,e0,e1,e4,hJ⟩ hR hret _
  simp at hkk
  rw [Jan hi] at hJ
  have z0:¬0=n:=by omega
  have z1:¬1=n:=by omega
  have z4:¬4=n:=by omega
  have y0:¬0=n+1:=by omega
  have y1:¬1=n+1:=by omega
  have y4:¬4=n+1:=by omega
  have x0:¬0=n+1+1:=by omega
  have x1:¬1=n+1+1:=by omega
  have x4:¬4=n+1+1:=by omega
  have v0:¬n+1=n+1+1:=by omega
  have v1:¬n+1+1=n+1:=by omega
  have v4:¬n+1=n:=by omega
  have q0:¬n=0:=by omega
  have q1:¬n=1:=by omega
  have q3:¬n=3:=by omega
  have q4:¬n=4:=by omega
  refine J0i [2,3,5,61,62,63] (fun s=>s 64 = .bool true) (by simp [hkk,s63,hi]) ?_
  intro stb hkb s64
  simp at hkb
  refine J3x s64 (J0b (J1h ?_))
  refine J1n [2,3,5,61,62,63] (fun s h' n'=>s 9 = .int .i64 i∧s 10 = .ptr n 0 0∧n'=n+1∧h' n=some ⟨true,3,[J14 r.Calls[i]]⟩∧h' 0=some ⟨true,2,[J00 p]⟩∧h' 1=some ⟨true,7,[J0c r]⟩∧h' 4=some ⟨true,4,[[.str G.Name,.ref 2 0 G.Params.length,.bool G.ListResult,.ref 3 0 G.Pre.length]]⟩) (by simp [hk,hkk,hk1,hkb,s63,hi,J14,e0,e1,e4,z0,z1,z4,q0,q1,q4]) ?_
  rintro st2 h2' n2 hk2 ⟨s9,s10,rfl,en,e0',e1',e4'⟩
  simp at hk2
  refine J1n [2,3,5,61,62,63] (fun s h' n'=>n<n'∧s 75 = .bool (!J9k p r.Calls[i] (J1m p r i))∧h' 0=some ⟨true,2,[J00 p]⟩∧h' 1=some ⟨true,7,[J0c r]⟩∧h' 4=some ⟨true,4,[[.str G.Name,.ref 2 0 G.Params.length,.bool G.ListResult,.ref 3 0 G.Pre.length]]⟩) ?_ ?_
  ·simp [hk,hkk,hk1,hkb,hk2,s9,s10,en,e0',e1',e4',J00,J0c]
   first|refine J01 (J8g p r i hp hr) (by first|simp [J00,J0c];done|rfl) ?_|refine J02 (J8g p r i hp hr) (by first|simp [J00,J0c];done|rfl) ?_
   rintro r rfl
   simp [hk,hkk,hk1,hkb,hk2,s9,s10,en,e0',e1',e4',J00,J0c,z0,z1,z4,y0,y1,y4,x0,x1,x4,v0,v1,v4,q0,q1,q3,q4]
   first|refine J01 (Jej p (r.Calls[i]'hi) (J1m p r i) hp (wc _ (List.getElem_mem hi))) (by simp [J00,z0,z1,z4,y0,y1,y4,x0,x1,x4,v0,v1,v4,q0,q1,q3,q4]) ?_|refine J02 (Jej p (r.Calls[i]'hi) (J1m p r i) hp (wc _ (List.getElem_mem hi))) (by simp [J00,z0,z1,z4,y0,y1,y4,x0,x1,x4,v0,v1,v4,q0,q1,q3,q4]) ?_|refine J01 (Jej p (r.Calls[i]'hi) (J1m p r i) hp (wc _ (List.getElem_mem hi))) rfl ?_|refine J02 (Jej p (r.Calls[i]'hi) (J1m p r i) hp (wc _ (List.getElem_mem hi))) rfl ?_
   rintro r rfl
   simp [e0',e1',e4',J00,J0c,z0,z1,z4,y0,y1,y4,x0,x1,x4,v0,v1,v4,q0,q1,q3,q4]
  rintro st3 h3' n3 hk3 ⟨hn3,s75,e0'',e1'',e4''⟩
  simp at hk3
  generalize J9k p r.Calls[i] (J1m p r i)=D at *
  cases D
  ·rw [Bool.false_and] at hJ
   subst hJ
   simp [s75]
   refine hret _ _ _ ?_
   simp
  ·rw [Bool.true_and] at hJ
   simp [hk,hkk,hk1,hkb,hk2,hk3,s75,s63,hw]
   exact hR _ _ _ (by simp [hk,hkk,hk1,hkb,hk2,hk3]) (by simp) ⟨by omega,e0'',e1'',e4'',hJ⟩
 rintro st h n R hkk s63 ⟨hn,e0,e1,e4,hJ⟩ hret hX
 simp at hkk
 rw [List.drop_eq_nil_of_le (by omega)] at hJ
 refine J0i [2,3,5,61,62,63] (fun s=>s 64 = .bool false) (by simp [hkk,s63]) ?_
 intro st1 hk1' s64
 simp at hk1'
 refine J3s s64 ?_
 refine hX _ _ _ _ ?_
 simp [J2m] at hJ
 subst hJ
 clear hX hret hB2
 have z0:¬0=n:=by omega
 have z1:¬1=n:=by omega
 have z4:¬4=n:=by omega
 have y0:¬0=n+1:=by omega
 have y1:¬1=n+1:=by omega
 have y4:¬4=n+1:=by omega
 have x0:¬0=n+1+1:=by omega
 have x1:¬1=n+1+1:=by omega
 have x4:¬4=n+1+1:=by omega
 have v0:¬n+1=n+1+1:=by omega
 have v1:¬n+1+1=n+1:=by omega
 have v4:¬n+1=n:=by omega
 have q0:¬n=0:=by omega
 have q1:¬n=1:=by omega
 have q3:¬n=3:=by omega
 have q4:¬n=4:=by omega
 simp [hk,hk1,hkk,hk1',e0,e1,J0c,J00]
 intro _
 first|refine J01 (J8g p r r.Calls.length hp hr) (by first|simp [J00,J0c];done|rfl) ?_|refine J02 (J8g p r r.Calls.length hp hr) (by first|simp [J00,J0c];done|rfl) ?_
 rintro r rfl
 simp [hk,hk1,hkk,hk1',e0,e1,e4,J0c,J00,z0,z1,z4,y0,y1,y4,x0,x1,x4,v0,v1,v4,q0,q1,q3,q4]
 first|refine J01 (J5p r.Result) (by first|simp [J15];done|rfl) ?_|refine J02 (J5p r.Result) (by first|simp [J15];done|rfl) ?_
 rintro r rfl
 unfold J6n
 cases g1:Jb0 r.Result
 ·simp
 simp [hk,hk1,hkk,hk1',e0,e1,e4,J0c,J00,z0,z1,z4,y0,y1,y4,x0,x1,x4,v0,v1,v4,q0,q1,q3,q4]
 cases g2:(r.Result.Lst==G.ListResult)
 ·have g2':¬r.Result.Lst=G.ListResult:=by simpa using g2
  simp [g2']
 have g2':r.Result.Lst=G.ListResult:=by simpa using g2
 simp [hk,hk1,hkk,hk1',e0,e1,e4,J0c,J00,z0,z1,z4,y0,y1,y4,x0,x1,x4,v0,v1,v4,q0,q1,q3,q4,g2']
 first|refine J01 (J8e r.Result wa) (by first|simp [J15,g2'];done|rfl) ?_|refine J02 (J8e r.Result wa) (by first|simp [J15,g2'];done|rfl) ?_
 rintro r rfl
 simp [hk,hk1,hkk,hk1',e0,e1,e4,J0c,J00,z0,z1,z4,y0,y1,y4,x0,x1,x4,v0,v1,v4,q0,q1,q3,q4,g2']
 first|refine J01 (J9g (J5d (J7c r.Result)) (J1m p r r.Calls.length)) (by first|simp [z0,z1,z4,y0,y1,y4,x0,x1,x4,v0,v1,v4,q0,q1,q3,q4];done|rfl) ?_|refine J02 (J9g (J5d (J7c r.Result)) (J1m p r r.Calls.length)) (by first|simp [z0,z1,z4,y0,y1,y4,x0,x1,x4,v0,v1,v4,q0,q1,q3,q4];done|rfl) ?_
 rintro r rfl
 cases g3:Jpq (J5d (J7c r.Result)) (J1m p r r.Calls.length)
 ·simp
 simp [z0,z1,z4,y0,y1,y4,x0,x1,x4,v0,v1,v4,q0,q1,q3,q4]
 first|refine J01 (J73 (J1m p r r.Calls.length)) (by first|simp [z0,z1,z4,y0,y1,y4,x0,x1,x4,v0,v1,v4,q0,q1,q3,q4];done|rfl) ?_|refine J02 (J73 (J1m p r r.Calls.length)) (by first|simp [z0,z1,z4,y0,y1,y4,x0,x1,x4,v0,v1,v4,q0,q1,q3,q4];done|rfl) ?_
 rintro r rfl
 simp
def a135:AFn:= ⟨75,[.t 4],(.seq (.reg [Zo 2 (.boxv (.t 0)),Zo 3 (.boxv (.t 1)),Zo 4 (.mv (.k (.bool false)))]) (.seq (.reg [Zl 10 true 2 2,Zf 11 0 3,Zl 12 false 1 11,Zc 13 172 [.t 10,.t 12],Zv 9 13,Zo 14 (.ext (.t 9) 0),Zo 15 (.ext (.t 9) 1),Zo 5 (.box [(.str []),(.nil 1),(.bool false),(.nil 2)]),⟨no,.st 4 (.t 5) (.t 14),no⟩,Zv 6 15]) (.seq (.seq (.draw (.op (Zv 16 6) (.op (Zo 17 (.un .not (.t 16))) (.op (Zv 18 17) (.op ⟨some 19,.ld true 4 (.t 5),(some (18,false))⟩ (.op ⟨some 20,.fld 1 (.t 3),(some (18,false))⟩ (.op ⟨some 21,.ld false 1 (.t 20),(some (18,false))⟩ (.op ⟨some 22,.call (.k (.fn (.func 219) [] [])) [.t 19,.t 21],(some (18,false))⟩ (.op ⟨some 23,.un .not (.t 22),(some (18,false))⟩ (.op (Zo 24 (.pick (.t 18) (.k (.bool true)) (.t 23))) (.op (Zv 25 24) (.op ⟨some 26,.fld 2 (.t 3),(some (25,false))⟩ (.op ⟨some 27,.ld false 1 (.t 26),(some (25,false))⟩ (.op ⟨some 28,.ld true 2 (.t 2),(some (25,false))⟩ (.op ⟨some 29,.ld true 7 (.t 3),(some (25,false))⟩ (.op ⟨some 30,.call (.k (.fn (.func 221) [] [])) [.t 28,.t 29,(.k (.int .i64 0))],(some (25,false))⟩ (.op ⟨some 31,.call (.k (.fn (.func 220) [] [])) [.t 27,.t 30],(some (25,false))⟩ (.op ⟨some 32,.un .not (.t 31),(some (25,false))⟩ (.op (Zo 33 (.pick (.t 25) (.k (.bool true)) (.t 32))) (.op (Zv 34 33) (.op ⟨some 35,.fld 3 (.t 3),(some (34,false))⟩ (.op ⟨some 36,.ld false 1 (.t 35),(some (34,false))⟩ (.op ⟨some 37,.len false (.t 36),(some (34,false))⟩ (.op ⟨some 38,.bin .gtr (.t 37) (.k (.int .i64 2)),(some (34,false))⟩ (.op (Zo 39 (.pick (.t 34) (.k (.bool true)) (.t 38))) .fin))))))))))))))))))))))))) (.cond (.t 39) (.seq (.reg [Zo 4 (.mv (.k (.bool false)))]) .ret) .skip)) (.seq (.seq (.reg [Zo 7 (.mv (.k (.int .i64 0)))]) (.blk 0 (.loop (.seq (.seq (.reg [Zv 40 7,Zf 41 3 3,Zl 42 false 1 41,Zo 43 (.len false (.t 42)),Zo 44 (.bin .lss (.t 40) (.t 43))]) (.cond (.t 44) .skip (.exit 0))) (.seq (.blk 1 (.seq (.draw (.op (Zl 47 true 2 2) (.op (Zf 48 3 3) (.op (Zl 49 false 1 48) (.op (Zv 50 7) (.op (Zo 51 (.ixa 3 (.t 49) (.t 50))) (.op (Zl 52 true 3 51) (.op (Zl 53 true 2 2) (.op (Zl 54 true 7 3) (.op (Zv 55 7) (.op (Zc 56 221 [.t 53,.t 54,.t 55]) (.op (Zc 57 222 [.t 47,.t 52,.t 56]) (.op (Zo 58 (.un .not (.t 57))) .fin))))))))))))) (.cond (.t 58) (.seq (.reg [Zo 4 (.mv (.k (.bool false)))]) .ret) .skip))) (.reg [Zv 45 7,Zo 46 (.bin .add (.t 45) (.k (.int .i64 1))),Zv 7 46])))))) (.seq (.reg [Zl 59 true 2 2,Zl 60 true 7 3,Zf 61 3 3,Zl 62 false 1 61,Zo 63 (.len false (.t 62)),Zc 64 221 [.t 59,.t 60,.t 63],Zv 8 64]) (.seq (.reg [Zf 65 4 3,Zl 66 true 3 65,Zf 67 2 5,Zl 68 false 1 67,Zv 69 8,Zc 70 223 [.t 66,.t 68,.t 69],Zv 71 70,⟨some 72,.mv (.t 8),(some (71,true))⟩,⟨some 73,.call (.k (.fn (.func 218) [] [])) [.t 72],(some (71,true))⟩,Zo 74 (.pick (.t 71) (.t 73) (.k (.bool false))),Zv 4 74]) .ret))))))⟩
theorem a135_ok:J06 Tryz.prog Tryz.f135=some a135:=by kernel_rfl
theorem J6d (p:DProgram) (r:DRule) (hp:J0k p≤1048576) (hr:J4v r≤1048576):Holds Tryz.prog 135 [.agg (J00 p),.agg (J0c r)] (fun x=>x = .bool (J7u p r)):=by
 obtain ⟨wg,wc,wa,lg,lc,lp,wgs⟩:=Jb1 hr
 refine J03 Tryz.func135 a135_ok rfl (by simp [a135]) ?_
 simp [a135,J00,J0c]
 first|refine J01 (J30 p r.Func hp) (by first|simp [J00];done|rfl) ?_|refine J02 (J30 p r.Func hp) (by first|simp [J00];done|rfl) ?_
 rintro r rfl
 unfold J7u
 generalize hG:(J1o p.Functions r.Func).getD fn0=G
 simp only [Jcg,hG]
 generalize hb1:(J1o p.Functions r.Func).isSome=b1
 simp [J0g]
 cases b1
 ·simp
 simp
 first|refine J01 (Jal G r.Patterns lp) (by first|simp [J04];done|rfl) ?_|refine J02 (Jal G r.Patterns lp) (by first|simp [J04];done|rfl) ?_
 rintro r rfl
 cases h1:J45 G.Params [] r.Patterns
 ·simp
 simp
 first|refine J01 (J79 p r 0 hp hr) (by first|simp [J00,J0c];done|rfl) ?_|refine J02 (J79 p r 0 hp hr) (by first|simp [J00,J0c];done|rfl) ?_
 rintro r rfl
 simp
 first|refine J01 (Jdj r.Guards (J1m p r 0) wgs) (by first|simp;done|rfl) ?_|refine J02 (Jdj r.Guards (J1m p r 0) wgs) (by first|simp;done|rfl) ?_
 rintro r rfl
 generalize hB1:r.Guards.all (J4e (J1m p r 0))=B1
 cases B1
 ·simp
 have hdg:decide (r.Guards.length≤2)=decide ((r.Guards.length:Int)≤2):=by rw [decide_eq_decide];omega
 by_cases h2n:r.Guards.length≤2
 case neg=>simp [h2n]
 simp [h2n]
 by_cases h3:(r.Calls.length:Int)≤2
 case neg=>
  have h3n:¬r.Calls.length≤2:=by omega
  simp [h3,h3n,Int.not_le.1 h3]
 have h3n:r.Calls.length≤2:=by omega
 simp [h3,h3n,Int.not_lt.2 h3]
 generalize hB2:J2m p r 0 r.Calls=B2
 refine J0l [2,3,5] 7 r.Calls.length (fun i s h n=>4<n∧h 0=some ⟨true,2,[J00 p]⟩∧h 1=some ⟨true,7,[J0c r]⟩∧h 4=some ⟨true,4,[[.str G.Name,.ref 2 0 G.Params.length,.bool G.ListResult,.ref 3 0 G.Pre.length]]⟩∧J2m p r i (r.Calls.drop i)=B2) (by unfold LIM;omega) (by simp) ⟨by simp,by simp [J00],by simp [J0c],by simp,by simpa using hB2⟩ ?_ ?_
 ·rintro i st h n R hi hg hk s7 hw ⟨hn,e0,e1,e4,hJ⟩ hR hret _
  simp at hk
  rw [Jan hi] at hJ
  have z0:¬0=n:=by omega
  have z1:¬1=n:=by omega
  have z4:¬4=n:=by omega
  have y0:¬0=n+1:=by omega
  have y1:¬1=n+1:=by omega
  have y4:¬4=n+1:=by omega
  have x0:¬0=n+1+1:=by omega
  have x1:¬1=n+1+1:=by omega
  have x4:¬4=n+1+1:=by omega
  have v0:¬n+1=n+1+1:=by omega
  have v1:¬n+1+1=n+1:=by omega
  have v4:¬n+1=n:=by omega
  have q0:¬n=0:=by omega
  have q1:¬n=1:=by omega
  have q3:¬n=3:=by omega
  have q4:¬n=4:=by omega
  refine J0b (J0i [2,3,5,7] (fun s=>s 44 = .bool true) (by simp [hk,s7,hi,e1,J0c]) ?_)
  intro st1 hk1 s44
  simp at hk1
  refine J25 s44 (J0b (J1h ?_))
  refine J1n [2,3,5,7] (fun s h' n'=>4<n'∧s 58 = .bool (!J9k p r.Calls[i] (J1m p r i))∧h' 0=some ⟨true,2,[J00 p]⟩∧h' 1=some ⟨true,7,[J0c r]⟩∧h' 4=some ⟨true,4,[[.str G.Name,.ref 2 0 G.Params.length,.bool G.ListResult,.ref 3 0 G.Pre.length]]⟩) ?_ ?_
  ·simp [hk,hk1,s7,hi,hg,e0,e1,e4,J00,J0c,z0,z1,z4,y0,y1,y4,x0,x1,x4,v0,v1,v4,q0,q1,q3,q4]
   first|refine J01 (J79 p r i hp hr) (by first|simp [J00,J0c];done|rfl) ?_|refine J02 (J79 p r i hp hr) (by first|simp [J00,J0c];done|rfl) ?_
   rintro r rfl
   simp [hk,hk1,s7,hi,e0,e1,e4,J00,J0c,z0,z1,z4,y0,y1,y4,x0,x1,x4,v0,v1,v4,q0,q1,q3,q4]
   first|refine J01 (J9t p (r.Calls[i]'hi) (J1m p r i) hp (wc _ (List.getElem_mem hi))) (by simp [J00,z0,z1,z4,y0,y1,y4,x0,x1,x4,v0,v1,v4,q0,q1,q3,q4]) ?_|refine J02 (J9t p (r.Calls[i]'hi) (J1m p r i) hp (wc _ (List.getElem_mem hi))) (by simp [J00,z0,z1,z4,y0,y1,y4,x0,x1,x4,v0,v1,v4,q0,q1,q3,q4]) ?_|refine J01 (J9t p (r.Calls[i]'hi) (J1m p r i) hp (wc _ (List.getElem_mem hi))) rfl ?_|refine J02 (J9t p (r.Calls[i]'hi) (J1m p r i) hp (wc _ (List.getElem_mem hi))) rfl ?_
   rintro r rfl
   simp [e0,e1,e4,J00,J0c,z0,z1,z4,y0,y1,y4,x0,x1,x4,v0,v1,v4,q0,q1,q3,q4]
   omega
  rintro st3 h3' n3 hk3 ⟨hn3,s58,e0'',e1'',e4''⟩
  simp at hk3
  generalize J9k p r.Calls[i] (J1m p r i)=D at *
  cases D
  ·rw [Bool.false_and] at hJ
   subst hJ
   simp [s58]
   refine hret _ _ _ ?_
   simp
  ·rw [Bool.true_and] at hJ
   simp [hk,hk1,hk3,s58,s7,hw]
   exact hR _ _ _ (by simp [hk,hk1,hk3]) (by simp) ⟨hn3,e0'',e1'',e4'',hJ⟩
 rintro st h n R hk s7 ⟨hn,e0,e1,e4,hJ⟩ hret hX
 simp at hk
 rw [List.drop_eq_nil_of_le (by omega)] at hJ
 refine J0b (J0i [2,3,5] (fun s=>s 44 = .bool false) (by simp [hk,s7,e1,J0c]) ?_)
 intro st1 hk1 s44
 simp at hk1
 refine J29 s44 ?_
 refine hX _ _ _ _ ?_
 simp [J2m] at hJ
 subst hJ
 clear hX hret hB2
 have z0:¬0=n:=by omega
 have z1:¬1=n:=by omega
 have z4:¬4=n:=by omega
 have y0:¬0=n+1:=by omega
 have y1:¬1=n+1:=by omega
 have y4:¬4=n+1:=by omega
 have x0:¬0=n+1+1:=by omega
 have x1:¬1=n+1+1:=by omega
 have x4:¬4=n+1+1:=by omega
 have v0:¬n+1=n+1+1:=by omega
 have v1:¬n+1+1=n+1:=by omega
 have v4:¬n+1=n:=by omega
 have q0:¬n=0:=by omega
 have q1:¬n=1:=by omega
 have q3:¬n=3:=by omega
 have q4:¬n=4:=by omega
 simp [hk,hk1,e0,e1,J0c,J00]
 intro _
 first|refine J01 (J79 p r r.Calls.length hp hr) (by first|simp [J00,J0c];done|rfl) ?_|refine J02 (J79 p r r.Calls.length hp hr) (by first|simp [J00,J0c];done|rfl) ?_
 rintro r rfl
 simp [hk,hk1,e0,e1,e4,J0c,J00,z0,z1,z4,y0,y1,y4,x0,x1,x4,v0,v1,v4,q0,q1,q3,q4]
 first|refine J01 (J6s r.Result G.ListResult (J1m p r r.Calls.length) wa) (by first|simp [J15,z0,z1,z4,y0,y1,y4,x0,x1,x4,v0,v1,v4,q0,q1,q3,q4];done|rfl) ?_|refine J02 (J6s r.Result G.ListResult (J1m p r r.Calls.length) wa) (by first|simp [J15,z0,z1,z4,y0,y1,y4,x0,x1,x4,v0,v1,v4,q0,q1,q3,q4];done|rfl) ?_
 rintro r rfl
 cases g1:J6n r.Result G.ListResult (J1m p r r.Calls.length)
 ·simp
 simp [z0,z1,z4,y0,y1,y4,x0,x1,x4,v0,v1,v4,q0,q1,q3,q4]
 first|refine J01 (J4m (J1m p r r.Calls.length)) (by first|simp [z0,z1,z4,y0,y1,y4,x0,x1,x4,v0,v1,v4,q0,q1,q3,q4];done|rfl) ?_|refine J02 (J4m (J1m p r r.Calls.length)) (by first|simp [z0,z1,z4,y0,y1,y4,x0,x1,x4,v0,v1,v4,q0,q1,q3,q4];done|rfl) ?_
 rintro r rfl
 simp
theorem a147_ok:J06 Tryz.prog Tryz.f147=some (J3c 235):=by kernel_rfl
theorem a235_ok:J06 Tryz.prog Tryz.f235=some (J4a true 7):=by kernel_rfl
def a217:AFn:= ⟨18,[.t 2],(.seq (.reg [Zo 2 (.mv (.k (.bool false)))]) (.seq (.seq (.reg [Zo 3 (.mv (.k (.int .i64 0)))]) (.blk 0 (.loop (.seq (.seq (.reg [Zv 4 3,Zv 5 0,Zo 6 (.len false (.t 5)),Zo 7 (.bin .lss (.t 4) (.t 6))]) (.cond (.t 7) .skip (.exit 0))) (.seq (.blk 1 (.seq (.reg [Zv 10 0,Zv 11 3,Zo 12 (.ixa 1 (.t 10) (.t 11)),Zl 13 false 1 12,Zc 14 285 [.t 13],Zo 15 (.un .not (.t 14))]) (.cond (.t 15) (.seq (.reg [Zo 2 (.mv (.k (.bool false)))]) .ret) .skip))) (.reg [Zv 8 3,Zo 9 (.bin .add (.t 8) (.k (.int .i64 1))),Zv 3 9])))))) (.seq (.reg [Zv 16 0,Zc 17 218 [.t 16],Zv 2 17]) .ret)))⟩
theorem a217_ok:J06 Tryz.prog Tryz.f217=some a217:=by kernel_rfl
def a142:AFn:= ⟨6,[.t 2],(.seq (.reg [Zo 2 (.mv (.k (.bool false)))]) (.seq (.reg [Zv 3 0,Zc 4 143 [.t 3],Zo 5 (.un .not (.t 4)),Zv 2 5]) .ret))⟩
theorem a142_ok:J06 Tryz.prog Tryz.f142=some a142:=by kernel_rfl
def a145:AFn:= ⟨10,[.t 3],(.seq (.reg [Zo 2 (.boxv (.t 0)),Zo 3 (.mv (.k (.bool false)))]) (.seq (.reg [Zl 4 true 2 2,Zf 5 1 1,Zl 6 false 1 5,Zo 7 (.len false (.t 6)),Zc 8 146 [.t 4,.t 7],Zo 9 (.un .not (.t 8)),Zv 3 9]) .ret))⟩
theorem a145_ok:J06 Tryz.prog Tryz.f145=some a145:=by kernel_rfl
def a148:AFn:= ⟨8,[.t 3],(.seq (.reg [Zo 2 (.boxv (.t 0)),Zo 3 (.mv (.k (.bool false)))]) (.seq (.reg [Zl 4 true 2 1,Zl 5 true 7 2,Zc 6 149 [.t 4,.t 5],Zo 7 (.un .not (.t 6)),Zv 3 7]) .ret))⟩
theorem a148_ok:J06 Tryz.prog Tryz.f148=some a148:=by kernel_rfl
def a67:AFn:= ⟨69,[.t 2],(.seq (.reg [Zo 1 (.boxv (.t 0)),Zo 2 (.mv (.k (.bool false)))]) (.seq (.seq (.reg [Zf 5 0 1,Zl 6 false 1 5,Zo 7 (.len false (.t 6)),Zc 8 102 [.t 7,(.k (.int .i64 1)),(.k (.int .i64 3))],Zo 9 (.un .not (.t 8)),Zv 10 9,⟨some 11,.fld 1 (.t 1),(some (10,false))⟩,⟨some 12,.ld false 1 (.t 11),(some (10,false))⟩,⟨some 13,.len false (.t 12),(some (10,false))⟩,⟨some 14,.bin .gtr (.t 13) (.k (.int .i64 8)),(some (10,false))⟩,Zo 15 (.pick (.t 10) (.k (.bool true)) (.t 14))]) (.cond (.t 15) (.seq (.reg [Zo 2 (.mv (.k (.bool false)))]) .ret) .skip)) (.seq (.seq (.reg [Zf 16 0 1,Zl 17 false 1 16,Zo 18 (.len false (.t 17)),Zo 19 (.mv (.k (.int .i64 0)))]) (.blk 0 (.loop (.seq (.reg [Zo 20 (.bin .lss (.t 19) (.t 18))]) (.seq (.cond (.t 20) .skip (.exit 0)) (.seq (.blk 1 (.seq (.reg [Zv 21 19,Zo 22 (.ixa 4 (.t 17) (.t 19)),Zl 23 true 4 22,Zo 4 (.box [(.str []),(.nil 1),(.bool false),(.nil 2)]),Zv 3 21,⟨no,.st 4 (.t 4) (.t 23),no⟩]) (.seq (.seq (.reg [Zf 24 0 4,Zl 25 false 1 24,Zc 26 140 [.t 25],Zo 27 (.un .not (.t 26)),Zv 28 27,⟨some 29,.ld true 2 (.t 1),(some (28,false))⟩,⟨some 30,.fld 0 (.t 4),(some (28,false))⟩,⟨some 31,.ld false 1 (.t 30),(some (28,false))⟩,⟨some 32,.call (.k (.fn (.func 84) [] [])) [.t 29,.t 31],(some (28,false))⟩,⟨some 33,.mv (.t 3),(some (28,false))⟩,⟨some 34,.bin .neq (.t 32) (.t 33),(some (28,false))⟩,Zo 35 (.pick (.t 28) (.k (.bool true)) (.t 34)),Zv 36 35,⟨some 37,.fld 1 (.t 4),(some (36,false))⟩,⟨some 38,.ld false 1 (.t 37),(some (36,false))⟩,⟨some 39,.len false (.t 38),(some (36,false))⟩,⟨some 40,.bin .gtr (.t 39) (.k (.int .i64 2)),(some (36,false))⟩,Zo 41 (.pick (.t 36) (.k (.bool true)) (.t 40)),Zv 42 41,⟨some 43,.fld 1 (.t 4),(some (42,false))⟩,⟨some 44,.ld false 1 (.t 43),(some (42,false))⟩,⟨some 45,.call (.k (.fn (.func 141) [] [])) [.t 44],(some (42,false))⟩,⟨some 46,.un .not (.t 45),(some (42,false))⟩,Zo 47 (.pick (.t 42) (.k (.bool true)) (.t 46)),Zv 48 47,⟨some 49,.fld 3 (.t 4),(some (48,false))⟩,⟨some 50,.ld false 1 (.t 49),(some (48,false))⟩,⟨some 51,.len false (.t 50),(some (48,false))⟩,⟨some 52,.bin .gtr (.t 51) (.k (.int .i64 2)),(some (48,false))⟩,Zo 53 (.pick (.t 48) (.k (.bool true)) (.t 52))]) (.cond (.t 53) (.seq (.reg [Zo 2 (.mv (.k (.bool false)))]) .ret) .skip)) (.seq (.reg [Zf 54 1 4,Zl 55 false 1 54,Zc 56 69 [.t 55,(.k (.fn (.func 142) [] []))],Zv 57 56,⟨some 58,.fld 3 (.t 4),(some (57,false))⟩,⟨some 59,.ld false 1 (.t 58),(some (57,false))⟩,⟨some 60,.mkf (.func 145) [] [.t 4],(some (57,false))⟩,⟨some 61,.call (.k (.fn (.func 144) [] [])) [.t 59,.t 60],(some (57,false))⟩,Zo 62 (.pick (.t 57) (.k (.bool true)) (.t 61))]) (.cond (.t 62) (.seq (.reg [Zo 2 (.mv (.k (.bool false)))]) .ret) .skip))))) (.reg [Zo 63 (.bin .add (.t 19) (.k (.int .i64 1))),Zv 19 63]))))))) (.seq (.reg [Zf 64 1 1,Zl 65 false 1 64,Zo 66 (.mkf (.func 148) [] [.t 1]),Zc 67 147 [.t 65,.t 66],Zo 68 (.un .not (.t 67)),Zv 2 68]) .ret))))⟩
theorem a67_ok:J06 Tryz.prog Tryz.f67=some a67:=by kernel_rfl
theorem Jhp (l:List Str):Holds Tryz.prog 217 [.sl 1 (J0a l)] (fun r=>r = .bool (l.all J3v&&J8k l)):=by
 refine J1l Tryz.func217 rfl rfl fun hl => ?_
 simp at hl
 refine J03 Tryz.func217 a217_ok rfl (by simp [a217]) ?_
 simp [a217]
 generalize hB:l.all J3v=B
 refine J60 [0] 3 l.length (fun i _=>(l.drop i).all J3v=B) hl (by simp) (by simpa using hB) ?_ ?_
 ·rintro i st h R hi hg hk s3 hw hJ hh hR hret _
  simp at hk
  rw [List.drop_eq_getElem_cons hi,List.all_cons] at hJ
  simp [hk,s3,hi,hg]
  intro _
  first|refine J01 (J3e (l[i]'hi)) (by first|simp;done|rfl) ?_|refine J02 (J3e (l[i]'hi)) (by first|simp;done|rfl) ?_
  rintro r rfl
  cases hc:J3v l[i]
  ·rw [hc,Bool.false_and] at hJ
   subst hJ
   simp
   refine hret _ _ _ ?_
   simp
  ·rw [hc,Bool.true_and] at hJ
   simp [hk,s3,hw]
   exact hR _ (by simp [hk]) (by simp) hJ
 ·rintro st h R hk s3 hJ hh _ hX
  simp at hk
  rw [List.drop_eq_nil_of_le (by omega)] at hJ
  simp at hJ
  subst hJ
  simp [hk,s3]
  intro _
  refine hX _ _ ?_
  simp [hk]
  first|refine J01 (J4m l) (by first|simp;done|rfl) ?_|refine J02 (J4m l) (by first|simp;done|rfl) ?_
  rintro r rfl
  simp
theorem K9t (s:Str):Holds Tryz.prog 142 [.str s] (fun r=>r = .bool (!J3v s)):=by
 refine J03 Tryz.func142 a142_ok rfl (by simp [a142]) ?_
 simp [a142]
 first|refine J01 (J51 s) (by first|simp;done|rfl) ?_|refine J02 (J51 s) (by first|simp;done|rfl) ?_
 rintro r rfl
 simp
theorem Jwg {h:Heap}{n id:Nat}{f:DFunction}(x:DLin) (hv:h id=some ⟨true,4,[J04 f]⟩) (hid:id<n):Jgt Tryz.prog 145 [] [.ptr id 0 0] h n (.agg (J05 x)) (.bool (!J1q x f.Params.length)):=by
 intro K hK
 refine J9x ?_
 refine J17 Tryz.func145 a145_ok rfl (by simp [a145]) ?_
 have n1:¬id=n:=by omega
 simp [a145,hv,n1,J05,J04]
 intro _
 first|refine J01 (J1p x f.Params.length) (by first|simp [J05];done|rfl) ?_|refine J02 (J1p x f.Params.length) (by first|simp [J05];done|rfl) ?_
 rintro r rfl
 simp [Jeq,hK]
 intro j hj hj'
 omega
theorem Jv8 {h:Heap}{n id:Nat}{p:DProgram}(x:DRule) (hp:J0k p≤1048576) (hx:J4v x≤1048576) (hv:h id=some ⟨true,2,[J00 p]⟩) (hid:id<n):Jgt Tryz.prog 148 [] [.ptr id 0 0] h n (.agg (J0c x)) (.bool (!J7u p x)):=by
 intro K hK
 refine J9x ?_
 refine J17 Tryz.func148 a148_ok rfl (by simp [a148]) ?_
 have n1:¬id=n:=by omega
 simp [a148,hv,n1,J0c,J00]
 first|refine J01 (Jbf p x hp hx) (by first|simp [J0c,J00];done|rfl) ?_|refine J02 (Jbf p x hp hx) (by first|simp [J0c,J00];done|rfl) ?_
 rintro r rfl
 simp [Jeq,hK]
 intro j hj hj'
 omega
theorem Ja8 {p:DProgram}(hp:J0k p≤1048576):∀ r∈p.Rules,J4v r≤1048576:=fun r hr=>by
 have:=J4b (w:=J4v) hr
 unfold J0k J94 at hp
 omega
theorem Jjo {met:List Str}{l:List DFunction}{i:Nat}(hi:i<l.length):J8p met (l.drop i)=((Jlq l[i] && !J2p met (l[i]).Name)&&J8p (met++[(l[i]).Name]) (l.drop (i+1))):=by
 rw [List.drop_eq_getElem_cons hi];rfl
def Jiy (l:List DFunction) (i:Nat):List Str:=(l.take i).map (·.Name)
theorem Jkw {l:List DFunction}{i:Nat}(hi:i<l.length):Jiy l (i+1)=Jiy l i++[(l[i]).Name]:=by unfold Jiy;rw [List.take_succ_eq_append_getElem hi,List.map_append];rfl
theorem J2q (p:DProgram) (hp:J0k p≤1048576):Holds Tryz.prog 67 [.agg (J00 p)] (fun x=>x = .bool (J2s p)):=by
 have hlf:p.Functions.length≤1048576:=by have:=J2b J0v p.Functions;unfold J0k J1x at hp;omega
 refine J03 Tryz.func67 a67_ok rfl (by simp [a67]) ?_
 simp [a67,J00]
 intro _
 first|refine J01 (J24 p.Functions.length 1 3) (by first|simp;done|rfl) ?_|refine J02 (J24 p.Functions.length 1 3) (by first|simp;done|rfl) ?_
 rintro r rfl
 unfold J2s
 cases h1:inR p.Functions.length 1 3
 ·simp
 simp
 intro _
 have hdg:decide (p.Rules.length≤8)=decide ((p.Rules.length:Int)≤8):=by rw [decide_eq_decide];omega
 by_cases h2:(p.Rules.length:Int)≤8
 case neg=>
  have h2n:¬p.Rules.length≤8:=by omega
  simp [h2,h2n,Int.not_le.1 h2]
 have h2n:p.Rules.length≤8:=by omega
 simp [h2,h2n,Int.not_lt.2 h2]
 intro _
 generalize hB:J8p [] p.Functions=B
 refine J0l [1,17,18] 19 p.Functions.length (fun i s h n=>0<n∧h 0=some ⟨true,2,[J00 p]⟩∧J8p (Jiy p.Functions i) (p.Functions.drop i)=B) (by unfold LIM;omega) (by simp) ⟨by simp,by simp [J00],by simpa [Jiy] using hB⟩ ?_ ?_
 ·rintro i st h n R hi hg hk s19 hw ⟨hn,e0,hJ⟩ hR hret _
  simp at hk
  rw [Jjo hi,←Jkw hi] at hJ
  have z0:¬0=n:=by omega
  have z1:¬n=0:=by omega
  refine J0i [1,17,18,19] (fun s=>s 20 = .bool true) (by simp [hk,s19,hi]) ?_
  intro st1 hk1 s20
  simp at hk1
  refine J3x s20 (J0b (J1h ?_))
  refine J1n [1,17,18,19] (fun s h' n'=>s 3 = .int .i64 i∧s 4 = .ptr n 0 0∧n'=n+1∧h' n=some ⟨true,4,[J04 p.Functions[i]]⟩∧h' 0=some ⟨true,2,[J00 p]⟩) (by simp [hk,hk1,s19,hi,J04,e0,z0,z1]) ?_
  rintro st2 h2' n2 hk2 ⟨s3,s4,rfl,en,e0'⟩
  simp at hk2
  generalize hf:p.Functions[i]=f at *
  refine J0b (J0i [1,3,4,17,18,19] (fun s=>s 53 = .bool (!J2o f.Name||J2p (Jiy p.Functions i) f.Name || !decide (f.Params.length≤2) || !J8k f.Params || !decide (f.Pre.length≤2))) ?_ ?_)
  ·have hdp:decide (f.Params.length≤2)=decide ((f.Params.length:Int)≤2):=by rw [decide_eq_decide];omega
   have hdq:decide (f.Pre.length≤2)=decide ((f.Pre.length:Int)≤2):=by rw [decide_eq_decide];omega
   rw [hdp,hdq]
   simp [hk,hk1,hk2,s4,s3,en,e0',J04,z0,z1]
   first|refine J01 (J4y f.Name) (by first|simp;done|rfl) ?_|refine J02 (J4y f.Name) (by first|simp;done|rfl) ?_
   rintro r rfl
   cases g1:J2o f.Name
   ·simp
   simp [hk,hk1,hk2,s4,s3,en,e0',J04,J00,z0,z1]
   first|refine J01 (J2r p f.Name) (by first|simp [J00];done|rfl) ?_|refine J02 (J2r p f.Name) (by first|simp [J00];done|rfl) ?_
   rintro r rfl
   have hidx:=Jrc hi
   rw [hf] at hidx
   rw [show List.map (·.Name) (List.take i p.Functions)=Jiy p.Functions i from rfl] at hidx
   generalize J0t (fun g=>g.Name==f.Name) p.Functions 0=k1 at hidx
   cases g2:J2p (Jiy p.Functions i) f.Name
   case true=>
    rw [g2] at hidx
    have hk1n:¬k1=(i:Int):=by simpa using hidx
    simp [hk1n,s3]
   rw [g2] at hidx
   have hk1n:k1=(i:Int):=by simpa using hidx
   subst hk1n
   simp [hk,hk1,hk2,s4,s3,en,e0',J04,J00,z0,z1]
   intro _
   by_cases g3:(f.Params.length:Int)≤2
   case neg=>simp [g3,Int.not_le.1 g3]
   simp [g3,Int.not_lt.2 g3,hk,hk1,hk2,s4,s3,en,e0',J04,J00,z0,z1]
   first|refine J01 (J73 f.Params) (by first|simp;done|rfl) ?_|refine J02 (J73 f.Params) (by first|simp;done|rfl) ?_
   rintro r rfl
   cases g4:J8k f.Params
   ·simp
   simp [hk,hk1,hk2,s4,s3,en,e0',J04,J00,z0,z1]
   intro _
   by_cases g5:(f.Pre.length:Int)≤2
   ·simp [g5,Int.not_lt.2 g5]
   ·simp [g5,Int.not_le.1 g5]
  intro st3 hk3 s53
  simp at hk3
  generalize hcc:(!J2o f.Name||J2p (Jiy p.Functions i) f.Name || !decide (f.Params.length≤2) || !J8k f.Params || !decide (f.Pre.length≤2))=cc at *
  have hbody:(Jlq f && !J2p (Jiy p.Functions i) f.Name)=(!cc&&(f.Params.all J3v&&f.Pre.all fun l=>J1q l f.Params.length)):=by
   rw [←hcc]
   unfold Jlq
   cases J2o f.Name <;> cases J2p (Jiy p.Functions i) f.Name <;> cases decide (f.Params.length≤2) <;> cases J8k f.Params <;> cases decide (f.Pre.length≤2) <;> cases f.Params.all J3v <;> simp
  rw [hbody] at hJ
  clear hbody hcc
  cases cc
  case true=>
   simp at hJ
   simp [s53]
   refine hret _ _ _ ?_
   simp [hJ]
  refine Jj2 s53 ?_
  simp only [J5u]
  simp only [Bool.not_false,Bool.true_and] at hJ
  refine J0i [1,3,4,17,18,19] (fun s=>s 62 = .bool (!(f.Params.all J3v&&f.Pre.all fun l=>J1q l f.Params.length))) ?_ ?_
  ·simp [hk,hk1,hk2,hk3,s4,s3,en,e0',J04,z0,z1]
   refine J1t (p:=fun s => !J3v s) (rowOf:=fun s=>[.str s]) (eltOf:=fun s => .str s) Tryz.func69 a69_ok rfl Tryz.func150 a150_ok rfl (fun x=>by simp) f.Params
    (fun s _=>J83 (K9t s) rfl rfl) ?_
   rw [Jaz]
   cases g1:f.Params.all J3v
   ·simp
   simp [hk,hk1,hk2,hk3,s4,s3,en,e0',J04,z0,z1]
   refine J1t (p:=fun l => !J1q l f.Params.length) (rowOf:=J05) (eltOf:=fun l => .agg (J05 l)) Tryz.func144 a144_ok rfl Tryz.func231 a231_ok rfl (fun x=>by simp) f.Pre
    (fun x _=>Jwg (f:=f) x en (Nat.lt_succ_self n)) ?_
   rw [Jaz]
   simp
  intro st4 hk4 s62
  simp at hk4
  generalize (f.Params.all J3v&&f.Pre.all fun l=>J1q l f.Params.length)=D at *
  cases D
  ·rw [Bool.false_and] at hJ
   subst hJ
   simp [s62]
   refine hret _ _ _ ?_
   simp
  ·rw [Bool.true_and] at hJ
   simp [hk,hk1,hk2,hk3,hk4,s62,s19,hw]
   exact hR _ _ _ (by simp [hk,hk1,hk2,hk3,hk4]) (by simp) ⟨by omega,e0',hJ⟩
 rintro st h n R hk s19 ⟨hn,e0,hJ⟩ hret hX
 simp at hk
 rw [List.drop_eq_nil_of_le (by omega)] at hJ
 refine J0i [1] (fun s=>s 20 = .bool false) (by simp [hk,s19]) ?_
 intro st1 hk1 s20
 simp at hk1
 refine J3s s20 ?_
 refine hX _ _ _ _ ?_
 simp [J8p] at hJ
 subst hJ
 clear hX hret hB
 simp [hk,hk1,e0,J00]
 refine J1t (p:=fun r => !J7u p r) (rowOf:=J0c) (eltOf:=fun r => .agg (J0c r)) Tryz.func147 a147_ok rfl Tryz.func235 a235_ok rfl (fun x=>by simp) p.Rules
  (fun x hx=>Jv8 x hp (Ja8 hp x hx) e0 hn) ?_
 rw [Jaz]
 simp
def mo0:AC:=(.reg [Zo 2 (.boxv (.t 0)),Zo 4 (.box [(.int .i64 0),(.nil 2),(.nil 2),(.nil 1),(.int .i64 0),(.nil 1)]),Zo 5 (.mv (.k (.bool false)))])
def mo1:AC:=(.seq (.reg [Zl 40 true 2 2,Zc 41 67 [.t 40],Zo 42 (.un .not (.t 41)),Zv 43 42,⟨some 44,.mv (.t 1),(some (43,false))⟩,⟨some 45,.fld 1 (.t 2),(some (43,false))⟩,⟨some 46,.ld false 1 (.t 45),(some (43,false))⟩,⟨some 47,.len false (.t 46),(some (43,false))⟩,⟨some 48,.bin .sub (.t 47) (.k (.int .i64 1)),(some (43,false))⟩,⟨some 49,.call (.k (.fn (.func 102) [] [])) [.t 44,(.k (.int .i64 0)),.t 48],(some (43,false))⟩,⟨some 50,.un .not (.t 49),(some (43,false))⟩,Zo 51 (.pick (.t 43) (.k (.bool true)) (.t 50))]) (.cond (.t 51) (.seq (.reg [Zo 52 (.build [(.int .i64 0),(.nil 2),(.nil 2),(.nil 1),(.int .i64 0),(.nil 1)] []),⟨no,.st 6 (.t 4) (.t 52),no⟩,Zo 5 (.mv (.k (.bool false)))]) .ret) .skip))
def mo2:AC:=(.reg [Zf 53 1 2,Zl 54 false 1 53,Zv 55 1,Zo 56 (.ixa 7 (.t 54) (.t 55)),Zl 57 true 7 56,Zo 6 (.box [(.str []),(.nil 4),(.nil 2),(.nil 3),(.bool false),(.nil 2),(.str [])]),⟨no,.st 7 (.t 6) (.t 57),no⟩])
def mo3:AC:=(.reg [Zl 59 true 2 2,Zf 60 0 6,Zl 61 false 1 60,Zc 62 176 [.t 59,.t 61],Zv 58 62,Zo 63 (.ext (.t 58) 0),Zo 64 (.ext (.t 58) 1),Zo 7 (.box [(.str []),(.nil 1),(.bool false),(.nil 2)]),⟨no,.st 4 (.t 7) (.t 63),no⟩,Zv 8 64])
def mo4:AC:=(.reg [Zf 65 1 7,Zl 66 false 1 65,Zo 67 (.len false (.t 66)),Zf 68 3 6,Zl 69 false 1 68,Zo 70 (.len false (.t 69)),Zo 71 (.bin .add (.t 67) (.t 70)),Zo 9 (.box [(.int .i64 0)]),⟨no,.st 1 (.t 9) (.t 71),no⟩])
def mo5:AC:=(.seq (.reg [Zf 72 1 6,Zl 73 false 1 72,Zo 74 (.len false (.t 73)),Zo 75 (.mv (.k (.int .i64 0)))]) (.blk 0 (.loop (.seq (.reg [Zo 76 (.bin .lss (.t 75) (.t 74))]) (.seq (.cond (.t 76) .skip (.exit 0)) (.seq (.blk 1 (.seq (.reg [Zo 77 (.ixa 4 (.t 73) (.t 75)),Zl 78 true 4 77,Zo 11 (.box [(.str []),(.bool false),(.str []),(.str [])]),⟨no,.st 4 (.t 11) (.t 78),no⟩]) (.seq (.reg [Zf 79 1 11,Zl 80 false 1 79]) (.cond (.t 80) (.reg [Zl 81 false 1 9,Zo 82 (.bin .add (.t 81) (.k (.int .i64 1))),⟨no,.st 1 (.t 9) (.t 82),no⟩]) .skip)))) (.reg [Zo 83 (.bin .add (.t 75) (.k (.int .i64 1))),Zv 75 83])))))))
def mo6:AC:=(.reg [Zl 84 false 1 9,Zo 85 (.build [(.int .i64 0),(.nil 2)] [(0,(1,(.t 84)))]),Zo 86 (.build [(.int .i64 0),(.nil 2),(.nil 2),(.nil 1),(.int .i64 0),(.nil 1)] [(0,(2,(.t 85)))]),Zo 12 (.box [(.int .i64 0),(.nil 2),(.nil 2),(.nil 1),(.int .i64 0),(.nil 1)]),⟨no,.st 6 (.t 12) (.t 86),no⟩])
def mo7:AC:=(.reg [Zo 87 (.mmk),Zo 13 (.box [.undef]),⟨no,.st 1 (.t 13) (.t 87),no⟩])
def mo8:AC:=(.reg [Zo 14 (.box [(.int .i64 0)]),⟨no,.st 1 (.t 14) (.k (.int .i64 0)),no⟩])
def mo9:AC:=(.reg [Zo 88 (.mkf (.func 202) [] [.t 14,.t 9,.t 13]),Zv 15 88])
def Kdr:AC:=(.reg [Zo 89 (.mkf (.func 204) [] [.t 12]),Zv 16 89])
def Jz9:AC:=(.draw (.op (Zf 100 2 12) (.op (Zl 101 false 1 100) (.op (Zl 102 true 2 19) (.op (Zc 103 86 [.t 102]) (.hop (Zo 104 (.bsl 2 [.t 103])) [(.ld false 1 (.t 100)),(.fld 2 (.t 12))] (.hop (Zo 105 (.app 32 2 (.t 101) (.t 104))) [] (.op (Zf 106 2 12) (.hop ⟨no,.st 1 (.t 106) (.t 105),no⟩ [] .fin)))))))))
def K8v:AC:=(.seq (.reg [Zf 90 1 7,Zl 91 false 1 90,Zo 92 (.len false (.t 91)),Zo 93 (.mv (.k (.int .i64 0)))]) (.blk 2 (.loop (.seq (.reg [Zo 94 (.bin .lss (.t 93) (.t 92))]) (.seq (.cond (.t 94) .skip (.exit 2)) (.seq (.blk 3 (.seq (.reg [Zo 95 (.ixa 1 (.t 91) (.t 93)),Zl 96 false 1 95,Zv 18 96]) (.seq (.reg [Zv 97 15,Zv 98 18,Zo 99 (.call (.t 97) [.t 98]),Zo 19 (.box [(.int .i64 0),(.nil 1)]),⟨no,.st 2 (.t 19) (.t 99),no⟩]) (.seq Jz9 (.seq (.reg [Zv 107 18,Zc 108 205 [.t 107]]) (.cond (.t 108) (.reg [Zv 109 16,Zl 110 true 2 19,Zo 111 (.call (.t 109) [.t 110])]) .skip)))))) (.reg [Zo 112 (.bin .add (.t 93) (.k (.int .i64 1))),Zv 93 112])))))))
def K9s:AC:=(.seq (.reg [Zf 113 3 7,Zl 114 false 1 113,Zo 115 (.len false (.t 114)),Zo 116 (.mv (.k (.int .i64 0)))]) (.blk 4 (.loop (.seq (.reg [Zo 117 (.bin .lss (.t 116) (.t 115))]) (.seq (.cond (.t 117) .skip (.exit 4)) (.seq (.blk 5 (.seq (.reg [Zo 118 (.ixa 2 (.t 114) (.t 116)),Zl 119 true 2 118,Zo 21 (.box [(.int .i64 0),(.nil 1)]),⟨no,.st 2 (.t 21) (.t 119),no⟩]) (.seq (.reg [Zl 121 true 2 21,Zf 122 2 12,Zl 123 false 1 122,Zl 124 false 1 9,Zc 125 191 [.t 121,.t 123,.t 124],Zv 120 125,Zo 126 (.ext (.t 120) 0),Zo 127 (.ext (.t 120) 1),Zo 22 (.box [(.int .i64 0),(.nil 1)]),⟨no,.st 2 (.t 22) (.t 126),no⟩,Zv 23 127]) (.seq (.seq (.reg [Zv 128 23,Zo 129 (.un .not (.t 128))]) (.cond (.t 129) (.seq (.reg [Zo 130 (.build [(.int .i64 0),(.nil 2),(.nil 2),(.nil 1),(.int .i64 0),(.nil 1)] []),⟨no,.st 6 (.t 4) (.t 130),no⟩,Zo 5 (.mv (.k (.bool false)))]) .ret) .skip)) (.reg [Zv 131 16,Zl 132 true 2 22,Zo 133 (.call (.t 131) [.t 132])]))))) (.reg [Zo 134 (.bin .add (.t 116) (.k (.int .i64 1))),Zv 116 134])))))))
def K00:AC:=(.draw (.op (Zl 146 false 1 9) (.op (Zl 148 false 1 13) (.op (Zf 149 0 25) (.op (Zl 150 false 1 149) (.op (Zo 151 (.mget (.agg [(.int .i64 0),(.nil 1)]) (.t 148) (.t 150))) (.both (.op (Zc 147 178 [(.k (.int .i64 0)),.t 146]) (.both (.op (Zc 152 193 [.t 147,(.k (.int .i64 (-1))),.t 151]) (.op (Zv 145 152) (.op (Zo 153 (.ext (.t 145) 0)) (.op (Zo 154 (.ext (.t 145) 1)) (.op (Zo 26 (.box [(.int .i64 0),(.nil 1)])) (.hop ⟨no,.st 2 (.t 26) (.t 153),no⟩ [] (.op (Zv 27 154) .fin))))))) (.op (Zo 26 (.box [(.int .i64 0),(.nil 1)])) (.op (Zc 152 193 [.t 147,(.k (.int .i64 (-1))),.t 151]) (.op (Zv 145 152) (.op (Zo 153 (.ext (.t 145) 0)) (.op (Zo 154 (.ext (.t 145) 1)) (.hop ⟨no,.st 2 (.t 26) (.t 153),no⟩ [] (.op (Zv 27 154) .fin))))))))) (.op (Zo 26 (.box [(.int .i64 0),(.nil 1)])) (.op (Zc 147 178 [(.k (.int .i64 0)),.t 146]) (.op (Zc 152 193 [.t 147,(.k (.int .i64 (-1))),.t 151]) (.op (Zv 145 152) (.op (Zo 153 (.ext (.t 145) 0)) (.op (Zo 154 (.ext (.t 145) 1)) (.hop ⟨no,.st 2 (.t 26) (.t 153),no⟩ [] (.op (Zv 27 154) .fin)))))))))))))))
def Kab:AC:=(.seq (.reg [Zf 135 1 6,Zl 136 false 1 135,Zo 137 (.len false (.t 136)),Zo 138 (.mv (.k (.int .i64 0)))]) (.blk 6 (.loop (.seq (.reg [Zo 139 (.bin .lss (.t 138) (.t 137))]) (.seq (.cond (.t 139) .skip (.exit 6)) (.seq (.blk 7 (.seq (.reg [Zo 140 (.ixa 4 (.t 136) (.t 138)),Zl 141 true 4 140,Zo 25 (.box [(.str []),(.bool false),(.str []),(.str [])]),⟨no,.st 4 (.t 25) (.t 141),no⟩]) (.seq (.seq (.reg [Zf 142 1 25,Zl 143 false 1 142,Zo 144 (.un .not (.t 143))]) (.cond (.t 144) (.seq K00 (.seq (.reg [Zv 155 16,Zl 156 true 2 26,Zo 157 (.call (.t 155) [.t 156])]) (.exit 7))) .skip)) (.seq (.reg [Zv 158 15,Zf 159 2 25,Zl 160 false 1 159,Zo 161 (.call (.t 158) [.t 160])]) (.seq (.reg [Zl 163 false 1 13,Zf 164 0 25,Zl 165 false 1 164,Zo 166 (.mget (.agg [(.int .i64 0),(.nil 1)]) (.t 163) (.t 165)),Zc 167 189 [.t 166,(.k (.int .i64 (-1)))],Zv 162 167,Zo 168 (.ext (.t 162) 0),Zo 169 (.ext (.t 162) 1),Zo 28 (.box [(.int .i64 0),(.nil 1)]),⟨no,.st 2 (.t 28) (.t 168),no⟩,Zv 29 169]) (.seq (.reg [Zl 170 false 1 13,Zf 171 3 25,Zl 172 false 1 171,Zl 173 true 2 28,⟨no,.mput (.t 170) (.t 172) (.t 173),no⟩]) (.reg [Zv 174 16,Zl 175 true 2 28,Zo 176 (.call (.t 174) [.t 175])]))))))) (.reg [Zo 177 (.bin .add (.t 138) (.k (.int .i64 1))),Zv 138 177])))))))
def K9o:AC:=(.seq (.reg [Zf 178 2 6,Zl 179 false 1 178,Zo 180 (.len false (.t 179)),Zo 181 (.mv (.k (.int .i64 0)))]) (.blk 8 (.loop (.seq (.reg [Zo 182 (.bin .lss (.t 181) (.t 180))]) (.seq (.cond (.t 182) .skip (.exit 8)) (.seq (.blk 9 (.seq (.reg [Zo 183 (.ixa 2 (.t 179) (.t 181)),Zl 184 true 2 183,Zo 31 (.box [(.int .i64 0),(.nil 2)]),⟨no,.st 2 (.t 31) (.t 184),no⟩]) (.reg [Zv 185 16,Zl 186 false 1 13,Zl 187 true 2 31,Zl 188 false 1 9,Zc 189 206 [.t 186,.t 187,.t 188],Zo 190 (.call (.t 185) [.t 189])]))) (.reg [Zo 191 (.bin .add (.t 181) (.k (.int .i64 1))),Zv 181 191])))))))
def Jzq:AC:=(.seq (.reg [Zf 199 2 33,Zl 200 false 1 199,Zo 201 (.len false (.t 200)),Zo 202 (.mv (.k (.int .i64 0)))]) (.blk 12 (.loop (.seq (.reg [Zo 203 (.bin .lss (.t 202) (.t 201))]) (.seq (.cond (.t 203) .skip (.exit 12)) (.seq (.blk 13 (.seq (.reg [Zo 204 (.ixa 3 (.t 200) (.t 202)),Zl 205 true 3 204,Zo 36 (.box [(.bool false),(.nil 2),(.str [])]),⟨no,.st 3 (.t 36) (.t 205),no⟩]) (.reg [Zv 206 34,Zl 207 false 1 13,Zl 208 true 3 36,Zl 209 false 1 9,Zc 210 207 [.t 207,.t 208,.t 209],Zo 211 (.bsl 2 [.t 210]),Zo 212 (.app 32 2 (.t 206) (.t 211)),Zv 34 212]))) (.reg [Zo 213 (.bin .add (.t 202) (.k (.int .i64 1))),Zv 202 213])))))))
def Jzc:AC:=(.reg [Zf 214 3 12,Zl 215 false 1 214,Zv 216 34,Zo 217 (.bsl 1 [.t 216]),Zo 218 (.app 24 1 (.t 215) (.t 217)),Zf 219 3 12,⟨no,.st 1 (.t 219) (.t 218),no⟩])
def K8t:AC:=(.seq (.reg [Zf 192 3 6,Zl 193 false 1 192,Zo 194 (.len false (.t 193)),Zo 195 (.mv (.k (.int .i64 0)))]) (.blk 10 (.loop (.seq (.reg [Zo 196 (.bin .lss (.t 195) (.t 194))]) (.seq (.cond (.t 196) .skip (.exit 10)) (.seq (.blk 11 (.seq (.reg [Zo 197 (.ixa 3 (.t 193) (.t 195)),Zl 198 true 3 197,Zo 33 (.box [(.str []),(.str []),(.nil 3)]),⟨no,.st 3 (.t 33) (.t 198),no⟩]) (.seq (.reg [Zo 34 (.mv (.k (.nil 2)))]) (.seq Jzq (.seq  Jzc (.seq (.reg [Zv 220 15,Zf 221 0 33,Zl 222 false 1 221,Zo 223 (.call (.t 220) [.t 222]),Zo 37 (.box [(.int .i64 0),(.nil 1)]),⟨no,.st 2 (.t 37) (.t 223),no⟩]) (.seq (.reg [Zl 225 true 2 2,Zf 226 1 33,Zl 227 false 1 226,Zc 228 176 [.t 225,.t 227],Zv 224 228,Zo 229 (.ext (.t 224) 0),Zo 230 (.ext (.t 224) 1),Zo 38 (.box [(.str []),(.nil 1),(.bool false),(.nil 2)]),⟨no,.st 4 (.t 38) (.t 229),no⟩,Zv 39 230]) (.seq (.reg [Zf 231 2 38,Zl 232 false 1 231]) (.cond (.t 232) (.reg [Zv 233 16,Zl 234 true 2 37,Zo 235 (.call (.t 233) [.t 234])]) .skip))))))))) (.reg [Zo 236 (.bin .add (.t 195) (.k (.int .i64 1))),Zv 195 236])))))))
def Ke7:AC:=(.reg [Zl 237 false 1 13,Zf 238 4 6,Zl 239 true 3 238,Zl 240 false 1 9,Zc 241 207 [.t 237,.t 239,.t 240],Zf 242 4 12,⟨no,.st 2 (.t 242) (.t 241),no⟩])
def Ke4:AC:=(.reg [Zl 243 true 6 12,⟨no,.st 6 (.t 4) (.t 243),no⟩,Zo 5 (.mv (.k (.bool true)))])
def a126:AFn:=⟨244,[(.c 4 true 6),.t 5],(.seq mo0 (.seq mo1 (.seq mo2 (.seq mo3 (.seq mo4 (.seq mo5 (.seq mo6 (.seq mo7 (.seq mo8 (.seq mo9 (.seq Kdr (.seq K8v (.seq K9s (.seq Kab (.seq K9o (.seq K8t (.seq Ke7 (.seq Ke4 .ret))))))))))))))))))⟩
theorem a126_ok:J06 Tryz.prog Tryz.f126=some a126:=by kernel_rfl
def J7o (I:Ids) (s:Env):Prop:=s 2 = .ptr 0 0 0∧s 4 = .ptr 1 0 0∧s 6 = .ptr 2 0 0∧s 7 = .ptr 5 0 0∧s 9 = .ptr 6 0 0∧s 12 = .ptr I.m 0 0∧s 13 = .ptr I.s 0 0 ∧
 s 15 = .fn (.func 202) [] [.ptr I.x 0 0,.ptr 6 0 0,.ptr I.s 0 0]∧s 16 = .fn (.func 204) [] [.ptr I.m 0 0]
theorem Ji1 (q:DPattern) (l:List DPattern):J3p (q::l)=(if q.Cons then 1 else 0)+J3p l:=by
 unfold J3p;rw [List.filter_cons];cases q.Cons <;> simp;omega
section
variable {p:DProgram}{r:DRule}{f:DFunction}{N:Nat}{I:Ids}{ks:List Kt}{s:Env}{h:Heap}{n:Nat}{Q:Fin}
theorem Jye {c:Nat}(s6:s 6 = .ptr 2 0 0) (s9:s 9 = .ptr 6 0 0) (e2:h 2=some ⟨true,7,[J0c r]⟩) (e6:h 6=some ⟨true,1,[[.int .i64 c]]⟩) (hn:6<n) (hc:c≤10000000) (hl:r.Patterns.length≤1048576)
 (hK:∀ s' h' n',(∀ j∈[2,4,6,7,9],s' j=s j)→n≤n'→(∀ id,id<n→id≠6→h' id=h id)→h' 6=some ⟨true,1,[[.int .i64 (c+J3p r.Patterns:Nat)]]⟩→J2u Tryz.prog ks .normal s' h' n' Q) :
 rC Tryz.prog mo5 ks s h n Q:=by
 simp [mo5,s6,e2,J0c]
 intro _
 generalize hT:c+J3p r.Patterns=T at hK
 refine J0l [2,4,6,7,9,73,74] 75 r.Patterns.length (fun i s' h' n'=>n≤n'∧(∀ id,id<n→id≠6→h' id=h id)∧∃ c':Nat,c'≤10000000+i∧c'+J3p (r.Patterns.drop i)=T∧h' 6=some ⟨true,1,[[.int .i64 c']]⟩) (by unfold LIM;omega) (by simp)
  ⟨Nat.le_refl _,fun _ _ _=>rfl,c,by omega,by simpa using hT,e6⟩ ?_ ?_
 ·rintro i st h' m R hi hg hk s75 hw ⟨hm,hfr,c',hc',hJ,e6'⟩ hR _ _
  simp at hk
  rw [List.drop_eq_getElem_cons hi,Ji1] at hJ
  have z1:¬6=m:=by omega
  have z2:¬m=6:=by omega
  refine J0i [2,4,6,7,9,73,74,75] (fun s=>s 76 = .bool true) (by simp [hk,s75,hi]) ?_
  intro st1 hk1 s76
  simp at hk1
  refine J3x s76 (J0b (J1h ?_))
  have hw2:IntKind.i64.wrap ((c':Int)+1)=(c':Int)+1:=J0r (by omega)
  have fr:∀ id,id<n→¬id=m:=by intro id _;omega
  cases hc2:(r.Patterns[i]).Cons
  ·rw [hc2] at hJ
   simp [hk1,hk,s75,hi,J07,hc2,z1,z2,hw,s9]
   refine hR _ _ _ (by simp [hk1,hk]) (by simp) ⟨by omega,?_,c',by omega,by simpa using hJ,by simp [z1,e6']⟩
   intro id hid h6
   simp [fr id hid,hfr id hid h6]
  ·rw [hc2] at hJ
   simp only [if_true] at hJ
   simp [hk1,hk,s75,hi,J07,hc2,z1,z2,hw,e6',hw2,s9]
   refine hR _ _ _ (by simp [hk1,hk]) (by simp) ⟨by omega,?_,c'+1,by omega,by omega,by simp⟩
   intro id hid h6
   simp [fr id hid,h6,hfr id hid h6]
 ·rintro st h' m R hk s75 ⟨hm,hfr,c',hc',hJ,e6'⟩ _ hX
  simp at hk
  rw [List.drop_eq_nil_of_le (by omega)] at hJ
  simp [J3p] at hJ
  subst hJ
  refine J0i [2,4,6,7,9] (fun s=>s 76 = .bool false) (by simp [hk,s75]) ?_
  intro st1 hk1 s76
  simp at hk1
  refine J3s s76 ?_
  refine hX _ _ _ _ ?_
  simp
  exact hK _ _ _ (by simp [hk1,hk]) hm hfr e6'
theorem J6b {P:Program}{b:AC}{ks:List Kt}{s:Env}{h:Heap}{n:Nat}{Q:Fin}(h1:rC P b ks s h n Q):J2u P (.seq b::ks) .normal s h n Q:=h1
def moK:List Nat:=[2,4,6,7,9,12,13,15,16]
theorem J7o.keep {s':Env}(S:J7o I s) (hk:∀ j∈moK,s' j=s j):J7o I s':=by
 simp only [moK,List.mem_cons,List.not_mem_nil,or_false,forall_eq_or_imp,forall_eq] at hk
 obtain ⟨k2,k4,k6,k7,k9,k12,k13,k15,k16⟩:=hk
 obtain ⟨s2,s4,s6,s7,s9,s12,s13,s15,s16⟩:=S
 exact ⟨by rw [k2,s2],by rw [k4,s4],by rw [k6,s6],by rw [k7,s7],by rw [k9,s9],by rw [k12,s12],by rw [k13,s13],by rw [k15,s15],by rw [k16,s16]⟩
def J67 (l:DLin) (k:Nat) (h:Heap) (n:Nat):Prop:=∃ q,k<n∧q<n∧h k=some ⟨true,2,[[.int .i64 l.Const,.ref q 0 l.Coeffs.length]]⟩∧h q=some ⟨false,1,J0m l.Coeffs⟩
theorem J6u {i:Int}(N:Nat) (hN:N≤8):(J37 i N).Coeffs.length≤8:=by
 unfold J37
 split
 ·simp;omega
 ·simp [J1g]
theorem Jyb {ms:MS}{l:DLin}{k:Nat}(s12:s 12 = .ptr I.m 0 0) (s19:s 19 = .ptr k 0 0) (M:MI p r f N I ms h n) (L:J67 l k h n) (hl:l.Coeffs.length≤1048576) (hb:ms.pars.length≤1000000)
 (hK:∀ s' h' n',(∀ j,j<100→s' j=s j)→MI p r f N I (Jtd ms l) h' n'→J67 l k h' n'→J2u Tryz.prog ks .normal s' h' n' Q):rC Tryz.prog Jz9 ks s h n Q:=by
 obtain ⟨l1,l2,l3,l4,l5⟩:=M.lt
 obtain ⟨q,hkn,hqn,hkb,hqb⟩:=L
 obtain ⟨vR,vP,vA,g1,g2,g3,g4,g6,g5⟩:=M.acc
 have hkm:¬k=I.m:=by rintro rfl;rw [hkb] at g1;simp at g1
 have hqm:¬q=I.m:=by rintro rfl;rw [hqb] at g1;simp at g1
 have ne:¬I.m=n∧¬I.m=n+1∧¬I.m=n+1+1∧¬n=I.m∧¬n+1=I.m∧¬n+1+1=I.m∧¬n+2=I.m∧¬I.m=n+2∧¬k=n∧¬k=n+1∧¬k=n+1+1∧¬q=n∧¬q=n+1∧¬q=n+1+1∧¬n=n+1∧¬n+1=n∧¬n=n+1+1∧¬n+1+1=n∧¬n+1=n+1+1∧¬I.m=k∧¬I.m=q:=by omega
 have kp:∀ j,j<100→¬j=100∧¬j=101∧¬j=102∧¬j=103∧¬j=104∧¬j=105∧¬j=106:=by intro j _;omega
 have fr:∀ id,id<n→¬id=n∧¬id=n+1∧¬id=n+1+1:=by intro id _;omega
 simp [Jz9,s12,s19,g1,J5q,hkb,hqb]
 first|refine J01 (J5b l hl) (by first|simp [J05,hqb];done|rfl) ?_|refine J02 (J5b l hl) (by first|simp [J05,hqb];done|rfl) ?_
 rintro r rfl
 rcases g3 with ⟨hz,rfl⟩|⟨i,hi,hin,rfl,hib⟩
 ·have hz':ms.pars=[]:=by simpa using hz
  simp [J08,g1,J5q,ne,s12]
  refine ⟨by unfold LIM;omega,?_⟩
  refine hK _ _ _ (fun j hj=>by simp [kp j hj]) (M.upd_acc (st':=Jtd ms l) rfl rfl (by omega) (fun _=>False) (fun _ h=>h.elim) ?_ ?_) ⟨q,by omega,by omega,by simp [ne,hkm,hkb],by simp [ne,hqm,hqb]⟩
  ·intro id hid hm _
   simp [fr id hid,hm]
  ·have fm:∀ id,I.x<id→¬id=I.m:=by intro id _;omega
   refine ⟨vR,.ref (n+2) 0 1,vA,by simp [J5q],g2.keep (by omega) fun id hb hid _=>by simp [fr id hid,fm id hb],.inr ⟨n+2,by omega,by omega,by simp [Jtd,hz'],by simp [Jtd,hz',J08,ne]⟩,g4.keep (by omega) fun id hb hid _=>by simp [fr id hid,fm id hb],g6,?_⟩
   intro i k j l' e1 e2
   simp only [AV.ref.injEq] at e2
   rcases g2 with ⟨_,e⟩|⟨j',_,hj',e,_⟩
   ·rw [e] at e1;cases e1
   ·rw [e] at e1;simp only [AV.ref.injEq] at e1;omega
 ·have hik:¬k=i:=by rintro rfl;rw [hkb] at hib;simp at hib
  have hiq:¬q=i:=by rintro rfl;rw [hqb] at hib;simp at hib
  have ni:¬i=n∧¬i=n+1∧¬i=n+1+1∧¬i=I.m∧¬I.m=i∧¬n=i∧¬n+1=i∧¬n+1+1=i∧¬i=k∧¬i=q:=by omega
  simp [J08,g1,J5q,ne,ni,hib,s12]
  refine ⟨by unfold LIM;omega,?_⟩
  refine hK _ _ _ (fun j hj=>by simp [kp j hj]) (M.upd_acc (st':=Jtd ms l) rfl rfl (by omega) (fun id=>id=i) (fun id e=>⟨by omega,fun l hl=>by rw [e,hib] at hl;simp at hl⟩) ?_ ?_) ⟨q,by omega,by omega,by simp [ne,hkm,hkb,hik],by simp [ne,hqm,hqb,hiq]⟩
  ·intro id hid hm hii
   simp [fr id hid,hm,hii]
  ·have fm:∀ id,I.x<id→¬id=I.m:=by intro id _;omega
   refine ⟨vR,.ref (n+2) 0 (ms.pars.length+1),vA,by simp [J5q],g2.keep (by omega) fun id hb hid e => ?_,.inr ⟨n+2,by omega,by omega,by simp [Jtd],by simp [Jtd,J08,ne,List.take_of_length_le]⟩,g4.keep (by omega) fun id hb hid e => ?_,g6,?_⟩
   ·have hii:¬id=i:=fun e'=>g5 id _ i _ e rfl e'
    simp [fr id hid,fm id hb,hii]
   ·have hii:¬id=i:=by
     intro e'
     rcases g4 with ⟨_,e2⟩|⟨j',_,_,e2,hjb⟩
     ·rw [e2] at e;cases e
     ·rw [e2] at e;simp only [AV.ref.injEq] at e
      rw [e.1,e',hib] at hjb
      simp at hjb
    simp [fr id hid,fm id hb,hii]
   ·intro i' k j l' e1 e2
    simp only [AV.ref.injEq] at e2
    rcases g2 with ⟨_,e⟩|⟨j',_,hj',e,_⟩
    ·rw [e] at e1;cases e1
    ·rw [e] at e1;simp only [AV.ref.injEq] at e1;omega
theorem Jtn (S:J7o I s) (M:MI p r f N I ⟨[],0,[],[],[]⟩ h n) (hp2:f.Params.length≤2) (hN:N≤8)
 (hK:∀ s' h' n',J7o I s'→MI p r f N I (f.Params.foldl (Jbw N) ⟨[],0,[],[],[]⟩) h' n'→J2u Tryz.prog ks .normal s' h' n' Q):rC Tryz.prog K8v ks s h n Q:=by
 have S0:=S
 obtain ⟨s2,s4,s6,s7,s9,s12,s13,s15,s16⟩:=S0
 simp [K8v,s7,M.hf,M.h3]
 intro _
 generalize hT:f.Params.foldl (Jbw N) ⟨[],0,[],[],[]⟩=T at hK
 refine J0l [2,4,6,7,9,12,13,15,16,91,92] 93 f.Params.length (fun i s' h' n'=>∃ st:MS,MI p r f N I st h' n'∧(f.Params.drop i).foldl (Jbw N) st=T∧st.nx≤i∧st.rows.length≤i∧st.pars.length≤i) (by unfold LIM;omega) (by simp)
  ⟨_,M,by simpa using hT,by simp,by simp,by simp⟩ ?_ ?_
 ·rintro i st h' m R hi hg hk s93 hw ⟨ms,M,hJ,hb1,hb2,hb3⟩ hR _ _
  simp at hk
  rw [List.drop_eq_getElem_cons hi,List.foldl_cons] at hJ
  obtain ⟨l1,l2,l3,l4,l5⟩:=M.lt
  refine J0i [2,4,6,7,9,12,13,15,16,91,92,93] (fun s=>s 94 = .bool true) (by simp [hk,s93,hi]) ?_
  intro st1 hk1 s94
  simp at hk1
  refine J3x s94 (J0b (J1h ?_))
  refine J0i [2,4,6,7,9,12,13,15,16,91,92,93] (fun s=>s 18 = .str (f.Params[i]'hi)) (by simp [hk1,hk,s93,hi,M.h3]) ?_
  intro st2 hk2 s18
  simp at hk2
  generalize f.Params[i]=x at *
  have hlx:(J37 ms.nx N).Coeffs.length≤8:=J6u N (by omega)
  have S2:J7o I st2:=S.keep (by simp [moK,hk2,hk1,hk])
  obtain ⟨t2,t4,t6,t7,t9,t12,t13,t15,t16⟩:=S2
  have hiP:Jbw N ms x=(if J0n x then Jjy (Jtd (Jj3 ms x (J37 ms.nx N) (ms.nx+1)) (J37 ms.nx N)) (J37 ms.nx N) else Jtd (Jj3 ms x (J37 ms.nx N) (ms.nx+1)) (J37 ms.nx N)):=by
   unfold Jbw Jjy Jtd Jj3;cases J0n x <;> simp
  generalize hl:J37 ms.nx N=l at *
  refine J1n [2,4,6,7,9,12,13,15,16,91,92,93,18] (fun s h' n'=>∃ k,s 19 = .ptr k 0 0∧J67 l k h' n'∧MI p r f N I (Jj3 ms x l (ms.nx+1)) h' n') ?_ ?_
  ·simp [t15,s18]
   refine Jcy M x (by omega) ?_
   rw [hl]
   intro q h1 n1 hq hq1 hfr hqb M1
   have fr:∀ id,id<n1→¬id=n1:=by intro id _;omega
   simp [Jjp]
   exact ⟨⟨q,by omega,by omega,by simp,by simp [fr q hq1,hqb]⟩,M1.frame (by omega) fun id hid=>by simp [fr id hid]⟩
  rintro st3 h3 n3 hk3 ⟨k,s19,L3,M3⟩
  simp at hk3
  have u12:st3 12 = .ptr I.m 0 0:=by rw [hk3.2.2.2.2.2.1,t12]
  refine J0b (Jyb u12 s19 M3 L3 (by omega) (by show ms.pars.length≤_;omega) ?_)
  intro st4 h4 n4 hk4 M4 L4
  refine J6b (J0i [2,4,6,7,9,12,13,15,16,91,92,93,19] (fun s=>s 108 = .bool (J0n x)) ?_ ?_)
  ·simp [hk4 18 (by omega),hk3,s18]
   first|refine J01 (J1v x) (by first|simp;done|rfl) ?_|refine J02 (J1v x) (by first|simp;done|rfl) ?_
   rintro r rfl
   simp
  intro st5 hk5 s108
  simp at hk5
  have v16:st5 16 = .fn (.func 204) [] [.ptr I.m 0 0]:=by rw [hk5.2.2.2.2.2.2.2.2.1,hk4 16 (by omega),hk3.2.2.2.2.2.2.2.2.1,t16]
  have v19:st5 19 = .ptr k 0 0:=by rw [hk5.2.2.2.2.2.2.2.2.2.2.2.2,hk4 19 (by omega),s19]
  have kp:∀ j∈[2,4,6,7,9,12,13,15,16,91,92,93],st5 j=st j:=by
   simp [hk5,hk4 2 (by omega),hk4 4 (by omega),hk4 6 (by omega),hk4 7 (by omega),hk4 9 (by omega),hk4 12 (by omega),hk4 13 (by omega),hk4 15 (by omega),hk4 16 (by omega),hk4 91 (by omega),hk4 92 (by omega),hk4 93 (by omega),hk3,hk2,hk1]
  simp at kp
  cases c1:J0n x
  ·rw [c1] at hiP s108
   simp only [Bool.false_eq_true,if_false] at hiP
   rw [hiP] at hJ
   simp [s108,kp,s93,hw]
   exact hR _ _ _ (by simp [kp,hk]) (by simp) ⟨_,M4,hJ,by show ms.nx+1≤_;omega,by show ms.rows.length≤_;omega,by show (ms.pars++[l]).length≤_;simp;omega⟩
  ·rw [c1] at hiP s108
   simp only [if_true] at hiP
   rw [hiP] at hJ
   obtain ⟨q,hkn,hqn,hkb,hqb⟩:=L4
   simp [s108,v16,v19,hkb]
   refine J9w M4 (l:=l) (q:=q) (by omega) hqn hqb (by show ms.rows.length≤_;omega) ?_
   intro h6 n6 hn6 _ M6
   simp [kp,s93,hw]
   exact hR _ _ _ (by simp [kp,hk]) (by simp) ⟨_,M6,hJ,by show ms.nx+1≤_;omega,by show (ms.rows++[l]).length≤_;simp;omega,by show (ms.pars++[l]).length≤_;simp;omega⟩
 ·rintro st h' m R hk s93 ⟨ms,M,hJ,hb1,hb2,hb3⟩ _ hX
  simp at hk
  rw [List.drop_eq_nil_of_le (by omega)] at hJ
  simp only [List.foldl_nil] at hJ
  subst hJ
  refine J0i [2,4,6,7,9,12,13,15,16] (fun s=>s 94 = .bool false) (by simp [hk,s93]) ?_
  intro st1 hk1 s94
  simp at hk1
  refine J3s s94 ?_
  refine hX _ _ _ _ ?_
  simp
  exact hK _ _ _ (S.keep (by simp [moK,hk1,hk])) M
end
def a268:AFn:= ⟨39,[(.c 6 true 2),.t 7],(.seq (.reg [Zo 3 (.boxv (.t 0)),Zo 4 (.boxv (.t 1)),Zo 6 (.box [(.int .i64 0),(.nil 1)]),Zo 7 (.mv (.k (.bool false)))]) (.seq (.seq (.reg [Zf 9 0 4,Zl 10 false 1 9,Zo 11 (.un .not (.t 10))]) (.cond (.t 11) (.seq (.draw (.op (Zl 12 true 2 3) (.op (Zf 13 1 4) (.op (Zl 14 false 1 13) (.op (Zo 15 (.ixa 2 (.t 14) (.k (.int .i64 0)))) (.op (Zl 16 true 2 15) (.op (Zv 17 2) (.op (Zc 18 267 [.t 12,.t 16,.t 17]) (.op (Zo 19 (.ext (.t 18) 0)) (.op (Zo 20 (.ext (.t 18) 1)) (.hop ⟨no,.st 2 (.t 6) (.t 19),no⟩ [] (.op (Zv 7 20) .fin)))))))))))) .ret) .skip)) (.seq (.reg [Zf 21 1 4,Zl 22 false 1 21,Zo 23 (.len false (.t 22)),Zv 24 2,Zc 25 99 [.t 23,.t 24],Zo 8 (.box [(.int .i64 0),(.nil 1)]),⟨no,.st 2 (.t 8) (.t 25),no⟩]) (.seq (.seq (.reg [Zf 26 2 4,Zl 27 false 1 26,Zo 28 (.bin .eql (.t 27) (.k (.str [])))]) (.cond (.t 28) (.seq (.reg [Zl 29 true 2 8,⟨no,.st 2 (.t 6) (.t 29),no⟩,Zo 7 (.mv (.k (.bool true)))]) .ret) .skip)) (.seq (.draw (.op (Zl 30 true 2 8) (.op (Zl 31 true 2 3) (.op (Zf 32 2 4) (.op (Zl 33 false 1 32) (.op (Zv 34 2) (.op (Zc 35 305 [.t 31,.t 33,.t 34]) (.op (Zc 36 98 [.t 30,(.k (.int .i64 1)),.t 35]) (.op (Zo 37 (.ext (.t 36) 0)) (.op (Zo 38 (.ext (.t 36) 1)) (.hop ⟨no,.st 2 (.t 6) (.t 37),no⟩ [] (.op (Zv 7 38) .fin)))))))))))) .ret)))))⟩
theorem a268_ok:J06 Tryz.prog Tryz.f268=some a268:=by kernel_rfl
def sm0:AC:=(.reg [Zo 3 (.boxv (.t 0)),Zo 4 (.boxv (.t 1)),Zo 6 (.box [(.int .i64 0),(.nil 1)]),Zo 7 (.mv (.k (.bool false)))])
def sm1:AC:=(.reg [Zf 12 0 4,Zl 13 false 1 12,Zv 14 2,Zc 15 99 [.t 13,.t 14],Zo 8 (.box [(.int .i64 0),(.nil 1)]),⟨no,.st 2 (.t 8) (.t 15),no⟩])
def K90:AC:=(.draw (.op (Zl 24 true 2 8) (.op (Zf 25 1 4) (.op (Zl 26 false 1 25) (.op (Zv 27 9) (.op (Zo 28 (.ixa 2 (.t 26) (.t 27))) (.op (Zf 29 0 28) (.op (Zl 30 false 1 29) (.op (Zl 31 true 2 3) (.op (Zf 32 1 4) (.op (Zl 33 false 1 32) (.op (Zv 34 9) (.op (Zo 35 (.ixa 2 (.t 33) (.t 34))) (.op (Zf 36 1 35) (.op (Zl 37 false 1 36) (.op (Zv 38 2) (.both (.op (Zc 39 305 [.t 31,.t 37,.t 38]) (.both (.op (Zc 40 98 [.t 24,.t 30,.t 39]) (.op (Zv 23 40) (.op (Zo 41 (.ext (.t 23) 0)) (.op (Zo 42 (.ext (.t 23) 1)) (.op (Zo 10 (.box [(.int .i64 0),(.nil 1)])) (.hop ⟨no,.st 2 (.t 10) (.t 41),no⟩ [] (.op (Zv 11 42) .fin))))))) (.op (Zo 10 (.box [(.int .i64 0),(.nil 1)])) (.op (Zc 40 98 [.t 24,.t 30,.t 39]) (.op (Zv 23 40) (.op (Zo 41 (.ext (.t 23) 0)) (.op (Zo 42 (.ext (.t 23) 1)) (.hop ⟨no,.st 2 (.t 10) (.t 41),no⟩ [] (.op (Zv 11 42) .fin))))))))) (.op (Zo 10 (.box [(.int .i64 0),(.nil 1)])) (.op (Zc 39 305 [.t 31,.t 37,.t 38]) (.op (Zc 40 98 [.t 24,.t 30,.t 39]) (.op (Zv 23 40) (.op (Zo 41 (.ext (.t 23) 0)) (.op (Zo 42 (.ext (.t 23) 1)) (.hop ⟨no,.st 2 (.t 10) (.t 41),no⟩ [] (.op (Zv 11 42) .fin)))))))))))))))))))))))))
def sm2:AC:=(.seq (.reg [Zo 9 (.mv (.k (.int .i64 0)))]) (.blk 0 (.loop (.seq (.seq (.reg [Zv 16 9,Zf 17 1 4,Zl 18 false 1 17,Zo 19 (.len false (.t 18)),Zo 20 (.bin .lss (.t 16) (.t 19))]) (.cond (.t 20) .skip (.exit 0))) (.seq (.blk 1 (.seq K90 (.seq (.seq (.reg [Zv 43 11,Zo 44 (.un .not (.t 43))]) (.cond (.t 44) (.seq (.reg [Zo 45 (.build [(.int .i64 0),(.nil 1)] []),⟨no,.st 2 (.t 6) (.t 45),no⟩,Zo 7 (.mv (.k (.bool false)))]) .ret) .skip)) (.reg [Zl 46 true 2 10,⟨no,.st 2 (.t 8) (.t 46),no⟩])))) (.reg [Zv 21 9,Zo 22 (.bin .add (.t 21) (.k (.int .i64 1))),Zv 9 22]))))))
def sm3:AC:=(.reg [Zl 47 true 2 8,⟨no,.st 2 (.t 6) (.t 47),no⟩,Zo 7 (.mv (.k (.bool true)))])
def a267:AFn:=⟨48,[(.c 6 true 2),.t 7],(.seq sm0 (.seq sm1 (.seq sm2 (.seq sm3 .ret))))⟩
theorem a267_ok:J06 Tryz.prog Tryz.f267=some a267:=by kernel_rfl
def Jhw (E:SEnv):List AV:=[.sl 1 (J0a (J1d E)),.sl 2 ((J3h E).map J05)]
theorem Jwh {E:SEnv}{x:DSum}{o:DLin}{i N k3 k4 k8:Nat}{ks:List Kt}{s:Env}{h:Heap}{n:Nat}{Q:Fin}(hE:E.length≤1048576) (hi:i<x.Terms.length) (s2:s 2 = .int .i64 N) (s3:s 3 = .ptr k3 0 0) (s4:s 4 = .ptr k4 0 0) (s8:s 8 = .ptr k8 0 0) (s9:s 9 = .int .i64 i)
 (e3:h k3=some ⟨true,2,[Jhw E]⟩) (e4:h k4=some ⟨true,2,[J1j x]⟩) (L:J67 o k8 h n)
 (hK:∀ s' h' n',(∀ j∈[2,3,4,6,7,8,9],s' j=s j)→s' 11 = .bool (J0j o (x.Terms[i]).Coeff (J38 (J09 0 N) E (x.Terms[i]).Name)).isSome →
  (∃ k,s' 10 = .ptr k 0 0∧J67 ((J0j o (x.Terms[i]).Coeff (J38 (J09 0 N) E (x.Terms[i]).Name)).getD J1g) k h' n')→n≤n'→(∀ id,id<n→h' id=h id)→J2u Tryz.prog ks .normal s' h' n' Q):rC Tryz.prog K90 ks s h n Q:=by
 obtain ⟨q,hkn,hqn,hkb,hqb⟩:=L
 simp [K90,s2,s3,s4,s8,s9,e3,e4,hkb,J1j,Jhw,hi,J16]
 constructor
 ·refine Jfv (Jic (.inl rfl) (.inl rfl) hE ?_)
  intro w h1 n1 hn1 hfr1 cw hbw
  refine ⟨hfr1,?_⟩
  have b0:=hbw h1 fun _ _=>rfl
  have fr1:∀ id,id<n1→¬id=n1∧¬id=n1+1:=by intro id _;omega
  have frn:∀ id,id<n→¬id=n1∧¬id=n1+1:=by intro id _;omega
  have b1:∀ y,bw w (upd h1 n1 y)=some (.sl 1 (J0m (J38 (J09 0 N) E (x.Terms[i]).Name).Coeffs)):=fun y=>hbw _ fun id hid=>by simp [fr1 id hid]
  have hq1:h1 q=some ⟨false,1,J0m o.Coeffs⟩:=by rw [hfr1 q hqn,hqb]
  have ne1:¬n1=n1+1∧¬n1+1=n1∧¬q=n1:=by omega
  simp
  constructor
  ·skip
   first|refine J01 (J0w o (x.Terms[i]'hi).Coeff (J38 (J09 0 N) E (x.Terms[i]'hi).Name)) (by first|simp [J05,hq1,b0];done|rfl) ?_|refine J02 (J0w o (x.Terms[i]'hi).Coeff (J38 (J09 0 N) E (x.Terms[i]'hi).Name)) (by first|simp [J05,hq1,b0];done|rfl) ?_
   rintro r rfl
   rw [J0u]
   generalize (J0j o (x.Terms[i]).Coeff (J38 (J09 0 N) E (x.Terms[i]).Name)).getD J1g=l at *
   simp [J08,ne1]
   refine hK _ _ _ (by simp) (by simp) ⟨n1+1,by simp,n1,by omega,by omega,by simp [ne1],by simp [ne1]⟩ (by omega) fun id hid=>by simp [frn id hid,hfr1 id hid]
  ·skip
   first|refine J01 (J0w o (x.Terms[i]'hi).Coeff (J38 (J09 0 N) E (x.Terms[i]'hi).Name)) (by first|simp [J05,hq1,b1,ne1];done|rfl) ?_|refine J02 (J0w o (x.Terms[i]'hi).Coeff (J38 (J09 0 N) E (x.Terms[i]'hi).Name)) (by first|simp [J05,hq1,b1,ne1];done|rfl) ?_
   rintro r rfl
   rw [J0u]
   generalize (J0j o (x.Terms[i]).Coeff (J38 (J09 0 N) E (x.Terms[i]).Name)).getD J1g=l at *
   simp [J08,ne1]
   refine hK _ _ _ (by simp) (by simp) ⟨n1,by simp,n1+1,by omega,by omega,by simp [ne1],by simp [ne1]⟩ (by omega) fun id hid=>by simp [frn id hid,hfr1 id hid]
 ·refine Jfv (Jic (.inl rfl) (.inl rfl) hE ?_)
  intro w h1 n1 hn1 hfr1 cw hbw
  refine ⟨hfr1,?_⟩
  have b0:=hbw h1 fun _ _=>rfl
  have frn:∀ id,id<n→¬id=n∧¬id=n1:=by intro id _;omega
  have hq1:h1 q=some ⟨false,1,J0m o.Coeffs⟩:=by rw [hfr1 q (by omega)];simp [frn q hqn,hqb]
  have hn0:=hfr1 n (by omega)
  simp at hn0
  have ne1:¬n=n1∧¬n1=n∧¬q=n:=by omega
  simp
  ·skip
   first|refine J01 (J0w o (x.Terms[i]'hi).Coeff (J38 (J09 0 N) E (x.Terms[i]'hi).Name)) (by first|simp [J05,hq1,b0];done|rfl) ?_|refine J02 (J0w o (x.Terms[i]'hi).Coeff (J38 (J09 0 N) E (x.Terms[i]'hi).Name)) (by first|simp [J05,hq1,b0];done|rfl) ?_
   rintro r rfl
   rw [J0u]
   generalize (J0j o (x.Terms[i]).Coeff (J38 (J09 0 N) E (x.Terms[i]).Name)).getD J1g=l at *
   simp [J08,ne1,hn0]
   refine hK _ _ _ (by simp) (by simp) ⟨n,by simp,n1,by omega,by omega,by simp [ne1],by simp [ne1]⟩ (by omega) fun id hid=>by simp [frn id hid,hfr1 id (by omega)]
theorem J89 (E:SEnv) (hE:E.length≤1048576) (x:DSum) (hx:x.Terms.length≤1048576) (N:Nat):Holds Tryz.prog 267 [.agg (Jhw E),.agg (J1j x),i64 N] (fun r=>r=J18 (Jwy E N x)):=by
 refine J03 Tryz.func267 a267_ok rfl (by simp [a267]) ?_
 simp [a267,sm0,sm1,sm2,J1j,Jhw]
 first|refine J01 (J21 x.Const N) (by first|simp;done|rfl) ?_|refine J02 (J21 x.Const N) (by first|simp;done|rfl) ?_
 rintro r rfl
 simp [J08]
 unfold Jwy
 generalize hT:goS E N x.Terms (J09 x.Const N)=T
 refine J0l [2,3,4,6,7,8] 9 x.Terms.length (fun i s h n=>4<n∧h 0=some ⟨true,2,[Jhw E]⟩∧h 1=some ⟨true,2,[J1j x]⟩∧h 2=some ⟨true,2,[[.int .i64 0,.nil 1]]⟩∧∃ o,J67 o 4 h n∧goS E N (x.Terms.drop i) o=T) (by unfold LIM;omega) (by simp)
  ⟨by simp,by simp [Jhw],by simp [J1j],by simp,J09 x.Const N,⟨3,by simp,by simp,by simp,by simp⟩,by simpa using hT⟩ ?_ ?_
 ·rintro i st h n R hi hg hk s9 hw ⟨hn,e0,e1,e2,o,L,hJ⟩ hR hret _
  simp at hk
  rw [List.drop_eq_getElem_cons hi] at hJ
  simp only [goS] at hJ
  refine J0b (J0i [2,3,4,6,7,8,9] (fun s=>s 20 = .bool true) (by simp [hk,s9,hi,e1,J1j]) ?_)
  intro st1 hk1 s20
  simp at hk1
  refine J25 s20 (J0b (J1h (J0b (Jwh (E:=E) (x:=x) (o:=o) (i:=i) (N:=N) (k3:=0) (k4:=1) (k8:=4) hE hi (by simp [hk1,hk]) (by simp [hk1,hk]) (by simp [hk1,hk]) (by simp [hk1,hk]) (by simp [hk1,s9]) e0 e1 L ?_))))
  rintro st2 h2 n2 hk2 s11 ⟨k,s10,L2⟩ hn2 hfr
  simp at hk2
  refine J6b ?_
  have e0':=hfr 0 (by omega)
  have e1':=hfr 1 (by omega)
  have e2':=hfr 2 (by omega)
  rw [e0] at e0'
  rw [e1] at e1'
  rw [e2] at e2'
  obtain ⟨q4,x4,y4,z4,w4⟩:=L
  have z4':=hfr 4 x4
  rw [z4] at z4'
  obtain ⟨q2,x2,y2,z2,w2⟩:=L2
  cases ho:J0j o (x.Terms[i]).Coeff (J38 (J09 0 N) E (x.Terms[i]).Name) with
  | none=>
   rw [ho] at hJ s11
   simp only [Option.isSome_none] at s11
   simp [s11,hk2,hk1,hk,e2']
   refine hret _ _ _ ?_
   simp [hk2,hk1,hk,←hJ,J18,J1g,J08,J0m]
  | some o'=>
   rw [ho] at hJ s11 z2 w2
   simp only [Option.isSome_some] at s11
   simp only [Option.getD_some] at z2 w2
   simp [s11,s10,z2,hk2,hk1,hk,z4',s9,hw]
   have q24:¬q2=4:=by rintro rfl;rw [z4'] at w2;simp at w2
   exact hR _ _ _ (by simp [hk2,hk1,hk]) (by simp) ⟨by omega,by simp [e0'],by simp [e1'],by simp [e2'],o',⟨q2,by omega,y2,by simp,by simp [q24,w2]⟩,hJ⟩
 ·rintro st h n R hk s9 ⟨hn,e0,e1,e2,o,⟨q,hkn,hqn,hkb,hqb⟩,hJ⟩ hret hX
  simp at hk
  rw [List.drop_eq_nil_of_le (by omega)] at hJ
  simp only [goS] at hJ
  subst hJ
  refine J0b (J0i [2,3,4,6,7,8] (fun s=>s 20 = .bool false) (by simp [hk,s9,e1,J1j]) ?_)
  intro st1 hk1 s20
  simp at hk1
  refine J29 s20 ?_
  refine hX _ _ _ _ ?_
  have q2:¬q=2:=by rintro rfl;rw [e2] at hqb;simp at hqb
  simp [sm3,hk1,hk,hkb,e2,hqb,q2,J18,J08]
theorem J7a (E:SEnv) (hE:E.length≤1048576) (x:DArg) (hx:∀ y∈x.Heads,y.Terms.length≤1048576) (hne:x.Lst=false→0<x.Heads.length) (N:Nat):Holds Tryz.prog 268 [.agg (Jhw E),.agg (J15 x),i64 N] (fun r=>r=J18 (Jzz E N x)):=by
 refine J03 Tryz.func268 a268_ok rfl (by simp [a268]) ?_
 simp [a268,Jhw,J15]
 unfold Jzz
 cases hL:x.Lst
 ·have hz:=hne hL
  obtain ⟨s,l,hsl⟩:∃ s l,x.Heads=s::l:=by
   cases hh:x.Heads with
   | nil=>rw [hh] at hz;cases hz
   | cons s l=>exact ⟨s,l,rfl⟩
  simp [hsl]
  first|refine J01 (J89 E hE s (hx s (by rw [hsl];exact List.mem_cons_self)) N) (by first|simp [Jhw];done|rfl) ?_|refine J02 (J89 E hE s (hx s (by rw [hsl];exact List.mem_cons_self)) N) (by first|simp [Jhw];done|rfl) ?_
  rintro r rfl
  rw [J0u]
  generalize hb:(Jwy E N s).isSome=b
  simp [J08,J0u,hb]
 ·simp
  intro _
  first|refine J01 (J21 x.Heads.length N) (by first|simp;done|rfl) ?_|refine J02 (J21 x.Heads.length N) (by first|simp;done|rfl) ?_
  rintro r rfl
  simp [J08]
  by_cases hb:x.Base=[]
  ·simp [hb,J18,J08]
  ·simp [hb]
   refine Jfv (Jic (.inl rfl) (.inl rfl) hE ?_)
   intro w h1 n1 hn1 hfr1 cw hbw
   refine ⟨hfr1,?_⟩
   have h3:=hfr1 3 (by omega)
   have h2:=hfr1 2 (by omega)
   simp at h2 h3
   have b0:=hbw h1 fun _ _=>rfl
   have ne:¬n1=2∧¬2=n1:=by omega
   simp
   first|refine J01 (J0w (J09 x.Heads.length N) 1 (J38 (J09 0 N) E x.Base)) (by first|simp [J05,h3,b0];done|rfl) ?_|refine J02 (J0w (J09 x.Heads.length N) 1 (J38 (J09 0 N) E x.Base)) (by first|simp [J05,h3,b0];done|rfl) ?_
   rintro r rfl
   rw [J0u]
   generalize (J0j (J09 x.Heads.length N) 1 (J38 (J09 0 N) E x.Base)).getD J1g=l
   generalize (J0j (J09 x.Heads.length N) 1 (J38 (J09 0 N) E x.Base)).isSome=b
   simp [J08,h2,ne]
def ro0:AC:=(.reg [Zo 4 (.boxv (.t 0)),Zo 5 (.boxv (.t 1)),Zo 8 (.box [(.nil 1),(.nil 2)]),Zo 9 (.mv (.k (.nil 2)))])
def ro1:AC:=(.reg [Zo 16 (.bsl 2 []),Zv 10 16])
def Kb5:AC:=(.draw (.op (Zv 38 3) (.op (Zl 40 true 2 13) (.both (.op (Zc 39 99 [(.k (.int .i64 0)),.t 38]) (.both (.op (Zc 41 98 [.t 39,(.k (.int .i64 (-1))),.t 40]) (.op (Zv 37 41) (.op (Zo 42 (.ext (.t 37) 0)) (.op (Zo 43 (.ext (.t 37) 1)) (.op (Zo 14 (.box [(.int .i64 0),(.nil 1)])) (.hop ⟨no,.st 2 (.t 14) (.t 42),no⟩ [] (.op (Zv 15 43) .fin))))))) (.op (Zo 14 (.box [(.int .i64 0),(.nil 1)])) (.op (Zc 41 98 [.t 39,(.k (.int .i64 (-1))),.t 40]) (.op (Zv 37 41) (.op (Zo 42 (.ext (.t 37) 0)) (.op (Zo 43 (.ext (.t 37) 1)) (.hop ⟨no,.st 2 (.t 14) (.t 42),no⟩ [] (.op (Zv 15 43) .fin))))))))) (.op (Zo 14 (.box [(.int .i64 0),(.nil 1)])) (.op (Zc 39 99 [(.k (.int .i64 0)),.t 38]) (.op (Zc 41 98 [.t 39,(.k (.int .i64 (-1))),.t 40]) (.op (Zv 37 41) (.op (Zo 42 (.ext (.t 37) 0)) (.op (Zo 43 (.ext (.t 37) 1)) (.hop ⟨no,.st 2 (.t 14) (.t 42),no⟩ [] (.op (Zv 15 43) .fin))))))))))))
def Kak:AC:=(.reg [Zf 53 0 4,Zl 54 false 1 53,Zf 55 2 12,Zl 56 false 1 55,Zf 57 3 12,Zl 58 false 1 57,Zo 59 (.bsl 1 [.t 56,.t 58]),Zo 60 (.app 16 1 (.t 54) (.t 59)),Zf 61 0 4,⟨no,.st 1 (.t 61) (.t 60),no⟩])
def K9m:AC:=(.draw (.op (Zf 62 1 4) (.op (Zl 63 false 1 62) (.op (Zv 64 2) (.op (Zv 65 3) (.op (Zl 67 true 2 13) (.op (Zc 66 261 [.t 64,.t 65]) (.op (Zc 68 306 [.t 67,(.k (.int .i64 1))]) (.hop (Zo 69 (.bsl 2 [.t 66,.t 68])) [(.ld false 1 (.t 62)),(.fld 1 (.t 4))] (.hop (Zo 70 (.app 32 2 (.t 63) (.t 69))) [] (.op (Zf 71 1 4) (.hop ⟨no,.st 1 (.t 71) (.t 70),no⟩ [] .fin))))))))))))
def ro2:AC:=(.seq (.reg [Zo 11 (.mv (.k (.int .i64 0)))]) (.blk 0 (.loop (.seq (.seq (.reg [Zv 17 11,Zf 18 1 5,Zl 19 false 1 18,Zo 20 (.len false (.t 19)),Zo 21 (.bin .lss (.t 17) (.t 20))]) (.cond (.t 21) .skip (.exit 0))) (.seq (.blk 1 (.seq (.reg [Zf 24 1 5,Zl 25 false 1 24,Zv 26 11,Zo 27 (.ixa 4 (.t 25) (.t 26)),Zl 28 true 4 27,Zo 12 (.box [(.str []),(.bool false),(.str []),(.str [])]),⟨no,.st 4 (.t 12) (.t 28),no⟩]) (.seq (.reg [Zl 29 true 2 4,Zf 30 0 12,Zl 31 false 1 30,Zv 32 3,Zc 33 305 [.t 29,.t 31,.t 32],Zo 13 (.box [(.int .i64 0),(.nil 1)]),⟨no,.st 2 (.t 13) (.t 33),no⟩]) (.seq (.seq (.reg [Zf 34 1 12,Zl 35 false 1 34,Zo 36 (.un .not (.t 35))]) (.cond (.t 36) (.seq Kb5 (.seq (.reg [Zv 44 10,Zl 45 true 2 14,Zo 46 (.bsl 2 [.t 45]),Zo 47 (.app 32 2 (.t 44) (.t 46)),Zv 10 47]) (.exit 1))) .skip)) (.seq (.reg [Zv 48 10,Zl 49 true 2 13,Zc 50 306 [.t 49,(.k (.int .i64 1))],Zo 51 (.bsl 2 [.t 50]),Zo 52 (.app 32 2 (.t 48) (.t 51)),Zv 10 52]) (.seq  Kak (.seq K9m (.reg [Zv 72 2,Zo 73 (.bin .add (.t 72) (.k (.int .i64 1))),Zv 2 73])))))))) (.reg [Zv 22 11,Zo 23 (.bin .add (.t 22) (.k (.int .i64 1))),Zv 11 23]))))))
def ro3:AC:=(.reg [Zl 74 true 2 4,Zv 75 10,⟨no,.st 2 (.t 8) (.t 74),no⟩,Zv 9 75])
def a266:AFn:=⟨76,[(.c 8 true 2),.t 9],(.seq ro0 (.seq ro1 (.seq ro2 (.seq ro3 .ret))))⟩
theorem a266_ok:J06 Tryz.prog Tryz.f266=some a266:=by kernel_rfl
def Dj (v w:AV):Prop:=∀ i k l,v = .ref i 0 k→w = .ref i 0 l→False
def Jgl (b:Nat) (l:List (Nat×List (List AV)×AV)) (h:Heap) (n:Nat):Prop:=(∀ x∈l,J41 b x.1 x.2.1 x.2.2 h n)∧l.Pairwise fun x y=>Dj x.2.2 y.2.2
theorem J41.lt {b z:Nat}{rows:List (List AV)}{v:AV}{h:Heap}{n i k:Nat}(x:J41 b z rows v h n) (e:v = .ref i 0 k):b<i∧i<n∧h i=some ⟨false,z,rows⟩∧k=rows.length:=by
 rcases x with ⟨_,rfl⟩|⟨j,h1,h2,rfl,hb⟩
 ·cases e
 ·simp only [AV.ref.injEq] at e
  obtain ⟨rfl,_,rfl⟩:=e
  exact ⟨h1,h2,hb,rfl⟩
theorem Jgl.step {b:Nat}{l1 l2:List (Nat×List (List AV)×AV)}{x x':Nat×List (List AV)×AV}{h h':Heap}{n n':Nat}(A:Jgl b (l1++x::l2) h n) (hx:J41 b x'.1 x'.2.1 x'.2.2 h' n') (hnew:∀ i k,x'.2.2 = .ref i 0 k→n≤i) (hn:n≤n')
 (hh:∀ id,b<id→id<n→(∃ z rows,h id=some ⟨false,z,rows⟩)→(∀ k,x.2.2 ≠ .ref id 0 k)→h' id=h id):Jgl b (l1++x'::l2) h' n':=by
 obtain ⟨A1,A2⟩:=A
 rw [List.pairwise_append,List.pairwise_cons] at A2
 obtain ⟨p1,⟨p2,p3⟩,p4⟩:=A2
 refine ⟨?_,?_⟩
 ·intro y hy
  rcases List.mem_append.1 hy with hy|hy
  ·refine (A1 y (List.mem_append_left _ hy)).keep hn fun id hb hid e=>hh id hb hid ⟨_,_,((A1 y (List.mem_append_left _ hy)).lt e).2.2.1⟩ fun k ek=>p4 y hy x List.mem_cons_self id _ k e ek
  ·rcases List.mem_cons.1 hy with rfl|hy
   ·exact hx
   ·refine (A1 y (List.mem_append_right _ (List.mem_cons_of_mem _ hy))).keep hn fun id hb hid e=>hh id hb hid ⟨_,_,((A1 y (List.mem_append_right _ (List.mem_cons_of_mem _ hy))).lt e).2.2.1⟩ fun k ek=>p2 y hy id k _ ek e
 ·rw [List.pairwise_append,List.pairwise_cons]
  refine ⟨p1,⟨fun y hy i k l e1 e2 => ?_,p3⟩,fun y hy w hw i k l e1 e2 => ?_⟩
  ·have g1:=hnew i k e1
   have g2:=((A1 y (List.mem_append_right _ (List.mem_cons_of_mem _ hy))).lt e2).2.1
   omega
  ·have g2:=((A1 y (List.mem_append_left _ hy)).lt e1).2.1
   rcases List.mem_cons.1 hw with rfl|hw
   ·have g1:=hnew i l e2;omega
   ·exact p4 y hy w (List.mem_cons_of_mem _ hw) i k l e1 e2
theorem Jgl.frame {b:Nat}{l:List (Nat×List (List AV)×AV)}{h h':Heap}{n n':Nat}(A:Jgl b l h n) (hn:n≤n') (hh:∀ id,b<id→id<n→h' id=h id):Jgl b l h' n':=
 ⟨fun x hx=>(A.1 x hx).keep hn fun id hb hid _=>hh id hb hid,A.2⟩
theorem J3w {b z bytes k:Nat}{rows rows2:List (List AV)}{v:AV}{h:Heap}{n:Nat}{K:AV→Heap→Nat→Prop}(A:J41 b z rows v h n) (hk:h k=some ⟨false,z,rows2⟩) (hvk:∀ l,v ≠ .ref k 0 l) (hkn:k<n)
 (hlen:(rows.length+rows2.length)*bytes≤LIM)
 (hK:∀ h',h' n=some ⟨false,z,rows++rows2⟩→(∀ id,id≠n→id≠k→(∀ l,v ≠ .ref id 0 l)→h' id=h id)→K (.ref n 0 (rows.length+rows2.length)) h' (n+1)) :
 Jzd bytes z v (.ref k 0 rows2.length) h n K:=by
 rcases A with ⟨rfl,rfl⟩|⟨i,_,hin,rfl,hib⟩
 ·simp [hk]
  refine ⟨by simpa using hlen,?_⟩
  have:k≠n:=by omega
  simp at hK
  exact hK _ (by simp) fun id h1 h2=>by simp [h1,h2]
 ·have hki:¬k=i:=fun e=>hvk _ (by rw [e])
  have hik:¬i=k:=fun e=>hki e.symm
  have hne:¬i=n:=by omega
  simp [hk,hib,hki,hik]
  refine ⟨hlen,?_⟩
  refine hK _ (by simp [List.take_of_length_le]) fun id h1 h2 h3 => ?_
  have:¬id=i:=fun e=>h3 _ (by rw [e])
  simp [h1,h2,this]
end Go.Proofs.YtoclolkigjbcgaaGreat
