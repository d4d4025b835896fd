/- Contracts: rules, of the reference. -/
import Derived.Test.YtoclolkigjbcgaaGreatKV3S
import Derived.Test.YtoclolkigjbcgaaGreatKC9
import Derived.Test.YtoclolkigjbcgaaGreatKHM0
namespace Go.Proofs.YtoclolkigjbcgaaGreat
set_option maxRecDepth 40000
set_option maxHeartbeats 4000000
open Go Go.RowKit Go.Proofs
set_option linter.all false
def a135:AFn:= ⟨75,[.t 4],(.seq (.reg [⟨some 2,.boxv (.t 0),no⟩,⟨some 3,.boxv (.t 1),no⟩,⟨some 4,.mv (.k (.bool false)),no⟩]) (.seq (.reg [⟨some 10,.ld true 2 (.t 2),no⟩,⟨some 11,.fld 0 (.t 3),no⟩,⟨some 12,.ld false 1 (.t 11),no⟩,⟨some 13,.call (.k (.fn (.func 172) [] [])) [.t 10,.t 12],no⟩,⟨some 9,.mv (.t 13),no⟩,⟨some 14,.ext (.t 9) 0,no⟩,⟨some 15,.ext (.t 9) 1,no⟩,⟨some 5,.box [(.str []),(.nil 1),(.bool false),(.nil 2)],no⟩,⟨no,.st 4 (.t 5) (.t 14),no⟩,⟨some 6,.mv (.t 15),no⟩]) (.seq (.seq (.draw (.op ⟨some 16,.mv (.t 6),no⟩ (.op ⟨some 17,.un .not (.t 16),no⟩ (.op ⟨some 18,.mv (.t 17),no⟩ (.op ⟨some 19,.ld true 4 (.t 5),(some (18,false))⟩ (.op ⟨some 20,.fld 1 (.t 3),(some (18,false))⟩ (.op ⟨some 21,.ld false 1 (.t 20),(some (18,false))⟩ (.op ⟨some 22,.call (.k (.fn (.func 219) [] [])) [.t 19,.t 21],(some (18,false))⟩ (.op ⟨some 23,.un .not (.t 22),(some (18,false))⟩ (.op ⟨some 24,.pick (.t 18) (.k (.bool true)) (.t 23),no⟩ (.op ⟨some 25,.mv (.t 24),no⟩ (.op ⟨some 26,.fld 2 (.t 3),(some (25,false))⟩ (.op ⟨some 27,.ld false 1 (.t 26),(some (25,false))⟩ (.op ⟨some 28,.ld true 2 (.t 2),(some (25,false))⟩ (.op ⟨some 29,.ld true 7 (.t 3),(some (25,false))⟩ (.op ⟨some 30,.call (.k (.fn (.func 221) [] [])) [.t 28,.t 29,(.k (.int .i64 0))],(some (25,false))⟩ (.op ⟨some 31,.call (.k (.fn (.func 220) [] [])) [.t 27,.t 30],(some (25,false))⟩ (.op ⟨some 32,.un .not (.t 31),(some (25,false))⟩ (.op ⟨some 33,.pick (.t 25) (.k (.bool true)) (.t 32),no⟩ (.op ⟨some 34,.mv (.t 33),no⟩ (.op ⟨some 35,.fld 3 (.t 3),(some (34,false))⟩ (.op ⟨some 36,.ld false 1 (.t 35),(some (34,false))⟩ (.op ⟨some 37,.len false (.t 36),(some (34,false))⟩ (.op ⟨some 38,.bin .gtr (.t 37) (.k (.int .i64 2)),(some (34,false))⟩ (.op ⟨some 39,.pick (.t 34) (.k (.bool true)) (.t 38),no⟩ .fin))))))))))))))))))))))))) (.cond (.t 39) (.seq (.reg [⟨some 4,.mv (.k (.bool false)),no⟩]) .ret) .skip)) (.seq (.seq (.reg [⟨some 7,.mv (.k (.int .i64 0)),no⟩]) (.blk 0 (.loop (.seq (.seq (.reg [⟨some 40,.mv (.t 7),no⟩,⟨some 41,.fld 3 (.t 3),no⟩,⟨some 42,.ld false 1 (.t 41),no⟩,⟨some 43,.len false (.t 42),no⟩,⟨some 44,.bin .lss (.t 40) (.t 43),no⟩]) (.cond (.t 44) .skip (.exit 0))) (.seq (.blk 1 (.seq (.draw (.op ⟨some 47,.ld true 2 (.t 2),no⟩ (.op ⟨some 48,.fld 3 (.t 3),no⟩ (.op ⟨some 49,.ld false 1 (.t 48),no⟩ (.op ⟨some 50,.mv (.t 7),no⟩ (.op ⟨some 51,.ixa 3 (.t 49) (.t 50),no⟩ (.op ⟨some 52,.ld true 3 (.t 51),no⟩ (.op ⟨some 53,.ld true 2 (.t 2),no⟩ (.op ⟨some 54,.ld true 7 (.t 3),no⟩ (.op ⟨some 55,.mv (.t 7),no⟩ (.op ⟨some 56,.call (.k (.fn (.func 221) [] [])) [.t 53,.t 54,.t 55],no⟩ (.op ⟨some 57,.call (.k (.fn (.func 222) [] [])) [.t 47,.t 52,.t 56],no⟩ (.op ⟨some 58,.un .not (.t 57),no⟩ .fin))))))))))))) (.cond (.t 58) (.seq (.reg [⟨some 4,.mv (.k (.bool false)),no⟩]) .ret) .skip))) (.reg [⟨some 45,.mv (.t 7),no⟩,⟨some 46,.bin .add (.t 45) (.k (.int .i64 1)),no⟩,⟨some 7,.mv (.t 46),no⟩])))))) (.seq (.reg [⟨some 59,.ld true 2 (.t 2),no⟩,⟨some 60,.ld true 7 (.t 3),no⟩,⟨some 61,.fld 3 (.t 3),no⟩,⟨some 62,.ld false 1 (.t 61),no⟩,⟨some 63,.len false (.t 62),no⟩,⟨some 64,.call (.k (.fn (.func 221) [] [])) [.t 59,.t 60,.t 63],no⟩,⟨some 8,.mv (.t 64),no⟩]) (.seq (.reg [⟨some 65,.fld 4 (.t 3),no⟩,⟨some 66,.ld true 3 (.t 65),no⟩,⟨some 67,.fld 2 (.t 5),no⟩,⟨some 68,.ld false 1 (.t 67),no⟩,⟨some 69,.mv (.t 8),no⟩,⟨some 70,.call (.k (.fn (.func 223) [] [])) [.t 66,.t 68,.t 69],no⟩,⟨some 71,.mv (.t 70),no⟩,⟨some 72,.mv (.t 8),(some (71,true))⟩,⟨some 73,.call (.k (.fn (.func 218) [] [])) [.t 72],(some (71,true))⟩,⟨some 74,.pick (.t 71) (.t 73) (.k (.bool false)),no⟩,⟨some 4,.mv (.t 74),no⟩]) .ret))))))⟩
theorem a135_ok:J0a Tryz.prog Tryz.f135=some a135:=by kernel_rfl
theorem J64 (p:DProgram) (r:DRule) (hp:J0f p≤1048576) (hr:J39 r≤1048576):Holds Tryz.prog 135 [.agg (J01 p),.agg (J0c r)] (fun x=>x = .bool (J7e p r)):=by
 obtain ⟨wg,wc,wa,lg,lc,lp,wgs⟩:=Jas hr
 refine J03 Tryz.func135 a135_ok rfl (by simp [a135]) ?_
 simp [a135,J01,J0c]
 first|refine J00 (J1q p r.Func hp) (by first|simp [J01];done|rfl) ?_|refine J02 (J1q p r.Func hp) (by first|simp [J01];done|rfl) ?_
 rintro r rfl
 unfold J7e
 generalize hG:(J0t p.Functions r.Func).getD fn0=G
 simp only [J7z,hG]
 generalize hb1:(J0t p.Functions r.Func).isSome=b1
 simp [J0h]
 cases b1
 ·simp
 simp
 first|refine J00 (Jah G r.Patterns lp) (by first|simp [J04];done|rfl) ?_|refine J02 (Jah G r.Patterns lp) (by first|simp [J04];done|rfl) ?_
 rintro r rfl
 cases h1:J3o G.Params [] r.Patterns
 ·simp
 simp
 first|refine J00 (J6r p r 0 hp hr) (by first|simp [J01,J0c];done|rfl) ?_|refine J02 (J6r p r 0 hp hr) (by first|simp [J01,J0c];done|rfl) ?_
 rintro r rfl
 simp
 first|refine J00 (Jcp r.Guards (J1j p r 0) wgs) (by first|simp;done|rfl) ?_|refine J02 (Jcp r.Guards (J1j p r 0) wgs) (by first|simp;done|rfl) ?_
 rintro r rfl
 generalize hB1:r.Guards.all (J42 (J1j p r 0))=B1
 cases B1
 ·simp
 have hdg:decide (r.Guards.length≤2)=decide ((r.Guards.length:Int)≤2):=by rw [decide_eq_decide];omega
 by_cases h2n:r.Guards.length≤2
 case neg=>simp [h2n]
 simp [h2n]
 by_cases h3:(r.Calls.length:Int)≤2
 case neg=>
  have h3n:¬r.Calls.length≤2:=by omega
  simp [h3,h3n,Int.not_le.1 h3]
 have h3n:r.Calls.length≤2:=by omega
 simp [h3,h3n,Int.not_lt.2 h3]
 generalize hB2:J2c p r 0 r.Calls=B2
 refine J0o [2,3,5] 7 r.Calls.length (fun i s h n=>4<n∧h 0=some ⟨true,2,[J01 p]⟩∧h 1=some ⟨true,7,[J0c r]⟩∧h 4=some ⟨true,4,[[.str G.Name,.ref 2 0 G.Params.length,.bool G.ListResult,.ref 3 0 G.Pre.length]]⟩∧J2c p r i (r.Calls.drop i)=B2) (by unfold LIM;omega) (by simp) ⟨by simp,by simp [J01],by simp [J0c],by simp,by simpa using hB2⟩ ?_ ?_
 ·rintro i st h n R hi hg hk s7 hw ⟨hn,e0,e1,e4,hJ⟩ hR hret _
  simp at hk
  rw [Jal hi] at hJ
  have z0:¬0=n:=by omega
  have z1:¬1=n:=by omega
  have z4:¬4=n:=by omega
  have y0:¬0=n+1:=by omega
  have y1:¬1=n+1:=by omega
  have y4:¬4=n+1:=by omega
  have x0:¬0=n+1+1:=by omega
  have x1:¬1=n+1+1:=by omega
  have x4:¬4=n+1+1:=by omega
  have v0:¬n+1=n+1+1:=by omega
  have v1:¬n+1+1=n+1:=by omega
  have v4:¬n+1=n:=by omega
  have q0:¬n=0:=by omega
  have q1:¬n=1:=by omega
  have q3:¬n=3:=by omega
  have q4:¬n=4:=by omega
  refine J0b (J0i [2,3,5,7] (fun s=>s 44 = .bool true) (by simp [hk,s7,hi,e1,J0c]) ?_)
  intro st1 hk1 s44
  simp at hk1
  refine J29 s44 (J0b (J1c ?_))
  refine J15 [2,3,5,7] (fun s h' n'=>4<n'∧s 58 = .bool (!J9g p r.Calls[i] (J1j p r i))∧h' 0=some ⟨true,2,[J01 p]⟩∧h' 1=some ⟨true,7,[J0c r]⟩∧h' 4=some ⟨true,4,[[.str G.Name,.ref 2 0 G.Params.length,.bool G.ListResult,.ref 3 0 G.Pre.length]]⟩) ?_ ?_
  ·simp [hk,hk1,s7,hi,hg,e0,e1,e4,J01,J0c,z0,z1,z4,y0,y1,y4,x0,x1,x4,v0,v1,v4,q0,q1,q3,q4]
   first|refine J00 (J6r p r i hp hr) (by first|simp [J01,J0c];done|rfl) ?_|refine J02 (J6r p r i hp hr) (by first|simp [J01,J0c];done|rfl) ?_
   rintro r rfl
   simp [hk,hk1,s7,hi,e0,e1,e4,J01,J0c,z0,z1,z4,y0,y1,y4,x0,x1,x4,v0,v1,v4,q0,q1,q3,q4]
   first|refine J00 (J9k p (r.Calls[i]'hi) (J1j p r i) hp (wc _ (List.getElem_mem hi))) (by simp [J01,z0,z1,z4,y0,y1,y4,x0,x1,x4,v0,v1,v4,q0,q1,q3,q4]) ?_|refine J02 (J9k p (r.Calls[i]'hi) (J1j p r i) hp (wc _ (List.getElem_mem hi))) (by simp [J01,z0,z1,z4,y0,y1,y4,x0,x1,x4,v0,v1,v4,q0,q1,q3,q4]) ?_|refine J00 (J9k p (r.Calls[i]'hi) (J1j p r i) hp (wc _ (List.getElem_mem hi))) rfl ?_|refine J02 (J9k p (r.Calls[i]'hi) (J1j p r i) hp (wc _ (List.getElem_mem hi))) rfl ?_
   rintro r rfl
   simp [e0,e1,e4,J01,J0c,z0,z1,z4,y0,y1,y4,x0,x1,x4,v0,v1,v4,q0,q1,q3,q4]
   omega
  rintro st3 h3' n3 hk3 ⟨hn3,s58,e0'',e1'',e4''⟩
  simp at hk3
  generalize J9g p r.Calls[i] (J1j p r i)=D at *
  cases D
  ·rw [Bool.false_and] at hJ
   subst hJ
   simp [s58]
   refine hret _ _ _ ?_
   simp
  ·rw [Bool.true_and] at hJ
   simp [hk,hk1,hk3,s58,s7,hw]
   exact hR _ _ _ (by simp [hk,hk1,hk3]) (by simp) ⟨hn3,e0'',e1'',e4'',hJ⟩
 rintro st h n R hk s7 ⟨hn,e0,e1,e4,hJ⟩ hret hX
 simp at hk
 rw [List.drop_eq_nil_of_le (by omega)] at hJ
 refine J0b (J0i [2,3,5] (fun s=>s 44 = .bool false) (by simp [hk,s7,e1,J0c]) ?_)
 intro st1 hk1 s44
 simp at hk1
 refine J23 s44 ?_
 refine hX _ _ _ _ ?_
 simp [J2c] at hJ
 subst hJ
 clear hX hret hB2
 have z0:¬0=n:=by omega
 have z1:¬1=n:=by omega
 have z4:¬4=n:=by omega
 have y0:¬0=n+1:=by omega
 have y1:¬1=n+1:=by omega
 have y4:¬4=n+1:=by omega
 have x0:¬0=n+1+1:=by omega
 have x1:¬1=n+1+1:=by omega
 have x4:¬4=n+1+1:=by omega
 have v0:¬n+1=n+1+1:=by omega
 have v1:¬n+1+1=n+1:=by omega
 have v4:¬n+1=n:=by omega
 have q0:¬n=0:=by omega
 have q1:¬n=1:=by omega
 have q3:¬n=3:=by omega
 have q4:¬n=4:=by omega
 simp [hk,hk1,e0,e1,J0c,J01]
 intro _
 first|refine J00 (J6r p r r.Calls.length hp hr) (by first|simp [J01,J0c];done|rfl) ?_|refine J02 (J6r p r r.Calls.length hp hr) (by first|simp [J01,J0c];done|rfl) ?_
 rintro r rfl
 simp [hk,hk1,e0,e1,e4,J0c,J01,z0,z1,z4,y0,y1,y4,x0,x1,x4,v0,v1,v4,q0,q1,q3,q4]
 first|refine J00 (J65 r.Result G.ListResult (J1j p r r.Calls.length) wa) (by first|simp [J0v,z0,z1,z4,y0,y1,y4,x0,x1,x4,v0,v1,v4,q0,q1,q3,q4];done|rfl) ?_|refine J02 (J65 r.Result G.ListResult (J1j p r r.Calls.length) wa) (by first|simp [J0v,z0,z1,z4,y0,y1,y4,x0,x1,x4,v0,v1,v4,q0,q1,q3,q4];done|rfl) ?_
 rintro r rfl
 cases g1:J6b r.Result G.ListResult (J1j p r r.Calls.length)
 ·simp
 simp [z0,z1,z4,y0,y1,y4,x0,x1,x4,v0,v1,v4,q0,q1,q3,q4]
 first|refine J00 (J48 (J1j p r r.Calls.length)) (by first|simp [z0,z1,z4,y0,y1,y4,x0,x1,x4,v0,v1,v4,q0,q1,q3,q4];done|rfl) ?_|refine J02 (J48 (J1j p r r.Calls.length)) (by first|simp [z0,z1,z4,y0,y1,y4,x0,x1,x4,v0,v1,v4,q0,q1,q3,q4];done|rfl) ?_
 rintro r rfl
 simp
theorem a147_ok:J0a Tryz.prog Tryz.f147=some (J31 235):=by kernel_rfl
theorem a235_ok:J0a Tryz.prog Tryz.f235=some (J3p true 7):=by kernel_rfl
def a217:AFn:= ⟨18,[.t 2],(.seq (.reg [⟨some 2,.mv (.k (.bool false)),no⟩]) (.seq (.seq (.reg [⟨some 3,.mv (.k (.int .i64 0)),no⟩]) (.blk 0 (.loop (.seq (.seq (.reg [⟨some 4,.mv (.t 3),no⟩,⟨some 5,.mv (.t 0),no⟩,⟨some 6,.len false (.t 5),no⟩,⟨some 7,.bin .lss (.t 4) (.t 6),no⟩]) (.cond (.t 7) .skip (.exit 0))) (.seq (.blk 1 (.seq (.reg [⟨some 10,.mv (.t 0),no⟩,⟨some 11,.mv (.t 3),no⟩,⟨some 12,.ixa 1 (.t 10) (.t 11),no⟩,⟨some 13,.ld false 1 (.t 12),no⟩,⟨some 14,.call (.k (.fn (.func 285) [] [])) [.t 13],no⟩,⟨some 15,.un .not (.t 14),no⟩]) (.cond (.t 15) (.seq (.reg [⟨some 2,.mv (.k (.bool false)),no⟩]) .ret) .skip))) (.reg [⟨some 8,.mv (.t 3),no⟩,⟨some 9,.bin .add (.t 8) (.k (.int .i64 1)),no⟩,⟨some 3,.mv (.t 9),no⟩])))))) (.seq (.reg [⟨some 16,.mv (.t 0),no⟩,⟨some 17,.call (.k (.fn (.func 218) [] [])) [.t 16],no⟩,⟨some 2,.mv (.t 17),no⟩]) .ret)))⟩
theorem a217_ok:J0a Tryz.prog Tryz.f217=some a217:=by kernel_rfl
def a142:AFn:= ⟨6,[.t 2],(.seq (.reg [⟨some 2,.mv (.k (.bool false)),no⟩]) (.seq (.reg [⟨some 3,.mv (.t 0),no⟩,⟨some 4,.call (.k (.fn (.func 143) [] [])) [.t 3],no⟩,⟨some 5,.un .not (.t 4),no⟩,⟨some 2,.mv (.t 5),no⟩]) .ret))⟩
theorem a142_ok:J0a Tryz.prog Tryz.f142=some a142:=by kernel_rfl
def a145:AFn:= ⟨10,[.t 3],(.seq (.reg [⟨some 2,.boxv (.t 0),no⟩,⟨some 3,.mv (.k (.bool false)),no⟩]) (.seq (.reg [⟨some 4,.ld true 2 (.t 2),no⟩,⟨some 5,.fld 1 (.t 1),no⟩,⟨some 6,.ld false 1 (.t 5),no⟩,⟨some 7,.len false (.t 6),no⟩,⟨some 8,.call (.k (.fn (.func 146) [] [])) [.t 4,.t 7],no⟩,⟨some 9,.un .not (.t 8),no⟩,⟨some 3,.mv (.t 9),no⟩]) .ret))⟩
theorem a145_ok:J0a Tryz.prog Tryz.f145=some a145:=by kernel_rfl
def a148:AFn:= ⟨8,[.t 3],(.seq (.reg [⟨some 2,.boxv (.t 0),no⟩,⟨some 3,.mv (.k (.bool false)),no⟩]) (.seq (.reg [⟨some 4,.ld true 2 (.t 1),no⟩,⟨some 5,.ld true 7 (.t 2),no⟩,⟨some 6,.call (.k (.fn (.func 149) [] [])) [.t 4,.t 5],no⟩,⟨some 7,.un .not (.t 6),no⟩,⟨some 3,.mv (.t 7),no⟩]) .ret))⟩
theorem a148_ok:J0a Tryz.prog Tryz.f148=some a148:=by kernel_rfl
def a67:AFn:= ⟨69,[.t 2],(.seq (.reg [⟨some 1,.boxv (.t 0),no⟩,⟨some 2,.mv (.k (.bool false)),no⟩]) (.seq (.seq (.reg [⟨some 5,.fld 0 (.t 1),no⟩,⟨some 6,.ld false 1 (.t 5),no⟩,⟨some 7,.len false (.t 6),no⟩,⟨some 8,.call (.k (.fn (.func 102) [] [])) [.t 7,(.k (.int .i64 1)),(.k (.int .i64 3))],no⟩,⟨some 9,.un .not (.t 8),no⟩,⟨some 10,.mv (.t 9),no⟩,⟨some 11,.fld 1 (.t 1),(some (10,false))⟩,⟨some 12,.ld false 1 (.t 11),(some (10,false))⟩,⟨some 13,.len false (.t 12),(some (10,false))⟩,⟨some 14,.bin .gtr (.t 13) (.k (.int .i64 8)),(some (10,false))⟩,⟨some 15,.pick (.t 10) (.k (.bool true)) (.t 14),no⟩]) (.cond (.t 15) (.seq (.reg [⟨some 2,.mv (.k (.bool false)),no⟩]) .ret) .skip)) (.seq (.seq (.reg [⟨some 16,.fld 0 (.t 1),no⟩,⟨some 17,.ld false 1 (.t 16),no⟩,⟨some 18,.len false (.t 17),no⟩,⟨some 19,.mv (.k (.int .i64 0)),no⟩]) (.blk 0 (.loop (.seq (.reg [⟨some 20,.bin .lss (.t 19) (.t 18),no⟩]) (.seq (.cond (.t 20) .skip (.exit 0)) (.seq (.blk 1 (.seq (.reg [⟨some 21,.mv (.t 19),no⟩,⟨some 22,.ixa 4 (.t 17) (.t 19),no⟩,⟨some 23,.ld true 4 (.t 22),no⟩,⟨some 4,.box [(.str []),(.nil 1),(.bool false),(.nil 2)],no⟩,⟨some 3,.mv (.t 21),no⟩,⟨no,.st 4 (.t 4) (.t 23),no⟩]) (.seq (.seq (.reg [⟨some 24,.fld 0 (.t 4),no⟩,⟨some 25,.ld false 1 (.t 24),no⟩,⟨some 26,.call (.k (.fn (.func 140) [] [])) [.t 25],no⟩,⟨some 27,.un .not (.t 26),no⟩,⟨some 28,.mv (.t 27),no⟩,⟨some 29,.ld true 2 (.t 1),(some (28,false))⟩,⟨some 30,.fld 0 (.t 4),(some (28,false))⟩,⟨some 31,.ld false 1 (.t 30),(some (28,false))⟩,⟨some 32,.call (.k (.fn (.func 84) [] [])) [.t 29,.t 31],(some (28,false))⟩,⟨some 33,.mv (.t 3),(some (28,false))⟩,⟨some 34,.bin .neq (.t 32) (.t 33),(some (28,false))⟩,⟨some 35,.pick (.t 28) (.k (.bool true)) (.t 34),no⟩,⟨some 36,.mv (.t 35),no⟩,⟨some 37,.fld 1 (.t 4),(some (36,false))⟩,⟨some 38,.ld false 1 (.t 37),(some (36,false))⟩,⟨some 39,.len false (.t 38),(some (36,false))⟩,⟨some 40,.bin .gtr (.t 39) (.k (.int .i64 2)),(some (36,false))⟩,⟨some 41,.pick (.t 36) (.k (.bool true)) (.t 40),no⟩,⟨some 42,.mv (.t 41),no⟩,⟨some 43,.fld 1 (.t 4),(some (42,false))⟩,⟨some 44,.ld false 1 (.t 43),(some (42,false))⟩,⟨some 45,.call (.k (.fn (.func 141) [] [])) [.t 44],(some (42,false))⟩,⟨some 46,.un .not (.t 45),(some (42,false))⟩,⟨some 47,.pick (.t 42) (.k (.bool true)) (.t 46),no⟩,⟨some 48,.mv (.t 47),no⟩,⟨some 49,.fld 3 (.t 4),(some (48,false))⟩,⟨some 50,.ld false 1 (.t 49),(some (48,false))⟩,⟨some 51,.len false (.t 50),(some (48,false))⟩,⟨some 52,.bin .gtr (.t 51) (.k (.int .i64 2)),(some (48,false))⟩,⟨some 53,.pick (.t 48) (.k (.bool true)) (.t 52),no⟩]) (.cond (.t 53) (.seq (.reg [⟨some 2,.mv (.k (.bool false)),no⟩]) .ret) .skip)) (.seq (.reg [⟨some 54,.fld 1 (.t 4),no⟩,⟨some 55,.ld false 1 (.t 54),no⟩,⟨some 56,.call (.k (.fn (.func 69) [] [])) [.t 55,(.k (.fn (.func 142) [] []))],no⟩,⟨some 57,.mv (.t 56),no⟩,⟨some 58,.fld 3 (.t 4),(some (57,false))⟩,⟨some 59,.ld false 1 (.t 58),(some (57,false))⟩,⟨some 60,.mkf (.func 145) [] [.t 4],(some (57,false))⟩,⟨some 61,.call (.k (.fn (.func 144) [] [])) [.t 59,.t 60],(some (57,false))⟩,⟨some 62,.pick (.t 57) (.k (.bool true)) (.t 61),no⟩]) (.cond (.t 62) (.seq (.reg [⟨some 2,.mv (.k (.bool false)),no⟩]) .ret) .skip))))) (.reg [⟨some 63,.bin .add (.t 19) (.k (.int .i64 1)),no⟩,⟨some 19,.mv (.t 63),no⟩]))))))) (.seq (.reg [⟨some 64,.fld 1 (.t 1),no⟩,⟨some 65,.ld false 1 (.t 64),no⟩,⟨some 66,.mkf (.func 148) [] [.t 1],no⟩,⟨some 67,.call (.k (.fn (.func 147) [] [])) [.t 65,.t 66],no⟩,⟨some 68,.un .not (.t 67),no⟩,⟨some 2,.mv (.t 68),no⟩]) .ret))))⟩
theorem a67_ok:J0a Tryz.prog Tryz.f67=some a67:=by kernel_rfl
theorem Jg3 (l:List Str):Holds Tryz.prog 217 [.sl 1 (J0e l)] (fun r=>r = .bool (l.all J3i&&J85 l)):=by
 refine J1h Tryz.func217 rfl rfl fun hl => ?_
 simp at hl
 refine J03 Tryz.func217 a217_ok rfl (by simp [a217]) ?_
 simp [a217]
 generalize hB:l.all J3i=B
 refine J3t [0] 3 l.length (fun i _=>(l.drop i).all J3i=B) hl (by simp) (by simpa using hB) ?_ ?_
 ·rintro i st h R hi hg hk s3 hw hJ hh hR hret _
  simp at hk
  rw [List.drop_eq_getElem_cons hi,List.all_cons] at hJ
  simp [hk,s3,hi,hg]
  intro _
  first|refine J00 (J34 (l[i]'hi)) (by first|simp;done|rfl) ?_|refine J02 (J34 (l[i]'hi)) (by first|simp;done|rfl) ?_
  rintro r rfl
  cases hc:J3i l[i]
  ·rw [hc,Bool.false_and] at hJ
   subst hJ
   simp
   refine hret _ _ _ ?_
   simp
  ·rw [hc,Bool.true_and] at hJ
   simp [hk,s3,hw]
   exact hR _ (by simp [hk]) (by simp) hJ
 ·rintro st h R hk s3 hJ hh _ hX
  simp at hk
  rw [List.drop_eq_nil_of_le (by omega)] at hJ
  simp at hJ
  subst hJ
  simp [hk,s3]
  intro _
  refine hX _ _ ?_
  simp [hk]
  first|refine J00 (J48 l) (by first|simp;done|rfl) ?_|refine J02 (J48 l) (by first|simp;done|rfl) ?_
  rintro r rfl
  simp
theorem K8z (s:Str):Holds Tryz.prog 142 [.str s] (fun r=>r = .bool (!J3i s)):=by
 refine J03 Tryz.func142 a142_ok rfl (by simp [a142]) ?_
 simp [a142]
 first|refine J00 (J4q s) (by first|simp;done|rfl) ?_|refine J02 (J4q s) (by first|simp;done|rfl) ?_
 rintro r rfl
 simp
theorem Js2 {h:Heap}{n id:Nat}{f:DFunction}(x:DLin) (hv:h id=some ⟨true,4,[J04 f]⟩) (hid:id<n):Jfp Tryz.prog 145 [] [.ptr id 0 0] h n (.agg (J07 x)) (.bool (!J14 x f.Params.length)):=by
 intro K hK
 refine J9x ?_
 refine J2g Tryz.func145 a145_ok rfl (by simp [a145]) ?_
 have n1:¬id=n:=by omega
 simp [a145,hv,n1,J07,J04]
 intro _
 first|refine J00 (J0y x f.Params.length) (by first|simp [J07];done|rfl) ?_|refine J02 (J0y x f.Params.length) (by first|simp [J07];done|rfl) ?_
 rintro r rfl
 simp [Jnp,hK]
 intro j hj hj'
 omega
theorem Js5 {h:Heap}{n id:Nat}{p:DProgram}(x:DRule) (hp:J0f p≤1048576) (hx:J39 x≤1048576) (hv:h id=some ⟨true,2,[J01 p]⟩) (hid:id<n):Jfp Tryz.prog 148 [] [.ptr id 0 0] h n (.agg (J0c x)) (.bool (!J7e p x)):=by
 intro K hK
 refine J9x ?_
 refine J2g Tryz.func148 a148_ok rfl (by simp [a148]) ?_
 have n1:¬id=n:=by omega
 simp [a148,hv,n1,J0c,J01]
 first|refine J00 (Jbi p x hp hx) (by first|simp [J0c,J01];done|rfl) ?_|refine J02 (Jbi p x hp hx) (by first|simp [J0c,J01];done|rfl) ?_
 rintro r rfl
 simp [Jnp,hK]
 intro j hj hj'
 omega
theorem J9j {p:DProgram}(hp:J0f p≤1048576):∀ r∈p.Rules,J39 r≤1048576:=fun r hr=>by
 have:=J3d (w:=J39) hr
 unfold J0f J7v at hp
 omega
theorem Ji4 {met:List Str}{l:List DFunction}{i:Nat}(hi:i<l.length):J8f met (l.drop i)=((Jji l[i] && !J47 met (l[i]).Name)&&J8f (met++[(l[i]).Name]) (l.drop (i+1))):=by
 rw [List.drop_eq_getElem_cons hi];rfl
def Jgv (l:List DFunction) (i:Nat):List Str:=(l.take i).map (·.Name)
theorem Jiz {l:List DFunction}{i:Nat}(hi:i<l.length):Jgv l (i+1)=Jgv l i++[(l[i]).Name]:=by unfold Jgv;rw [List.take_succ_eq_append_getElem hi,List.map_append];rfl
theorem J2h (p:DProgram) (hp:J0f p≤1048576):Holds Tryz.prog 67 [.agg (J01 p)] (fun x=>x = .bool (J2l p)):=by
 have hlf:p.Functions.length≤1048576:=by have:=J27 J11 p.Functions;unfold J0f J28 at hp;omega
 refine J03 Tryz.func67 a67_ok rfl (by simp [a67]) ?_
 simp [a67,J01]
 intro _
 first|refine J00 (J1s p.Functions.length 1 3) (by first|simp;done|rfl) ?_|refine J02 (J1s p.Functions.length 1 3) (by first|simp;done|rfl) ?_
 rintro r rfl
 unfold J2l
 cases h1:inR p.Functions.length 1 3
 ·simp
 simp
 intro _
 have hdg:decide (p.Rules.length≤8)=decide ((p.Rules.length:Int)≤8):=by rw [decide_eq_decide];omega
 by_cases h2:(p.Rules.length:Int)≤8
 case neg=>
  have h2n:¬p.Rules.length≤8:=by omega
  simp [h2,h2n,Int.not_le.1 h2]
 have h2n:p.Rules.length≤8:=by omega
 simp [h2,h2n,Int.not_lt.2 h2]
 intro _
 generalize hB:J8f [] p.Functions=B
 refine J0o [1,17,18] 19 p.Functions.length (fun i s h n=>0<n∧h 0=some ⟨true,2,[J01 p]⟩∧J8f (Jgv p.Functions i) (p.Functions.drop i)=B) (by unfold LIM;omega) (by simp) ⟨by simp,by simp [J01],by simpa [Jgv] using hB⟩ ?_ ?_
 ·rintro i st h n R hi hg hk s19 hw ⟨hn,e0,hJ⟩ hR hret _
  simp at hk
  rw [Ji4 hi,←Jiz hi] at hJ
  have z0:¬0=n:=by omega
  have z1:¬n=0:=by omega
  refine J0i [1,17,18,19] (fun s=>s 20 = .bool true) (by simp [hk,s19,hi]) ?_
  intro st1 hk1 s20
  simp at hk1
  refine J3g s20 (J0b (J1c ?_))
  refine J15 [1,17,18,19] (fun s h' n'=>s 3 = .int .i64 i∧s 4 = .ptr n 0 0∧n'=n+1∧h' n=some ⟨true,4,[J04 p.Functions[i]]⟩∧h' 0=some ⟨true,2,[J01 p]⟩) (by simp [hk,hk1,s19,hi,J04,e0,z0,z1]) ?_
  rintro st2 h2' n2 hk2 ⟨s3,s4,rfl,en,e0'⟩
  simp at hk2
  generalize hf:p.Functions[i]=f at *
  refine J0b (J0i [1,3,4,17,18,19] (fun s=>s 53 = .bool (!J2f f.Name||J47 (Jgv p.Functions i) f.Name || !decide (f.Params.length≤2) || !J85 f.Params || !decide (f.Pre.length≤2))) ?_ ?_)
  ·have hdp:decide (f.Params.length≤2)=decide ((f.Params.length:Int)≤2):=by rw [decide_eq_decide];omega
   have hdq:decide (f.Pre.length≤2)=decide ((f.Pre.length:Int)≤2):=by rw [decide_eq_decide];omega
   rw [hdp,hdq]
   simp [hk,hk1,hk2,s4,s3,en,e0',J04,z0,z1]
   first|refine J00 (J4g f.Name) (by first|simp;done|rfl) ?_|refine J02 (J4g f.Name) (by first|simp;done|rfl) ?_
   rintro r rfl
   cases g1:J2f f.Name
   ·simp
   simp [hk,hk1,hk2,s4,s3,en,e0',J04,J01,z0,z1]
   first|refine J00 (J2i p f.Name) (by first|simp [J01];done|rfl) ?_|refine J02 (J2i p f.Name) (by first|simp [J01];done|rfl) ?_
   rintro r rfl
   have hidx:=Jo2 hi
   rw [hf] at hidx
   rw [show List.map (·.Name) (List.take i p.Functions)=Jgv p.Functions i from rfl] at hidx
   generalize J1i (fun g=>g.Name==f.Name) p.Functions 0=k1 at hidx
   cases g2:J47 (Jgv p.Functions i) f.Name
   case true=>
    rw [g2] at hidx
    have hk1n:¬k1=(i:Int):=by simpa using hidx
    simp [hk1n,s3]
   rw [g2] at hidx
   have hk1n:k1=(i:Int):=by simpa using hidx
   subst hk1n
   simp [hk,hk1,hk2,s4,s3,en,e0',J04,J01,z0,z1]
   intro _
   by_cases g3:(f.Params.length:Int)≤2
   case neg=>simp [g3,Int.not_le.1 g3]
   simp [g3,Int.not_lt.2 g3,hk,hk1,hk2,s4,s3,en,e0',J04,J01,z0,z1]
   first|refine J00 (J6q f.Params) (by first|simp;done|rfl) ?_|refine J02 (J6q f.Params) (by first|simp;done|rfl) ?_
   rintro r rfl
   cases g4:J85 f.Params
   ·simp
   simp [hk,hk1,hk2,s4,s3,en,e0',J04,J01,z0,z1]
   intro _
   by_cases g5:(f.Pre.length:Int)≤2
   ·simp [g5,Int.not_lt.2 g5]
   ·simp [g5,Int.not_le.1 g5]
  intro st3 hk3 s53
  simp at hk3
  generalize hcc:(!J2f f.Name||J47 (Jgv p.Functions i) f.Name || !decide (f.Params.length≤2) || !J85 f.Params || !decide (f.Pre.length≤2))=cc at *
  have hbody:(Jji f && !J47 (Jgv p.Functions i) f.Name)=(!cc&&(f.Params.all J3i&&f.Pre.all fun l=>J14 l f.Params.length)):=by
   rw [←hcc]
   unfold Jji
   cases J2f f.Name <;> cases J47 (Jgv p.Functions i) f.Name <;> cases decide (f.Params.length≤2) <;> cases J85 f.Params <;> cases decide (f.Pre.length≤2) <;> cases f.Params.all J3i <;> simp
  rw [hbody] at hJ
  clear hbody hcc
  cases cc
  case true=>
   simp at hJ
   simp [s53]
   refine hret _ _ _ ?_
   simp [hJ]
  refine Jht s53 ?_
  simp only [Jhg]
  simp only [Bool.not_false,Bool.true_and] at hJ
  refine J0i [1,3,4,17,18,19] (fun s=>s 62 = .bool (!(f.Params.all J3i&&f.Pre.all fun l=>J14 l f.Params.length))) ?_ ?_
  ·simp [hk,hk1,hk2,hk3,s4,s3,en,e0',J04,z0,z1]
   refine J1d (p:=fun s => !J3i s) (rowOf:=fun s=>[.str s]) (eltOf:=fun s => .str s) Tryz.func69 a69_ok rfl Tryz.func150 a150_ok rfl (fun x=>by simp) f.Params
    (fun s _=>J4y (K8z s) rfl rfl) ?_
   rw [J89]
   cases g1:f.Params.all J3i
   ·simp
   simp [hk,hk1,hk2,hk3,s4,s3,en,e0',J04,z0,z1]
   refine J1d (p:=fun l => !J14 l f.Params.length) (rowOf:=J07) (eltOf:=fun l => .agg (J07 l)) Tryz.func144 a144_ok rfl Tryz.func231 a231_ok rfl (fun x=>by simp) f.Pre
    (fun x _=>Js2 (f:=f) x en (Nat.lt_succ_self n)) ?_
   rw [J89]
   simp
  intro st4 hk4 s62
  simp at hk4
  generalize (f.Params.all J3i&&f.Pre.all fun l=>J14 l f.Params.length)=D at *
  cases D
  ·rw [Bool.false_and] at hJ
   subst hJ
   simp [s62]
   refine hret _ _ _ ?_
   simp
  ·rw [Bool.true_and] at hJ
   simp [hk,hk1,hk2,hk3,hk4,s62,s19,hw]
   exact hR _ _ _ (by simp [hk,hk1,hk2,hk3,hk4]) (by simp) ⟨by omega,e0',hJ⟩
 rintro st h n R hk s19 ⟨hn,e0,hJ⟩ hret hX
 simp at hk
 rw [List.drop_eq_nil_of_le (by omega)] at hJ
 refine J0i [1] (fun s=>s 20 = .bool false) (by simp [hk,s19]) ?_
 intro st1 hk1 s20
 simp at hk1
 refine J37 s20 ?_
 refine hX _ _ _ _ ?_
 simp [J8f] at hJ
 subst hJ
 clear hX hret hB
 simp [hk,hk1,e0,J01]
 refine J1d (p:=fun r => !J7e p r) (rowOf:=J0c) (eltOf:=fun r => .agg (J0c r)) Tryz.func147 a147_ok rfl Tryz.func235 a235_ok rfl (fun x=>by simp) p.Rules
  (fun x hx=>Js5 x hp (J9j hp x hx) e0 hn) ?_
 rw [J89]
 simp
def mo0:AC:=(.reg [⟨some 2,.boxv (.t 0),no⟩,⟨some 4,.box [(.int .i64 0),(.nil 2),(.nil 2),(.nil 1),(.int .i64 0),(.nil 1)],no⟩,⟨some 5,.mv (.k (.bool false)),no⟩])
def mo1:AC:=(.seq (.reg [⟨some 40,.ld true 2 (.t 2),no⟩,⟨some 41,.call (.k (.fn (.func 67) [] [])) [.t 40],no⟩,⟨some 42,.un .not (.t 41),no⟩,⟨some 43,.mv (.t 42),no⟩,⟨some 44,.mv (.t 1),(some (43,false))⟩,⟨some 45,.fld 1 (.t 2),(some (43,false))⟩,⟨some 46,.ld false 1 (.t 45),(some (43,false))⟩,⟨some 47,.len false (.t 46),(some (43,false))⟩,⟨some 48,.bin .sub (.t 47) (.k (.int .i64 1)),(some (43,false))⟩,⟨some 49,.call (.k (.fn (.func 102) [] [])) [.t 44,(.k (.int .i64 0)),.t 48],(some (43,false))⟩,⟨some 50,.un .not (.t 49),(some (43,false))⟩,⟨some 51,.pick (.t 43) (.k (.bool true)) (.t 50),no⟩]) (.cond (.t 51) (.seq (.reg [⟨some 52,.build [(.int .i64 0),(.nil 2),(.nil 2),(.nil 1),(.int .i64 0),(.nil 1)] [],no⟩,⟨no,.st 6 (.t 4) (.t 52),no⟩,⟨some 5,.mv (.k (.bool false)),no⟩]) .ret) .skip))
def mo2:AC:=(.reg [⟨some 53,.fld 1 (.t 2),no⟩,⟨some 54,.ld false 1 (.t 53),no⟩,⟨some 55,.mv (.t 1),no⟩,⟨some 56,.ixa 7 (.t 54) (.t 55),no⟩,⟨some 57,.ld true 7 (.t 56),no⟩,⟨some 6,.box [(.str []),(.nil 4),(.nil 2),(.nil 3),(.bool false),(.nil 2),(.str [])],no⟩,⟨no,.st 7 (.t 6) (.t 57),no⟩])
def mo3:AC:=(.reg [⟨some 59,.ld true 2 (.t 2),no⟩,⟨some 60,.fld 0 (.t 6),no⟩,⟨some 61,.ld false 1 (.t 60),no⟩,⟨some 62,.call (.k (.fn (.func 176) [] [])) [.t 59,.t 61],no⟩,⟨some 58,.mv (.t 62),no⟩,⟨some 63,.ext (.t 58) 0,no⟩,⟨some 64,.ext (.t 58) 1,no⟩,⟨some 7,.box [(.str []),(.nil 1),(.bool false),(.nil 2)],no⟩,⟨no,.st 4 (.t 7) (.t 63),no⟩,⟨some 8,.mv (.t 64),no⟩])
def mo4:AC:=(.reg [⟨some 65,.fld 1 (.t 7),no⟩,⟨some 66,.ld false 1 (.t 65),no⟩,⟨some 67,.len false (.t 66),no⟩,⟨some 68,.fld 3 (.t 6),no⟩,⟨some 69,.ld false 1 (.t 68),no⟩,⟨some 70,.len false (.t 69),no⟩,⟨some 71,.bin .add (.t 67) (.t 70),no⟩,⟨some 9,.box [(.int .i64 0)],no⟩,⟨no,.st 1 (.t 9) (.t 71),no⟩])
def mo5:AC:=(.seq (.reg [⟨some 72,.fld 1 (.t 6),no⟩,⟨some 73,.ld false 1 (.t 72),no⟩,⟨some 74,.len false (.t 73),no⟩,⟨some 75,.mv (.k (.int .i64 0)),no⟩]) (.blk 0 (.loop (.seq (.reg [⟨some 76,.bin .lss (.t 75) (.t 74),no⟩]) (.seq (.cond (.t 76) .skip (.exit 0)) (.seq (.blk 1 (.seq (.reg [⟨some 77,.ixa 4 (.t 73) (.t 75),no⟩,⟨some 78,.ld true 4 (.t 77),no⟩,⟨some 11,.box [(.str []),(.bool false),(.str []),(.str [])],no⟩,⟨no,.st 4 (.t 11) (.t 78),no⟩]) (.seq (.reg [⟨some 79,.fld 1 (.t 11),no⟩,⟨some 80,.ld false 1 (.t 79),no⟩]) (.cond (.t 80) (.reg [⟨some 81,.ld false 1 (.t 9),no⟩,⟨some 82,.bin .add (.t 81) (.k (.int .i64 1)),no⟩,⟨no,.st 1 (.t 9) (.t 82),no⟩]) .skip)))) (.reg [⟨some 83,.bin .add (.t 75) (.k (.int .i64 1)),no⟩,⟨some 75,.mv (.t 83),no⟩])))))))
def mo6:AC:=(.reg [⟨some 84,.ld false 1 (.t 9),no⟩,⟨some 85,.build [(.int .i64 0),(.nil 2)] [(0,(1,(.t 84)))],no⟩,⟨some 86,.build [(.int .i64 0),(.nil 2),(.nil 2),(.nil 1),(.int .i64 0),(.nil 1)] [(0,(2,(.t 85)))],no⟩,⟨some 12,.box [(.int .i64 0),(.nil 2),(.nil 2),(.nil 1),(.int .i64 0),(.nil 1)],no⟩,⟨no,.st 6 (.t 12) (.t 86),no⟩])
def mo7:AC:=(.reg [⟨some 87,.mmk,no⟩,⟨some 13,.box [.undef],no⟩,⟨no,.st 1 (.t 13) (.t 87),no⟩])
def mo8:AC:=(.reg [⟨some 14,.box [(.int .i64 0)],no⟩,⟨no,.st 1 (.t 14) (.k (.int .i64 0)),no⟩])
def mo9:AC:=(.reg [⟨some 88,.mkf (.func 202) [] [.t 14,.t 9,.t 13],no⟩,⟨some 15,.mv (.t 88),no⟩])
def K9o:AC:=(.reg [⟨some 89,.mkf (.func 204) [] [.t 12],no⟩,⟨some 16,.mv (.t 89),no⟩])
def Jx5:AC:=(.draw (.op ⟨some 100,.fld 2 (.t 12),no⟩ (.op ⟨some 101,.ld false 1 (.t 100),no⟩ (.op ⟨some 102,.ld true 2 (.t 19),no⟩ (.op ⟨some 103,.call (.k (.fn (.func 86) [] [])) [.t 102],no⟩ (.hop ⟨some 104,.bsl 2 [.t 103],no⟩ [(.ld false 1 (.t 100)),(.fld 2 (.t 12))] (.hop ⟨some 105,.app 32 2 (.t 101) (.t 104),no⟩ [] (.op ⟨some 106,.fld 2 (.t 12),no⟩ (.hop ⟨no,.st 1 (.t 106) (.t 105),no⟩ [] .fin)))))))))
def K6q:AC:=(.seq (.reg [⟨some 90,.fld 1 (.t 7),no⟩,⟨some 91,.ld false 1 (.t 90),no⟩,⟨some 92,.len false (.t 91),no⟩,⟨some 93,.mv (.k (.int .i64 0)),no⟩]) (.blk 2 (.loop (.seq (.reg [⟨some 94,.bin .lss (.t 93) (.t 92),no⟩]) (.seq (.cond (.t 94) .skip (.exit 2)) (.seq (.blk 3 (.seq (.reg [⟨some 95,.ixa 1 (.t 91) (.t 93),no⟩,⟨some 96,.ld false 1 (.t 95),no⟩,⟨some 18,.mv (.t 96),no⟩]) (.seq (.reg [⟨some 97,.mv (.t 15),no⟩,⟨some 98,.mv (.t 18),no⟩,⟨some 99,.call (.t 97) [.t 98],no⟩,⟨some 19,.box [(.int .i64 0),(.nil 1)],no⟩,⟨no,.st 2 (.t 19) (.t 99),no⟩]) (.seq Jx5 (.seq (.reg [⟨some 107,.mv (.t 18),no⟩,⟨some 108,.call (.k (.fn (.func 205) [] [])) [.t 107],no⟩]) (.cond (.t 108) (.reg [⟨some 109,.mv (.t 16),no⟩,⟨some 110,.ld true 2 (.t 19),no⟩,⟨some 111,.call (.t 109) [.t 110],no⟩]) .skip)))))) (.reg [⟨some 112,.bin .add (.t 93) (.k (.int .i64 1)),no⟩,⟨some 93,.mv (.t 112),no⟩])))))))
def K8l:AC:=(.seq (.reg [⟨some 113,.fld 3 (.t 7),no⟩,⟨some 114,.ld false 1 (.t 113),no⟩,⟨some 115,.len false (.t 114),no⟩,⟨some 116,.mv (.k (.int .i64 0)),no⟩]) (.blk 4 (.loop (.seq (.reg [⟨some 117,.bin .lss (.t 116) (.t 115),no⟩]) (.seq (.cond (.t 117) .skip (.exit 4)) (.seq (.blk 5 (.seq (.reg [⟨some 118,.ixa 2 (.t 114) (.t 116),no⟩,⟨some 119,.ld true 2 (.t 118),no⟩,⟨some 21,.box [(.int .i64 0),(.nil 1)],no⟩,⟨no,.st 2 (.t 21) (.t 119),no⟩]) (.seq (.reg [⟨some 121,.ld true 2 (.t 21),no⟩,⟨some 122,.fld 2 (.t 12),no⟩,⟨some 123,.ld false 1 (.t 122),no⟩,⟨some 124,.ld false 1 (.t 9),no⟩,⟨some 125,.call (.k (.fn (.func 191) [] [])) [.t 121,.t 123,.t 124],no⟩,⟨some 120,.mv (.t 125),no⟩,⟨some 126,.ext (.t 120) 0,no⟩,⟨some 127,.ext (.t 120) 1,no⟩,⟨some 22,.box [(.int .i64 0),(.nil 1)],no⟩,⟨no,.st 2 (.t 22) (.t 126),no⟩,⟨some 23,.mv (.t 127),no⟩]) (.seq (.seq (.reg [⟨some 128,.mv (.t 23),no⟩,⟨some 129,.un .not (.t 128),no⟩]) (.cond (.t 129) (.seq (.reg [⟨some 130,.build [(.int .i64 0),(.nil 2),(.nil 2),(.nil 1),(.int .i64 0),(.nil 1)] [],no⟩,⟨no,.st 6 (.t 4) (.t 130),no⟩,⟨some 5,.mv (.k (.bool false)),no⟩]) .ret) .skip)) (.reg [⟨some 131,.mv (.t 16),no⟩,⟨some 132,.ld true 2 (.t 22),no⟩,⟨some 133,.call (.t 131) [.t 132],no⟩]))))) (.reg [⟨some 134,.bin .add (.t 116) (.k (.int .i64 1)),no⟩,⟨some 116,.mv (.t 134),no⟩])))))))
def Juf:AC:=(.draw (.op ⟨some 146,.ld false 1 (.t 9),no⟩ (.op ⟨some 148,.ld false 1 (.t 13),no⟩ (.op ⟨some 149,.fld 0 (.t 25),no⟩ (.op ⟨some 150,.ld false 1 (.t 149),no⟩ (.op ⟨some 151,.mget (.agg [(.int .i64 0),(.nil 1)]) (.t 148) (.t 150),no⟩ (.both (.op ⟨some 147,.call (.k (.fn (.func 178) [] [])) [(.k (.int .i64 0)),.t 146],no⟩ (.both (.op ⟨some 152,.call (.k (.fn (.func 193) [] [])) [.t 147,(.k (.int .i64 (-1))),.t 151],no⟩ (.op ⟨some 145,.mv (.t 152),no⟩ (.op ⟨some 153,.ext (.t 145) 0,no⟩ (.op ⟨some 154,.ext (.t 145) 1,no⟩ (.op ⟨some 26,.box [(.int .i64 0),(.nil 1)],no⟩ (.hop ⟨no,.st 2 (.t 26) (.t 153),no⟩ [] (.op ⟨some 27,.mv (.t 154),no⟩ .fin))))))) (.op ⟨some 26,.box [(.int .i64 0),(.nil 1)],no⟩ (.op ⟨some 152,.call (.k (.fn (.func 193) [] [])) [.t 147,(.k (.int .i64 (-1))),.t 151],no⟩ (.op ⟨some 145,.mv (.t 152),no⟩ (.op ⟨some 153,.ext (.t 145) 0,no⟩ (.op ⟨some 154,.ext (.t 145) 1,no⟩ (.hop ⟨no,.st 2 (.t 26) (.t 153),no⟩ [] (.op ⟨some 27,.mv (.t 154),no⟩ .fin))))))))) (.op ⟨some 26,.box [(.int .i64 0),(.nil 1)],no⟩ (.op ⟨some 147,.call (.k (.fn (.func 178) [] [])) [(.k (.int .i64 0)),.t 146],no⟩ (.op ⟨some 152,.call (.k (.fn (.func 193) [] [])) [.t 147,(.k (.int .i64 (-1))),.t 151],no⟩ (.op ⟨some 145,.mv (.t 152),no⟩ (.op ⟨some 153,.ext (.t 145) 0,no⟩ (.op ⟨some 154,.ext (.t 145) 1,no⟩ (.hop ⟨no,.st 2 (.t 26) (.t 153),no⟩ [] (.op ⟨some 27,.mv (.t 154),no⟩ .fin)))))))))))))))
def K5n:AC:=(.seq (.reg [⟨some 135,.fld 1 (.t 6),no⟩,⟨some 136,.ld false 1 (.t 135),no⟩,⟨some 137,.len false (.t 136),no⟩,⟨some 138,.mv (.k (.int .i64 0)),no⟩]) (.blk 6 (.loop (.seq (.reg [⟨some 139,.bin .lss (.t 138) (.t 137),no⟩]) (.seq (.cond (.t 139) .skip (.exit 6)) (.seq (.blk 7 (.seq (.reg [⟨some 140,.ixa 4 (.t 136) (.t 138),no⟩,⟨some 141,.ld true 4 (.t 140),no⟩,⟨some 25,.box [(.str []),(.bool false),(.str []),(.str [])],no⟩,⟨no,.st 4 (.t 25) (.t 141),no⟩]) (.seq (.seq (.reg [⟨some 142,.fld 1 (.t 25),no⟩,⟨some 143,.ld false 1 (.t 142),no⟩,⟨some 144,.un .not (.t 143),no⟩]) (.cond (.t 144) (.seq Juf (.seq (.reg [⟨some 155,.mv (.t 16),no⟩,⟨some 156,.ld true 2 (.t 26),no⟩,⟨some 157,.call (.t 155) [.t 156],no⟩]) (.exit 7))) .skip)) (.seq (.reg [⟨some 158,.mv (.t 15),no⟩,⟨some 159,.fld 2 (.t 25),no⟩,⟨some 160,.ld false 1 (.t 159),no⟩,⟨some 161,.call (.t 158) [.t 160],no⟩]) (.seq (.reg [⟨some 163,.ld false 1 (.t 13),no⟩,⟨some 164,.fld 0 (.t 25),no⟩,⟨some 165,.ld false 1 (.t 164),no⟩,⟨some 166,.mget (.agg [(.int .i64 0),(.nil 1)]) (.t 163) (.t 165),no⟩,⟨some 167,.call (.k (.fn (.func 189) [] [])) [.t 166,(.k (.int .i64 (-1)))],no⟩,⟨some 162,.mv (.t 167),no⟩,⟨some 168,.ext (.t 162) 0,no⟩,⟨some 169,.ext (.t 162) 1,no⟩,⟨some 28,.box [(.int .i64 0),(.nil 1)],no⟩,⟨no,.st 2 (.t 28) (.t 168),no⟩,⟨some 29,.mv (.t 169),no⟩]) (.seq (.reg [⟨some 170,.ld false 1 (.t 13),no⟩,⟨some 171,.fld 3 (.t 25),no⟩,⟨some 172,.ld false 1 (.t 171),no⟩,⟨some 173,.ld true 2 (.t 28),no⟩,⟨no,.mput (.t 170) (.t 172) (.t 173),no⟩]) (.reg [⟨some 174,.mv (.t 16),no⟩,⟨some 175,.ld true 2 (.t 28),no⟩,⟨some 176,.call (.t 174) [.t 175],no⟩]))))))) (.reg [⟨some 177,.bin .add (.t 138) (.k (.int .i64 1)),no⟩,⟨some 138,.mv (.t 177),no⟩])))))))
def K5e:AC:=(.seq (.reg [⟨some 178,.fld 2 (.t 6),no⟩,⟨some 179,.ld false 1 (.t 178),no⟩,⟨some 180,.len false (.t 179),no⟩,⟨some 181,.mv (.k (.int .i64 0)),no⟩]) (.blk 8 (.loop (.seq (.reg [⟨some 182,.bin .lss (.t 181) (.t 180),no⟩]) (.seq (.cond (.t 182) .skip (.exit 8)) (.seq (.blk 9 (.seq (.reg [⟨some 183,.ixa 2 (.t 179) (.t 181),no⟩,⟨some 184,.ld true 2 (.t 183),no⟩,⟨some 31,.box [(.int .i64 0),(.nil 2)],no⟩,⟨no,.st 2 (.t 31) (.t 184),no⟩]) (.reg [⟨some 185,.mv (.t 16),no⟩,⟨some 186,.ld false 1 (.t 13),no⟩,⟨some 187,.ld true 2 (.t 31),no⟩,⟨some 188,.ld false 1 (.t 9),no⟩,⟨some 189,.call (.k (.fn (.func 206) [] [])) [.t 186,.t 187,.t 188],no⟩,⟨some 190,.call (.t 185) [.t 189],no⟩]))) (.reg [⟨some 191,.bin .add (.t 181) (.k (.int .i64 1)),no⟩,⟨some 181,.mv (.t 191),no⟩])))))))
def Jvo:AC:=(.seq (.reg [⟨some 199,.fld 2 (.t 33),no⟩,⟨some 200,.ld false 1 (.t 199),no⟩,⟨some 201,.len false (.t 200),no⟩,⟨some 202,.mv (.k (.int .i64 0)),no⟩]) (.blk 12 (.loop (.seq (.reg [⟨some 203,.bin .lss (.t 202) (.t 201),no⟩]) (.seq (.cond (.t 203) .skip (.exit 12)) (.seq (.blk 13 (.seq (.reg [⟨some 204,.ixa 3 (.t 200) (.t 202),no⟩,⟨some 205,.ld true 3 (.t 204),no⟩,⟨some 36,.box [(.bool false),(.nil 2),(.str [])],no⟩,⟨no,.st 3 (.t 36) (.t 205),no⟩]) (.reg [⟨some 206,.mv (.t 34),no⟩,⟨some 207,.ld false 1 (.t 13),no⟩,⟨some 208,.ld true 3 (.t 36),no⟩,⟨some 209,.ld false 1 (.t 9),no⟩,⟨some 210,.call (.k (.fn (.func 207) [] [])) [.t 207,.t 208,.t 209],no⟩,⟨some 211,.bsl 2 [.t 210],no⟩,⟨some 212,.app 32 2 (.t 206) (.t 211),no⟩,⟨some 34,.mv (.t 212),no⟩]))) (.reg [⟨some 213,.bin .add (.t 202) (.k (.int .i64 1)),no⟩,⟨some 202,.mv (.t 213),no⟩])))))))
def Jwr:AC:=(.reg [⟨some 214,.fld 3 (.t 12),no⟩,⟨some 215,.ld false 1 (.t 214),no⟩,⟨some 216,.mv (.t 34),no⟩,⟨some 217,.bsl 1 [.t 216],no⟩,⟨some 218,.app 24 1 (.t 215) (.t 217),no⟩,⟨some 219,.fld 3 (.t 12),no⟩,⟨no,.st 1 (.t 219) (.t 218),no⟩])
def K6k:AC:=(.seq (.reg [⟨some 192,.fld 3 (.t 6),no⟩,⟨some 193,.ld false 1 (.t 192),no⟩,⟨some 194,.len false (.t 193),no⟩,⟨some 195,.mv (.k (.int .i64 0)),no⟩]) (.blk 10 (.loop (.seq (.reg [⟨some 196,.bin .lss (.t 195) (.t 194),no⟩]) (.seq (.cond (.t 196) .skip (.exit 10)) (.seq (.blk 11 (.seq (.reg [⟨some 197,.ixa 3 (.t 193) (.t 195),no⟩,⟨some 198,.ld true 3 (.t 197),no⟩,⟨some 33,.box [(.str []),(.str []),(.nil 3)],no⟩,⟨no,.st 3 (.t 33) (.t 198),no⟩]) (.seq (.reg [⟨some 34,.mv (.k (.nil 2)),no⟩]) (.seq Jvo (.seq  Jwr (.seq (.reg [⟨some 220,.mv (.t 15),no⟩,⟨some 221,.fld 0 (.t 33),no⟩,⟨some 222,.ld false 1 (.t 221),no⟩,⟨some 223,.call (.t 220) [.t 222],no⟩,⟨some 37,.box [(.int .i64 0),(.nil 1)],no⟩,⟨no,.st 2 (.t 37) (.t 223),no⟩]) (.seq (.reg [⟨some 225,.ld true 2 (.t 2),no⟩,⟨some 226,.fld 1 (.t 33),no⟩,⟨some 227,.ld false 1 (.t 226),no⟩,⟨some 228,.call (.k (.fn (.func 176) [] [])) [.t 225,.t 227],no⟩,⟨some 224,.mv (.t 228),no⟩,⟨some 229,.ext (.t 224) 0,no⟩,⟨some 230,.ext (.t 224) 1,no⟩,⟨some 38,.box [(.str []),(.nil 1),(.bool false),(.nil 2)],no⟩,⟨no,.st 4 (.t 38) (.t 229),no⟩,⟨some 39,.mv (.t 230),no⟩]) (.seq (.reg [⟨some 231,.fld 2 (.t 38),no⟩,⟨some 232,.ld false 1 (.t 231),no⟩]) (.cond (.t 232) (.reg [⟨some 233,.mv (.t 16),no⟩,⟨some 234,.ld true 2 (.t 37),no⟩,⟨some 235,.call (.t 233) [.t 234],no⟩]) .skip))))))))) (.reg [⟨some 236,.bin .add (.t 195) (.k (.int .i64 1)),no⟩,⟨some 195,.mv (.t 236),no⟩])))))))
def K95:AC:=(.reg [⟨some 237,.ld false 1 (.t 13),no⟩,⟨some 238,.fld 4 (.t 6),no⟩,⟨some 239,.ld true 3 (.t 238),no⟩,⟨some 240,.ld false 1 (.t 9),no⟩,⟨some 241,.call (.k (.fn (.func 207) [] [])) [.t 237,.t 239,.t 240],no⟩,⟨some 242,.fld 4 (.t 12),no⟩,⟨no,.st 2 (.t 242) (.t 241),no⟩])
def Kal:AC:=(.reg [⟨some 243,.ld true 6 (.t 12),no⟩,⟨no,.st 6 (.t 4) (.t 243),no⟩,⟨some 5,.mv (.k (.bool true)),no⟩])
def a126:AFn:=⟨244,[(.c 4 true 6),.t 5],(.seq mo0 (.seq mo1 (.seq mo2 (.seq mo3 (.seq mo4 (.seq mo5 (.seq mo6 (.seq mo7 (.seq mo8 (.seq mo9 (.seq K9o (.seq K6q (.seq K8l (.seq K5n (.seq K5e (.seq K6k (.seq K95 (.seq Kal .ret))))))))))))))))))⟩
theorem a126_ok:J0a Tryz.prog Tryz.f126=some a126:=by kernel_rfl
def J6x (I:Ids) (s:Env):Prop:=s 2 = .ptr 0 0 0∧s 4 = .ptr 1 0 0∧s 6 = .ptr 2 0 0∧s 7 = .ptr 5 0 0∧s 9 = .ptr 6 0 0∧s 12 = .ptr I.m 0 0∧s 13 = .ptr I.s 0 0 ∧
 s 15 = .fn (.func 202) [] [.ptr I.x 0 0,.ptr 6 0 0,.ptr I.s 0 0]∧s 16 = .fn (.func 204) [] [.ptr I.m 0 0]
theorem Jgl (q:DPattern) (l:List DPattern):J3e (q::l)=(if q.Cons then 1 else 0)+J3e l:=by
 unfold J3e;rw [List.filter_cons];cases q.Cons <;> simp;omega
section
variable {p:DProgram}{r:DRule}{f:DFunction}{N:Nat}{I:Ids}{ks:List Kt}{s:Env}{h:Heap}{n:Nat}{Q:Fin}
theorem Jus {c:Nat}(s6:s 6 = .ptr 2 0 0) (s9:s 9 = .ptr 6 0 0) (e2:h 2=some ⟨true,7,[J0c r]⟩) (e6:h 6=some ⟨true,1,[[.int .i64 c]]⟩) (hn:6<n) (hc:c≤10000000) (hl:r.Patterns.length≤1048576)
 (hK:∀ s' h' n',(∀ j∈[2,4,6,7,9],s' j=s j)→n≤n'→(∀ id,id<n→id≠6→h' id=h id)→h' 6=some ⟨true,1,[[.int .i64 (c+J3e r.Patterns:Nat)]]⟩→J2b Tryz.prog ks .normal s' h' n' Q) :
 rC Tryz.prog mo5 ks s h n Q:=by
 simp [mo5,s6,e2,J0c]
 intro _
 generalize hT:c+J3e r.Patterns=T at hK
 refine J0o [2,4,6,7,9,73,74] 75 r.Patterns.length (fun i s' h' n'=>n≤n'∧(∀ id,id<n→id≠6→h' id=h id)∧∃ c':Nat,c'≤10000000+i∧c'+J3e (r.Patterns.drop i)=T∧h' 6=some ⟨true,1,[[.int .i64 c']]⟩) (by unfold LIM;omega) (by simp)
  ⟨Nat.le_refl _,fun _ _ _=>rfl,c,by omega,by simpa using hT,e6⟩ ?_ ?_
 ·rintro i st h' m R hi hg hk s75 hw ⟨hm,hfr,c',hc',hJ,e6'⟩ hR _ _
  simp at hk
  rw [List.drop_eq_getElem_cons hi,Jgl] at hJ
  have z1:¬6=m:=by omega
  have z2:¬m=6:=by omega
  refine J0i [2,4,6,7,9,73,74,75] (fun s=>s 76 = .bool true) (by simp [hk,s75,hi]) ?_
  intro st1 hk1 s76
  simp at hk1
  refine J3g s76 (J0b (J1c ?_))
  have hw2:IntKind.i64.wrap ((c':Int)+1)=(c':Int)+1:=J1e (by omega)
  have fr:∀ id,id<n→¬id=m:=by intro id _;omega
  cases hc2:(r.Patterns[i]).Cons
  ·rw [hc2] at hJ
   simp [hk1,hk,s75,hi,J09,hc2,z1,z2,hw,s9]
   refine hR _ _ _ (by simp [hk1,hk]) (by simp) ⟨by omega,?_,c',by omega,by simpa using hJ,by simp [z1,e6']⟩
   intro id hid h6
   simp [fr id hid,hfr id hid h6]
  ·rw [hc2] at hJ
   simp only [if_true] at hJ
   simp [hk1,hk,s75,hi,J09,hc2,z1,z2,hw,e6',hw2,s9]
   refine hR _ _ _ (by simp [hk1,hk]) (by simp) ⟨by omega,?_,c'+1,by omega,by omega,by simp⟩
   intro id hid h6
   simp [fr id hid,h6,hfr id hid h6]
 ·rintro st h' m R hk s75 ⟨hm,hfr,c',hc',hJ,e6'⟩ _ hX
  simp at hk
  rw [List.drop_eq_nil_of_le (by omega)] at hJ
  simp [J3e] at hJ
  subst hJ
  refine J0i [2,4,6,7,9] (fun s=>s 76 = .bool false) (by simp [hk,s75]) ?_
  intro st1 hk1 s76
  simp at hk1
  refine J37 s76 ?_
  refine hX _ _ _ _ ?_
  simp
  exact hK _ _ _ (by simp [hk1,hk]) hm hfr e6'
theorem J4p {P:Program}{b:AC}{ks:List Kt}{s:Env}{h:Heap}{n:Nat}{Q:Fin}(h1:rC P b ks s h n Q):J2b P (.seq b::ks) .normal s h n Q:=h1
def moK:List Nat:=[2,4,6,7,9,12,13,15,16]
theorem J6x.keep {s':Env}(S:J6x I s) (hk:∀ j∈moK,s' j=s j):J6x I s':=by
 simp only [moK,List.mem_cons,List.not_mem_nil,or_false,forall_eq_or_imp,forall_eq] at hk
 obtain ⟨k2,k4,k6,k7,k9,k12,k13,k15,k16⟩:=hk
 obtain ⟨s2,s4,s6,s7,s9,s12,s13,s15,s16⟩:=S
 exact ⟨by rw [k2,s2],by rw [k4,s4],by rw [k6,s6],by rw [k7,s7],by rw [k9,s9],by rw [k12,s12],by rw [k13,s13],by rw [k15,s15],by rw [k16,s16]⟩
def J5s (l:DLin) (k:Nat) (h:Heap) (n:Nat):Prop:=∃ q,k<n∧q<n∧h k=some ⟨true,2,[[.int .i64 l.Const,.ref q 0 l.Coeffs.length]]⟩∧h q=some ⟨false,1,J0k l.Coeffs⟩
theorem J6f {i:Int}(N:Nat) (hN:N≤8):(J2q i N).Coeffs.length≤8:=by
 unfold J2q
 split
 ·simp;omega
 ·simp [J1b]
theorem Jxc {ms:MS}{l:DLin}{k:Nat}(s12:s 12 = .ptr I.m 0 0) (s19:s 19 = .ptr k 0 0) (M:MI p r f N I ms h n) (L:J5s l k h n) (hl:l.Coeffs.length≤1048576) (hb:ms.pars.length≤1000000)
 (hK:∀ s' h' n',(∀ j,j<100→s' j=s j)→MI p r f N I (Jqb ms l) h' n'→J5s l k h' n'→J2b Tryz.prog ks .normal s' h' n' Q):rC Tryz.prog Jx5 ks s h n Q:=by
 obtain ⟨l1,l2,l3,l4,l5⟩:=M.lt
 obtain ⟨q,hkn,hqn,hkb,hqb⟩:=L
 obtain ⟨vR,vP,vA,g1,g2,g3,g4,g6,g5⟩:=M.acc
 have hkm:¬k=I.m:=by rintro rfl;rw [hkb] at g1;simp at g1
 have hqm:¬q=I.m:=by rintro rfl;rw [hqb] at g1;simp at g1
 have ne:¬I.m=n∧¬I.m=n+1∧¬I.m=n+1+1∧¬n=I.m∧¬n+1=I.m∧¬n+1+1=I.m∧¬n+2=I.m∧¬I.m=n+2∧¬k=n∧¬k=n+1∧¬k=n+1+1∧¬q=n∧¬q=n+1∧¬q=n+1+1∧¬n=n+1∧¬n+1=n∧¬n=n+1+1∧¬n+1+1=n∧¬n+1=n+1+1∧¬I.m=k∧¬I.m=q:=by omega
 have kp:∀ j,j<100→¬j=100∧¬j=101∧¬j=102∧¬j=103∧¬j=104∧¬j=105∧¬j=106:=by intro j _;omega
 have fr:∀ id,id<n→¬id=n∧¬id=n+1∧¬id=n+1+1:=by intro id _;omega
 simp [Jx5,s12,s19,g1,J5b,hkb,hqb]
 first|refine J00 (J4w l hl) (by first|simp [J07,hqb];done|rfl) ?_|refine J02 (J4w l hl) (by first|simp [J07,hqb];done|rfl) ?_
 rintro r rfl
 rcases g3 with ⟨hz,rfl⟩|⟨i,hi,hin,rfl,hib⟩
 ·have hz':ms.pars=[]:=by simpa using hz
  simp [J08,g1,J5b,ne,s12]
  refine ⟨by unfold LIM;omega,?_⟩
  refine hK _ _ _ (fun j hj=>by simp [kp j hj]) (M.upd_acc (st':=Jqb ms l) rfl rfl (by omega) (fun _=>False) (fun _ h=>h.elim) ?_ ?_) ⟨q,by omega,by omega,by simp [ne,hkm,hkb],by simp [ne,hqm,hqb]⟩
  ·intro id hid hm _
   simp [fr id hid,hm]
  ·have fm:∀ id,I.x<id→¬id=I.m:=by intro id _;omega
   refine ⟨vR,.ref (n+2) 0 1,vA,by simp [J5b],g2.keep (by omega) fun id hb hid _=>by simp [fr id hid,fm id hb],.inr ⟨n+2,by omega,by omega,by simp [Jqb,hz'],by simp [Jqb,hz',J08,ne]⟩,g4.keep (by omega) fun id hb hid _=>by simp [fr id hid,fm id hb],g6,?_⟩
   intro i k j l' e1 e2
   simp only [AV.ref.injEq] at e2
   rcases g2 with ⟨_,e⟩|⟨j',_,hj',e,_⟩
   ·rw [e] at e1;cases e1
   ·rw [e] at e1;simp only [AV.ref.injEq] at e1;omega
 ·have hik:¬k=i:=by rintro rfl;rw [hkb] at hib;simp at hib
  have hiq:¬q=i:=by rintro rfl;rw [hqb] at hib;simp at hib
  have ni:¬i=n∧¬i=n+1∧¬i=n+1+1∧¬i=I.m∧¬I.m=i∧¬n=i∧¬n+1=i∧¬n+1+1=i∧¬i=k∧¬i=q:=by omega
  simp [J08,g1,J5b,ne,ni,hib,s12]
  refine ⟨by unfold LIM;omega,?_⟩
  refine hK _ _ _ (fun j hj=>by simp [kp j hj]) (M.upd_acc (st':=Jqb ms l) rfl rfl (by omega) (fun id=>id=i) (fun id e=>⟨by omega,fun l hl=>by rw [e,hib] at hl;simp at hl⟩) ?_ ?_) ⟨q,by omega,by omega,by simp [ne,hkm,hkb,hik],by simp [ne,hqm,hqb,hiq]⟩
  ·intro id hid hm hii
   simp [fr id hid,hm,hii]
  ·have fm:∀ id,I.x<id→¬id=I.m:=by intro id _;omega
   refine ⟨vR,.ref (n+2) 0 (ms.pars.length+1),vA,by simp [J5b],g2.keep (by omega) fun id hb hid e => ?_,.inr ⟨n+2,by omega,by omega,by simp [Jqb],by simp [Jqb,J08,ne,List.take_of_length_le]⟩,g4.keep (by omega) fun id hb hid e => ?_,g6,?_⟩
   ·have hii:¬id=i:=fun e'=>g5 id _ i _ e rfl e'
    simp [fr id hid,fm id hb,hii]
   ·have hii:¬id=i:=by
     intro e'
     rcases g4 with ⟨_,e2⟩|⟨j',_,_,e2,hjb⟩
     ·rw [e2] at e;cases e
     ·rw [e2] at e;simp only [AV.ref.injEq] at e
      rw [e.1,e',hib] at hjb
      simp at hjb
    simp [fr id hid,fm id hb,hii]
   ·intro i' k j l' e1 e2
    simp only [AV.ref.injEq] at e2
    rcases g2 with ⟨_,e⟩|⟨j',_,hj',e,_⟩
    ·rw [e] at e1;cases e1
    ·rw [e] at e1;simp only [AV.ref.injEq] at e1;omega
theorem Jrh (S:J6x I s) (M:MI p r f N I ⟨[],0,[],[],[]⟩ h n) (hp2:f.Params.length≤2) (hN:N≤8)
 (hK:∀ s' h' n',J6x I s'→MI p r f N I (f.Params.foldl (Jb6 N) ⟨[],0,[],[],[]⟩) h' n'→J2b Tryz.prog ks .normal s' h' n' Q):rC Tryz.prog K6q ks s h n Q:=by
 have S0:=S
 obtain ⟨s2,s4,s6,s7,s9,s12,s13,s15,s16⟩:=S0
 simp [K6q,s7,M.hf,M.h3]
 intro _
 generalize hT:f.Params.foldl (Jb6 N) ⟨[],0,[],[],[]⟩=T at hK
 refine J0o [2,4,6,7,9,12,13,15,16,91,92] 93 f.Params.length (fun i s' h' n'=>∃ st:MS,MI p r f N I st h' n'∧(f.Params.drop i).foldl (Jb6 N) st=T∧st.nx≤i∧st.rows.length≤i∧st.pars.length≤i) (by unfold LIM;omega) (by simp)
  ⟨_,M,by simpa using hT,by simp,by simp,by simp⟩ ?_ ?_
 ·rintro i st h' m R hi hg hk s93 hw ⟨ms,M,hJ,hb1,hb2,hb3⟩ hR _ _
  simp at hk
  rw [List.drop_eq_getElem_cons hi,List.foldl_cons] at hJ
  obtain ⟨l1,l2,l3,l4,l5⟩:=M.lt
  refine J0i [2,4,6,7,9,12,13,15,16,91,92,93] (fun s=>s 94 = .bool true) (by simp [hk,s93,hi]) ?_
  intro st1 hk1 s94
  simp at hk1
  refine J3g s94 (J0b (J1c ?_))
  refine J0i [2,4,6,7,9,12,13,15,16,91,92,93] (fun s=>s 18 = .str (f.Params[i]'hi)) (by simp [hk1,hk,s93,hi,M.h3]) ?_
  intro st2 hk2 s18
  simp at hk2
  generalize f.Params[i]=x at *
  have hlx:(J2q ms.nx N).Coeffs.length≤8:=J6f N (by omega)
  have S2:J6x I st2:=S.keep (by simp [moK,hk2,hk1,hk])
  obtain ⟨t2,t4,t6,t7,t9,t12,t13,t15,t16⟩:=S2
  have hiP:Jb6 N ms x=(if J0n x then Jj9 (Jqb (Jhm ms x (J2q ms.nx N) (ms.nx+1)) (J2q ms.nx N)) (J2q ms.nx N) else Jqb (Jhm ms x (J2q ms.nx N) (ms.nx+1)) (J2q ms.nx N)):=by
   unfold Jb6 Jj9 Jqb Jhm;cases J0n x <;> simp
  generalize hl:J2q ms.nx N=l at *
  refine J15 [2,4,6,7,9,12,13,15,16,91,92,93,18] (fun s h' n'=>∃ k,s 19 = .ptr k 0 0∧J5s l k h' n'∧MI p r f N I (Jhm ms x l (ms.nx+1)) h' n') ?_ ?_
  ·simp [t15,s18]
   refine Jci M x (by omega) ?_
   rw [hl]
   intro q h1 n1 hq hq1 hfr hqb M1
   have fr:∀ id,id<n1→¬id=n1:=by intro id _;omega
   simp [Jip]
   exact ⟨⟨q,by omega,by omega,by simp,by simp [fr q hq1,hqb]⟩,M1.frame (by omega) fun id hid=>by simp [fr id hid]⟩
  rintro st3 h3 n3 hk3 ⟨k,s19,L3,M3⟩
  simp at hk3
  have u12:st3 12 = .ptr I.m 0 0:=by rw [hk3.2.2.2.2.2.1,t12]
  refine J0b (Jxc u12 s19 M3 L3 (by omega) (by show ms.pars.length≤_;omega) ?_)
  intro st4 h4 n4 hk4 M4 L4
  refine J4p (J0i [2,4,6,7,9,12,13,15,16,91,92,93,19] (fun s=>s 108 = .bool (J0n x)) ?_ ?_)
  ·simp [hk4 18 (by omega),hk3,s18]
   first|refine J00 (J1o x) (by first|simp;done|rfl) ?_|refine J02 (J1o x) (by first|simp;done|rfl) ?_
   rintro r rfl
   simp
  intro st5 hk5 s108
  simp at hk5
  have v16:st5 16 = .fn (.func 204) [] [.ptr I.m 0 0]:=by rw [hk5.2.2.2.2.2.2.2.2.1,hk4 16 (by omega),hk3.2.2.2.2.2.2.2.2.1,t16]
  have v19:st5 19 = .ptr k 0 0:=by rw [hk5.2.2.2.2.2.2.2.2.2.2.2.2,hk4 19 (by omega),s19]
  have kp:∀ j∈[2,4,6,7,9,12,13,15,16,91,92,93],st5 j=st j:=by
   simp [hk5,hk4 2 (by omega),hk4 4 (by omega),hk4 6 (by omega),hk4 7 (by omega),hk4 9 (by omega),hk4 12 (by omega),hk4 13 (by omega),hk4 15 (by omega),hk4 16 (by omega),hk4 91 (by omega),hk4 92 (by omega),hk4 93 (by omega),hk3,hk2,hk1]
  simp at kp
  cases c1:J0n x
  ·rw [c1] at hiP s108
   simp only [Bool.false_eq_true,if_false] at hiP
   rw [hiP] at hJ
   simp [s108,kp,s93,hw]
   exact hR _ _ _ (by simp [kp,hk]) (by simp) ⟨_,M4,hJ,by show ms.nx+1≤_;omega,by show ms.rows.length≤_;omega,by show (ms.pars++[l]).length≤_;simp;omega⟩
  ·rw [c1] at hiP s108
   simp only [if_true] at hiP
   rw [hiP] at hJ
   obtain ⟨q,hkn,hqn,hkb,hqb⟩:=L4
   simp [s108,v16,v19,hkb]
   refine J9t M4 (l:=l) (q:=q) (by omega) hqn hqb (by show ms.rows.length≤_;omega) ?_
   intro h6 n6 hn6 _ M6
   simp [kp,s93,hw]
   exact hR _ _ _ (by simp [kp,hk]) (by simp) ⟨_,M6,hJ,by show ms.nx+1≤_;omega,by show (ms.rows++[l]).length≤_;simp;omega,by show (ms.pars++[l]).length≤_;simp;omega⟩
 ·rintro st h' m R hk s93 ⟨ms,M,hJ,hb1,hb2,hb3⟩ _ hX
  simp at hk
  rw [List.drop_eq_nil_of_le (by omega)] at hJ
  simp only [List.foldl_nil] at hJ
  subst hJ
  refine J0i [2,4,6,7,9,12,13,15,16] (fun s=>s 94 = .bool false) (by simp [hk,s93]) ?_
  intro st1 hk1 s94
  simp at hk1
  refine J37 s94 ?_
  refine hX _ _ _ _ ?_
  simp
  exact hK _ _ _ (S.keep (by simp [moK,hk1,hk])) M
end
def a268:AFn:= ⟨39,[(.c 6 true 2),.t 7],(.seq (.reg [⟨some 3,.boxv (.t 0),no⟩,⟨some 4,.boxv (.t 1),no⟩,⟨some 6,.box [(.int .i64 0),(.nil 1)],no⟩,⟨some 7,.mv (.k (.bool false)),no⟩]) (.seq (.seq (.reg [⟨some 9,.fld 0 (.t 4),no⟩,⟨some 10,.ld false 1 (.t 9),no⟩,⟨some 11,.un .not (.t 10),no⟩]) (.cond (.t 11) (.seq (.draw (.op ⟨some 12,.ld true 2 (.t 3),no⟩ (.op ⟨some 13,.fld 1 (.t 4),no⟩ (.op ⟨some 14,.ld false 1 (.t 13),no⟩ (.op ⟨some 15,.ixa 2 (.t 14) (.k (.int .i64 0)),no⟩ (.op ⟨some 16,.ld true 2 (.t 15),no⟩ (.op ⟨some 17,.mv (.t 2),no⟩ (.op ⟨some 18,.call (.k (.fn (.func 267) [] [])) [.t 12,.t 16,.t 17],no⟩ (.op ⟨some 19,.ext (.t 18) 0,no⟩ (.op ⟨some 20,.ext (.t 18) 1,no⟩ (.hop ⟨no,.st 2 (.t 6) (.t 19),no⟩ [] (.op ⟨some 7,.mv (.t 20),no⟩ .fin)))))))))))) .ret) .skip)) (.seq (.reg [⟨some 21,.fld 1 (.t 4),no⟩,⟨some 22,.ld false 1 (.t 21),no⟩,⟨some 23,.len false (.t 22),no⟩,⟨some 24,.mv (.t 2),no⟩,⟨some 25,.call (.k (.fn (.func 99) [] [])) [.t 23,.t 24],no⟩,⟨some 8,.box [(.int .i64 0),(.nil 1)],no⟩,⟨no,.st 2 (.t 8) (.t 25),no⟩]) (.seq (.seq (.reg [⟨some 26,.fld 2 (.t 4),no⟩,⟨some 27,.ld false 1 (.t 26),no⟩,⟨some 28,.bin .eql (.t 27) (.k (.str [])),no⟩]) (.cond (.t 28) (.seq (.reg [⟨some 29,.ld true 2 (.t 8),no⟩,⟨no,.st 2 (.t 6) (.t 29),no⟩,⟨some 7,.mv (.k (.bool true)),no⟩]) .ret) .skip)) (.seq (.draw (.op ⟨some 30,.ld true 2 (.t 8),no⟩ (.op ⟨some 31,.ld true 2 (.t 3),no⟩ (.op ⟨some 32,.fld 2 (.t 4),no⟩ (.op ⟨some 33,.ld false 1 (.t 32),no⟩ (.op ⟨some 34,.mv (.t 2),no⟩ (.op ⟨some 35,.call (.k (.fn (.func 305) [] [])) [.t 31,.t 33,.t 34],no⟩ (.op ⟨some 36,.call (.k (.fn (.func 98) [] [])) [.t 30,(.k (.int .i64 1)),.t 35],no⟩ (.op ⟨some 37,.ext (.t 36) 0,no⟩ (.op ⟨some 38,.ext (.t 36) 1,no⟩ (.hop ⟨no,.st 2 (.t 6) (.t 37),no⟩ [] (.op ⟨some 7,.mv (.t 38),no⟩ .fin)))))))))))) .ret)))))⟩
theorem a268_ok:J0a Tryz.prog Tryz.f268=some a268:=by kernel_rfl
def sm0:AC:=(.reg [⟨some 3,.boxv (.t 0),no⟩,⟨some 4,.boxv (.t 1),no⟩,⟨some 6,.box [(.int .i64 0),(.nil 1)],no⟩,⟨some 7,.mv (.k (.bool false)),no⟩])
def sm1:AC:=(.reg [⟨some 12,.fld 0 (.t 4),no⟩,⟨some 13,.ld false 1 (.t 12),no⟩,⟨some 14,.mv (.t 2),no⟩,⟨some 15,.call (.k (.fn (.func 99) [] [])) [.t 13,.t 14],no⟩,⟨some 8,.box [(.int .i64 0),(.nil 1)],no⟩,⟨no,.st 2 (.t 8) (.t 15),no⟩])
def K62:AC:=(.draw (.op ⟨some 24,.ld true 2 (.t 8),no⟩ (.op ⟨some 25,.fld 1 (.t 4),no⟩ (.op ⟨some 26,.ld false 1 (.t 25),no⟩ (.op ⟨some 27,.mv (.t 9),no⟩ (.op ⟨some 28,.ixa 2 (.t 26) (.t 27),no⟩ (.op ⟨some 29,.fld 0 (.t 28),no⟩ (.op ⟨some 30,.ld false 1 (.t 29),no⟩ (.op ⟨some 31,.ld true 2 (.t 3),no⟩ (.op ⟨some 32,.fld 1 (.t 4),no⟩ (.op ⟨some 33,.ld false 1 (.t 32),no⟩ (.op ⟨some 34,.mv (.t 9),no⟩ (.op ⟨some 35,.ixa 2 (.t 33) (.t 34),no⟩ (.op ⟨some 36,.fld 1 (.t 35),no⟩ (.op ⟨some 37,.ld false 1 (.t 36),no⟩ (.op ⟨some 38,.mv (.t 2),no⟩ (.both (.op ⟨some 39,.call (.k (.fn (.func 305) [] [])) [.t 31,.t 37,.t 38],no⟩ (.both (.op ⟨some 40,.call (.k (.fn (.func 98) [] [])) [.t 24,.t 30,.t 39],no⟩ (.op ⟨some 23,.mv (.t 40),no⟩ (.op ⟨some 41,.ext (.t 23) 0,no⟩ (.op ⟨some 42,.ext (.t 23) 1,no⟩ (.op ⟨some 10,.box [(.int .i64 0),(.nil 1)],no⟩ (.hop ⟨no,.st 2 (.t 10) (.t 41),no⟩ [] (.op ⟨some 11,.mv (.t 42),no⟩ .fin))))))) (.op ⟨some 10,.box [(.int .i64 0),(.nil 1)],no⟩ (.op ⟨some 40,.call (.k (.fn (.func 98) [] [])) [.t 24,.t 30,.t 39],no⟩ (.op ⟨some 23,.mv (.t 40),no⟩ (.op ⟨some 41,.ext (.t 23) 0,no⟩ (.op ⟨some 42,.ext (.t 23) 1,no⟩ (.hop ⟨no,.st 2 (.t 10) (.t 41),no⟩ [] (.op ⟨some 11,.mv (.t 42),no⟩ .fin))))))))) (.op ⟨some 10,.box [(.int .i64 0),(.nil 1)],no⟩ (.op ⟨some 39,.call (.k (.fn (.func 305) [] [])) [.t 31,.t 37,.t 38],no⟩ (.op ⟨some 40,.call (.k (.fn (.func 98) [] [])) [.t 24,.t 30,.t 39],no⟩ (.op ⟨some 23,.mv (.t 40),no⟩ (.op ⟨some 41,.ext (.t 23) 0,no⟩ (.op ⟨some 42,.ext (.t 23) 1,no⟩ (.hop ⟨no,.st 2 (.t 10) (.t 41),no⟩ [] (.op ⟨some 11,.mv (.t 42),no⟩ .fin)))))))))))))))))))))))))
def sm2:AC:=(.seq (.reg [⟨some 9,.mv (.k (.int .i64 0)),no⟩]) (.blk 0 (.loop (.seq (.seq (.reg [⟨some 16,.mv (.t 9),no⟩,⟨some 17,.fld 1 (.t 4),no⟩,⟨some 18,.ld false 1 (.t 17),no⟩,⟨some 19,.len false (.t 18),no⟩,⟨some 20,.bin .lss (.t 16) (.t 19),no⟩]) (.cond (.t 20) .skip (.exit 0))) (.seq (.blk 1 (.seq K62 (.seq (.seq (.reg [⟨some 43,.mv (.t 11),no⟩,⟨some 44,.un .not (.t 43),no⟩]) (.cond (.t 44) (.seq (.reg [⟨some 45,.build [(.int .i64 0),(.nil 1)] [],no⟩,⟨no,.st 2 (.t 6) (.t 45),no⟩,⟨some 7,.mv (.k (.bool false)),no⟩]) .ret) .skip)) (.reg [⟨some 46,.ld true 2 (.t 10),no⟩,⟨no,.st 2 (.t 8) (.t 46),no⟩])))) (.reg [⟨some 21,.mv (.t 9),no⟩,⟨some 22,.bin .add (.t 21) (.k (.int .i64 1)),no⟩,⟨some 9,.mv (.t 22),no⟩]))))))
def sm3:AC:=(.reg [⟨some 47,.ld true 2 (.t 8),no⟩,⟨no,.st 2 (.t 6) (.t 47),no⟩,⟨some 7,.mv (.k (.bool true)),no⟩])
def a267:AFn:=⟨48,[(.c 6 true 2),.t 7],(.seq sm0 (.seq sm1 (.seq sm2 (.seq sm3 .ret))))⟩
theorem a267_ok:J0a Tryz.prog Tryz.f267=some a267:=by kernel_rfl
def Jg4 (E:SEnv):List AV:=[.sl 1 (J0e (J19 E)),.sl 2 ((J35 E).map J07)]
theorem Js4 {E:SEnv}{x:DSum}{o:DLin}{i N k3 k4 k8:Nat}{ks:List Kt}{s:Env}{h:Heap}{n:Nat}{Q:Fin}(hE:E.length≤1048576) (hi:i<x.Terms.length) (s2:s 2 = .int .i64 N) (s3:s 3 = .ptr k3 0 0) (s4:s 4 = .ptr k4 0 0) (s8:s 8 = .ptr k8 0 0) (s9:s 9 = .int .i64 i)
 (e3:h k3=some ⟨true,2,[Jg4 E]⟩) (e4:h k4=some ⟨true,2,[J1g x]⟩) (L:J5s o k8 h n)
 (hK:∀ s' h' n',(∀ j∈[2,3,4,6,7,8,9],s' j=s j)→s' 11 = .bool (J0j o (x.Terms[i]).Coeff (J2w (J05 0 N) E (x.Terms[i]).Name)).isSome →
  (∃ k,s' 10 = .ptr k 0 0∧J5s ((J0j o (x.Terms[i]).Coeff (J2w (J05 0 N) E (x.Terms[i]).Name)).getD J1b) k h' n')→n≤n'→(∀ id,id<n→h' id=h id)→J2b Tryz.prog ks .normal s' h' n' Q):rC Tryz.prog K62 ks s h n Q:=by
 obtain ⟨q,hkn,hqn,hkb,hqb⟩:=L
 simp [K62,s2,s3,s4,s8,s9,e3,e4,hkb,J1g,Jg4,hi,J12]
 constructor
 ·refine Jek (Jhj (.inl rfl) (.inl rfl) hE ?_)
  intro w h1 n1 hn1 hfr1 cw hbw
  refine ⟨hfr1,?_⟩
  have b0:=hbw h1 fun _ _=>rfl
  have fr1:∀ id,id<n1→¬id=n1∧¬id=n1+1:=by intro id _;omega
  have frn:∀ id,id<n→¬id=n1∧¬id=n1+1:=by intro id _;omega
  have b1:∀ y,bw w (upd h1 n1 y)=some (.sl 1 (J0k (J2w (J05 0 N) E (x.Terms[i]).Name).Coeffs)):=fun y=>hbw _ fun id hid=>by simp [fr1 id hid]
  have hq1:h1 q=some ⟨false,1,J0k o.Coeffs⟩:=by rw [hfr1 q hqn,hqb]
  have ne1:¬n1=n1+1∧¬n1+1=n1∧¬q=n1:=by omega
  simp
  constructor
  ·skip
   first|refine J00 (J0m o (x.Terms[i]'hi).Coeff (J2w (J05 0 N) E (x.Terms[i]'hi).Name)) (by first|simp [J07,hq1,b0];done|rfl) ?_|refine J02 (J0m o (x.Terms[i]'hi).Coeff (J2w (J05 0 N) E (x.Terms[i]'hi).Name)) (by first|simp [J07,hq1,b0];done|rfl) ?_
   rintro r rfl
   rw [J0l]
   generalize (J0j o (x.Terms[i]).Coeff (J2w (J05 0 N) E (x.Terms[i]).Name)).getD J1b=l at *
   simp [J08,ne1]
   refine hK _ _ _ (by simp) (by simp) ⟨n1+1,by simp,n1,by omega,by omega,by simp [ne1],by simp [ne1]⟩ (by omega) fun id hid=>by simp [frn id hid,hfr1 id hid]
  ·skip
   first|refine J00 (J0m o (x.Terms[i]'hi).Coeff (J2w (J05 0 N) E (x.Terms[i]'hi).Name)) (by first|simp [J07,hq1,b1,ne1];done|rfl) ?_|refine J02 (J0m o (x.Terms[i]'hi).Coeff (J2w (J05 0 N) E (x.Terms[i]'hi).Name)) (by first|simp [J07,hq1,b1,ne1];done|rfl) ?_
   rintro r rfl
   rw [J0l]
   generalize (J0j o (x.Terms[i]).Coeff (J2w (J05 0 N) E (x.Terms[i]).Name)).getD J1b=l at *
   simp [J08,ne1]
   refine hK _ _ _ (by simp) (by simp) ⟨n1,by simp,n1+1,by omega,by omega,by simp [ne1],by simp [ne1]⟩ (by omega) fun id hid=>by simp [frn id hid,hfr1 id hid]
 ·refine Jek (Jhj (.inl rfl) (.inl rfl) hE ?_)
  intro w h1 n1 hn1 hfr1 cw hbw
  refine ⟨hfr1,?_⟩
  have b0:=hbw h1 fun _ _=>rfl
  have frn:∀ id,id<n→¬id=n∧¬id=n1:=by intro id _;omega
  have hq1:h1 q=some ⟨false,1,J0k o.Coeffs⟩:=by rw [hfr1 q (by omega)];simp [frn q hqn,hqb]
  have hn0:=hfr1 n (by omega)
  simp at hn0
  have ne1:¬n=n1∧¬n1=n∧¬q=n:=by omega
  simp
  ·skip
   first|refine J00 (J0m o (x.Terms[i]'hi).Coeff (J2w (J05 0 N) E (x.Terms[i]'hi).Name)) (by first|simp [J07,hq1,b0];done|rfl) ?_|refine J02 (J0m o (x.Terms[i]'hi).Coeff (J2w (J05 0 N) E (x.Terms[i]'hi).Name)) (by first|simp [J07,hq1,b0];done|rfl) ?_
   rintro r rfl
   rw [J0l]
   generalize (J0j o (x.Terms[i]).Coeff (J2w (J05 0 N) E (x.Terms[i]).Name)).getD J1b=l at *
   simp [J08,ne1,hn0]
   refine hK _ _ _ (by simp) (by simp) ⟨n,by simp,n1,by omega,by omega,by simp [ne1],by simp [ne1]⟩ (by omega) fun id hid=>by simp [frn id hid,hfr1 id (by omega)]
theorem J7w (E:SEnv) (hE:E.length≤1048576) (x:DSum) (hx:x.Terms.length≤1048576) (N:Nat):Holds Tryz.prog 267 [.agg (Jg4 E),.agg (J1g x),i64 N] (fun r=>r=J0u (Ju2 E N x)):=by
 refine J03 Tryz.func267 a267_ok rfl (by simp [a267]) ?_
 simp [a267,sm0,sm1,sm2,J1g,Jg4]
 first|refine J00 (J13 x.Const N) (by first|simp;done|rfl) ?_|refine J02 (J13 x.Const N) (by first|simp;done|rfl) ?_
 rintro r rfl
 simp [J08]
 unfold Ju2
 generalize hT:goS E N x.Terms (J05 x.Const N)=T
 refine J0o [2,3,4,6,7,8] 9 x.Terms.length (fun i s h n=>4<n∧h 0=some ⟨true,2,[Jg4 E]⟩∧h 1=some ⟨true,2,[J1g x]⟩∧h 2=some ⟨true,2,[[.int .i64 0,.nil 1]]⟩∧∃ o,J5s o 4 h n∧goS E N (x.Terms.drop i) o=T) (by unfold LIM;omega) (by simp)
  ⟨by simp,by simp [Jg4],by simp [J1g],by simp,J05 x.Const N,⟨3,by simp,by simp,by simp,by simp⟩,by simpa using hT⟩ ?_ ?_
 ·rintro i st h n R hi hg hk s9 hw ⟨hn,e0,e1,e2,o,L,hJ⟩ hR hret _
  simp at hk
  rw [List.drop_eq_getElem_cons hi] at hJ
  simp only [goS] at hJ
  refine J0b (J0i [2,3,4,6,7,8,9] (fun s=>s 20 = .bool true) (by simp [hk,s9,hi,e1,J1g]) ?_)
  intro st1 hk1 s20
  simp at hk1
  refine J29 s20 (J0b (J1c (J0b (Js4 (E:=E) (x:=x) (o:=o) (i:=i) (N:=N) (k3:=0) (k4:=1) (k8:=4) hE hi (by simp [hk1,hk]) (by simp [hk1,hk]) (by simp [hk1,hk]) (by simp [hk1,hk]) (by simp [hk1,s9]) e0 e1 L ?_))))
  rintro st2 h2 n2 hk2 s11 ⟨k,s10,L2⟩ hn2 hfr
  simp at hk2
  refine J4p ?_
  have e0':=hfr 0 (by omega)
  have e1':=hfr 1 (by omega)
  have e2':=hfr 2 (by omega)
  rw [e0] at e0'
  rw [e1] at e1'
  rw [e2] at e2'
  obtain ⟨q4,x4,y4,z4,w4⟩:=L
  have z4':=hfr 4 x4
  rw [z4] at z4'
  obtain ⟨q2,x2,y2,z2,w2⟩:=L2
  cases ho:J0j o (x.Terms[i]).Coeff (J2w (J05 0 N) E (x.Terms[i]).Name) with
  | none=>
   rw [ho] at hJ s11
   simp only [Option.isSome_none] at s11
   simp [s11,hk2,hk1,hk,e2']
   refine hret _ _ _ ?_
   simp [hk2,hk1,hk,←hJ,J0u,J1b,J08,J0k]
  | some o'=>
   rw [ho] at hJ s11 z2 w2
   simp only [Option.isSome_some] at s11
   simp only [Option.getD_some] at z2 w2
   simp [s11,s10,z2,hk2,hk1,hk,z4',s9,hw]
   have q24:¬q2=4:=by rintro rfl;rw [z4'] at w2;simp at w2
   exact hR _ _ _ (by simp [hk2,hk1,hk]) (by simp) ⟨by omega,by simp [e0'],by simp [e1'],by simp [e2'],o',⟨q2,by omega,y2,by simp,by simp [q24,w2]⟩,hJ⟩
 ·rintro st h n R hk s9 ⟨hn,e0,e1,e2,o,⟨q,hkn,hqn,hkb,hqb⟩,hJ⟩ hret hX
  simp at hk
  rw [List.drop_eq_nil_of_le (by omega)] at hJ
  simp only [goS] at hJ
  subst hJ
  refine J0b (J0i [2,3,4,6,7,8] (fun s=>s 20 = .bool false) (by simp [hk,s9,e1,J1g]) ?_)
  intro st1 hk1 s20
  simp at hk1
  refine J23 s20 ?_
  refine hX _ _ _ _ ?_
  have q2:¬q=2:=by rintro rfl;rw [e2] at hqb;simp at hqb
  simp [sm3,hk1,hk,hkb,e2,hqb,q2,J0u,J08]
theorem J6u (E:SEnv) (hE:E.length≤1048576) (x:DArg) (hx:∀ y∈x.Heads,y.Terms.length≤1048576) (hne:x.Lst=false→0<x.Heads.length) (N:Nat):Holds Tryz.prog 268 [.agg (Jg4 E),.agg (J0v x),i64 N] (fun r=>r=J0u (Jx0 E N x)):=by
 refine J03 Tryz.func268 a268_ok rfl (by simp [a268]) ?_
 simp [a268,Jg4,J0v]
 unfold Jx0
 cases hL:x.Lst
 ·have hz:=hne hL
  obtain ⟨s,l,hsl⟩:∃ s l,x.Heads=s::l:=by
   cases hh:x.Heads with
   | nil=>rw [hh] at hz;cases hz
   | cons s l=>exact ⟨s,l,rfl⟩
  simp [hsl]
  first|refine J00 (J7w E hE s (hx s (by rw [hsl];exact List.mem_cons_self)) N) (by first|simp [Jg4];done|rfl) ?_|refine J02 (J7w E hE s (hx s (by rw [hsl];exact List.mem_cons_self)) N) (by first|simp [Jg4];done|rfl) ?_
  rintro r rfl
  rw [J0l]
  generalize hb:(Ju2 E N s).isSome=b
  simp [J08,J0l,hb]
 ·simp
  intro _
  first|refine J00 (J13 x.Heads.length N) (by first|simp;done|rfl) ?_|refine J02 (J13 x.Heads.length N) (by first|simp;done|rfl) ?_
  rintro r rfl
  simp [J08]
  by_cases hb:x.Base=[]
  ·simp [hb,J0u,J08]
  ·simp [hb]
   refine Jek (Jhj (.inl rfl) (.inl rfl) hE ?_)
   intro w h1 n1 hn1 hfr1 cw hbw
   refine ⟨hfr1,?_⟩
   have h3:=hfr1 3 (by omega)
   have h2:=hfr1 2 (by omega)
   simp at h2 h3
   have b0:=hbw h1 fun _ _=>rfl
   have ne:¬n1=2∧¬2=n1:=by omega
   simp
   first|refine J00 (J0m (J05 x.Heads.length N) 1 (J2w (J05 0 N) E x.Base)) (by first|simp [J07,h3,b0];done|rfl) ?_|refine J02 (J0m (J05 x.Heads.length N) 1 (J2w (J05 0 N) E x.Base)) (by first|simp [J07,h3,b0];done|rfl) ?_
   rintro r rfl
   rw [J0l]
   generalize (J0j (J05 x.Heads.length N) 1 (J2w (J05 0 N) E x.Base)).getD J1b=l
   generalize (J0j (J05 x.Heads.length N) 1 (J2w (J05 0 N) E x.Base)).isSome=b
   simp [J08,h2,ne]
def ro0:AC:=(.reg [⟨some 4,.boxv (.t 0),no⟩,⟨some 5,.boxv (.t 1),no⟩,⟨some 8,.box [(.nil 1),(.nil 2)],no⟩,⟨some 9,.mv (.k (.nil 2)),no⟩])
def ro1:AC:=(.reg [⟨some 16,.bsl 2 [],no⟩,⟨some 10,.mv (.t 16),no⟩])
def K8j:AC:=(.draw (.op ⟨some 38,.mv (.t 3),no⟩ (.op ⟨some 40,.ld true 2 (.t 13),no⟩ (.both (.op ⟨some 39,.call (.k (.fn (.func 99) [] [])) [(.k (.int .i64 0)),.t 38],no⟩ (.both (.op ⟨some 41,.call (.k (.fn (.func 98) [] [])) [.t 39,(.k (.int .i64 (-1))),.t 40],no⟩ (.op ⟨some 37,.mv (.t 41),no⟩ (.op ⟨some 42,.ext (.t 37) 0,no⟩ (.op ⟨some 43,.ext (.t 37) 1,no⟩ (.op ⟨some 14,.box [(.int .i64 0),(.nil 1)],no⟩ (.hop ⟨no,.st 2 (.t 14) (.t 42),no⟩ [] (.op ⟨some 15,.mv (.t 43),no⟩ .fin))))))) (.op ⟨some 14,.box [(.int .i64 0),(.nil 1)],no⟩ (.op ⟨some 41,.call (.k (.fn (.func 98) [] [])) [.t 39,(.k (.int .i64 (-1))),.t 40],no⟩ (.op ⟨some 37,.mv (.t 41),no⟩ (.op ⟨some 42,.ext (.t 37) 0,no⟩ (.op ⟨some 43,.ext (.t 37) 1,no⟩ (.hop ⟨no,.st 2 (.t 14) (.t 42),no⟩ [] (.op ⟨some 15,.mv (.t 43),no⟩ .fin))))))))) (.op ⟨some 14,.box [(.int .i64 0),(.nil 1)],no⟩ (.op ⟨some 39,.call (.k (.fn (.func 99) [] [])) [(.k (.int .i64 0)),.t 38],no⟩ (.op ⟨some 41,.call (.k (.fn (.func 98) [] [])) [.t 39,(.k (.int .i64 (-1))),.t 40],no⟩ (.op ⟨some 37,.mv (.t 41),no⟩ (.op ⟨some 42,.ext (.t 37) 0,no⟩ (.op ⟨some 43,.ext (.t 37) 1,no⟩ (.hop ⟨no,.st 2 (.t 14) (.t 42),no⟩ [] (.op ⟨some 15,.mv (.t 43),no⟩ .fin))))))))))))
def K73:AC:=(.reg [⟨some 53,.fld 0 (.t 4),no⟩,⟨some 54,.ld false 1 (.t 53),no⟩,⟨some 55,.fld 2 (.t 12),no⟩,⟨some 56,.ld false 1 (.t 55),no⟩,⟨some 57,.fld 3 (.t 12),no⟩,⟨some 58,.ld false 1 (.t 57),no⟩,⟨some 59,.bsl 1 [.t 56,.t 58],no⟩,⟨some 60,.app 16 1 (.t 54) (.t 59),no⟩,⟨some 61,.fld 0 (.t 4),no⟩,⟨no,.st 1 (.t 61) (.t 60),no⟩])
def K6v:AC:=(.draw (.op ⟨some 62,.fld 1 (.t 4),no⟩ (.op ⟨some 63,.ld false 1 (.t 62),no⟩ (.op ⟨some 64,.mv (.t 2),no⟩ (.op ⟨some 65,.mv (.t 3),no⟩ (.op ⟨some 67,.ld true 2 (.t 13),no⟩ (.op ⟨some 66,.call (.k (.fn (.func 261) [] [])) [.t 64,.t 65],no⟩ (.op ⟨some 68,.call (.k (.fn (.func 306) [] [])) [.t 67,(.k (.int .i64 1))],no⟩ (.hop ⟨some 69,.bsl 2 [.t 66,.t 68],no⟩ [(.ld false 1 (.t 62)),(.fld 1 (.t 4))] (.hop ⟨some 70,.app 32 2 (.t 63) (.t 69),no⟩ [] (.op ⟨some 71,.fld 1 (.t 4),no⟩ (.hop ⟨no,.st 1 (.t 71) (.t 70),no⟩ [] .fin))))))))))))
def ro2:AC:=(.seq (.reg [⟨some 11,.mv (.k (.int .i64 0)),no⟩]) (.blk 0 (.loop (.seq (.seq (.reg [⟨some 17,.mv (.t 11),no⟩,⟨some 18,.fld 1 (.t 5),no⟩,⟨some 19,.ld false 1 (.t 18),no⟩,⟨some 20,.len false (.t 19),no⟩,⟨some 21,.bin .lss (.t 17) (.t 20),no⟩]) (.cond (.t 21) .skip (.exit 0))) (.seq (.blk 1 (.seq (.reg [⟨some 24,.fld 1 (.t 5),no⟩,⟨some 25,.ld false 1 (.t 24),no⟩,⟨some 26,.mv (.t 11),no⟩,⟨some 27,.ixa 4 (.t 25) (.t 26),no⟩,⟨some 28,.ld true 4 (.t 27),no⟩,⟨some 12,.box [(.str []),(.bool false),(.str []),(.str [])],no⟩,⟨no,.st 4 (.t 12) (.t 28),no⟩]) (.seq (.reg [⟨some 29,.ld true 2 (.t 4),no⟩,⟨some 30,.fld 0 (.t 12),no⟩,⟨some 31,.ld false 1 (.t 30),no⟩,⟨some 32,.mv (.t 3),no⟩,⟨some 33,.call (.k (.fn (.func 305) [] [])) [.t 29,.t 31,.t 32],no⟩,⟨some 13,.box [(.int .i64 0),(.nil 1)],no⟩,⟨no,.st 2 (.t 13) (.t 33),no⟩]) (.seq (.seq (.reg [⟨some 34,.fld 1 (.t 12),no⟩,⟨some 35,.ld false 1 (.t 34),no⟩,⟨some 36,.un .not (.t 35),no⟩]) (.cond (.t 36) (.seq K8j (.seq (.reg [⟨some 44,.mv (.t 10),no⟩,⟨some 45,.ld true 2 (.t 14),no⟩,⟨some 46,.bsl 2 [.t 45],no⟩,⟨some 47,.app 32 2 (.t 44) (.t 46),no⟩,⟨some 10,.mv (.t 47),no⟩]) (.exit 1))) .skip)) (.seq (.reg [⟨some 48,.mv (.t 10),no⟩,⟨some 49,.ld true 2 (.t 13),no⟩,⟨some 50,.call (.k (.fn (.func 306) [] [])) [.t 49,(.k (.int .i64 1))],no⟩,⟨some 51,.bsl 2 [.t 50],no⟩,⟨some 52,.app 32 2 (.t 48) (.t 51),no⟩,⟨some 10,.mv (.t 52),no⟩]) (.seq  K73 (.seq K6v (.reg [⟨some 72,.mv (.t 2),no⟩,⟨some 73,.bin .add (.t 72) (.k (.int .i64 1)),no⟩,⟨some 2,.mv (.t 73),no⟩])))))))) (.reg [⟨some 22,.mv (.t 11),no⟩,⟨some 23,.bin .add (.t 22) (.k (.int .i64 1)),no⟩,⟨some 11,.mv (.t 23),no⟩]))))))
def ro3:AC:=(.reg [⟨some 74,.ld true 2 (.t 4),no⟩,⟨some 75,.mv (.t 10),no⟩,⟨no,.st 2 (.t 8) (.t 74),no⟩,⟨some 9,.mv (.t 75),no⟩])
def a266:AFn:=⟨76,[(.c 8 true 2),.t 9],(.seq ro0 (.seq ro1 (.seq ro2 (.seq ro3 .ret))))⟩
theorem a266_ok:J0a Tryz.prog Tryz.f266=some a266:=by kernel_rfl
def Dj (v w:AV):Prop:=∀ i k l,v = .ref i 0 k→w = .ref i 0 l→False
def Jfg (b:Nat) (l:List (Nat×List (List AV)×AV)) (h:Heap) (n:Nat):Prop:=(∀ x∈l,J3c b x.1 x.2.1 x.2.2 h n)∧l.Pairwise fun x y=>Dj x.2.2 y.2.2
theorem J3c.lt {b z:Nat}{rows:List (List AV)}{v:AV}{h:Heap}{n i k:Nat}(x:J3c b z rows v h n) (e:v = .ref i 0 k):b<i∧i<n∧h i=some ⟨false,z,rows⟩∧k=rows.length:=by
 rcases x with ⟨_,rfl⟩|⟨j,h1,h2,rfl,hb⟩
 ·cases e
 ·simp only [AV.ref.injEq] at e
  obtain ⟨rfl,_,rfl⟩:=e
  exact ⟨h1,h2,hb,rfl⟩
theorem Jfg.step {b:Nat}{l1 l2:List (Nat×List (List AV)×AV)}{x x':Nat×List (List AV)×AV}{h h':Heap}{n n':Nat}(A:Jfg b (l1++x::l2) h n) (hx:J3c b x'.1 x'.2.1 x'.2.2 h' n') (hnew:∀ i k,x'.2.2 = .ref i 0 k→n≤i) (hn:n≤n')
 (hh:∀ id,b<id→id<n→(∃ z rows,h id=some ⟨false,z,rows⟩)→(∀ k,x.2.2 ≠ .ref id 0 k)→h' id=h id):Jfg b (l1++x'::l2) h' n':=by
 obtain ⟨A1,A2⟩:=A
 rw [List.pairwise_append,List.pairwise_cons] at A2
 obtain ⟨p1,⟨p2,p3⟩,p4⟩:=A2
 refine ⟨?_,?_⟩
 ·intro y hy
  rcases List.mem_append.1 hy with hy|hy
  ·refine (A1 y (List.mem_append_left _ hy)).keep hn fun id hb hid e=>hh id hb hid ⟨_,_,((A1 y (List.mem_append_left _ hy)).lt e).2.2.1⟩ fun k ek=>p4 y hy x List.mem_cons_self id _ k e ek
  ·rcases List.mem_cons.1 hy with rfl|hy
   ·exact hx
   ·refine (A1 y (List.mem_append_right _ (List.mem_cons_of_mem _ hy))).keep hn fun id hb hid e=>hh id hb hid ⟨_,_,((A1 y (List.mem_append_right _ (List.mem_cons_of_mem _ hy))).lt e).2.2.1⟩ fun k ek=>p2 y hy id k _ ek e
 ·rw [List.pairwise_append,List.pairwise_cons]
  refine ⟨p1,⟨fun y hy i k l e1 e2 => ?_,p3⟩,fun y hy w hw i k l e1 e2 => ?_⟩
  ·have g1:=hnew i k e1
   have g2:=((A1 y (List.mem_append_right _ (List.mem_cons_of_mem _ hy))).lt e2).2.1
   omega
  ·have g2:=((A1 y (List.mem_append_left _ hy)).lt e1).2.1
   rcases List.mem_cons.1 hw with rfl|hw
   ·have g1:=hnew i l e2;omega
   ·exact p4 y hy w (List.mem_cons_of_mem _ hw) i k l e1 e2
theorem Jfg.frame {b:Nat}{l:List (Nat×List (List AV)×AV)}{h h':Heap}{n n':Nat}(A:Jfg b l h n) (hn:n≤n') (hh:∀ id,b<id→id<n→h' id=h id):Jfg b l h' n':=
 ⟨fun x hx=>(A.1 x hx).keep hn fun id hb hid _=>hh id hb hid,A.2⟩
theorem J2m {b z bytes k:Nat}{rows rows2:List (List AV)}{v:AV}{h:Heap}{n:Nat}{K:AV→Heap→Nat→Prop}(A:J3c b z rows v h n) (hk:h k=some ⟨false,z,rows2⟩) (hvk:∀ l,v ≠ .ref k 0 l) (hkn:k<n)
 (hlen:(rows.length+rows2.length)*bytes≤LIM)
 (hK:∀ h',h' n=some ⟨false,z,rows++rows2⟩→(∀ id,id≠n→id≠k→(∀ l,v ≠ .ref id 0 l)→h' id=h id)→K (.ref n 0 (rows.length+rows2.length)) h' (n+1)) :
 Jvi bytes z v (.ref k 0 rows2.length) h n K:=by
 rcases A with ⟨rfl,rfl⟩|⟨i,_,hin,rfl,hib⟩
 ·simp [hk]
  refine ⟨by simpa using hlen,?_⟩
  have:k≠n:=by omega
  simp at hK
  exact hK _ (by simp) fun id h1 h2=>by simp [h1,h2]
 ·have hki:¬k=i:=fun e=>hvk _ (by rw [e])
  have hik:¬i=k:=fun e=>hki e.symm
  have hne:¬i=n:=by omega
  simp [hk,hib,hki,hik]
  refine ⟨hlen,?_⟩
  refine hK _ (by simp [List.take_of_length_le]) fun id h1 h2 h3 => ?_
  have:¬id=i:=fun e=>h3 _ (by rw [e])
  simp [h1,h2,this]
section
variable {ks:List Kt}{s:Env}{h:Heap}{n N:Nat}{Q:Fin}
theorem Jrf {l0:DLin}{k:Nat}(s3:s 3 = .int .i64 N) (s13:s 13 = .ptr k 0 0) (hkn:k<n) (hkb:h k=some ⟨true,2,[J07 l0]⟩)
 (hK:∀ s' h' n',(∀ j∈[2,3,4,5,8,9,10,11,12,13],s' j=s j)→(∃ k q,s' 14 = .ptr k 0 0∧n≤k∧n≤q∧k<n'∧q<n'∧h' k=some ⟨true,2,[[.int .i64 (J88 (J05 0 N) (-1) l0).Const,.ref q 0 (J88 (J05 0 N) (-1) l0).Coeffs.length]]⟩∧h' q=some ⟨false,1,J0k (J88 (J05 0 N) (-1) l0).Coeffs⟩)→n≤n'→(∀ id,id<n→h' id=h id)→J2b Tryz.prog ks .normal s' h' n' Q):rC Tryz.prog K8j ks s h n Q:=by
 have fr:∀ id,id<n→¬id=n∧¬id=n+1∧¬id=n+1+1∧¬id=n+2:=by intro id _;omega
 have ne:¬n=n+1∧¬n+1=n∧¬n=n+1+1∧¬n+1+1=n∧¬n+1=n+1+1∧¬n+1+1=n+1:=by omega
 simp [K8j,s3,s13,hkb]
 constructor
 ·skip
  first|refine J00 (J13 0 N) (by first|simp;done|rfl) ?_|refine J02 (J13 0 N) (by first|simp;done|rfl) ?_
  rintro r rfl
  simp [J08,ne]
  constructor
  ·skip
   first|refine J00 (J0m (J05 0 N) (-1) l0) (by first|simp [J07];done|rfl) ?_|refine J02 (J0m (J05 0 N) (-1) l0) (by first|simp [J07];done|rfl) ?_
   rintro r rfl
   rw [J0l]
   have hadd:(J0j (J05 0 N) (-1) l0).getD J1b=J88 (J05 0 N) (-1) l0:=rfl
   rw [hadd]
   generalize J88 (J05 0 N) (-1) l0=l at *
   simp [J08,ne]
   refine hK _ _ _ (by simp) ⟨n+2,n+1,by simp,by omega,by omega,by omega,by omega,by simp [ne],by simp [ne]⟩ (by omega) fun id hid=>by simp [fr id hid]
  ·skip
   first|refine J00 (J0m (J05 0 N) (-1) l0) (by first|simp [J07,ne];done|rfl) ?_|refine J02 (J0m (J05 0 N) (-1) l0) (by first|simp [J07,ne];done|rfl) ?_
   rintro r rfl
   rw [J0l]
   have hadd:(J0j (J05 0 N) (-1) l0).getD J1b=J88 (J05 0 N) (-1) l0:=rfl
   rw [hadd]
   generalize J88 (J05 0 N) (-1) l0=l at *
   simp [J08,ne]
   refine hK _ _ _ (by simp) ⟨n+1,n+2,by simp,by omega,by omega,by omega,by omega,by simp [ne],by simp [ne]⟩ (by omega) fun id hid=>by simp [fr id hid]
 ·skip
  first|refine J00 (J13 0 N) (by first|simp;done|rfl) ?_|refine J02 (J13 0 N) (by first|simp;done|rfl) ?_
  rintro r rfl
  simp [J08,ne]
  ·skip
   first|refine J00 (J0m (J05 0 N) (-1) l0) (by first|simp [J07,ne];done|rfl) ?_|refine J02 (J0m (J05 0 N) (-1) l0) (by first|simp [J07,ne];done|rfl) ?_
   rintro r rfl
   rw [J0l]
   have hadd:(J0j (J05 0 N) (-1) l0).getD J1b=J88 (J05 0 N) (-1) l0:=rfl
   rw [hadd]
   generalize J88 (J05 0 N) (-1) l0=l at *
   simp [J08,ne]
   refine hK _ _ _ (by simp) ⟨n,n+2,by simp,by omega,by omega,by omega,by omega,by simp [ne],by simp [ne]⟩ (by omega) fun id hid=>by simp [fr id hid]
def Old (v0 v:AV) (n0:Nat):Prop:=v=v0∨∀ i k,v = .ref i 0 k→n0≤i
structure RI (b n0:Nat) (vN0 vL0:AV) (h0:Heap) (r:DRule) (nm:List Str) (ls R:List DLin) (v10:AV) (h:Heap) (m:Nat):Prop where
 lt:n0+3<m
 hr:h (n0+1)=some ⟨true,7,[J0c r]⟩
 hz:h (n0+2)=some ⟨true,2,[[.nil 1,.nil 2]]⟩
 fr:∀ id,id<n0→(∀ k,vN0 ≠ .ref id 0 k)→(∀ k,vL0 ≠ .ref id 0 k)→h id=h0 id
 env:∃ vN vL,h n0=some ⟨true,2,[[vN,vL]]⟩∧Jfg b [(1,J0e nm,vN),(2,ls.map J07,vL),(2,R.map J08,v10)] h m∧Old vN0 vN n0∧Old vL0 vL n0∧Old (.nil 2) v10 n0
variable {b n0:Nat}{vN0 vL0 v10 v10':AV}{h0 h':Heap}{r:DRule}{nm:List Str}{ls R:List DLin}{m m':Nat}
theorem Old.fresh {v0:AV}{i k:Nat}(h:n0≤i):Old v0 (.ref i 0 k) n0 := .inr fun j l e=>by simp only [AV.ref.injEq] at e;omega
theorem RI.frame (M:RI b n0 vN0 vL0 h0 r nm ls R v10 h m) (hm:m≤m') (hh:∀ id,id<m→h' id=h id):RI b n0 vN0 vL0 h0 r nm ls R v10 h' m':=by
 have l1:=M.lt
 obtain ⟨vN,vL,e1,e2,e3,e4,e5⟩:=M.env
 exact ⟨by omega,by rw [hh _ (by omega),M.hr],by rw [hh _ (by omega),M.hz],fun id h1 h2 h3=>by rw [hh id (by omega),M.fr id h1 h2 h3],vN,vL,by rw [hh _ (by omega),e1],e2.frame hm fun id _ hid=>hh id hid,e3,e4,e5⟩
theorem J3c.not_box {z z' i k:Nat}{rows rows':List (List AV)}{v:AV}(x:J3c b z rows v h n) (hb:h i=some ⟨true,z',rows'⟩) (e:v = .ref i 0 k):False:=by
 have:=(x.lt e).2.2.1
 rw [hb] at this;simp at this
theorem RI.rows (M:RI b n0 vN0 vL0 h0 r nm ls R v10 h m) {R':List DLin}(hm:m≤m') (hx:J3c b 2 (R'.map J08) v10' h' m') (hnew:∀ i k,v10' = .ref i 0 k→m≤i) (hh:∀ id,id<m→(∀ k,v10 ≠ .ref id 0 k)→h' id=h id):RI b n0 vN0 vL0 h0 r nm ls R' v10' h' m':=by
 have l1:=M.lt
 obtain ⟨vN,vL,e1,e2,e3,e4,e5⟩:=M.env
 have y3:=e2.1 (2,R.map J08,v10) (by simp)
 refine ⟨by omega,?_,?_,?_,vN,vL,?_,?_,e3,e4,.inr fun i k e=>by have:=hnew i k e;omega⟩
 ·rw [hh _ (by omega) fun k e=>y3.not_box M.hr e,M.hr]
 ·rw [hh _ (by omega) fun k e=>y3.not_box M.hz e,M.hz]
 ·intro id h1 h2 h3
  rw [hh id (by omega) fun k e => ?_,M.fr id h1 h2 h3]
  rcases e5 with rfl|g
  ·cases e
  ·have:=g _ _ e;omega
 ·rw [hh _ (by omega) fun k e=>y3.not_box e1 e,e1]
 ·exact Jfg.step (l1:=[(1,J0e nm,vN),(2,ls.map J07,vL)]) (l2:=[]) (x:=(2,R.map J08,v10)) (x':=(2,R'.map J08,v10')) e2 hx hnew hm fun id _ h2 _ h3=>hh id h2 h3
theorem RI.names (M:RI b n0 vN0 vL0 h0 r nm ls R v10 h m) {nm':List Str}{vN vL vN':AV}(e1:h n0=some ⟨true,2,[[vN,vL]]⟩) (e1':h' n0=some ⟨true,2,[[vN',vL]]⟩) (hm:m≤m') (hx:J3c b 1 (J0e nm') vN' h' m') (hnew:∀ i k,vN' = .ref i 0 k→m≤i) (hh:∀ id,id<m→id≠n0→(∀ k,vN ≠ .ref id 0 k)→h' id=h id):RI b n0 vN0 vL0 h0 r nm' ls R v10 h' m':=by
 have l1:=M.lt
 obtain ⟨vN2,vL2,f1,e2,e3,e4,e5⟩:=M.env
 rw [e1] at f1
 simp only [Option.some.injEq,Blk.mk.injEq,true_and,List.cons.injEq,and_true] at f1
 obtain ⟨rfl,rfl⟩:=f1
 have y1:=e2.1 (1,J0e nm,vN) (by simp)
 refine ⟨by omega,?_,?_,?_,vN',vL,e1',?_,.inr fun i k e=>by have:=hnew i k e;omega,e4,e5⟩
 ·rw [hh _ (by omega) (by omega) fun k e=>y1.not_box M.hr e,M.hr]
 ·rw [hh _ (by omega) (by omega) fun k e=>y1.not_box M.hz e,M.hz]
 ·intro id h1 h2 h3
  rw [hh id (by omega) (by omega) fun k e => ?_,M.fr id h1 h2 h3]
  rcases e3 with rfl|g
  ·exact h2 k e
  ·have:=g _ _ e;omega
 ·refine Jfg.step (l1:=[]) (l2:=[(2,ls.map J07,vL),(2,R.map J08,v10)]) (x:=(1,J0e nm,vN)) (x':=(1,J0e nm',vN')) e2 hx hnew hm fun id hb h2 hf h3 => ?_
  refine hh id h2 (fun e => ?_) h3
  obtain ⟨z,rows,hf⟩:=hf
  rw [e,e1] at hf;simp at hf
theorem RI.lins (M:RI b n0 vN0 vL0 h0 r nm ls R v10 h m) {ls':List DLin}{vN vL vL':AV}(e1:h n0=some ⟨true,2,[[vN,vL]]⟩) (e1':h' n0=some ⟨true,2,[[vN,vL']]⟩) (hm:m≤m') (hx:J3c b 2 (ls'.map J07) vL' h' m') (hnew:∀ i k,vL' = .ref i 0 k→m≤i) (hh:∀ id,id<m→id≠n0→(∀ k,vL ≠ .ref id 0 k)→h' id=h id):RI b n0 vN0 vL0 h0 r nm ls' R v10 h' m':=by
 have l1:=M.lt
 obtain ⟨vN2,vL2,f1,e2,e3,e4,e5⟩:=M.env
 rw [e1] at f1
 simp only [Option.some.injEq,Blk.mk.injEq,true_and,List.cons.injEq,and_true] at f1
 obtain ⟨rfl,rfl⟩:=f1
 have y1:=e2.1 (2,ls.map J07,vL) (by simp)
 refine ⟨by omega,?_,?_,?_,vN,vL',e1',?_,e3,.inr fun i k e=>by have:=hnew i k e;omega,e5⟩
 ·rw [hh _ (by omega) (by omega) fun k e=>y1.not_box M.hr e,M.hr]
 ·rw [hh _ (by omega) (by omega) fun k e=>y1.not_box M.hz e,M.hz]
 ·intro id h1 h2 h3
  rw [hh id (by omega) (by omega) fun k e => ?_,M.fr id h1 h2 h3]
  rcases e4 with rfl|g
  ·exact h3 k e
  ·have:=g _ _ e;omega
 ·refine Jfg.step (l1:=[(1,J0e nm,vN)]) (l2:=[(2,R.map J08,v10)]) (x:=(2,ls.map J07,vL)) (x':=(2,ls'.map J07,vL')) e2 hx hnew hm fun id hb h2 hf h3 => ?_
  refine hh id h2 (fun e => ?_) h3
  obtain ⟨z,rows,hf⟩:=hf
  rw [e,e1] at hf;simp at hf
theorem Jqh {q:DPattern}{k:Nat}(s4:s 4 = .ptr n0 0 0) (s12:s 12 = .ptr k 0 0) (M:RI b n0 vN0 vL0 h0 r nm ls R v10 h n) (hb:b<n0) (hkn:k<n) (hkb:h k=some ⟨true,4,[J09 q]⟩) (hl:nm.length≤1048576)
 (hK:∀ s' h' n',(∀ j∈[2,3,5,8,9,10,11,12,13,4],s' j=s j)→n≤n'→(∀ id z rows,id<n→id≠n0→h id=some ⟨true,z,rows⟩→h' id=h id)→RI b n0 vN0 vL0 h0 r (nm++[q.Head,q.Tail]) ls R v10 h' n'→J2b Tryz.prog ks .normal s' h' n' Q):rC Tryz.prog K73 ks s h n Q:=by
 have l1:=M.lt
 obtain ⟨vN,vL,e1,e2,e3,e4,e5⟩:=M.env
 have y1:=e2.1 (1,J0e nm,vN) (by simp)
 have ne:¬n0=n∧¬k=n∧¬n0=n+1∧¬n+1=n0∧¬k=n0∧¬n0=k:=by
  refine ⟨by omega,by omega,by omega,by omega,?_,?_⟩
  ·rintro rfl;rw [hkb] at e1;simp at e1
  ·rintro rfl;rw [hkb] at e1;simp at e1
 have frn:∀ id,id<n→¬id=n∧¬id=n+1:=by intro id _;omega
 simp [K73,s4,s12,e1,hkb,J09]
 refine J2m (rows:=J0e nm) (rows2:=[[.str q.Head],[.str q.Tail]]) (y1.keep (n':=n+1) (by omega) fun id _ hid _=>by simp [frn id hid]) (by simp) (fun l e=>by have:=(y1.lt e).2.1;omega) (by omega) (by simp [J0e];unfold LIM;omega) ?_
 intro h1 f1 f2
 have g0:h1 n0=some ⟨true,2,[[vN,vL]]⟩:=by rw [f2 n0 (by omega) (by omega) fun l e=>y1.not_box e1 e];simp [ne,e1]
 simp [g0,s4]
 refine hK _ _ _ (by simp) (by omega) ?_ (M.names (vN' := .ref (n+1) 0 (nm.length+2)) e1 (by simp [J0e]) (by omega) (.inr ⟨n+1,by omega,by omega,by simp [J0e],by simp [ne,f1,J0e]⟩) (fun i k e=>by simp only [AV.ref.injEq] at e;omega) ?_)
 ·intro id z rows h1' h2' h3'
  simp [h2',f2 id (by omega) (by omega) fun l e=>y1.not_box h3' e,frn id h1']
 ·intro id h1' h2' h3'
  simp [h2',f2 id (by omega) (by omega) h3',frn id h1']
theorem Jqv {l0:DLin}{k at':Nat}(s2:s 2 = .int .i64 at') (s3:s 3 = .int .i64 N) (s4:s 4 = .ptr n0 0 0) (s13:s 13 = .ptr k 0 0) (M:RI b n0 vN0 vL0 h0 r nm ls R v10 h n) (hb:b<n0) (hkn:k<n) (hkb:h k=some ⟨true,2,[J07 l0]⟩) (hk0:k≠n0) (hl:ls.length≤1048576) (hl0:l0.Coeffs.length≤1048576)
 (hK:∀ s' h' n',(∀ j∈[2,3,5,8,9,10,11,12,13,4],s' j=s j)→n≤n'→(∀ id z rows,id<n→id≠n0→h id=some ⟨true,z,rows⟩→h' id=h id)→RI b n0 vN0 vL0 h0 r nm (ls++[J2q at' N,J4u l0 1]) R v10 h' n'→J2b Tryz.prog ks .normal s' h' n' Q):rC Tryz.prog K6v ks s h n Q:=by
 have l1:=M.lt
 obtain ⟨vN,vL,e1,e2,e3,e4,e5⟩:=M.env
 have y1:=e2.1 (2,ls.map J07,vL) (by simp)
 have ne:¬n0=n∧¬k=n∧¬n0=n+1∧¬n0=n+1+1∧¬n0=n+2∧¬k=n+1∧¬n=n+1∧¬n+1=n:=by omega
 have frn:∀ id,id<n→¬id=n∧¬id=n+1∧¬id=n+1+1∧¬id=n+2∧¬id=n+3:=by intro id _;omega
 simp [K6v,s2,s3,s4,s13,e1,hkb]
 refine J49 (J74 at' N) (by simp) ?_
 rintro _ rfl
 simp [ne,e1]
 refine J49 (Jau l0 1 hl0) (by simp) ?_
 rintro _ rfl
 simp [ne,e1,s4]
 have ne2:¬n+1+1=n0∧¬n+1=n0∧¬n+2=n0∧¬n0=n+1+1:=by omega
 refine J2m (rows:=ls.map J07) (rows2:=[J07 (J2q at' N),J07 (J4u l0 1)]) (y1.keep (n':=n+1) (by omega) fun id _ hid _=>by simp [frn id hid]) (by simp) (fun l e=>by have:=(y1.lt e).2.1;omega) (by omega) (by simp;unfold LIM;omega) ?_
 intro h1 f1 f2
 have g0:h1 n0=some ⟨true,2,[[vN,vL]]⟩:=by rw [f2 n0 (by omega) (by omega) fun l e=>y1.not_box e1 e];simp [ne,e1]
 simp [g0,s4]
 refine hK _ _ _ (by simp) (by omega) ?_ (M.lins (vL' := .ref (n+1) 0 (ls.length+2)) e1 (by simp) (by omega) (.inr ⟨n+1,by omega,by omega,by simp,by simp [ne2,f1]⟩) (fun i k e=>by simp only [AV.ref.injEq] at e;omega) ?_)
 ·intro id z rows h1' h2' h3'
  simp [h2',f2 id (by omega) (by omega) fun l e=>y1.not_box h3' e,frn id h1']
 ·intro id h1' h2' h3'
  simp [h2',f2 id (by omega) (by omega) h3',frn id h1']
end
end Go.Proofs.YtoclolkigjbcgaaGreat
