/- Contracts: expressions carried over a call; differences. -/
import Derived.Test.YtoclolkigjbcgaaGreatKC1
import Derived.Test.YtoclolkigjbcgaaGreatKT1
namespace Go.Proofs.YtoclolkigjbcgaaGreat
set_option maxRecDepth 40000
set_option maxHeartbeats 4000000
open Go Go.RowKit Go.Proofs
set_option linter.all false
def a191:AFn:= ⟨29,[(.c 6 true 2),.t 7],(.seq (.reg [⟨some 3,.boxv (.t 0),no⟩,⟨some 6,.box [(.int .i64 0),(.nil 1)],no⟩,⟨some 7,.mv (.k (.bool false)),no⟩]) (.seq (.seq (.reg [⟨some 8,.mv (.t 1),no⟩,⟨some 9,.len false (.t 8),no⟩,⟨some 10,.bin .gtr (.t 9) (.k (.int .i64 0)),no⟩]) (.cond (.t 10) (.seq (.reg [⟨some 11,.ld true 2 (.t 3),no⟩,⟨some 12,.mv (.t 1),no⟩,⟨some 13,.call (.k (.fn (.func 272) [] [])) [.t 11,.t 12],no⟩,⟨some 14,.ext (.t 13) 0,no⟩,⟨some 15,.ext (.t 13) 1,no⟩,⟨no,.st 2 (.t 6) (.t 14),no⟩,⟨some 7,.mv (.t 15),no⟩]) .ret) .skip)) (.seq (.seq (.reg [⟨some 16,.ld true 2 (.t 3),no⟩,⟨some 17,.call (.k (.fn (.func 146) [] [])) [.t 16,(.k (.int .i64 0))],no⟩,⟨some 18,.un .not (.t 17),no⟩,⟨some 19,.mv (.t 18),no⟩,⟨some 20,.mv (.t 2),(some (19,false))⟩,⟨some 21,.call (.k (.fn (.func 102) [] [])) [.t 20,(.k (.int .i64 0)),(.k (.int .i64 8))],(some (19,false))⟩,⟨some 22,.un .not (.t 21),(some (19,false))⟩,⟨some 23,.pick (.t 19) (.k (.bool true)) (.t 22),no⟩]) (.cond (.t 23) (.seq (.reg [⟨some 24,.build [(.int .i64 0),(.nil 1)] [],no⟩,⟨no,.st 2 (.t 6) (.t 24),no⟩,⟨some 7,.mv (.k (.bool false)),no⟩]) .ret) .skip)) (.seq (.reg [⟨some 25,.fld 0 (.t 3),no⟩,⟨some 26,.ld false 1 (.t 25),no⟩,⟨some 27,.mv (.t 2),no⟩,⟨some 28,.call (.k (.fn (.func 178) [] [])) [.t 26,.t 27],no⟩,⟨no,.st 2 (.t 6) (.t 28),no⟩,⟨some 7,.mv (.k (.bool true)),no⟩]) .ret))))⟩
theorem a191_ok:J0a Tryz.prog Tryz.f191=some a191:=by kernel_rfl
def a185:AFn:= ⟨36,[(.c 6 true 2),.t 7],(.seq (.reg [⟨some 3,.boxv (.t 0),no⟩,⟨some 4,.boxv (.t 1),no⟩,⟨some 6,.box [(.int .i64 0),(.nil 1)],no⟩,⟨some 7,.mv (.k (.bool false)),no⟩]) (.seq (.seq (.reg [⟨some 9,.mv (.t 2),no⟩,⟨some 10,.len false (.t 9),no⟩,⟨some 11,.bin .gtr (.t 10) (.k (.int .i64 0)),no⟩]) (.cond (.t 11) (.seq (.reg [⟨some 12,.ld true 2 (.t 4),no⟩,⟨some 13,.mv (.t 2),no⟩,⟨some 14,.call (.k (.fn (.func 269) [] [])) [.t 12,.t 13],no⟩,⟨some 15,.ext (.t 14) 0,no⟩,⟨some 16,.ext (.t 14) 1,no⟩,⟨no,.st 2 (.t 6) (.t 15),no⟩,⟨some 7,.mv (.t 16),no⟩]) .ret) .skip)) (.seq (.reg [⟨some 17,.fld 0 (.t 4),no⟩,⟨some 18,.ld false 1 (.t 17),no⟩,⟨some 19,.fld 0 (.t 3),no⟩,⟨some 20,.fld 0 (.t 19),no⟩,⟨some 21,.ld false 1 (.t 20),no⟩,⟨some 22,.call (.k (.fn (.func 99) [] [])) [.t 18,.t 21],no⟩,⟨some 8,.box [(.int .i64 0),(.nil 1)],no⟩,⟨no,.st 2 (.t 8) (.t 22),no⟩]) (.seq (.seq (.reg [⟨some 23,.ld true 2 (.t 4),no⟩,⟨some 24,.call (.k (.fn (.func 179) [] [])) [.t 23,(.k (.int .i64 0))],no⟩,⟨some 25,.un .not (.t 24),no⟩,⟨some 26,.mv (.t 25),no⟩,⟨some 27,.ld true 2 (.t 8),(some (26,false))⟩,⟨some 28,.fld 0 (.t 3),(some (26,false))⟩,⟨some 29,.fld 0 (.t 28),(some (26,false))⟩,⟨some 30,.ld false 1 (.t 29),(some (26,false))⟩,⟨some 31,.call (.k (.fn (.func 179) [] [])) [.t 27,.t 30],(some (26,false))⟩,⟨some 32,.un .not (.t 31),(some (26,false))⟩,⟨some 33,.pick (.t 26) (.k (.bool true)) (.t 32),no⟩]) (.cond (.t 33) (.seq (.reg [⟨some 34,.build [(.int .i64 0),(.nil 1)] [],no⟩,⟨no,.st 2 (.t 6) (.t 34),no⟩,⟨some 7,.mv (.k (.bool false)),no⟩]) .ret) .skip)) (.seq (.reg [⟨some 35,.ld true 2 (.t 8),no⟩,⟨no,.st 2 (.t 6) (.t 35),no⟩,⟨some 7,.mv (.k (.bool true)),no⟩]) .ret)))))⟩
theorem a185_ok:J0a Tryz.prog Tryz.f185=some a185:=by kernel_rfl
def a177:AFn:= ⟨28,[(.c 6 true 2),.t 7],(.seq (.reg [⟨some 3,.boxv (.t 0),no⟩,⟨some 4,.boxv (.t 1),no⟩,⟨some 6,.box [(.int .i64 0),(.nil 1)],no⟩,⟨some 7,.mv (.k (.bool false)),no⟩]) (.seq (.seq (.reg [⟨some 8,.mv (.t 2),no⟩,⟨some 9,.fld 3 (.t 3),no⟩,⟨some 10,.ld false 1 (.t 9),no⟩,⟨some 11,.len false (.t 10),no⟩,⟨some 12,.bin .sub (.t 11) (.k (.int .i64 1)),no⟩,⟨some 13,.call (.k (.fn (.func 102) [] [])) [.t 8,(.k (.int .i64 0)),.t 12],no⟩,⟨some 14,.un .not (.t 13),no⟩]) (.cond (.t 14) (.seq (.reg [⟨some 15,.build [(.int .i64 0),(.nil 1)] [],no⟩,⟨no,.st 2 (.t 6) (.t 15),no⟩,⟨some 7,.mv (.k (.bool false)),no⟩]) .ret) .skip)) (.seq (.draw (.op ⟨some 16,.ld true 2 (.t 4),no⟩ (.op ⟨some 17,.fld 3 (.t 3),no⟩ (.op ⟨some 18,.ld false 1 (.t 17),no⟩ (.op ⟨some 19,.mv (.t 2),no⟩ (.op ⟨some 20,.ixa 1 (.t 18) (.t 19),no⟩ (.op ⟨some 21,.ld false 1 (.t 20),no⟩ (.op ⟨some 22,.fld 0 (.t 3),no⟩ (.op ⟨some 23,.fld 0 (.t 22),no⟩ (.op ⟨some 24,.ld false 1 (.t 23),no⟩ (.op ⟨some 25,.call (.k (.fn (.func 191) [] [])) [.t 16,.t 21,.t 24],no⟩ (.op ⟨some 26,.ext (.t 25) 0,no⟩ (.op ⟨some 27,.ext (.t 25) 1,no⟩ (.hop ⟨no,.st 2 (.t 6) (.t 26),no⟩ [] (.op ⟨some 7,.mv (.t 27),no⟩ .fin))))))))))))))) .ret)))⟩
theorem a177_ok:J0a Tryz.prog Tryz.f177=some a177:=by kernel_rfl
def a174:AFn:= ⟨26,[(.c 6 true 2),.t 7],(.seq (.reg [⟨some 3,.boxv (.t 0),no⟩,⟨some 4,.boxv (.t 1),no⟩,⟨some 6,.box [(.int .i64 0),(.nil 1)],no⟩,⟨some 7,.mv (.k (.bool false)),no⟩]) (.seq (.seq (.reg [⟨some 8,.mv (.t 2),no⟩,⟨some 9,.fld 3 (.t 3),no⟩,⟨some 10,.ld false 1 (.t 9),no⟩,⟨some 11,.len false (.t 10),no⟩,⟨some 12,.bin .sub (.t 11) (.k (.int .i64 1)),no⟩,⟨some 13,.call (.k (.fn (.func 183) [] [])) [.t 8,(.k (.int .i64 0)),.t 12],no⟩,⟨some 14,.un .not (.t 13),no⟩]) (.cond (.t 14) (.seq (.reg [⟨some 15,.build [(.int .i64 0),(.nil 1)] [],no⟩,⟨no,.st 2 (.t 6) (.t 15),no⟩,⟨some 7,.mv (.k (.bool false)),no⟩]) .ret) .skip)) (.seq (.draw (.op ⟨some 16,.ld true 6 (.t 3),no⟩ (.op ⟨some 17,.ld true 2 (.t 4),no⟩ (.op ⟨some 18,.fld 3 (.t 3),no⟩ (.op ⟨some 19,.ld false 1 (.t 18),no⟩ (.op ⟨some 20,.mv (.t 2),no⟩ (.op ⟨some 21,.ixa 1 (.t 19) (.t 20),no⟩ (.op ⟨some 22,.ld false 1 (.t 21),no⟩ (.op ⟨some 23,.call (.k (.fn (.func 185) [] [])) [.t 16,.t 17,.t 22],no⟩ (.op ⟨some 24,.ext (.t 23) 0,no⟩ (.op ⟨some 25,.ext (.t 23) 1,no⟩ (.hop ⟨no,.st 2 (.t 6) (.t 24),no⟩ [] (.op ⟨some 7,.mv (.t 25),no⟩ .fin))))))))))))) .ret)))⟩
theorem a174_ok:J0a Tryz.prog Tryz.f174=some a174:=by kernel_rfl
def J22 (l:DLin) (args:List DLin) (n:Int):Option DLin:=
 if 0<args.length then J41 l args else if J14 l 0&&inR n 0 8 then some (J05 l.Const n) else Option.none
def J2s (m:DModel) (l:DLin) (call:Int):Option DLin:=
 if inR call 0 ((m.Args.length:Int) - 1) then J22 l (m.Args.getD call.toNat []) m.System.N else Option.none
theorem J2a (l:DLin) (args:List DLin) (n:Int):Holds Tryz.prog 191 [.agg (J07 l),.sl 2 (args.map J07),i64 n] (fun r=>r=J0u (J22 l args n)):=by
 refine J03 Tryz.func191 a191_ok rfl (by simp [a191]) ?_
 simp [a191,J07]
 unfold J22
 intro _
 by_cases h:0<args.length
 ·have hne:¬args=[]:=by rintro rfl;simp at h
  simp [h,hne]
  first|refine J00 (J8o l args) (by first|simp [J07];done|rfl) ?_|refine J02 (J8o l args) (by first|simp [J07];done|rfl) ?_
  rintro r rfl
  simp [J0l,J08]
 have hne:args=[]:=List.eq_nil_of_length_eq_zero (by omega)
 subst hne
 simp
 first|refine J00 (J0y l 0) (by first|simp [J07];done|rfl) ?_|refine J02 (J0y l 0) (by first|simp [J07];done|rfl) ?_
 rintro r rfl
 cases h1:J14 l 0
 ·simp [J0u,J1b,J08,J0k]
 simp
 first|refine J00 (J1s n 0 8) (by first|simp;done|rfl) ?_|refine J02 (J1s n 0 8) (by first|simp;done|rfl) ?_
 rintro r rfl
 cases h2:inR n 0 8
 ·simp [J0u,J1b,J08,J0k]
 simp
 first|refine J00 (J1t l.Const n) (by first|simp;done|rfl) ?_|refine J02 (J1t l.Const n) (by first|simp;done|rfl) ?_
 rintro r rfl
 simp [J0u,J08]
theorem J4n (m:DModel) (l:DLin) (args:List DLin):Holds Tryz.prog 185 [.agg (J0p m),.agg (J07 l),.sl 2 (args.map J07)] (fun r=>r=J0u (J22 l args m.System.N)):=by
 refine J03 Tryz.func185 a185_ok rfl (by simp [a185]) ?_
 simp [a185,J07,J0p]
 unfold J22
 intro _
 by_cases h:0<args.length
 ·have hne:¬args=[]:=by rintro rfl;simp at h
  simp [h,hne]
  first|refine J00 (J86 l args) (by first|simp [J07];done|rfl) ?_|refine J02 (J86 l args) (by first|simp [J07];done|rfl) ?_
  rintro r rfl
  simp [J0l,J08]
 have hne:args=[]:=List.eq_nil_of_length_eq_zero (by omega)
 subst hne
 simp
 first|refine J00 (J13 l.Const m.System.N) (by first|simp;done|rfl) ?_|refine J02 (J13 l.Const m.System.N) (by first|simp;done|rfl) ?_
 rintro r rfl
 simp [J08]
 first|refine J00 (J0q l 0) (by first|simp [J07];done|rfl) ?_|refine J02 (J0q l 0) (by first|simp [J07];done|rfl) ?_
 rintro r rfl
 cases h1:J14 l 0
 ·simp [J0u,J1b,J08,J0k]
 simp
 first|refine J00 (J0q (J05 l.Const m.System.N) m.System.N) (by first|simp [J07];done|rfl) ?_|refine J02 (J0q (J05 l.Const m.System.N) m.System.N) (by first|simp [J07];done|rfl) ?_
 rintro r rfl
 have hv:J14 (J05 l.Const m.System.N) m.System.N=inR m.System.N 0 8:=by
  cases h2:inR m.System.N 0 8
  ·simp [J14,h2]
  ·have h3:0≤m.System.N∧m.System.N≤8:=by simpa [inR] using h2
   have:=(J72 (n:=m.System.N.toNat) (Jh5 h1) (by omega)).2
   rwa [show ((m.System.N.toNat:Nat):Int)=m.System.N by omega] at this
 rw [hv]
 cases h2:inR m.System.N 0 8
 ·simp [J0u,J1b,J08,J0k]
 simp [J0u,J08]
theorem J4l (m:DModel) (l:DLin) (call:Int):Holds Tryz.prog 177 [.agg (J0p m),.agg (J07 l),i64 call] (fun r=>r=J0u (J2s m l call)):=by
 refine J1h Tryz.func177 rfl rfl fun hlm => ?_
 simp [J07,J0p] at hlm
 refine J03 Tryz.func177 a177_ok rfl (by simp [a177]) ?_
 simp [a177,J07,J0p]
 intro hl
 unfold LIM at hl
 rw [J1e (by omega)]
 unfold J2s
 first|refine J00 (J1s call 0 ((m.Args.length:Int) - 1)) (by first|simp;done|rfl) ?_|refine J02 (J1s call 0 ((m.Args.length:Int) - 1)) (by first|simp;done|rfl) ?_
 rintro r rfl
 cases h1:inR call 0 ((m.Args.length:Int) - 1)
 ·simp [J0u,J1b,J08,J0k]
 have hc:0≤call∧call≤(m.Args.length:Int) - 1:=by simpa [inR] using h1
 obtain ⟨c,rfl⟩:∃ c:Nat,call=c:=⟨call.toNat,by omega⟩
 have hcl:c<m.Args.length:=by omega
 simp [hcl,Jcq]
 first|refine J00 (J2a l (m.Args[c]'hcl) m.System.N) (by first|simp [J07];done|rfl) ?_|refine J02 (J2a l (m.Args[c]'hcl) m.System.N) (by first|simp [J07];done|rfl) ?_
 rintro r rfl
 simp [J0l,J08]
theorem J33 (m:DModel) (l:DLin) (call:Int):Holds Tryz.prog 174 [.agg (J0p m),.agg (J07 l),i64 call] (fun r=>r=J0u (J2s m l call)):=by
 refine J1h Tryz.func174 rfl rfl fun hlm => ?_
 simp [J07,J0p] at hlm
 refine J03 Tryz.func174 a174_ok rfl (by simp [a174]) ?_
 simp [a174,J07,J0p]
 intro hl
 unfold LIM at hl
 rw [J1e (by omega)]
 unfold J2s
 first|refine J00 (J4d call 0 ((m.Args.length:Int) - 1)) (by first|simp;done|rfl) ?_|refine J02 (J4d call 0 ((m.Args.length:Int) - 1)) (by first|simp;done|rfl) ?_
 rintro r rfl
 cases h1:inR call 0 ((m.Args.length:Int) - 1)
 ·simp [J0u,J1b,J08,J0k]
 have hc:0≤call∧call≤(m.Args.length:Int) - 1:=by simpa [inR] using h1
 obtain ⟨c,rfl⟩:∃ c:Nat,call=c:=⟨call.toNat,by omega⟩
 have hcl:c<m.Args.length:=by omega
 simp [hcl,Jcq]
 first|refine J00 (J4n m l (m.Args[c]'hcl)) (by first|simp [J07,J0p];done|rfl) ?_|refine J02 (J4n m l (m.Args[c]'hcl)) (by first|simp [J07,J0p];done|rfl) ?_
 rintro r rfl
 simp [J0l,J08]
theorem a162_ok:J0a Tryz.prog Tryz.f162=some (J3p true 4):=by kernel_rfl
def a252:AFn:= ⟨8,[.t 2],(.seq (.reg [⟨some 2,.mv (.k (.nil 1)),no⟩]) (.seq (.seq (.reg [⟨some 3,.mv (.t 0),no⟩,⟨some 4,.inil false (.t 3),no⟩]) (.cond (.t 4) (.seq (.reg [⟨some 2,.mv (.k (.nil 1)),no⟩]) .ret) .skip)) (.seq (.reg [⟨some 5,.bsl 1 [],no⟩,⟨some 6,.mv (.t 0),no⟩,⟨some 7,.app 16 1 (.t 5) (.t 6),no⟩,⟨some 2,.mv (.t 7),no⟩]) .ret)))⟩
theorem a252_ok:J0a Tryz.prog Tryz.f252=some a252:=by kernel_rfl
def a209:AFn:= ⟨19,[.t 2],(.seq (.reg [⟨some 2,.mv (.k (.nil 2)),no⟩]) (.seq (.reg [⟨some 3,.mv (.k (.nil 2)),no⟩]) (.seq (.seq (.reg [⟨some 6,.mv (.t 0),no⟩,⟨some 7,.len false (.t 6),no⟩,⟨some 8,.mv (.k (.int .i64 0)),no⟩]) (.blk 0 (.loop (.seq (.reg [⟨some 9,.bin .lss (.t 8) (.t 7),no⟩]) (.seq (.cond (.t 9) .skip (.exit 0)) (.seq (.blk 1 (.seq (.reg [⟨some 10,.ixa 2 (.t 6) (.t 8),no⟩,⟨some 11,.ld true 2 (.t 10),no⟩,⟨some 5,.box [(.int .i64 0),(.nil 1)],no⟩,⟨no,.st 2 (.t 5) (.t 11),no⟩]) (.reg [⟨some 12,.mv (.t 3),no⟩,⟨some 13,.ld true 2 (.t 5),no⟩,⟨some 14,.call (.k (.fn (.func 86) [] [])) [.t 13],no⟩,⟨some 15,.bsl 2 [.t 14],no⟩,⟨some 16,.app 32 2 (.t 12) (.t 15),no⟩,⟨some 3,.mv (.t 16),no⟩]))) (.reg [⟨some 17,.bin .add (.t 8) (.k (.int .i64 1)),no⟩,⟨some 8,.mv (.t 17),no⟩]))))))) (.seq (.reg [⟨some 18,.mv (.t 3),no⟩,⟨some 2,.mv (.t 18),no⟩]) .ret))))⟩
theorem a209_ok:J0a Tryz.prog Tryz.f209=some a209:=by kernel_rfl
def a164:AFn:= ⟨14,[(.c 2 true 4)],(.seq (.reg [⟨some 1,.boxv (.t 0),no⟩,⟨some 2,.box [(.str []),(.nil 1),(.bool false),(.nil 2)],no⟩]) (.seq (.draw (.op ⟨some 3,.fld 0 (.t 1),no⟩ (.op ⟨some 4,.ld false 1 (.t 3),no⟩ (.op ⟨some 5,.fld 1 (.t 1),no⟩ (.op ⟨some 6,.ld false 1 (.t 5),no⟩ (.op ⟨some 8,.fld 2 (.t 1),no⟩ (.op ⟨some 9,.ld false 1 (.t 8),no⟩ (.op ⟨some 10,.fld 3 (.t 1),no⟩ (.op ⟨some 11,.ld false 1 (.t 10),no⟩ (.op ⟨some 7,.call (.k (.fn (.func 252) [] [])) [.t 6],no⟩ (.op ⟨some 12,.call (.k (.fn (.func 209) [] [])) [.t 11],no⟩ (.op ⟨some 13,.build [(.str []),(.nil 1),(.bool false),(.nil 2)] [(0,(1,(.t 4))),(1,(1,(.t 7))),(2,(1,(.t 9))),(3,(1,(.t 12)))],no⟩ (.hop ⟨no,.st 4 (.t 2) (.t 13),no⟩ [] .fin))))))))))))) .ret))⟩
theorem a164_ok:J0a Tryz.prog Tryz.f164=some a164:=by kernel_rfl
def a163:AFn:= ⟨8,[.t 3],(.seq (.reg [⟨some 2,.boxv (.t 0),no⟩,⟨some 3,.mv (.k (.bool false)),no⟩]) (.seq (.reg [⟨some 4,.fld 0 (.t 2),no⟩,⟨some 5,.ld false 1 (.t 4),no⟩,⟨some 6,.ld false 1 (.t 1),no⟩,⟨some 7,.bin .eql (.t 5) (.t 6),no⟩,⟨some 3,.mv (.t 7),no⟩]) .ret))⟩
theorem a163_ok:J0a Tryz.prog Tryz.f163=some a163:=by kernel_rfl
def a84:AFn:= ⟨9,[.t 4],(.seq (.reg [⟨some 2,.boxv (.t 0),no⟩,⟨some 3,.boxv (.t 1),no⟩,⟨some 4,.mv (.k (.int .i64 0)),no⟩]) (.seq (.reg [⟨some 5,.fld 0 (.t 2),no⟩,⟨some 6,.ld false 1 (.t 5),no⟩,⟨some 7,.mkf (.func 163) [] [.t 3],no⟩,⟨some 8,.call (.k (.fn (.func 162) [] [])) [.t 6,.t 7],no⟩,⟨some 4,.mv (.t 8),no⟩]) .ret))⟩
theorem a84_ok:J0a Tryz.prog Tryz.f84=some a84:=by kernel_rfl
def a176:AFn:= ⟨19,[(.c 4 true 4),.t 5],(.seq (.reg [⟨some 2,.boxv (.t 0),no⟩,⟨some 4,.box [(.str []),(.nil 1),(.bool false),(.nil 2)],no⟩,⟨some 5,.mv (.k (.bool false)),no⟩]) (.seq (.reg [⟨some 7,.ld true 2 (.t 2),no⟩,⟨some 8,.mv (.t 1),no⟩,⟨some 9,.call (.k (.fn (.func 84) [] [])) [.t 7,.t 8],no⟩,⟨some 6,.mv (.t 9),no⟩]) (.seq (.seq (.reg [⟨some 10,.mv (.t 6),no⟩,⟨some 11,.bin .lss (.t 10) (.k (.int .i64 0)),no⟩]) (.cond (.t 11) (.seq (.reg [⟨some 12,.build [(.str []),(.nil 1),(.bool false),(.nil 2)] [],no⟩,⟨no,.st 4 (.t 4) (.t 12),no⟩,⟨some 5,.mv (.k (.bool false)),no⟩]) .ret) .skip)) (.seq (.reg [⟨some 13,.fld 0 (.t 2),no⟩,⟨some 14,.ld false 1 (.t 13),no⟩,⟨some 15,.mv (.t 6),no⟩,⟨some 16,.ixa 4 (.t 14) (.t 15),no⟩,⟨some 17,.ld true 4 (.t 16),no⟩,⟨some 18,.call (.k (.fn (.func 164) [] [])) [.t 17],no⟩,⟨no,.st 4 (.t 4) (.t 18),no⟩,⟨some 5,.mv (.k (.bool true)),no⟩]) .ret))))⟩
theorem a176_ok:J0a Tryz.prog Tryz.f176=some a176:=by kernel_rfl
def a160:AFn:= ⟨33,[(.c 2 true 4)],(.seq (.reg [⟨some 1,.boxv (.t 0),no⟩,⟨some 2,.box [(.str []),(.nil 1),(.bool false),(.nil 2)],no⟩]) (.seq (.draw (.op ⟨some 5,.fld 0 (.t 1),no⟩ (.op ⟨some 6,.ld false 1 (.t 5),no⟩ (.op ⟨some 8,.fld 1 (.t 1),no⟩ (.op ⟨some 9,.ld false 1 (.t 8),no⟩ (.op ⟨some 11,.fld 2 (.t 1),no⟩ (.op ⟨some 12,.ld false 1 (.t 11),no⟩ (.both (.hop ⟨some 7,.bsl 1 [],no⟩ [(.ld false 1 (.t 11)),(.fld 2 (.t 1)),(.ld false 1 (.t 8)),(.fld 1 (.t 1)),(.ld false 1 (.t 5)),(.fld 0 (.t 1))] (.both (.hop ⟨some 10,.app 16 1 (.t 7) (.t 9),no⟩ [(.ld false 1 (.t 11)),(.fld 2 (.t 1)),(.ld false 1 (.t 5)),(.fld 0 (.t 1))] (.op ⟨some 13,.build [(.str []),(.nil 1),(.bool false),(.nil 2)] [(0,(1,(.t 6))),(1,(1,(.t 10))),(2,(1,(.t 12)))],no⟩ (.op ⟨some 3,.box [(.str []),(.nil 1),(.bool false),(.nil 2)],no⟩ (.hop ⟨no,.st 4 (.t 3) (.t 13),no⟩ [] .fin)))) (.op ⟨some 3,.box [(.str []),(.nil 1),(.bool false),(.nil 2)],no⟩ (.hop ⟨some 10,.app 16 1 (.t 7) (.t 9),no⟩ [(.ld false 1 (.t 11)),(.fld 2 (.t 1)),(.ld false 1 (.t 5)),(.fld 0 (.t 1))] (.op ⟨some 13,.build [(.str []),(.nil 1),(.bool false),(.nil 2)] [(0,(1,(.t 6))),(1,(1,(.t 10))),(2,(1,(.t 12)))],no⟩ (.hop ⟨no,.st 4 (.t 3) (.t 13),no⟩ [] .fin)))))) (.op ⟨some 3,.box [(.str []),(.nil 1),(.bool false),(.nil 2)],no⟩ (.hop ⟨some 7,.bsl 1 [],no⟩ [(.ld false 1 (.t 11)),(.fld 2 (.t 1)),(.ld false 1 (.t 8)),(.fld 1 (.t 1)),(.ld false 1 (.t 5)),(.fld 0 (.t 1))] (.hop ⟨some 10,.app 16 1 (.t 7) (.t 9),no⟩ [(.ld false 1 (.t 11)),(.fld 2 (.t 1)),(.ld false 1 (.t 5)),(.fld 0 (.t 1))] (.op ⟨some 13,.build [(.str []),(.nil 1),(.bool false),(.nil 2)] [(0,(1,(.t 6))),(1,(1,(.t 10))),(2,(1,(.t 12)))],no⟩ (.hop ⟨no,.st 4 (.t 3) (.t 13),no⟩ [] .fin))))))))))))) (.seq (.seq (.reg [⟨some 4,.mv (.k (.int .i64 0)),no⟩]) (.blk 0 (.loop (.seq (.seq (.reg [⟨some 14,.mv (.t 4),no⟩,⟨some 15,.fld 3 (.t 1),no⟩,⟨some 16,.ld false 1 (.t 15),no⟩,⟨some 17,.len false (.t 16),no⟩,⟨some 18,.bin .lss (.t 14) (.t 17),no⟩]) (.cond (.t 18) .skip (.exit 0))) (.seq (.blk 1 (.draw (.op ⟨some 21,.fld 3 (.t 3),no⟩ (.op ⟨some 22,.ld false 1 (.t 21),no⟩ (.op ⟨some 23,.fld 3 (.t 1),no⟩ (.op ⟨some 24,.ld false 1 (.t 23),no⟩ (.op ⟨some 25,.mv (.t 4),no⟩ (.op ⟨some 26,.ixa 2 (.t 24) (.t 25),no⟩ (.op ⟨some 27,.ld true 2 (.t 26),no⟩ (.op ⟨some 28,.call (.k (.fn (.func 82) [] [])) [.t 27],no⟩ (.hop ⟨some 29,.bsl 2 [.t 28],no⟩ [(.ld false 1 (.t 21)),(.fld 3 (.t 3))] (.hop ⟨some 30,.app 32 2 (.t 22) (.t 29),no⟩ [] (.op ⟨some 31,.fld 3 (.t 3),no⟩ (.hop ⟨no,.st 1 (.t 31) (.t 30),no⟩ [] .fin)))))))))))))) (.reg [⟨some 19,.mv (.t 4),no⟩,⟨some 20,.bin .add (.t 19) (.k (.int .i64 1)),no⟩,⟨some 4,.mv (.t 20),no⟩])))))) (.seq (.reg [⟨some 32,.ld true 4 (.t 3),no⟩,⟨no,.st 4 (.t 2) (.t 32),no⟩]) .ret))))⟩
theorem a160_ok:J0a Tryz.prog Tryz.f160=some a160:=by kernel_rfl
def a172:AFn:= ⟨29,[(.c 4 true 4),.t 5],(.seq (.reg [⟨some 2,.boxv (.t 0),no⟩,⟨some 4,.box [(.str []),(.nil 1),(.bool false),(.nil 2)],no⟩,⟨some 5,.mv (.k (.bool false)),no⟩]) (.seq (.seq (.reg [⟨some 6,.mv (.k (.int .i64 0)),no⟩]) (.blk 0 (.loop (.seq (.seq (.reg [⟨some 7,.mv (.t 6),no⟩,⟨some 8,.fld 0 (.t 2),no⟩,⟨some 9,.ld false 1 (.t 8),no⟩,⟨some 10,.len false (.t 9),no⟩,⟨some 11,.bin .lss (.t 7) (.t 10),no⟩]) (.cond (.t 11) .skip (.exit 0))) (.seq (.blk 1 (.seq (.reg [⟨some 14,.fld 0 (.t 2),no⟩,⟨some 15,.ld false 1 (.t 14),no⟩,⟨some 16,.mv (.t 6),no⟩,⟨some 17,.ixa 4 (.t 15) (.t 16),no⟩,⟨some 18,.fld 0 (.t 17),no⟩,⟨some 19,.ld false 1 (.t 18),no⟩,⟨some 20,.mv (.t 1),no⟩,⟨some 21,.bin .eql (.t 19) (.t 20),no⟩]) (.cond (.t 21) (.seq (.reg [⟨some 22,.fld 0 (.t 2),no⟩,⟨some 23,.ld false 1 (.t 22),no⟩,⟨some 24,.mv (.t 6),no⟩,⟨some 25,.ixa 4 (.t 23) (.t 24),no⟩,⟨some 26,.ld true 4 (.t 25),no⟩,⟨some 27,.call (.k (.fn (.func 160) [] [])) [.t 26],no⟩,⟨no,.st 4 (.t 4) (.t 27),no⟩,⟨some 5,.mv (.k (.bool true)),no⟩]) .ret) .skip))) (.reg [⟨some 12,.mv (.t 6),no⟩,⟨some 13,.bin .add (.t 12) (.k (.int .i64 1)),no⟩,⟨some 6,.mv (.t 13),no⟩])))))) (.seq (.reg [⟨some 28,.build [(.str []),(.nil 1),(.bool false),(.nil 2)] [],no⟩,⟨no,.st 4 (.t 4) (.t 28),no⟩,⟨some 5,.mv (.k (.bool false)),no⟩]) .ret)))⟩
theorem a172_ok:J0a Tryz.prog Tryz.f172=some a172:=by kernel_rfl
theorem J9r (l:List Str) (hl:l.length≤1048576):Holds Tryz.prog 252 [.sl 1 (J0e l)] (fun r=>r = .us 1 (J0e l)):=by
 refine J03 Tryz.func252 a252_ok rfl (by simp [a252]) ?_
 simp [a252]
 unfold LIM
 omega
theorem J9p (l:List DLin) (hw:J5n l≤1048576):Holds Tryz.prog 209 [.sl 2 (l.map J07)] (fun r=>r = .us 2 (l.map J08)):=by
 have hlen:l.length≤1048576:=Nat.le_trans (J27 Jai l) hw
 refine J03 Tryz.func209 a209_ok rfl (by simp [a209]) ?_
 simp [a209]
 intro hlm
 refine J0o [6,7] 8 l.length (fun i s h n=>(i=0∧s 3 = .nil 2)∨∃ id,id<n∧s 3 = .ref id 0 i∧h id=some ⟨false,2,(l.map J08).take i⟩) hlm (by simp) (by simp) ?_ ?_
 ·rintro i s h n R hi hg hk s8 hw8 hJ hR _ _
  simp at hk
  have hwi:(l[i]).Coeffs.length≤1048576:=by
   have:=J3d (w:=Jai) (List.getElem_mem hi)
   unfold J5n at hw
   rw [show Jai l[i]=(l[i]).Coeffs.length from rfl] at this
   omega
  have htk:(l.map J08).take (i+1)=(l.map J08).take i++[J08 l[i]]:=by rw [List.take_succ_eq_append_getElem (by simpa using hi)];simp
  rcases hJ with ⟨rfl,s3⟩|⟨id,hid,s3,eid⟩
  ·simp [hk,s8,hi,hw8,s3,J07]
   first|refine J00 (J4w (l[0]'hi) hwi) (by first|simp [J07];done|rfl) ?_|refine J02 (J4w (l[0]'hi) hwi) (by first|simp [J07];done|rfl) ?_
   rintro r rfl
   simp [hk,s8,hi,hw8,s3,J08]
   refine ⟨by unfold LIM;omega,?_⟩
   exact hR _ _ _ (by simp [hk]) (by simp;exact J1e (by omega)) (.inr ⟨n+3,by omega,by simp,by simp [htk,J08]⟩)
  ·have n0:¬id=n:=by omega
   have n1:¬id=n+1:=by omega
   have n2:¬id=n+1+1:=by omega
   have n3:¬n+1+1=id:=by omega
   have n4:¬n+1=id:=by omega
   simp [hk,s8,hi,hw8,s3,J07,eid,n0]
   first|refine J00 (J4w (l[i]'hi) hwi) (by first|simp [J07];done|rfl) ?_|refine J02 (J4w (l[i]'hi) hwi) (by first|simp [J07];done|rfl) ?_
   rintro r rfl
   simp [hk,s8,hi,hw8,s3,J08,eid,n0,n1,n2,n3,n4]
   refine ⟨by omega,by unfold LIM;omega,?_⟩
   exact hR _ _ _ (by simp [hk]) (by simp) (.inr ⟨n+3,by omega,by simp,by simp [htk,J08,List.take_take]⟩)
 ·rintro s h n R hk s8 hJ hret hX
  simp at hk
  simp [hk,s8]
  refine hX _ _ _ _ ?_
  rcases hJ with ⟨h0,s3⟩|⟨id,hid,s3,eid⟩
  ·have:l=[]:=List.eq_nil_of_length_eq_zero h0
   subst this
   simp [s3]
  ·simp [s3,eid]
theorem Ja7 (f:DFunction) (hw:J11 f≤1048576):Holds Tryz.prog 164 [.agg (J04 f)] (fun r=>r = .agg (J0h f)):=by
 have hw':=hw
 unfold J11 at hw'
 have hl:f.Params.length≤1048576:=by have:=J27 List.length f.Params;unfold J4e at hw';omega
 refine J03 Tryz.func164 a164_ok rfl (by simp [a164]) ?_
 simp [a164,J04]
 first|refine J00 (J9r f.Params hl) (by first|simp;done|rfl) ?_|refine J02 (J9r f.Params hl) (by first|simp;done|rfl) ?_
 rintro r rfl
 simp
 first|refine J00 (J9p f.Pre (by omega)) (by first|simp;done|rfl) ?_|refine J02 (J9p f.Pre (by omega)) (by first|simp;done|rfl) ?_
 rintro r rfl
 simp [J0h]
def J0t (l:List DFunction) (name:Str):Option DFunction:=l.find? fun f=>f.Name==name
def fn0:DFunction:=⟨[],[],false,[]⟩
def J7z (o:Option DFunction):AV := .tup [.agg (J0h (o.getD fn0)),.bool o.isSome]
theorem J79 {α:Type}{p:α→Bool} : ∀ {l:List α}{k:Nat},(l.find? p=Option.none∧J1i p l k = -1)∨∃ j:Nat,∃ hj:j<l.length,J1i p l k=(k:Int)+j∧l.find? p=some l[j]
 | [],k => .inl ⟨rfl,rfl⟩
 | x::l,k=>by
  simp only [J1i]
  cases hp:p x
  ·simp only [Bool.false_eq_true,if_false,List.find?_cons,hp]
   rcases J79 (p:=p) (l:=l) (k:=k+1) with ⟨h1,h2⟩|⟨j,hj,h1,h2⟩
   ·exact .inl ⟨h1,h2⟩
   ·exact .inr ⟨j+1,by simp;omega,by rw [h1];omega,by simpa using h2⟩
  ·exact .inr ⟨0,by simp,by simp,by simp [hp]⟩
theorem Jjh {h:Heap}{n id:Nat}{name:Str}(x:DFunction) (hv:h id=some ⟨true,1,[[.str name]]⟩) (hid:id<n):Jfp Tryz.prog 163 [] [.ptr id 0 0] h n (.agg (J04 x)) (.bool (x.Name==name)):=by
 intro K hK
 refine J9x ?_
 refine J2g Tryz.func163 a163_ok rfl (by simp [a163]) ?_
 have n1:¬id=n:=by omega
 simp [a163,hv,n1,J04,Jnp,hK]
 intro j hj hj'
 omega
theorem J2i (p:DProgram) (name:Str):Holds Tryz.prog 84 [.agg (J01 p),.str name] (fun r=>r=i64 (J1i (fun f=>f.Name==name) p.Functions 0)):=by
 refine J03 Tryz.func84 a84_ok rfl (by simp [a84]) ?_
 simp [a84,J01]
 refine J8t (p:=fun f=>f.Name==name) (rowOf:=J04) (eltOf:=fun x => .agg (J04 x)) Tryz.func162 a162_ok rfl (fun x=>by simp) p.Functions
  (fun x _=>Jjh x (by simp) (by omega)) ?_
 simp
theorem J1v (p:DProgram) (name:Str) (hw:J0f p≤1048576):Holds Tryz.prog 176 [.agg (J01 p),.str name] (fun r=>r=J7z (J0t p.Functions name)):=by
 have hw':=hw
 unfold J0f J28 at hw'
 refine J03 Tryz.func176 a176_ok rfl (by simp [a176]) ?_
 simp [a176,J01]
 first|refine J00 (J2i p name) (by first|simp [J01];done|rfl) ?_|refine J02 (J2i p name) (by first|simp [J01];done|rfl) ?_
 rintro r rfl
 unfold J7z J0t
 rcases J79 (p:=fun f:DFunction=>f.Name==name) (l:=p.Functions) (k:=0) with ⟨h1,h2⟩|⟨j,hj,h1,h2⟩
 ·rw [h1,h2]
  simp [fn0,J0h,J0e]
 ·rw [h1,h2]
  have hwf:J11 p.Functions[j]≤1048576:=by have:=J3d (w:=J11) (List.getElem_mem hj);omega
  simp [hj]
  first|refine J00 (Ja7 (p.Functions[j]'hj) hwf) (by first|simp;done|rfl) ?_|refine J02 (Ja7 (p.Functions[j]'hj) hwf) (by first|simp;done|rfl) ?_
  rintro r rfl
  simp [J0h]
set_option maxHeartbeats 1000000 in
theorem Jak (f:DFunction) (hw:J11 f≤1048576):Holds Tryz.prog 160 [.agg (J04 f)] (fun r=>r = .agg (J0h f)):=by
 have hw':=hw
 unfold J11 J5n at hw'
 have hl:f.Params.length≤1048576:=by have:=J27 List.length f.Params;unfold J4e at hw';omega
 have hlp:f.Pre.length≤1048576:=by have:=J27 Jai f.Pre;omega
 refine J03 Tryz.func160 a160_ok rfl (by simp [a160]) ?_
 simp [a160,J04]
 have hA:f.Params.length*16≤LIM:=by unfold LIM;omega
 refine ⟨⟨⟨hA,?_⟩,hA,?_⟩,hA,?_⟩
 ·skip
  refine J0o [1,2] 4 f.Pre.length (fun i s h n=>h 0=some ⟨true,4,[[.str f.Name,.sl 1 (J0e f.Params),.bool f.ListResult,.sl 2 (f.Pre.map J07)]]⟩∧h 1=some ⟨true,4,[[.str [],.nil 1,.bool false,.nil 2]]⟩∧4<n∧s 3 = .ptr 4 0 0 ∧
   h 3=some ⟨false,1,J0e f.Params⟩∧((i=0∧h 4=some ⟨true,4,[[.str f.Name,.ref 3 0 f.Params.length,.bool f.ListResult,.nil 2]]⟩)∨∃ id,4<id∧id<n∧h 4=some ⟨true,4,[[.str f.Name,.ref 3 0 f.Params.length,.bool f.ListResult,.ref id 0 i]]⟩∧h id=some ⟨false,2,(f.Pre.map J08).take i⟩))
   (by unfold LIM;omega) (by simp) ⟨by simp,by simp,by simp,by simp,by simp,.inl ⟨rfl,by simp⟩⟩ ?_ ?_
  ·rintro i s h n R hi hg hk s4 hw4 ⟨e0,e1,hn,s3,ep,hJ⟩ hR _ _
   simp at hk
   have hwi:(f.Pre[i]).Coeffs.length≤1048576:=by
    have:=J3d (w:=Jai) (List.getElem_mem hi)
    rw [show Jai f.Pre[i]=(f.Pre[i]).Coeffs.length from rfl] at this
    omega
   have htk:(f.Pre.map J08).take (i+1)=(f.Pre.map J08).take i++[J08 f.Pre[i]]:=by rw [List.take_succ_eq_append_getElem (by simpa using hi)];simp
   have n0:¬0=n:=by omega
   have n1:¬1=n:=by omega
   have n2:¬4=n:=by omega
   have n3:¬3=n:=by omega
   have m0:¬0=n+1:=by omega
   have m1:¬1=n+1:=by omega
   have m2:¬4=n+1:=by omega
   have m3:¬3=n+1:=by omega
   have q0:¬0=n+1+1:=by omega
   have q1:¬1=n+1+1:=by omega
   have q2:¬4=n+1+1:=by omega
   have q3:¬3=n+1+1:=by omega
   have z0:¬n=0:=by omega
   have z1:¬n=1:=by omega
   have z2:¬n=2:=by omega
   have z3:¬n=3:=by omega
   have z4:¬n=4:=by omega
   rcases hJ with ⟨rfl,eb⟩|⟨id,hid4,hid,eb,eid⟩
   ·simp [hk,s4,s3,hi,hg,hw4,e0,e1,eb,ep]
    intro _
    first|refine J00 (J2k (f.Pre[0]'hi) hwi) (by first|simp;done|rfl) ?_|refine J02 (J2k (f.Pre[0]'hi) hwi) (by first|simp;done|rfl) ?_
    rintro r rfl
    simp [hk,s4,s3,hi,hw4,J08,e0,e1,eb,ep,n0,n1,n2,n3,m0,m1,m2,m3,q0,q1,q2,q3,z0,z1,z2,z3,z4]
    refine ⟨by unfold LIM;omega,?_⟩
    exact hR _ _ _ (by simp [hk]) (by simp;exact J1e (by omega)) ⟨by simp [e0,n0,n1,n2,n3,m0,m1,m2,m3,q0,q1,q2,q3,z0,z1,z2,z3,z4],by simp [e1,n0,n1,n2,n3,m0,m1,m2,m3,q0,q1,q2,q3,z0,z1,z2,z3,z4],by omega,by simp [s3],by simp [ep,n0,n1,n2,n3,m0,m1,m2,m3,q0,q1,q2,q3,z0,z1,z2,z3,z4],.inr ⟨n+2,by omega,by omega,by simp,by simp [htk,J08,n0,n1,n2,n3,m0,m1,m2,m3,q0,q1,q2,q3,z0,z1,z2,z3,z4]⟩⟩
   ·have i0:¬0=id:=by omega
    have i1:¬1=id:=by omega
    have i2:¬4=id:=by omega
    have i3:¬3=id:=by omega
    have i4:¬id=n:=by omega
    have i5:¬id=n+1:=by omega
    have i6:¬id=n+1+1:=by omega
    have i7:¬n=id:=by omega
    have i8:¬n+1=id:=by omega
    have i9:¬n+1+1=id:=by omega
    have j2:¬id=2:=by omega
    have j3:¬id=3:=by omega
    have j4:¬id=4:=by omega
    simp [hk,s4,s3,hi,hg,hw4,e0,e1,eb,ep,eid]
    intro _
    first|refine J00 (J2k (f.Pre[i]'hi) hwi) (by first|simp;done|rfl) ?_|refine J02 (J2k (f.Pre[i]'hi) hwi) (by first|simp;done|rfl) ?_
    rintro r rfl
    simp [hk,s4,s3,hi,hw4,J08,e0,e1,eb,ep,eid,n0,n1,n2,n3,m0,m1,m2,m3,q0,q1,q2,q3,z0,z1,z2,z3,z4,i0,i1,i2,i3,i4,i5,i6,i7,i8,i9,j2,j3,j4]
    refine ⟨by omega,by unfold LIM;omega,?_⟩
    exact hR _ _ _ (by simp [hk]) (by simp) ⟨by simp [e0,n0,n1,n2,n3,m0,m1,m2,m3,q0,q1,q2,q3,z0,z1,z2,z3,z4,i0],by simp [e1,n0,n1,n2,n3,m0,m1,m2,m3,q0,q1,q2,q3,z0,z1,z2,z3,z4,i1],by omega,by simp [s3],by simp [ep,n0,n1,n2,n3,m0,m1,m2,m3,q0,q1,q2,q3,z0,z1,z2,z3,z4,i3],.inr ⟨n+2,by omega,by omega,by simp,by simp [htk,J08,List.take_take,n0,n1,n2,n3,m0,m1,m2,m3,q0,q1,q2,q3,z0,z1,z2,z3,z4,i4,i5]⟩⟩
  ·rintro s h n R hk s4 ⟨e0,e1,hn,s3,ep,hJ⟩ hret hX
   simp at hk
   simp [hk,s4,e0]
   intro _
   refine hX _ _ _ _ ?_
   rcases hJ with ⟨h0,eb⟩|⟨id,hid4,hid,eb,eid⟩
   ·have:f.Pre=[]:=List.eq_nil_of_length_eq_zero h0
    simp [hk,s3,eb,e1,ep,this,J0h]
   ·have i1:¬1=id:=by omega
    have i3:¬3=id:=by omega
    have i4:¬id=1:=by omega
    have i5:¬id=3:=by omega
    simp [hk,s3,eb,e1,ep,eid,J0h,i1,i3,i4,i5]
 ·skip
  refine J0o [1,2] 4 f.Pre.length (fun i s h n=>h 0=some ⟨true,4,[[.str f.Name,.sl 1 (J0e f.Params),.bool f.ListResult,.sl 2 (f.Pre.map J07)]]⟩∧h 1=some ⟨true,4,[[.str [],.nil 1,.bool false,.nil 2]]⟩∧4<n∧s 3 = .ptr 3 0 0 ∧
   h 4=some ⟨false,1,J0e f.Params⟩∧((i=0∧h 3=some ⟨true,4,[[.str f.Name,.ref 4 0 f.Params.length,.bool f.ListResult,.nil 2]]⟩)∨∃ id,4<id∧id<n∧h 3=some ⟨true,4,[[.str f.Name,.ref 4 0 f.Params.length,.bool f.ListResult,.ref id 0 i]]⟩∧h id=some ⟨false,2,(f.Pre.map J08).take i⟩))
   (by unfold LIM;omega) (by simp) ⟨by simp,by simp,by simp,by simp,by simp,.inl ⟨rfl,by simp⟩⟩ ?_ ?_
  ·rintro i s h n R hi hg hk s4 hw4 ⟨e0,e1,hn,s3,ep,hJ⟩ hR _ _
   simp at hk
   have hwi:(f.Pre[i]).Coeffs.length≤1048576:=by
    have:=J3d (w:=Jai) (List.getElem_mem hi)
    rw [show Jai f.Pre[i]=(f.Pre[i]).Coeffs.length from rfl] at this
    omega
   have htk:(f.Pre.map J08).take (i+1)=(f.Pre.map J08).take i++[J08 f.Pre[i]]:=by rw [List.take_succ_eq_append_getElem (by simpa using hi)];simp
   have n0:¬0=n:=by omega
   have n1:¬1=n:=by omega
   have n2:¬3=n:=by omega
   have n3:¬4=n:=by omega
   have m0:¬0=n+1:=by omega
   have m1:¬1=n+1:=by omega
   have m2:¬3=n+1:=by omega
   have m3:¬4=n+1:=by omega
   have q0:¬0=n+1+1:=by omega
   have q1:¬1=n+1+1:=by omega
   have q2:¬3=n+1+1:=by omega
   have q3:¬4=n+1+1:=by omega
   have z0:¬n=0:=by omega
   have z1:¬n=1:=by omega
   have z2:¬n=2:=by omega
   have z3:¬n=3:=by omega
   have z4:¬n=4:=by omega
   rcases hJ with ⟨rfl,eb⟩|⟨id,hid4,hid,eb,eid⟩
   ·simp [hk,s4,s3,hi,hg,hw4,e0,e1,eb,ep]
    intro _
    first|refine J00 (J2k (f.Pre[0]'hi) hwi) (by first|simp;done|rfl) ?_|refine J02 (J2k (f.Pre[0]'hi) hwi) (by first|simp;done|rfl) ?_
    rintro r rfl
    simp [hk,s4,s3,hi,hw4,J08,e0,e1,eb,ep,n0,n1,n2,n3,m0,m1,m2,m3,q0,q1,q2,q3,z0,z1,z2,z3,z4]
    refine ⟨by unfold LIM;omega,?_⟩
    exact hR _ _ _ (by simp [hk]) (by simp;exact J1e (by omega)) ⟨by simp [e0,n0,n1,n2,n3,m0,m1,m2,m3,q0,q1,q2,q3,z0,z1,z2,z3,z4],by simp [e1,n0,n1,n2,n3,m0,m1,m2,m3,q0,q1,q2,q3,z0,z1,z2,z3,z4],by omega,by simp [s3],by simp [ep,n0,n1,n2,n3,m0,m1,m2,m3,q0,q1,q2,q3,z0,z1,z2,z3,z4],.inr ⟨n+2,by omega,by omega,by simp,by simp [htk,J08,n0,n1,n2,n3,m0,m1,m2,m3,q0,q1,q2,q3,z0,z1,z2,z3,z4]⟩⟩
   ·have i0:¬0=id:=by omega
    have i1:¬1=id:=by omega
    have i2:¬3=id:=by omega
    have i3:¬4=id:=by omega
    have i4:¬id=n:=by omega
    have i5:¬id=n+1:=by omega
    have i6:¬id=n+1+1:=by omega
    have i7:¬n=id:=by omega
    have i8:¬n+1=id:=by omega
    have i9:¬n+1+1=id:=by omega
    have j2:¬id=2:=by omega
    have j3:¬id=3:=by omega
    have j4:¬id=4:=by omega
    simp [hk,s4,s3,hi,hg,hw4,e0,e1,eb,ep,eid]
    intro _
    first|refine J00 (J2k (f.Pre[i]'hi) hwi) (by first|simp;done|rfl) ?_|refine J02 (J2k (f.Pre[i]'hi) hwi) (by first|simp;done|rfl) ?_
    rintro r rfl
    simp [hk,s4,s3,hi,hw4,J08,e0,e1,eb,ep,eid,n0,n1,n2,n3,m0,m1,m2,m3,q0,q1,q2,q3,z0,z1,z2,z3,z4,i0,i1,i2,i3,i4,i5,i6,i7,i8,i9,j2,j3,j4]
    refine ⟨by omega,by unfold LIM;omega,?_⟩
    exact hR _ _ _ (by simp [hk]) (by simp) ⟨by simp [e0,n0,n1,n2,n3,m0,m1,m2,m3,q0,q1,q2,q3,z0,z1,z2,z3,z4,i0],by simp [e1,n0,n1,n2,n3,m0,m1,m2,m3,q0,q1,q2,q3,z0,z1,z2,z3,z4,i1],by omega,by simp [s3],by simp [ep,n0,n1,n2,n3,m0,m1,m2,m3,q0,q1,q2,q3,z0,z1,z2,z3,z4,i3],.inr ⟨n+2,by omega,by omega,by simp,by simp [htk,J08,List.take_take,n0,n1,n2,n3,m0,m1,m2,m3,q0,q1,q2,q3,z0,z1,z2,z3,z4,i4,i5]⟩⟩
  ·rintro s h n R hk s4 ⟨e0,e1,hn,s3,ep,hJ⟩ hret hX
   simp at hk
   simp [hk,s4,e0]
   intro _
   refine hX _ _ _ _ ?_
   rcases hJ with ⟨h0,eb⟩|⟨id,hid4,hid,eb,eid⟩
   ·have:f.Pre=[]:=List.eq_nil_of_length_eq_zero h0
    simp [hk,s3,eb,e1,ep,this,J0h]
   ·have i1:¬1=id:=by omega
    have i3:¬4=id:=by omega
    have i4:¬id=1:=by omega
    have i5:¬id=4:=by omega
    simp [hk,s3,eb,e1,ep,eid,J0h,i1,i3,i4,i5]
 ·skip
  refine J0o [1,2] 4 f.Pre.length (fun i s h n=>h 0=some ⟨true,4,[[.str f.Name,.sl 1 (J0e f.Params),.bool f.ListResult,.sl 2 (f.Pre.map J07)]]⟩∧h 1=some ⟨true,4,[[.str [],.nil 1,.bool false,.nil 2]]⟩∧4<n∧s 3 = .ptr 2 0 0 ∧
   h 4=some ⟨false,1,J0e f.Params⟩∧((i=0∧h 2=some ⟨true,4,[[.str f.Name,.ref 4 0 f.Params.length,.bool f.ListResult,.nil 2]]⟩)∨∃ id,4<id∧id<n∧h 2=some ⟨true,4,[[.str f.Name,.ref 4 0 f.Params.length,.bool f.ListResult,.ref id 0 i]]⟩∧h id=some ⟨false,2,(f.Pre.map J08).take i⟩))
   (by unfold LIM;omega) (by simp) ⟨by simp,by simp,by simp,by simp,by simp,.inl ⟨rfl,by simp⟩⟩ ?_ ?_
  ·rintro i s h n R hi hg hk s4 hw4 ⟨e0,e1,hn,s3,ep,hJ⟩ hR _ _
   simp at hk
   have hwi:(f.Pre[i]).Coeffs.length≤1048576:=by
    have:=J3d (w:=Jai) (List.getElem_mem hi)
    rw [show Jai f.Pre[i]=(f.Pre[i]).Coeffs.length from rfl] at this
    omega
   have htk:(f.Pre.map J08).take (i+1)=(f.Pre.map J08).take i++[J08 f.Pre[i]]:=by rw [List.take_succ_eq_append_getElem (by simpa using hi)];simp
   have n0:¬0=n:=by omega
   have n1:¬1=n:=by omega
   have n2:¬2=n:=by omega
   have n3:¬4=n:=by omega
   have m0:¬0=n+1:=by omega
   have m1:¬1=n+1:=by omega
   have m2:¬2=n+1:=by omega
   have m3:¬4=n+1:=by omega
   have q0:¬0=n+1+1:=by omega
   have q1:¬1=n+1+1:=by omega
   have q2:¬2=n+1+1:=by omega
   have q3:¬4=n+1+1:=by omega
   have z0:¬n=0:=by omega
   have z1:¬n=1:=by omega
   have z2:¬n=2:=by omega
   have z3:¬n=3:=by omega
   have z4:¬n=4:=by omega
   rcases hJ with ⟨rfl,eb⟩|⟨id,hid4,hid,eb,eid⟩
   ·simp [hk,s4,s3,hi,hg,hw4,e0,e1,eb,ep]
    intro _
    first|refine J00 (J2k (f.Pre[0]'hi) hwi) (by first|simp;done|rfl) ?_|refine J02 (J2k (f.Pre[0]'hi) hwi) (by first|simp;done|rfl) ?_
    rintro r rfl
    simp [hk,s4,s3,hi,hw4,J08,e0,e1,eb,ep,n0,n1,n2,n3,m0,m1,m2,m3,q0,q1,q2,q3,z0,z1,z2,z3,z4]
    refine ⟨by unfold LIM;omega,?_⟩
    exact hR _ _ _ (by simp [hk]) (by simp;exact J1e (by omega)) ⟨by simp [e0,n0,n1,n2,n3,m0,m1,m2,m3,q0,q1,q2,q3,z0,z1,z2,z3,z4],by simp [e1,n0,n1,n2,n3,m0,m1,m2,m3,q0,q1,q2,q3,z0,z1,z2,z3,z4],by omega,by simp [s3],by simp [ep,n0,n1,n2,n3,m0,m1,m2,m3,q0,q1,q2,q3,z0,z1,z2,z3,z4],.inr ⟨n+2,by omega,by omega,by simp,by simp [htk,J08,n0,n1,n2,n3,m0,m1,m2,m3,q0,q1,q2,q3,z0,z1,z2,z3,z4]⟩⟩
   ·have i0:¬0=id:=by omega
    have i1:¬1=id:=by omega
    have i2:¬2=id:=by omega
    have i3:¬4=id:=by omega
    have i4:¬id=n:=by omega
    have i5:¬id=n+1:=by omega
    have i6:¬id=n+1+1:=by omega
    have i7:¬n=id:=by omega
    have i8:¬n+1=id:=by omega
    have i9:¬n+1+1=id:=by omega
    have j2:¬id=2:=by omega
    have j3:¬id=3:=by omega
    have j4:¬id=4:=by omega
    simp [hk,s4,s3,hi,hg,hw4,e0,e1,eb,ep,eid]
    intro _
    first|refine J00 (J2k (f.Pre[i]'hi) hwi) (by first|simp;done|rfl) ?_|refine J02 (J2k (f.Pre[i]'hi) hwi) (by first|simp;done|rfl) ?_
    rintro r rfl
    simp [hk,s4,s3,hi,hw4,J08,e0,e1,eb,ep,eid,n0,n1,n2,n3,m0,m1,m2,m3,q0,q1,q2,q3,z0,z1,z2,z3,z4,i0,i1,i2,i3,i4,i5,i6,i7,i8,i9,j2,j3,j4]
    refine ⟨by omega,by unfold LIM;omega,?_⟩
    exact hR _ _ _ (by simp [hk]) (by simp) ⟨by simp [e0,n0,n1,n2,n3,m0,m1,m2,m3,q0,q1,q2,q3,z0,z1,z2,z3,z4,i0],by simp [e1,n0,n1,n2,n3,m0,m1,m2,m3,q0,q1,q2,q3,z0,z1,z2,z3,z4,i1],by omega,by simp [s3],by simp [ep,n0,n1,n2,n3,m0,m1,m2,m3,q0,q1,q2,q3,z0,z1,z2,z3,z4,i3],.inr ⟨n+2,by omega,by omega,by simp,by simp [htk,J08,List.take_take,n0,n1,n2,n3,m0,m1,m2,m3,q0,q1,q2,q3,z0,z1,z2,z3,z4,i4,i5]⟩⟩
  ·rintro s h n R hk s4 ⟨e0,e1,hn,s3,ep,hJ⟩ hret hX
   simp at hk
   simp [hk,s4,e0]
   intro _
   refine hX _ _ _ _ ?_
   rcases hJ with ⟨h0,eb⟩|⟨id,hid4,hid,eb,eid⟩
   ·have:f.Pre=[]:=List.eq_nil_of_length_eq_zero h0
    simp [hk,s3,eb,e1,ep,this,J0h]
   ·have i1:¬1=id:=by omega
    have i3:¬4=id:=by omega
    have i4:¬id=1:=by omega
    have i5:¬id=4:=by omega
    simp [hk,s3,eb,e1,ep,eid,J0h,i1,i3,i4,i5]
theorem J1q (p:DProgram) (name:Str) (hw:J0f p≤1048576):Holds Tryz.prog 172 [.agg (J01 p),.str name] (fun r=>r=J7z (J0t p.Functions name)):=by
 have hw':=hw
 unfold J0f J28 at hw'
 have hl:p.Functions.length≤LIM:=by have:=J27 J11 p.Functions;unfold LIM;omega
 refine J03 Tryz.func172 a172_ok rfl (by simp [a172]) ?_
 simp [a172,J01]
 generalize hG:J0t p.Functions name=G
 refine J3t [1,2,4] 6 p.Functions.length (fun i _=>(p.Functions.drop i).find? (fun f=>f.Name==name)=G) hl (by simp) (by simpa [J0t] using hG) ?_ ?_
 ·rintro i s h R hi hg hk s6 hw6 hJ hh hR hret _
  simp at hk hh
  rw [List.drop_eq_getElem_cons hi,List.find?_cons] at hJ
  have hwf:J11 p.Functions[i]≤1048576:=by have:=J3d (w:=J11) (List.getElem_mem hi);omega
  simp [hk,s6,hi,hg,hh,hw6,J04]
  intro _
  by_cases hn:(p.Functions[i]).Name=name
  ·simp [hn] at hJ
   simp [hn,hi,hh,hk,s6]
   first|refine J00 (Jak (p.Functions[i]'hi) hwf) (by first|simp [J04,hn];done|rfl) ?_|refine J02 (Jak (p.Functions[i]'hi) hwf) (by first|simp [J04,hn];done|rfl) ?_
   rintro r rfl
   simp [J0h,hk,hh]
   refine hret _ _ _ ?_
   simp [hk,←hJ,J7z,J0h]
  ·have hn':((p.Functions[i]).Name==name)=false:=by simpa using hn
   simp only [hn',Bool.false_eq_true,if_false] at hJ
   simp [hn,hk,s6,hw6]
   exact hR _ (by simp [hk]) (by simp) hJ
 ·rintro s h R hk s6 hJ hh _ hX
  simp at hk hh
  rw [List.drop_eq_nil_of_le (by omega)] at hJ
  simp only [List.find?_nil] at hJ
  simp [hk,s6,hh]
  intro _
  refine hX _ _ ?_
  simp [hk,hh,←hJ,J7z,fn0,J0h,J0e]
def a240:AFn:= ⟨66,[.t 6],(.seq (.reg [⟨some 3,.boxv (.t 0),no⟩,⟨some 4,.boxv (.t 1),no⟩,⟨some 6,.mv (.k (.nil 1)),no⟩]) (.seq (.reg [⟨some 15,.ld true 2 (.t 3),no⟩,⟨some 16,.fld 0 (.t 4),no⟩,⟨some 17,.ld false 1 (.t 16),no⟩,⟨some 18,.call (.k (.fn (.func 176) [] [])) [.t 15,.t 17],no⟩,⟨some 14,.mv (.t 18),no⟩,⟨some 19,.ext (.t 14) 0,no⟩,⟨some 20,.ext (.t 14) 1,no⟩,⟨some 7,.box [(.str []),(.nil 1),(.bool false),(.nil 2)],no⟩,⟨no,.st 4 (.t 7) (.t 19),no⟩,⟨some 8,.mv (.t 20),no⟩]) (.seq (.seq (.reg [⟨some 21,.mv (.t 8),no⟩,⟨some 22,.un .not (.t 21),no⟩,⟨some 23,.mv (.t 22),no⟩,⟨some 24,.mv (.t 2),(some (23,false))⟩,⟨some 25,.fld 3 (.t 4),(some (23,false))⟩,⟨some 26,.ld false 1 (.t 25),(some (23,false))⟩,⟨some 27,.len false (.t 26),(some (23,false))⟩,⟨some 28,.call (.k (.fn (.func 102) [] [])) [.t 24,(.k (.int .i64 0)),.t 27],(some (23,false))⟩,⟨some 29,.un .not (.t 28),(some (23,false))⟩,⟨some 30,.pick (.t 23) (.k (.bool true)) (.t 29),no⟩]) (.cond (.t 30) (.seq (.reg [⟨some 6,.mv (.k (.nil 1)),no⟩]) .ret) .skip)) (.seq (.reg [⟨some 31,.fld 1 (.t 7),no⟩,⟨some 32,.ld false 1 (.t 31),no⟩,⟨some 9,.mv (.t 32),no⟩]) (.seq (.seq (.reg [⟨some 33,.fld 1 (.t 4),no⟩,⟨some 34,.ld false 1 (.t 33),no⟩,⟨some 35,.len false (.t 34),no⟩,⟨some 36,.mv (.k (.int .i64 0)),no⟩]) (.blk 0 (.loop (.seq (.reg [⟨some 37,.bin .lss (.t 36) (.t 35),no⟩]) (.seq (.cond (.t 37) .skip (.exit 0)) (.seq (.blk 1 (.seq (.reg [⟨some 38,.ixa 4 (.t 34) (.t 36),no⟩,⟨some 39,.ld true 4 (.t 38),no⟩,⟨some 11,.box [(.str []),(.bool false),(.str []),(.str [])],no⟩,⟨no,.st 4 (.t 11) (.t 39),no⟩]) (.seq (.reg [⟨some 40,.fld 1 (.t 11),no⟩,⟨some 41,.ld false 1 (.t 40),no⟩]) (.cond (.t 41) (.reg [⟨some 42,.mv (.t 9),no⟩,⟨some 43,.fld 2 (.t 11),no⟩,⟨some 44,.ld false 1 (.t 43),no⟩,⟨some 45,.fld 3 (.t 11),no⟩,⟨some 46,.ld false 1 (.t 45),no⟩,⟨some 47,.bsl 1 [.t 44,.t 46],no⟩,⟨some 48,.app 16 1 (.t 42) (.t 47),no⟩,⟨some 9,.mv (.t 48),no⟩]) .skip)))) (.reg [⟨some 49,.bin .add (.t 36) (.k (.int .i64 1)),no⟩,⟨some 36,.mv (.t 49),no⟩]))))))) (.seq (.seq (.reg [⟨some 50,.fld 3 (.t 4),no⟩,⟨some 51,.ld false 1 (.t 50),no⟩,⟨some 52,.mv (.t 2),no⟩,⟨some 53,.slc false 3 (.t 51) Option.none (some (.t 52)),no⟩,⟨some 54,.len false (.t 53),no⟩,⟨some 55,.mv (.k (.int .i64 0)),no⟩]) (.blk 2 (.loop (.seq (.reg [⟨some 56,.bin .lss (.t 55) (.t 54),no⟩]) (.seq (.cond (.t 56) .skip (.exit 2)) (.seq (.blk 3 (.seq (.reg [⟨some 57,.ixa 3 (.t 53) (.t 55),no⟩,⟨some 58,.ld true 3 (.t 57),no⟩,⟨some 13,.box [(.str []),(.str []),(.nil 3)],no⟩,⟨no,.st 3 (.t 13) (.t 58),no⟩]) (.reg [⟨some 59,.mv (.t 9),no⟩,⟨some 60,.fld 0 (.t 13),no⟩,⟨some 61,.ld false 1 (.t 60),no⟩,⟨some 62,.bsl 1 [.t 61],no⟩,⟨some 63,.app 16 1 (.t 59) (.t 62),no⟩,⟨some 9,.mv (.t 63),no⟩]))) (.reg [⟨some 64,.bin .add (.t 55) (.k (.int .i64 1)),no⟩,⟨some 55,.mv (.t 64),no⟩]))))))) (.seq (.reg [⟨some 65,.mv (.t 9),no⟩,⟨some 6,.mv (.t 65),no⟩]) .ret)))))))⟩
theorem a240_ok:J0a Tryz.prog Tryz.f240=some a240:=by kernel_rfl
def a221:AFn:= ⟨78,[.t 6],(.seq (.reg [⟨some 3,.boxv (.t 0),no⟩,⟨some 4,.boxv (.t 1),no⟩,⟨some 6,.mv (.k (.nil 1)),no⟩]) (.seq (.reg [⟨some 13,.ld true 2 (.t 3),no⟩,⟨some 14,.fld 0 (.t 4),no⟩,⟨some 15,.ld false 1 (.t 14),no⟩,⟨some 16,.call (.k (.fn (.func 172) [] [])) [.t 13,.t 15],no⟩,⟨some 12,.mv (.t 16),no⟩,⟨some 17,.ext (.t 12) 0,no⟩,⟨some 18,.ext (.t 12) 1,no⟩,⟨some 7,.box [(.str []),(.nil 1),(.bool false),(.nil 2)],no⟩,⟨no,.st 4 (.t 7) (.t 17),no⟩,⟨some 8,.mv (.t 18),no⟩]) (.seq (.reg [⟨some 19,.bsl 1 [],no⟩,⟨some 9,.mv (.t 19),no⟩]) (.seq (.seq (.reg [⟨some 20,.mv (.t 8),no⟩,⟨some 21,.un .not (.t 20),no⟩,⟨some 22,.mv (.t 21),no⟩,⟨some 23,.mv (.t 2),(some (22,false))⟩,⟨some 24,.fld 3 (.t 4),(some (22,false))⟩,⟨some 25,.ld false 1 (.t 24),(some (22,false))⟩,⟨some 26,.len false (.t 25),(some (22,false))⟩,⟨some 27,.call (.k (.fn (.func 183) [] [])) [.t 23,(.k (.int .i64 0)),.t 26],(some (22,false))⟩,⟨some 28,.un .not (.t 27),(some (22,false))⟩,⟨some 29,.pick (.t 22) (.k (.bool true)) (.t 28),no⟩]) (.cond (.t 29) (.seq (.reg [⟨some 30,.mv (.t 9),no⟩,⟨some 6,.mv (.t 30),no⟩]) .ret) .skip)) (.seq (.reg [⟨some 31,.mv (.t 9),no⟩,⟨some 32,.fld 1 (.t 7),no⟩,⟨some 33,.ld false 1 (.t 32),no⟩,⟨some 34,.app 16 1 (.t 31) (.t 33),no⟩,⟨some 9,.mv (.t 34),no⟩]) (.seq (.seq (.reg [⟨some 10,.mv (.k (.int .i64 0)),no⟩]) (.blk 0 (.loop (.seq (.seq (.reg [⟨some 35,.mv (.t 10),no⟩,⟨some 36,.fld 1 (.t 4),no⟩,⟨some 37,.ld false 1 (.t 36),no⟩,⟨some 38,.len false (.t 37),no⟩,⟨some 39,.bin .lss (.t 35) (.t 38),no⟩]) (.cond (.t 39) .skip (.exit 0))) (.seq (.blk 1 (.seq (.reg [⟨some 42,.fld 1 (.t 4),no⟩,⟨some 43,.ld false 1 (.t 42),no⟩,⟨some 44,.mv (.t 10),no⟩,⟨some 45,.ixa 4 (.t 43) (.t 44),no⟩,⟨some 46,.fld 1 (.t 45),no⟩,⟨some 47,.ld false 1 (.t 46),no⟩]) (.cond (.t 47) (.draw (.op ⟨some 48,.mv (.t 9),no⟩ (.op ⟨some 49,.fld 1 (.t 4),no⟩ (.op ⟨some 50,.ld false 1 (.t 49),no⟩ (.op ⟨some 51,.mv (.t 10),no⟩ (.op ⟨some 52,.ixa 4 (.t 50) (.t 51),no⟩ (.op ⟨some 53,.fld 2 (.t 52),no⟩ (.op ⟨some 54,.ld false 1 (.t 53),no⟩ (.op ⟨some 55,.fld 1 (.t 4),no⟩ (.op ⟨some 56,.ld false 1 (.t 55),no⟩ (.op ⟨some 57,.mv (.t 10),no⟩ (.op ⟨some 58,.ixa 4 (.t 56) (.t 57),no⟩ (.op ⟨some 59,.fld 3 (.t 58),no⟩ (.op ⟨some 60,.ld false 1 (.t 59),no⟩ (.hop ⟨some 61,.bsl 1 [.t 54,.t 60],no⟩ [] (.hop ⟨some 62,.app 16 1 (.t 48) (.t 61),no⟩ [] (.hop ⟨some 9,.mv (.t 62),no⟩ [] .fin))))))))))))))))) .skip))) (.reg [⟨some 40,.mv (.t 10),no⟩,⟨some 41,.bin .add (.t 40) (.k (.int .i64 1)),no⟩,⟨some 10,.mv (.t 41),no⟩])))))) (.seq (.seq (.reg [⟨some 11,.mv (.k (.int .i64 0)),no⟩]) (.blk 2 (.loop (.seq (.seq (.reg [⟨some 63,.mv (.t 11),no⟩,⟨some 64,.mv (.t 2),no⟩,⟨some 65,.bin .lss (.t 63) (.t 64),no⟩]) (.cond (.t 65) .skip (.exit 2))) (.seq (.blk 3 (.reg [⟨some 68,.mv (.t 9),no⟩,⟨some 69,.fld 3 (.t 4),no⟩,⟨some 70,.ld false 1 (.t 69),no⟩,⟨some 71,.mv (.t 11),no⟩,⟨some 72,.ixa 3 (.t 70) (.t 71),no⟩,⟨some 73,.fld 0 (.t 72),no⟩,⟨some 74,.ld false 1 (.t 73),no⟩,⟨some 75,.bsl 1 [.t 74],no⟩,⟨some 76,.app 16 1 (.t 68) (.t 75),no⟩,⟨some 9,.mv (.t 76),no⟩])) (.reg [⟨some 66,.mv (.t 11),no⟩,⟨some 67,.bin .add (.t 66) (.k (.int .i64 1)),no⟩,⟨some 11,.mv (.t 67),no⟩])))))) (.seq (.reg [⟨some 77,.mv (.t 9),no⟩,⟨some 6,.mv (.t 77),no⟩]) .ret))))))))⟩
theorem a221_ok:J0a Tryz.prog Tryz.f221=some a221:=by kernel_rfl
def Jad:List DPattern→List Str
 | []=>[]
 | q::l=>(if q.Cons then [q.Head,q.Tail] else [])++Jad l
def J1j (p:DProgram) (r:DRule) (n:Int):List Str:=
 if (J0t p.Functions r.Func).isSome&&inR n 0 r.Calls.length then ((J0t p.Functions r.Func).getD fn0).Params++Jad r.Patterns++(r.Calls.take n.toNat).map (·.Bind) else []
theorem Jgy:∀ l:List DPattern,(Jad l).length≤2*l.length
 | []=>Nat.le_refl _
 | q::l=>by
  have:=Jgy l
  simp only [Jad,List.length_append,List.length_cons]
  split <;> simp <;> omega
theorem Jj8 (p:DProgram) (r:DRule) (hp:J0f p≤1048576) (hr:J39 r≤1048576):((J0t p.Functions r.Func).getD fn0).Params.length≤1048576∧r.Patterns.length≤1048576∧r.Calls.length≤1048576:=by
 have h1:=J27 J3h r.Patterns
 have h2:=J27 J53 r.Calls
 unfold J39 J38 J6v at hr
 refine ⟨?_,by omega,by omega⟩
 cases hf:J0t p.Functions r.Func with
 | none=>simp [fn0]
 | some f=>
  have h3:=J3d (w:=J11) (List.mem_of_find?_eq_some hf)
  have h4:=J27 List.length f.Params
  unfold J0f J28 at hp
  rw [show J11 f=f.Name.length+J4e f.Params+J5n f.Pre from rfl] at h3
  unfold J4e at h3
  simp only [Option.getD_some];omega
set_option maxHeartbeats 1000000 in
theorem J87 (p:DProgram) (r:DRule) (k:Int) (hp:J0f p≤1048576) (hr:J39 r≤1048576):Holds Tryz.prog 240 [.agg (J01 p),.agg (J0c r),i64 k] (fun x=>x = .us 1 (J0e (J1j p r k))):=by
 obtain ⟨hl1,hl2,hl3⟩:=Jj8 p r hp hr
 refine J03 Tryz.func240 a240_ok rfl (by simp [a240]) ?_
 simp [a240,J01,J0c]
 first|refine J00 (J1v p r.Func hp) (by first|simp [J01];done|rfl) ?_|refine J02 (J1v p r.Func hp) (by first|simp [J01];done|rfl) ?_
 rintro r rfl
 unfold J1j
 generalize hG:(J0t p.Functions r.Func).getD fn0=G at *
 simp only [J7z,hG]
 generalize hb1:(J0t p.Functions r.Func).isSome=b1
 simp [J0h]
 cases b1
 ·simp [J0e]
 simp
 intro _
 first|refine J00 (J1s k 0 r.Calls.length) (by first|simp;done|rfl) ?_|refine J02 (J1s k 0 r.Calls.length) (by first|simp;done|rfl) ?_
 rintro r rfl
 cases h2:inR k 0 r.Calls.length
 ·simp [J0e]
 have hk0:0≤k∧k≤r.Calls.length:=by simpa [inR] using h2
 obtain ⟨m,rfl⟩:∃ m:Nat,k=m:=⟨k.toNat,by omega⟩
 simp
 intro _
 have hpl:=Jgy r.Patterns
 generalize hT1:G.Params++Jad r.Patterns=T1
 have hT1l:T1.length≤3145728:=by rw [←hT1];simp;omega
 refine J0o [1,2,4,34,35] 36 r.Patterns.length (fun i s h n=>h 1=some ⟨true,7,[J0c r]⟩∧4<n∧∃ (acc:List Str) (id:Nat),s 9 = .ref id 0 acc.length∧h id=some ⟨false,1,J0e acc⟩∧(id=2∨4<id)∧id<n∧acc++Jad (r.Patterns.drop i)=T1)
  (by unfold LIM;omega) (by simp) ⟨by simp [J0c],by simp,G.Params,2,by simp,by simp,by omega,by omega,by simpa using hT1⟩ ?_ ?_
 ·rintro i s h n R hi hg hk s36 hw ⟨e1,hn,acc,id,s9,eid,hid2,hidn,hJ⟩ hR _ _
  simp at hk
  rw [List.drop_eq_getElem_cons hi] at hJ
  simp only [Jad] at hJ
  have hal:=congrArg List.length hJ
  simp only [List.length_append] at hal
  have n0:¬id=n:=by omega
  have n1:¬1=n:=by omega
  have n2:¬id=n+1:=by omega
  have n3:¬1=n+1:=by omega
  have n4:¬1=n+1+1:=by omega
  have n5:¬1=id:=by omega
  have n6:¬n=0:=by omega
  have n7:¬n+1=id:=by omega
  have n8:¬n=id:=by omega
  have n9:¬id=n+1+1:=by omega
  simp [hk,s36,hi,hw,J09,e1,eid,n0,n1,n2,n3,n4,n5,n6]
  cases hc:(r.Patterns[i]).Cons
  ·rw [hc] at hJ
   simp only [Bool.false_eq_true,if_false,List.nil_append] at hJ
   simp [s36,hw]
   exact hR _ _ _ (by simp [hk]) (by simp) ⟨by simp [e1,n1],by omega,acc,id,by simp [s9],by simp [eid,n0],hid2,by omega,hJ⟩
  ·rw [hc] at hJ hal
   simp only [if_true] at hJ hal
   simp [s9,eid,n0,n2,n7,n8,s36,hw]
   refine ⟨by simp at hal;unfold LIM;omega,?_⟩
   exact hR _ _ _ (by simp [hk]) (by simp) ⟨by simp [e1,n1,n3,n4,n5,n6],by omega,acc++[(r.Patterns[i]).Head,(r.Patterns[i]).Tail],n+2,by simp,by simp [J0e],by omega,by omega,by rw [List.append_assoc];exact hJ⟩
 ·rintro s h n R hk s36 ⟨e1,hn,acc,id,s9,eid,hid2,hidn,hJ⟩ hret hX
  simp at hk
  rw [List.drop_eq_nil_of_le (by omega)] at hJ
  simp only [Jad,List.append_nil] at hJ
  subst hJ
  simp [hk,s36]
  refine hX _ _ _ _ ?_
  have hm:m≤r.Calls.length:=by omega
  simp [hk,e1,J0c,J4f,asI,Nat.min_eq_left hm,hm]
  intro _
  generalize hT2:G.Params++(Jad r.Patterns++List.take m (List.map (fun x=>x.Bind) r.Calls))=T2
  have hT2l:T2.length≤4194304:=by rw [←hT2];simp;omega
  refine J0o [53,54] 55 m (fun i s h n=>∃ (acc:List Str) (id:Nat),s 9 = .ref id 0 acc.length∧h id=some ⟨false,1,J0e acc⟩∧id<n∧acc++((r.Calls.map (·.Bind)).take m).drop i=T2)
   (by unfold LIM;omega) (by simp) ⟨acc,id,by simp [s9],by simp [eid],hidn,by rw [←hT2,←hT1];simp⟩ ?_ ?_
  ·rintro i s h n R hi hg hk s55 hw ⟨acc,id,s9,eid,hidn,hJ⟩ hR _ _
   simp at hk
   have hir:i<r.Calls.length:=by omega
   rw [List.drop_eq_getElem_cons (by simp;omega)] at hJ
   have hal:=congrArg List.length hJ
   simp at hJ hal
   have n0:¬id=n:=by omega
   have n2:¬id=n+1:=by omega
   have n7:¬n+1=id:=by omega
   have n8:¬n=id:=by omega
   simp [hk,s55,hi,hw,hir,J0s,s9,eid,n0,n2,n7,n8]
   refine ⟨by omega,by unfold LIM;omega,?_⟩
   exact hR _ _ _ (by simp [hk]) (by simp) ⟨acc++[(r.Calls[i]).Bind],n+2,by simp,by simp [J0e],by omega,by simpa using hJ⟩
  ·rintro s h n R hk s55 ⟨acc,id,s9,eid,hidn,hJ⟩ hret hX
   simp at hk
   rw [List.drop_eq_nil_of_le (by simp;omega),List.append_nil] at hJ
   subst hJ
   simp [hk,s55]
   refine hX _ _ _ _ ?_
   simp [s9,eid]
set_option maxHeartbeats 1000000 in
theorem J6r (p:DProgram) (r:DRule) (k:Int) (hp:J0f p≤1048576) (hr:J39 r≤1048576):Holds Tryz.prog 221 [.agg (J01 p),.agg (J0c r),i64 k] (fun x=>x = .us 1 (J0e (J1j p r k))):=by
 obtain ⟨hl1,hl2,hl3⟩:=Jj8 p r hp hr
 refine J03 Tryz.func221 a221_ok rfl (by simp [a221]) ?_
 simp [a221,J01,J0c]
 first|refine J00 (J1q p r.Func hp) (by first|simp [J01];done|rfl) ?_|refine J02 (J1q p r.Func hp) (by first|simp [J01];done|rfl) ?_
 rintro r rfl
 unfold J1j
 generalize hG:(J0t p.Functions r.Func).getD fn0=G at *
 simp only [J7z,hG]
 generalize hb1:(J0t p.Functions r.Func).isSome=b1
 simp [J0h]
 cases b1
 ·simp [J0e]
 simp
 intro _
 first|refine J00 (J4d k 0 r.Calls.length) (by first|simp;done|rfl) ?_|refine J02 (J4d k 0 r.Calls.length) (by first|simp;done|rfl) ?_
 rintro r rfl
 cases h2:inR k 0 r.Calls.length
 ·simp [J0e]
 have hk0:0≤k∧k≤r.Calls.length:=by simpa [inR] using h2
 obtain ⟨m,rfl⟩:∃ m:Nat,k=m:=⟨k.toNat,by omega⟩
 simp
 refine ⟨by unfold LIM;omega,?_⟩
 have hpl:=Jgy r.Patterns
 generalize hT1:G.Params++Jad r.Patterns=T1
 have hT1l:T1.length≤3145728:=by rw [←hT1];simp;omega
 refine J0o [1,2,4] 10 r.Patterns.length (fun i s h n=>h 1=some ⟨true,7,[J0c r]⟩∧4<n∧∃ (acc:List Str) (id:Nat),s 9 = .ref id 0 acc.length∧h id=some ⟨false,1,J0e acc⟩∧4<id∧id<n∧acc++Jad (r.Patterns.drop i)=T1)
  (by unfold LIM;omega) (by simp) ⟨by simp [J0c],by simp,G.Params,6,by simp,by simp,by omega,by omega,by simpa using hT1⟩ ?_ ?_
 ·rintro i s h n R hi hg hk s10 hw ⟨e1,hn,acc,id,s9,eid,hid2,hidn,hJ⟩ hR _ _
  simp at hk
  rw [List.drop_eq_getElem_cons hi] at hJ
  simp only [Jad] at hJ
  have hal:=congrArg List.length hJ
  simp only [List.length_append] at hal
  have n0:¬id=n:=by omega
  have n1:¬1=n:=by omega
  have n2:¬id=n+1:=by omega
  have n3:¬1=n+1:=by omega
  have n5:¬1=id:=by omega
  have n5':¬id=1:=by omega
  have n6:¬n=0:=by omega
  have n7:¬n+1=id:=by omega
  have n8:¬n=id:=by omega
  simp [hk,s10,hi,hg,hw,J09,e1,J0c]
  intro _
  cases hc:(r.Patterns[i]).Cons
  ·rw [hc] at hJ
   simp only [Bool.false_eq_true,if_false,List.nil_append] at hJ
   simp [s10,hw]
   exact hR _ _ _ (by simp [hk]) (by simp) ⟨by simp [e1],by omega,acc,id,by simp [s9],by simp [eid],hid2,by omega,hJ⟩
  ·rw [hc] at hJ hal
   simp only [if_true] at hJ hal
   simp [hk,hi,J09,e1,J0c,s9,eid,n0,n1,n2,n3,n5,n5',n6,n7,n8,s10,hw]
   refine ⟨by simp at hal;unfold LIM;omega,?_⟩
   exact hR _ _ _ (by simp [hk]) (by simp) ⟨by simp [e1,n1,n3,n5,n6],by omega,acc++[(r.Patterns[i]).Head,(r.Patterns[i]).Tail],n+1,by simp,by simp [J0e],by omega,by omega,by rw [List.append_assoc];exact hJ⟩
 ·rintro s h n R hkk s10 ⟨e1,hn,acc,id,s9,eid,hid2,hidn,hJ⟩ hret hX
  simp at hkk
  rw [List.drop_eq_nil_of_le (by omega)] at hJ
  simp only [Jad,List.append_nil] at hJ
  subst hJ
  simp [hkk,s10,e1,J0c]
  intro _
  refine hX _ _ _ _ ?_
  have hm:m≤r.Calls.length:=by omega
  simp [hkk]
  generalize hT2:G.Params++(Jad r.Patterns++List.take m (List.map (fun x=>x.Bind) r.Calls))=T2
  have hT2l:T2.length≤4194304:=by rw [←hT2];simp;omega
  refine J0o [2,4] 11 m (fun i s h n=>h 1=some ⟨true,7,[J0c r]⟩∧4<n∧∃ (acc:List Str) (id:Nat),s 9 = .ref id 0 acc.length∧h id=some ⟨false,1,J0e acc⟩∧4<id∧id<n∧acc++((r.Calls.map (·.Bind)).take m).drop i=T2)
   (by unfold LIM;omega) (by simp) ⟨by simp [e1],hn,acc,id,by simp [s9],by simp [eid],hid2,hidn,by rw [←hT2,←hT1];simp⟩ ?_ ?_
  ·rintro i s h n R hi hg hk s11 hw ⟨e1,hn,acc,id,s9,eid,hid2,hidn,hJ⟩ hR _ _
   simp at hk
   have hir:i<r.Calls.length:=by omega
   rw [List.drop_eq_getElem_cons (by simp;omega)] at hJ
   have hal:=congrArg List.length hJ
   simp at hJ hal
   have n0:¬id=n:=by omega
   have n1:¬1=n:=by omega
   have n2:¬id=n+1:=by omega
   have n3:¬1=n+1:=by omega
   have n5:¬1=id:=by omega
   have n5':¬id=1:=by omega
   have n6:¬n=0:=by omega
   have n7:¬n+1=id:=by omega
   have n8:¬n=id:=by omega
   simp [hk,hkk,s11,hi,hw,hir,e1,J0c,J0s,s9,eid,n0,n2,n7,n8]
   refine ⟨by unfold LIM;omega,?_⟩
   exact hR _ _ _ (by simp [hk,hkk]) (by simp) ⟨by simp [e1,J0c,n1,n3,n5,n6],by omega,acc++[(r.Calls[i]).Bind],n+1,by simp,by simp [J0e],by omega,by omega,by simpa using hJ⟩
  ·rintro s h n R hk s11 ⟨e1,hn,acc,id,s9,eid,hid2,hidn,hJ⟩ hret hX
   simp at hk
   rw [List.drop_eq_nil_of_le (by simp;omega),List.append_nil] at hJ
   subst hJ
   simp [hk,hkk,s11]
   refine hX _ _ _ _ ?_
   simp [s9,eid]
end Go.Proofs.YtoclolkigjbcgaaGreat
