/- Contracts: expressions carried over a call; differences. -/
import Derived.Test.YtoclolkigjbcgaaGreatWC8
import Derived.Test.YtoclolkigjbcgaaGreatWC1
import Derived.Test.YtoclolkigjbcgaaGreatWC13
namespace Go.Proofs.YtoclolkigjbcgaaGreat
set_option maxRecDepth 40000
set_option maxHeartbeats 4000000
open Go Go.RowKit Go.Proofs
set_option linter.all false
def a191:AFn:= ⟨29,[(.c 6 true 2),.t 7],(.seq (.reg [Zo 3 (.boxv (.t 0)),Zo 6 (.box [(.int .i64 0),(.nil 1)]),Zo 7 (.mv (.k (.bool false)))]) (.seq (.seq (.reg [Zv 8 1,Zo 9 (.len false (.t 8)),Zo 10 (.bin .gtr (.t 9) (.k (.int .i64 0)))]) (.cond (.t 10) (.seq (.reg [Zl 11 true 2 3,Zv 12 1,Zc 13 272 [.t 11,.t 12],Zo 14 (.ext (.t 13) 0),Zo 15 (.ext (.t 13) 1),⟨no,.st 2 (.t 6) (.t 14),no⟩,Zv 7 15]) .ret) .skip)) (.seq (.seq (.reg [Zl 16 true 2 3,Zc 17 146 [.t 16,(.k (.int .i64 0))],Zo 18 (.un .not (.t 17)),Zv 19 18,⟨some 20,.mv (.t 2),(some (19,false))⟩,⟨some 21,.call (.k (.fn (.func 102) [] [])) [.t 20,(.k (.int .i64 0)),(.k (.int .i64 8))],(some (19,false))⟩,⟨some 22,.un .not (.t 21),(some (19,false))⟩,Zo 23 (.pick (.t 19) (.k (.bool true)) (.t 22))]) (.cond (.t 23) (.seq (.reg [Zo 24 (.build [(.int .i64 0),(.nil 1)] []),⟨no,.st 2 (.t 6) (.t 24),no⟩,Zo 7 (.mv (.k (.bool false)))]) .ret) .skip)) (.seq (.reg [Zf 25 0 3,Zl 26 false 1 25,Zv 27 2,Zc 28 178 [.t 26,.t 27],⟨no,.st 2 (.t 6) (.t 28),no⟩,Zo 7 (.mv (.k (.bool true)))]) .ret))))⟩
theorem a191_ok:J0a Tryz.prog Tryz.f191=some a191:=by kernel_rfl
def a185:AFn:= ⟨36,[(.c 6 true 2),.t 7],(.seq (.reg [Zo 3 (.boxv (.t 0)),Zo 4 (.boxv (.t 1)),Zo 6 (.box [(.int .i64 0),(.nil 1)]),Zo 7 (.mv (.k (.bool false)))]) (.seq (.seq (.reg [Zv 9 2,Zo 10 (.len false (.t 9)),Zo 11 (.bin .gtr (.t 10) (.k (.int .i64 0)))]) (.cond (.t 11) (.seq (.reg [Zl 12 true 2 4,Zv 13 2,Zc 14 269 [.t 12,.t 13],Zo 15 (.ext (.t 14) 0),Zo 16 (.ext (.t 14) 1),⟨no,.st 2 (.t 6) (.t 15),no⟩,Zv 7 16]) .ret) .skip)) (.seq (.reg [Zf 17 0 4,Zl 18 false 1 17,Zf 19 0 3,Zf 20 0 19,Zl 21 false 1 20,Zc 22 99 [.t 18,.t 21],Zo 8 (.box [(.int .i64 0),(.nil 1)]),⟨no,.st 2 (.t 8) (.t 22),no⟩]) (.seq (.seq (.reg [Zl 23 true 2 4,Zc 24 179 [.t 23,(.k (.int .i64 0))],Zo 25 (.un .not (.t 24)),Zv 26 25,⟨some 27,.ld true 2 (.t 8),(some (26,false))⟩,⟨some 28,.fld 0 (.t 3),(some (26,false))⟩,⟨some 29,.fld 0 (.t 28),(some (26,false))⟩,⟨some 30,.ld false 1 (.t 29),(some (26,false))⟩,⟨some 31,.call (.k (.fn (.func 179) [] [])) [.t 27,.t 30],(some (26,false))⟩,⟨some 32,.un .not (.t 31),(some (26,false))⟩,Zo 33 (.pick (.t 26) (.k (.bool true)) (.t 32))]) (.cond (.t 33) (.seq (.reg [Zo 34 (.build [(.int .i64 0),(.nil 1)] []),⟨no,.st 2 (.t 6) (.t 34),no⟩,Zo 7 (.mv (.k (.bool false)))]) .ret) .skip)) (.seq (.reg [Zl 35 true 2 8,⟨no,.st 2 (.t 6) (.t 35),no⟩,Zo 7 (.mv (.k (.bool true)))]) .ret)))))⟩
theorem a185_ok:J0a Tryz.prog Tryz.f185=some a185:=by kernel_rfl
def a177:AFn:= ⟨28,[(.c 6 true 2),.t 7],(.seq (.reg [Zo 3 (.boxv (.t 0)),Zo 4 (.boxv (.t 1)),Zo 6 (.box [(.int .i64 0),(.nil 1)]),Zo 7 (.mv (.k (.bool false)))]) (.seq (.seq (.reg [Zv 8 2,Zf 9 3 3,Zl 10 false 1 9,Zo 11 (.len false (.t 10)),Zo 12 (.bin .sub (.t 11) (.k (.int .i64 1))),Zc 13 102 [.t 8,(.k (.int .i64 0)),.t 12],Zo 14 (.un .not (.t 13))]) (.cond (.t 14) (.seq (.reg [Zo 15 (.build [(.int .i64 0),(.nil 1)] []),⟨no,.st 2 (.t 6) (.t 15),no⟩,Zo 7 (.mv (.k (.bool false)))]) .ret) .skip)) (.seq (.draw (.op (Zl 16 true 2 4) (.op (Zf 17 3 3) (.op (Zl 18 false 1 17) (.op (Zv 19 2) (.op (Zo 20 (.ixa 1 (.t 18) (.t 19))) (.op (Zl 21 false 1 20) (.op (Zf 22 0 3) (.op (Zf 23 0 22) (.op (Zl 24 false 1 23) (.op (Zc 25 191 [.t 16,.t 21,.t 24]) (.op (Zo 26 (.ext (.t 25) 0)) (.op (Zo 27 (.ext (.t 25) 1)) (.hop ⟨no,.st 2 (.t 6) (.t 26),no⟩ [] (.op (Zv 7 27) .fin))))))))))))))) .ret)))⟩
theorem a177_ok:J0a Tryz.prog Tryz.f177=some a177:=by kernel_rfl
def a174:AFn:= ⟨26,[(.c 6 true 2),.t 7],(.seq (.reg [Zo 3 (.boxv (.t 0)),Zo 4 (.boxv (.t 1)),Zo 6 (.box [(.int .i64 0),(.nil 1)]),Zo 7 (.mv (.k (.bool false)))]) (.seq (.seq (.reg [Zv 8 2,Zf 9 3 3,Zl 10 false 1 9,Zo 11 (.len false (.t 10)),Zo 12 (.bin .sub (.t 11) (.k (.int .i64 1))),Zc 13 183 [.t 8,(.k (.int .i64 0)),.t 12],Zo 14 (.un .not (.t 13))]) (.cond (.t 14) (.seq (.reg [Zo 15 (.build [(.int .i64 0),(.nil 1)] []),⟨no,.st 2 (.t 6) (.t 15),no⟩,Zo 7 (.mv (.k (.bool false)))]) .ret) .skip)) (.seq (.draw (.op (Zl 16 true 6 3) (.op (Zl 17 true 2 4) (.op (Zf 18 3 3) (.op (Zl 19 false 1 18) (.op (Zv 20 2) (.op (Zo 21 (.ixa 1 (.t 19) (.t 20))) (.op (Zl 22 false 1 21) (.op (Zc 23 185 [.t 16,.t 17,.t 22]) (.op (Zo 24 (.ext (.t 23) 0)) (.op (Zo 25 (.ext (.t 23) 1)) (.hop ⟨no,.st 2 (.t 6) (.t 24),no⟩ [] (.op (Zv 7 25) .fin))))))))))))) .ret)))⟩
theorem a174_ok:J0a Tryz.prog Tryz.f174=some a174:=by kernel_rfl
def J56 (l:DLin) (args:List DLin) (n:Int):Option DLin:=
 if 0<args.length then J3q l args else if J1c l 0&&inR n 0 8 then some (J04 l.Const n) else Option.none
def J4q (m:DModel) (l:DLin) (call:Int):Option DLin:=
 if inR call 0 ((m.Args.length:Int) - 1) then J56 l (m.Args.getD call.toNat []) m.System.N else Option.none
theorem J5r (l:DLin) (args:List DLin) (n:Int):Holds Tryz.prog 191 [.agg (J06 l),.sl 2 (args.map J06),i64 n] (fun r=>r=J0s (J56 l args n)):=by
 refine J02 Tryz.func191 a191_ok rfl (by simp [a191]) ?_
 simp [a191,J06]
 unfold J56
 intro _
 by_cases h:0<args.length
 ·have hne:¬args=[]:=by rintro rfl;simp at h
  simp [h,hne]
  first|refine J00 (J8d l args) (by first|simp [J06];done|rfl) ?_|refine J01 (J8d l args) (by first|simp [J06];done|rfl) ?_
  rintro r rfl
  simp [J0o,J07]
 have hne:args=[]:=List.eq_nil_of_length_eq_zero (by omega)
 subst hne
 simp
 first|refine J00 (J0z l 0) (by first|simp [J06];done|rfl) ?_|refine J01 (J0z l 0) (by first|simp [J06];done|rfl) ?_
 rintro r rfl
 cases h1:J1c l 0
 ·simp [J0s,J1d,J07,J0e]
 simp
 first|refine J00 (J1v n 0 8) (by first|simp;done|rfl) ?_|refine J01 (J1v n 0 8) (by first|simp;done|rfl) ?_
 rintro r rfl
 cases h2:inR n 0 8
 ·simp [J0s,J1d,J07,J0e]
 simp
 first|refine J00 (J11 l.Const n) (by first|simp;done|rfl) ?_|refine J01 (J11 l.Const n) (by first|simp;done|rfl) ?_
 rintro r rfl
 simp [J0s,J07]
theorem Jdu (m:DModel) (l:DLin) (args:List DLin):Holds Tryz.prog 185 [.agg (J16 m),.agg (J06 l),.sl 2 (args.map J06)] (fun r=>r=J0s (J56 l args m.System.N)):=by
 refine J02 Tryz.func185 a185_ok rfl (by simp [a185]) ?_
 simp [a185,J06,J16]
 unfold J56
 intro _
 by_cases h:0<args.length
 ·have hne:¬args=[]:=by rintro rfl;simp at h
  simp [h,hne]
  first|refine J00 (J7t l args) (by first|simp [J06];done|rfl) ?_|refine J01 (J7t l args) (by first|simp [J06];done|rfl) ?_
  rintro r rfl
  simp [J0o,J07]
 have hne:args=[]:=List.eq_nil_of_length_eq_zero (by omega)
 subst hne
 simp
 first|refine J00 (J13 l.Const m.System.N) (by first|simp;done|rfl) ?_|refine J01 (J13 l.Const m.System.N) (by first|simp;done|rfl) ?_
 rintro r rfl
 simp [J07]
 first|refine J00 (J0p l 0) (by first|simp [J06];done|rfl) ?_|refine J01 (J0p l 0) (by first|simp [J06];done|rfl) ?_
 rintro r rfl
 cases h1:J1c l 0
 ·simp [J0s,J1d,J07,J0e]
 simp
 first|refine J00 (J0p (J04 l.Const m.System.N) m.System.N) (by first|simp [J06];done|rfl) ?_|refine J01 (J0p (J04 l.Const m.System.N) m.System.N) (by first|simp [J06];done|rfl) ?_
 rintro r rfl
 have hv:J1c (J04 l.Const m.System.N) m.System.N=inR m.System.N 0 8:=by
  cases h2:inR m.System.N 0 8
  ·simp [J1c,h2]
  ·have h3:0≤m.System.N∧m.System.N≤8:=by simpa [inR] using h2
   have:=(J4a (n:=m.System.N.toNat) (Jha h1) (by omega)).2
   rwa [show ((m.System.N.toNat:Nat):Int)=m.System.N by omega] at this
 rw [hv]
 cases h2:inR m.System.N 0 8
 ·simp [J0s,J1d,J07,J0e]
 simp [J0s,J07]
theorem Jek (m:DModel) (l:DLin) (call:Int):Holds Tryz.prog 177 [.agg (J16 m),.agg (J06 l),i64 call] (fun r=>r=J0s (J4q m l call)):=by
 refine J1k Tryz.func177 rfl rfl fun hlm => ?_
 simp [J06,J16] at hlm
 refine J02 Tryz.func177 a177_ok rfl (by simp [a177]) ?_
 simp [a177,J06,J16]
 intro hl
 unfold LIM at hl
 rw [J19 (by omega)]
 unfold J4q
 first|refine J00 (J1v call 0 ((m.Args.length:Int) - 1)) (by first|simp;done|rfl) ?_|refine J01 (J1v call 0 ((m.Args.length:Int) - 1)) (by first|simp;done|rfl) ?_
 rintro r rfl
 cases h1:inR call 0 ((m.Args.length:Int) - 1)
 ·simp [J0s,J1d,J07,J0e]
 have hc:0≤call∧call≤(m.Args.length:Int) - 1:=by simpa [inR] using h1
 obtain ⟨c,rfl⟩:∃ c:Nat,call=c:=⟨call.toNat,by omega⟩
 have hcl:c<m.Args.length:=by omega
 simp [hcl,Jc9]
 first|refine J00 (J5r l (m.Args[c]'hcl) m.System.N) (by first|simp [J06];done|rfl) ?_|refine J01 (J5r l (m.Args[c]'hcl) m.System.N) (by first|simp [J06];done|rfl) ?_
 rintro r rfl
 simp [J0o,J07]
theorem J71 (m:DModel) (l:DLin) (call:Int):Holds Tryz.prog 174 [.agg (J16 m),.agg (J06 l),i64 call] (fun r=>r=J0s (J4q m l call)):=by
 refine J1k Tryz.func174 rfl rfl fun hlm => ?_
 simp [J06,J16] at hlm
 refine J02 Tryz.func174 a174_ok rfl (by simp [a174]) ?_
 simp [a174,J06,J16]
 intro hl
 unfold LIM at hl
 rw [J19 (by omega)]
 unfold J4q
 first|refine J00 (J43 call 0 ((m.Args.length:Int) - 1)) (by first|simp;done|rfl) ?_|refine J01 (J43 call 0 ((m.Args.length:Int) - 1)) (by first|simp;done|rfl) ?_
 rintro r rfl
 cases h1:inR call 0 ((m.Args.length:Int) - 1)
 ·simp [J0s,J1d,J07,J0e]
 have hc:0≤call∧call≤(m.Args.length:Int) - 1:=by simpa [inR] using h1
 obtain ⟨c,rfl⟩:∃ c:Nat,call=c:=⟨call.toNat,by omega⟩
 have hcl:c<m.Args.length:=by omega
 simp [hcl,Jc9]
 first|refine J00 (Jdu m l (m.Args[c]'hcl)) (by first|simp [J06,J16];done|rfl) ?_|refine J01 (Jdu m l (m.Args[c]'hcl)) (by first|simp [J06,J16];done|rfl) ?_
 rintro r rfl
 simp [J0o,J07]
abbrev SEnv:=List (Str×DLin)
def J2n (d:DLin) (E:SEnv) (x:Str):DLin:=((E.find? fun e=>e.1==x).map (·.2)).getD d
def Jl6:SEnv→Str→DLin→SEnv
 | [],x,l=>[(x,l)]
 | e::E,x,l=>if e.1=x then (x,l)::E else e::Jl6 E x l
def J2k (i n:Int):DLin:=if inR n 0 8&&inR i 0 (n - 1) then ⟨0,(List.replicate n.toNat 0).set i.toNat 1⟩ else J1d
def J7z (a:DLin) (k:Int) (b:DLin):DLin:=(J0b a k b).getD J1d
def K5s:DSum:=⟨0,[]⟩
structure MS where
 E:SEnv
 nx:Nat
 rows:List DLin
 pars:List DLin
 args:List (List DLin)
def Jfv (E:SEnv) (n:Nat) (s:DSum):DLin:=s.Terms.foldl (fun o t=>J7z o t.Coeff (J2n J1d E t.Name)) (J04 s.Const n)
def Jfx (E:SEnv) (n:Nat) (a:DArg):DLin:=
 if a.Lst then (if a.Base=[] then J04 a.Heads.length n else J7z (J04 a.Heads.length n) 1 (J2n J1d E a.Base)) else Jfv E n (a.Heads.getD 0 K5s)
def Jaf (n:Nat) (st:MS) (x:Str):MS:=
 ⟨Jl6 st.E x (J2k st.nx n),st.nx+1,st.rows++(if J0l x then [J2k st.nx n] else []),st.pars++[J2k st.nx n],st.args⟩
def K04 (ps:List DLin) (n:Nat):List DLin→Option (List DLin)
 | []=>some []
 | l::ls=>match J56 l ps n with
  | Option.none=>Option.none
  | some x=>(K04 ps n ls).map (x :: ·)
def Jw5 (n:Nat) (st:MS) (q:DPattern):SEnv:=Jl6 st.E q.Head (J2k st.nx n)
def Jm0 (n:Nat) (st:MS) (q:DPattern):DLin:=(J7h (J2n J1d (Jw5 n st q) q.Lst) (-1)).getD J1d
def Jbs (n:Nat) (st:MS) (q:DPattern):MS:=
 if q.Cons then ⟨Jl6 (Jw5 n st q) q.Tail (Jm0 n st q),st.nx+1,st.rows++[Jm0 n st q],st.pars,st.args⟩
 else ⟨st.E,st.nx,st.rows++[J7z (J04 0 n) (-1) (J2n J1d st.E q.Lst)],st.pars,st.args⟩
def Jer (p:DProgram) (n:Nat) (st:MS) (c:DCall):MS:=
 ⟨Jl6 st.E c.Bind (J2k st.nx n),st.nx+1,st.rows++(if ((J1p p.Functions c.Func).getD fn0).ListResult then [J2k st.nx n] else []),st.pars,st.args++[c.Args.map (Jfx st.E n)]⟩
def J34 (l:List DPattern):Nat:=(l.filter (·.Cons)).length
def J14 (r:DRule) (f:DFunction):Nat:=f.Params.length+r.Calls.length+J34 r.Patterns
def st1 (r:DRule) (f:DFunction):MS:=f.Params.foldl (Jaf (J14 r f)) ⟨[],0,[],[],[]⟩
def st3 (r:DRule) (f:DFunction) (pre:List DLin):MS:=
 r.Patterns.foldl (Jbs (J14 r f)) ⟨(st1 r f).E,(st1 r f).nx,(st1 r f).rows++pre,(st1 r f).pars,(st1 r f).args⟩
def J0u (s:MS) (l:List DLin):MS:=⟨s.E,s.nx,s.rows++l,s.pars,s.args⟩
def st5 (p:DProgram) (r:DRule) (f:DFunction) (pre:List DLin):MS:=
 r.Calls.foldl (Jer p (J14 r f)) (J0u (st3 r f pre) (r.Guards.map (Jfv (st3 r f pre).E (J14 r f))))
def Jxn (n:Nat) (s:MS) (res:DLin):DModel:=⟨⟨n,s.rows⟩,s.pars,s.args,res⟩
def Jkp (p:DProgram) (r:DRule) (f:DFunction):Option DModel:=
 match K04 (st1 r f).pars (J14 r f) f.Pre with
 | Option.none=>Option.none
 | some pre=>some (Jxn (J14 r f) (st5 p r f pre) (Jfx (st5 p r f pre).E (J14 r f) r.Result))
def goS (E:SEnv) (n:Nat):List DTerm→DLin→Option DLin
 | [],o=>some o
 | t::ts,o=>match J0b o t.Coeff (J2n (J04 0 n) E t.Name) with
  | Option.none=>Option.none
  | some o'=>goS E n ts o'
def Jt0 (E:SEnv) (n:Nat) (s:DSum):Option DLin:=goS E n s.Terms (J04 s.Const n)
def Jv5 (E:SEnv) (n:Nat) (a:DArg):Option DLin:=
 if a.Lst then (if a.Base=[] then some (J04 a.Heads.length n) else J0b (J04 a.Heads.length n) 1 (J2n (J04 0 n) E a.Base)) else Jt0 E n (a.Heads.getD 0 K5s)
def Jf4 (E:SEnv) (n:Nat) (a:DArg):DLin:=(Jv5 E n a).getD J1d
def Jdb (E:SEnv) (n:Nat) (s:DSum):DLin:=(Jt0 E n s).getD J1d
def J4k (l:DLin) (k:Int):DLin:=⟨IntKind.i64.wrap (l.Const - k),l.Coeffs⟩
def J3u (n:Nat) (l:DLin):DLin:=⟨l.Const,l.Coeffs++List.replicate (n - l.Coeffs.length) 0⟩
def Jcy (n:Nat):List Str→Nat→List DLin
 | [],_=>[]
 | x::xs,i=>(if J0l x then [J2k i n] else [])++Jcy n xs (i+1)
def Jd6 (f:DFunction) (n:Nat):List DLin:=Jcy n f.Params 0++f.Pre.map (J3u n)
def J91 (n:Nat) (st:MS) (x:Str):MS:=⟨st.E++[(x,J2k st.nx n)],st.nx+1,st.rows,st.pars++[J2k st.nx n],st.args⟩
def Jhz (n:Nat) (st:MS) (q:DPattern):DLin:=J4k (J2n (J04 0 n) st.E q.Lst) 1
def J5a (n:Nat) (st:MS) (q:DPattern):MS:=
 if q.Cons then ⟨st.E++[(q.Head,J2k st.nx n),(q.Tail,Jhz n st q)],st.nx+1,st.rows++[Jhz n st q],st.pars,st.args⟩
 else ⟨st.E,st.nx,st.rows++[J7z (J04 0 n) (-1) (J2n (J04 0 n) st.E q.Lst)],st.pars,st.args⟩
def J5g (n:Nat) (st:MS) (c:DCall):MS:=
 ⟨st.E++[(c.Bind,J2k st.nx n)],st.nx+1,st.rows++(if J0l c.Bind then [J2k st.nx n] else []),st.pars,st.args++[c.Args.map (Jf4 st.E n)]⟩
def ss1 (r:DRule) (f:DFunction):MS:=f.Params.foldl (J91 (J14 r f)) ⟨[],0,Jd6 f (J14 r f),[],[]⟩
def Jbl (s:MS) (k:Nat):MS:=⟨s.E,k,s.rows,s.pars,s.args⟩
def ss3 (r:DRule) (f:DFunction):MS:=r.Patterns.foldl (J5a (J14 r f)) (Jbl (ss1 r f) f.Params.length)
def ss5 (r:DRule) (f:DFunction):MS:=
 r.Calls.foldl (J5g (J14 r f)) (J0u (Jbl (ss3 r f) (f.Params.length+J34 r.Patterns)) (r.Guards.map (Jdb (ss3 r f).E (J14 r f))))
def J68 (r:DRule) (f:DFunction):DModel:=Jxn (J14 r f) (ss5 r f) (Jf4 (ss5 r f).E (J14 r f) r.Result)
def J1a (E:SEnv):List Str:=E.map (·.1)
theorem Jao {x:Str}{l:DLin} : ∀ {E:SEnv},x∉J1a E→Jl6 E x l=E++[(x,l)]
 | [],_=>rfl
 | e::E,h=>by
  simp only [J1a,List.map_cons,List.mem_cons,not_or] at h
  simp only [Jl6,List.cons_append]
  rw [if_neg (fun g=>h.1 g.symm),Jao (E:=E) h.2]
theorem Jrl {E:SEnv}{x:Str}(h:x∈J1a E):∃ l,E.find? (fun e=>e.1==x)=some (x,l)∧(x,l)∈E:=by
 obtain ⟨e,he,rfl⟩:=List.mem_map.1 h
 have:(E.find? fun e'=>e'.1==e.1).isSome=true:=by rw [List.find?_isSome];exact ⟨e,he,by simp⟩
 obtain ⟨⟨y,l⟩,hy⟩:=Option.isSome_iff_exists.1 this
 have h1:=List.find?_some hy
 have h2:=List.mem_of_find?_eq_some hy
 simp only [beq_iff_eq] at h1
 subst h1
 exact ⟨l,hy,h2⟩
theorem Jea {E:SEnv}{x:Str}(d:DLin) (h:x∈J1a E):∃ l,(x,l)∈E∧∀ d F,J2n d (E++F) x=l:=by
 obtain ⟨l,h1,h2⟩:=Jrl h
 exact ⟨l,h2,fun d F=>by unfold J2n;rw [List.find?_append,h1];rfl⟩
theorem Jkv {E:SEnv}{x:Str}(d d':DLin) (h:x∈J1a E):J2n d E x=J2n d' E x:=by
 obtain ⟨l,_,h2⟩:=Jea d h
 rw [←List.append_nil E,h2,h2]
def Jkx (n:Nat) (E:SEnv):Prop:=∀ e∈E,e.2.Coeffs.length=n∧n≠0
theorem Jkx.get {n:Nat}{E:SEnv}{x:Str}(H:Jkx n E) (d:DLin) (h:x∈J1a E):(J2n d E x).Coeffs.length=n:=by
 obtain ⟨l,h1,h2⟩:=Jea d h
 have:=h2 d []
 rw [List.append_nil] at this
 rw [this];exact (H _ h1).1
theorem Je1 {i n:Nat}(hn:n≤8) (hi:i<n):J2k i n=⟨0,(List.replicate n 0).set i 1⟩:=by
 unfold J2k
 rw [if_pos (by simp [inR];omega)];simp
theorem J9c {i n:Nat}(hn:n≤8) (hi:i<n):(J2k i n).Coeffs.length=n:=by rw [Je1 hn hi];simp
theorem Jr5 {c:Int}{b:DLin}(h:b.Coeffs.length≠0):J7z J1d c b=J1d:=by
 unfold J7z J0b
 have:J1c b (J1d.Coeffs.length:Nat)=false:=by
  rw [Bool.eq_false_iff]
  intro g
  have:=J1t g
  simp [J1d] at this
  exact h (by simp [this])
 rw [this];simp
theorem Jla {n:Nat}{E:SEnv}(H:Jkx n E):∀ {ts:List DTerm},(∀ t∈ts,t.Name∈J1a E)→(ts≠[]→n≠0)→ts.foldl (fun o t=>J7z o t.Coeff (J2n J1d E t.Name)) J1d=J1d
 | [],_,_=>rfl
 | t::ts,h,hn=>by
  simp only [List.foldl_cons]
  rw [Jr5 (by rw [H.get J1d (h t List.mem_cons_self)];exact hn (by simp))]
  exact Jla H (fun u hu=>h u (List.mem_cons_of_mem _ hu)) (fun _=>hn (by simp))
theorem Jkb {n:Nat}{E:SEnv}(H:Jkx n E):∀ {ts:List DTerm}{o:DLin},(∀ t∈ts,t.Name∈J1a E)→(ts≠[]→n≠0)→ts.foldl (fun o t=>J7z o t.Coeff (J2n J1d E t.Name)) o=(goS E n ts o).getD J1d
 | [],_,_,_=>rfl
 | t::ts,o,h,hn=>by
  have h':∀ u∈ts,u.Name∈J1a E:=fun u hu=>h u (List.mem_cons_of_mem _ hu)
  have hn':ts≠[]→n≠0:=fun _=>hn (by simp)
  simp only [List.foldl_cons,goS]
  rw [Jkv J1d (J04 0 n) (h t List.mem_cons_self)]
  cases ha:J0b o t.Coeff (J2n (J04 0 n) E t.Name) with
  | none=>
   have:J7z o t.Coeff (J2n (J04 0 n) E t.Name)=J1d:=by unfold J7z;rw [ha];rfl
   rw [this]
   exact Jla H h' hn'
  | some o'=>
   have:J7z o t.Coeff (J2n (J04 0 n) E t.Name)=o':=by unfold J7z;rw [ha];rfl
   rw [this]
   exact Jkb H h' hn'
theorem Jkx.ne {n:Nat}{E:SEnv}(H:Jkx n E) (h:E≠[]):n≠0:=by
 obtain ⟨e,l,rfl⟩:=List.exists_cons_of_ne_nil h
 exact (H e List.mem_cons_self).2
theorem Jt9 {n:Nat}{E:SEnv}(H:Jkx n E) {s:DSum}(h:∀ t∈s.Terms,t.Name∈J1a E):Jfv E n s=Jdb E n s:=by
 unfold Jfv Jdb Jt0
 refine Jkb H h fun ht=>H.ne ?_
 rintro rfl
 obtain ⟨t,ts,he⟩:=List.exists_cons_of_ne_nil ht
 have:=h t (by rw [he];exact List.mem_cons_self)
 simp [J1a] at this
def K7z (E:SEnv) (a:DArg):Prop:=(∀ s∈a.Heads,∀ t∈s.Terms,t.Name∈J1a E)∧(a.Base≠[]→a.Base∈J1a E)
theorem Jtj {n:Nat}{E:SEnv}(H:Jkx n E) {a:DArg}(h:K7z E a):Jfx E n a=Jf4 E n a:=by
 unfold Jfx Jf4 Jv5
 cases a.Lst
 ·simp only [Bool.false_eq_true,if_false]
  refine Jt9 H ?_
  intro t ht
  cases hh:a.Heads with
  | nil=>rw [hh] at ht;simp [K5s] at ht
  | cons s l=>rw [hh] at ht;simp at ht;exact h.1 s (by rw [hh];exact List.mem_cons_self) t ht
 ·simp only [if_true]
  by_cases hb:a.Base=[]
  ·rw [if_pos hb,if_pos hb];rfl
  ·rw [if_neg hb,if_neg hb,Jkv J1d (J04 0 n) (h.2 hb)];rfl
theorem Jii {x k:Int}(hx:okC x=true) (hk:okC k=true):J24 x k 0=some x:=by
 have h0:okC 0=true:=by decide
 unfold J24 J63 Jcf
 simp [hx,hk,h0]
theorem Jp5 {k:Int}(hk:okC k=true):J24 0 k 1=some k:=by
 have h0:okC 0=true:=by decide
 have h1:okC 1=true:=by decide
 unfold J24 J63 Jcf
 simp [hk,h0,h1]
theorem Jj5 {xs:List Int}{c k:Int}{i n:Nat}(hn:n≤8) (hi:i<n) (hx:xs.length=n) (hok:xs.all okC=true) (hc:okC c=true) (hk:okC k=true) (h0:xs[i]? = some 0) :
 J0b ⟨c,xs⟩ k (J2k i n)=some ⟨c,xs.set i k⟩:=by
 have hz0:okC 0=true:=by decide
 have hz1:okC 1=true:=by decide
 have hv:J1c (J2k i n) (xs.length:Nat)=true:=by
  rw [Je1 hn hi]
  unfold J1c
  simp only [Bool.and_eq_true,decide_eq_true_eq,List.all_eq_true]
  refine ⟨⟨⟨by simp [inR];omega,by simp [hx]⟩,hz0⟩,?_⟩
  intro y hy
  rcases List.mem_or_eq_of_mem_set hy with hy|rfl
  ·rw [(List.mem_replicate.1 hy).2];exact hz0
  ·exact hz1
 have ho:J1c ⟨c,xs⟩ (xs.length:Nat)=true:=by
  unfold J1c
  simp only [Bool.and_eq_true,decide_eq_true_eq]
  exact ⟨⟨⟨by simp [inR];omega,by simp⟩,hc⟩,hok⟩
 have hZ:J4i ⟨c,xs⟩ k (J2k i n)=(xs.set i k).map some:=by
  rw [Je1 hn hi]
  unfold J4i
  refine List.ext_getElem (by simp [hx]) fun j h1 h2 => ?_
  have hj:j<xs.length:=by simp at h2;exact h2
  simp only [List.getElem_zipWith,List.getElem_map]
  by_cases he:i=j
  ·subst he
   have:xs[i]=0:=by rw [List.getElem?_eq_getElem hj] at h0;exact Option.some.inj h0
   simp [this,Jp5 hk]
  ·rw [List.getElem_set_ne he,List.getElem_set_ne he,List.getElem_replicate]
   exact Jii (List.all_eq_true.1 hok _ (List.getElem_mem hj)) hk
 have hcc:J24 c k (J2k i n).Const=some c:=by rw [Je1 hn hi];exact Jii hc hk
 unfold J0b Jcg
 simp only [hv,ho,hk,hcc,hZ,Bool.and_self,Bool.true_and,Option.isSome_some]
 have hA:((xs.set i k).map some).all Option.isSome=true:=by rw [List.all_eq_true];intro x hx;obtain ⟨y,_,rfl⟩:=List.mem_map.1 hx;rfl
 rw [if_pos hA]
 simp [List.map_map,Function.comp_def]
theorem Jn5 {n:Nat} : (List.replicate n (0:Int)).all okC=true:=by
 rw [List.all_eq_true];intro x hx;rw [(List.mem_replicate.1 hx).2];decide
theorem Jn9 {l:DLin}{n:Int}(h:J1c l n=true):∀ x∈l.Coeffs,okC x=true:=by
 unfold J1c at h;simp only [Bool.and_eq_true,List.all_eq_true] at h;exact h.2
theorem Jik {l:DLin}{m n:Nat}(hm:m≤2) (hmn:m≤n) (hn:n≤8) (hl:J1c l m=true):J56 l ((List.range m).map fun i:Nat=>J2k i n) n=some (J3u n l):=by
 have hc:=Jha hl
 have hlen:l.Coeffs.length=m:=by have:=(J1t hl).1;omega
 have hall:=Jn9 hl
 obtain ⟨c0,h1⟩:=J4a (n:=n) hc (by omega)
 unfold J56
 match m,hm,hlen with
 | 0,_,hlen=>
  have he:l.Coeffs=[]:=List.eq_nil_of_length_eq_zero hlen
  have hl':J1c l 0=true:=hl
  rw [if_neg (by simp),if_pos (by rw [hl'];simp [inR];omega),c0]
  simp [J3u,he]
 | 1,_,hlen=>
  obtain ⟨a,ha⟩:=List.length_eq_one_iff.1 hlen
  have hl':J1c l 1=true:=hl
  have hka:=hall a (by rw [ha];simp)
  have hz0:(List.replicate n (0:Int))[0]? = some 0:=by rw [List.getElem?_replicate,if_pos (by omega)]
  rw [if_pos (by simp)]
  unfold J3q
  have hN:Jgn ((List.range 1).map fun i:Nat=>J2k i n)=n:=by simp [Jgn,List.range_succ];exact J9c (i:=0) hn (by omega)
  rw [hN,h1,c0]
  simp only [List.length_map,List.length_range]
  rw [if_pos (by simp [hl']),ha]
  simp only [List.range_succ,List.range_zero,List.nil_append,List.map_cons,List.map_nil,List.zip_cons_cons,List.zip_nil_right,J5d]
  rw [Jj5 (i:=0) hn (by omega) (by simp) Jn5 hc hka hz0]
  simp only [J3u,ha]
  obtain ⟨k,rfl⟩:∃ k,n=k+1:=⟨n - 1,by omega⟩
  simp [List.replicate_succ]
 | 2,_,hlen=>
  obtain ⟨a,b,hab⟩:∃ a b,l.Coeffs=[a,b]:=by
   match hh:l.Coeffs,hlen with
   | [a,b],_=>exact ⟨a,b,rfl⟩
  have hl':J1c l 2=true:=hl
  have hka:=hall a (by rw [hab];simp)
  have hkb:=hall b (by rw [hab];simp)
  have hz0:(List.replicate n (0:Int))[0]? = some 0:=by rw [List.getElem?_replicate,if_pos (by omega)]
  rw [if_pos (by simp)]
  unfold J3q
  have hN:Jgn ((List.range 2).map fun i:Nat=>J2k i n)=n:=by simp [Jgn,List.range_succ];exact J9c (i:=0) hn (by omega)
  rw [hN,h1,c0]
  simp only [List.length_map,List.length_range]
  rw [if_pos (by simp [hl']),hab]
  simp only [List.range_succ,List.range_zero,List.nil_append,List.map_cons,List.map_nil,List.zip_cons_cons,List.zip_nil_right,List.cons_append,J5d]
  rw [Jj5 (i:=0) hn (by omega) (by simp) Jn5 hc hka hz0]
  obtain ⟨k,rfl⟩:∃ k,n=k+2:=⟨n - 2,by omega⟩
  simp only
  rw [Jj5 (i:=1) hn (by omega) (by simp) (by
   rw [List.all_eq_true];intro x hx
   rcases List.mem_or_eq_of_mem_set hx with hx|rfl
   ·rw [(List.mem_replicate.1 hx).2];decide
   ·exact hka) hc hkb (by simp [List.replicate_succ])]
  simp [J3u,hab,List.replicate_succ]
theorem Jjx {ps:List DLin}{n:Nat} : ∀ {ls:List DLin},(∀ l∈ls,J56 l ps n=some (J3u n l))→K04 ps n ls=some (ls.map (J3u n))
 | [],_=>rfl
 | l::ls,h=>by
  simp only [K04]
  rw [h l List.mem_cons_self,Jjx fun x hx=>h x (List.mem_cons_of_mem _ hx)];rfl
def a203:AFn:= ⟨24,[(.c 4 true 2)],(.seq (.reg [Zo 4 (.box [(.int .i64 0),(.nil 1)])]) (.seq (.seq (.reg [Zv 6 1,Zc 7 102 [.t 6,(.k (.int .i64 0)),(.k (.int .i64 8))],Zo 8 (.un .not (.t 7)),Zv 9 8,⟨some 10,.mv (.t 0),(some (9,false))⟩,⟨some 11,.mv (.t 1),(some (9,false))⟩,⟨some 12,.bin .sub (.t 11) (.k (.int .i64 1)),(some (9,false))⟩,⟨some 13,.call (.k (.fn (.func 102) [] [])) [.t 10,(.k (.int .i64 0)),.t 12],(some (9,false))⟩,⟨some 14,.un .not (.t 13),(some (9,false))⟩,Zo 15 (.pick (.t 9) (.k (.bool true)) (.t 14))]) (.cond (.t 15) (.seq (.reg [Zo 16 (.build [(.int .i64 0),(.nil 1)] []),⟨no,.st 2 (.t 4) (.t 16),no⟩]) .ret) .skip)) (.seq (.reg [Zv 17 1,Zc 18 178 [(.k (.int .i64 0)),.t 17],Zo 5 (.box [(.int .i64 0),(.nil 1)]),⟨no,.st 2 (.t 5) (.t 18),no⟩]) (.seq (.reg [Zf 19 1 5,Zl 20 false 1 19,Zv 21 0,Zo 22 (.ixa 1 (.t 20) (.t 21)),⟨no,.st 1 (.t 22) (.k (.int .i64 1)),no⟩]) (.seq (.reg [Zl 23 true 2 5,⟨no,.st 2 (.t 4) (.t 23),no⟩]) .ret)))))⟩
theorem a203_ok:J0a Tryz.prog Tryz.f203=some a203:=by kernel_rfl
def a261:AFn:= ⟨25,[(.c 4 true 2)],(.seq (.reg [Zo 4 (.box [(.int .i64 0),(.nil 1)])]) (.seq (.seq (.reg [Zv 6 1,Zc 7 183 [.t 6,(.k (.int .i64 0)),(.k (.int .i64 8))],Zo 8 (.un .not (.t 7)),Zv 9 8,⟨some 10,.mv (.t 0),(some (9,false))⟩,⟨some 11,.mv (.t 1),(some (9,false))⟩,⟨some 12,.bin .sub (.t 11) (.k (.int .i64 1)),(some (9,false))⟩,⟨some 13,.call (.k (.fn (.func 183) [] [])) [.t 10,(.k (.int .i64 0)),.t 12],(some (9,false))⟩,⟨some 14,.un .not (.t 13),(some (9,false))⟩,Zo 15 (.pick (.t 9) (.k (.bool true)) (.t 14))]) (.cond (.t 15) (.seq (.reg [Zo 16 (.build [(.int .i64 0),(.nil 1)] []),⟨no,.st 2 (.t 4) (.t 16),no⟩]) .ret) .skip)) (.seq (.reg [Zv 17 1,Zo 18 (.mks 8 [(.int .i64 0)] (.t 17) (.t 17)),Zo 19 (.build [(.int .i64 0),(.nil 1)] [(1,(1,(.t 18)))]),Zo 5 (.box [(.int .i64 0),(.nil 1)]),⟨no,.st 2 (.t 5) (.t 19),no⟩]) (.seq (.reg [Zf 20 1 5,Zl 21 false 1 20,Zv 22 0,Zo 23 (.ixa 1 (.t 21) (.t 22)),⟨no,.st 1 (.t 23) (.k (.int .i64 1)),no⟩]) (.seq (.reg [Zl 24 true 2 5,⟨no,.st 2 (.t 4) (.t 24),no⟩]) .ret)))))⟩
theorem a261_ok:J0a Tryz.prog Tryz.f261=some a261:=by kernel_rfl
def a306:AFn:= ⟨14,[(.c 4 true 2)],(.seq (.reg [Zo 2 (.boxv (.t 0)),Zo 4 (.box [(.int .i64 0),(.nil 1)])]) (.seq (.reg [Zl 6 true 2 2,Zc 7 82 [.t 6],Zo 5 (.box [(.int .i64 0),(.nil 1)]),⟨no,.st 2 (.t 5) (.t 7),no⟩]) (.seq (.reg [Zf 8 0 5,Zl 9 false 1 8,Zv 10 1,Zo 11 (.bin .sub (.t 9) (.t 10)),Zf 12 0 5,⟨no,.st 1 (.t 12) (.t 11),no⟩]) (.seq (.reg [Zl 13 true 2 5,⟨no,.st 2 (.t 4) (.t 13),no⟩]) .ret))))⟩
theorem a306_ok:J0a Tryz.prog Tryz.f306=some a306:=by kernel_rfl
def a262:AFn:= ⟨29,[(.c 4 true 2)],(.seq (.reg [Zo 2 (.boxv (.t 0)),Zo 4 (.box [(.int .i64 0),(.nil 1)])]) (.seq (.draw (.op (Zf 7 0 2) (.op (Zl 8 false 1 7) (.op (Zv 9 1) (.both (.op (Zo 10 (.mks 8 [(.int .i64 0)] (.t 9) (.t 9))) (.op (Zo 11 (.build [(.int .i64 0),(.nil 1)] [(0,(1,(.t 8))),(1,(1,(.t 10)))])) (.op (Zo 5 (.box [(.int .i64 0),(.nil 1)])) (.hop ⟨no,.st 2 (.t 5) (.t 11),no⟩ [] .fin)))) (.op (Zo 5 (.box [(.int .i64 0),(.nil 1)])) (.op (Zo 10 (.mks 8 [(.int .i64 0)] (.t 9) (.t 9))) (.op (Zo 11 (.build [(.int .i64 0),(.nil 1)] [(0,(1,(.t 8))),(1,(1,(.t 10)))])) (.hop ⟨no,.st 2 (.t 5) (.t 11),no⟩ [] .fin))))))))) (.seq (.seq (.reg [Zo 6 (.mv (.k (.int .i64 0)))]) (.blk 0 (.loop (.seq (.seq (.reg [Zv 12 6,Zf 13 1 2,Zl 14 false 1 13,Zo 15 (.len false (.t 14)),Zo 16 (.bin .lss (.t 12) (.t 15))]) (.cond (.t 16) .skip (.exit 0))) (.seq (.blk 1 (.draw (.op (Zf 19 1 5) (.op (Zl 20 false 1 19) (.op (Zv 21 6) (.op (Zf 22 1 2) (.op (Zl 23 false 1 22) (.op (Zv 24 6) (.op (Zo 25 (.ixa 1 (.t 23) (.t 24))) (.op (Zl 26 false 1 25) (.op (Zo 27 (.ixa 1 (.t 20) (.t 21))) (.hop ⟨no,.st 1 (.t 27) (.t 26),no⟩ [] .fin)))))))))))) (.reg [Zv 17 6,Zo 18 (.bin .add (.t 17) (.k (.int .i64 1))),Zv 6 18])))))) (.seq (.reg [Zl 28 true 2 5,⟨no,.st 2 (.t 4) (.t 28),no⟩]) .ret))))⟩
theorem a262_ok:J0a Tryz.prog Tryz.f262=some a262:=by kernel_rfl
theorem Jkn (i n:Int):Holds Tryz.prog 203 [i64 i,i64 n] (fun r=>r = .agg (J07 (J2k i n))):=by
 refine J02 Tryz.func203 a203_ok rfl (by simp [a203]) ?_
 simp [a203]
 first|refine J00 (J1v n 0 8) (by first|simp;done|rfl) ?_|refine J01 (J1v n 0 8) (by first|simp;done|rfl) ?_
 rintro r rfl
 unfold J2k
 cases h1:inR n 0 8
 ·simp [J07,J0e,J1d]
 have hn:0≤n∧n≤8:=by simpa [inR] using h1
 have hw:IntKind.i64.wrap (n - 1)=n - 1:=J19 (by omega)
 simp [hw]
 first|refine J00 (J1v i 0 (n - 1)) (by first|simp;done|rfl) ?_|refine J01 (J1v i 0 (n - 1)) (by first|simp;done|rfl) ?_
 rintro r rfl
 cases h2:inR i 0 (n - 1)
 ·simp [J07,J0e,J1d]
 have hi:0≤i∧i≤n - 1:=by simpa [inR] using h2
 obtain ⟨m,rfl⟩:∃ m:Nat,n=m:=⟨n.toNat,by omega⟩
 obtain ⟨j,rfl⟩:∃ j:Nat,i=j:=⟨i.toNat,by omega⟩
 have hj:j<m:=by omega
 have hc:J04 0 m=⟨0,List.replicate m 0⟩:=(J4a (by decide) (by omega)).1
 simp
 first|refine J00 (J11 0 m) (by first|simp;done|rfl) ?_|refine J01 (J11 0 m) (by first|simp;done|rfl) ?_
 rintro r rfl
 simp [hc,J07,hj]
 have e:(List.replicate m [AV.int .i64 0]).set j [AV.int .i64 1]=J0e ((List.replicate m 0).set j 1):=by rw [←Je2,Jhh]
 rw [e,List.take_of_length_le (by simp)]
 simp
theorem J6w (i n:Int):Holds Tryz.prog 261 [i64 i,i64 n] (fun r=>r = .agg (J07 (J2k i n))):=by
 refine J02 Tryz.func261 a261_ok rfl (by simp [a261]) ?_
 simp [a261]
 first|refine J00 (J43 n 0 8) (by first|simp;done|rfl) ?_|refine J01 (J43 n 0 8) (by first|simp;done|rfl) ?_
 rintro r rfl
 unfold J2k
 cases h1:inR n 0 8
 ·simp [J07,J0e,J1d]
 have hn:0≤n∧n≤8:=by simpa [inR] using h1
 have hw:IntKind.i64.wrap (n - 1)=n - 1:=J19 (by omega)
 simp [hw]
 first|refine J00 (J43 i 0 (n - 1)) (by first|simp;done|rfl) ?_|refine J01 (J43 i 0 (n - 1)) (by first|simp;done|rfl) ?_
 rintro r rfl
 cases h2:inR i 0 (n - 1)
 ·simp [J07,J0e,J1d]
 have hi:0≤i∧i≤n - 1:=by simpa [inR] using h2
 obtain ⟨m,rfl⟩:∃ m:Nat,n=m:=⟨n.toNat,by omega⟩
 obtain ⟨j,rfl⟩:∃ j:Nat,i=j:=⟨i.toNat,by omega⟩
 have hj:j<m:=by omega
 have hm:(m:Int)*8≤LIM:=by unfold LIM;omega
 simp [hj,hm,J07]
 have e:(List.replicate m [AV.int .i64 0]).set j [AV.int .i64 1]=J0e ((List.replicate m 0).set j 1):=by rw [←Je2,Jhh]
 rw [e,List.take_of_length_le (by simp)]
 simp
theorem Ja5 (x:DLin) (k:Int) (hl:x.Coeffs.length≤1048576):Holds Tryz.prog 306 [.agg (J06 x),i64 k] (fun r=>r = .agg (J07 (J4k x k))):=by
 refine J02 Tryz.func306 a306_ok rfl (by simp [a306]) ?_
 simp [a306,J06]
 first|refine J00 (J2c x hl) (by first|simp [J06];done|rfl) ?_|refine J01 (J2c x hl) (by first|simp [J06];done|rfl) ?_
 rintro r rfl
 simp [J07,J4k]
def Jph (l:List Int) (n i:Nat):List Int:=l.take i++List.replicate (n - i) 0
theorem Jkm {l:List Int}{n i:Nat}(hi:i<l.length) (hn:l.length≤n):(Jph l n i).set i l[i]=Jph l n (i+1):=by
 unfold Jph
 rw [List.set_append_right i l[i] (by simp;omega)]
 have h1:i - (l.take i).length=0:=by simp;omega
 obtain ⟨k,hk⟩:∃ k,n - i=k+1:=⟨n - i - 1,by omega⟩
 rw [h1,hk,List.take_succ_eq_append_getElem hi,List.append_assoc]
 have:n - (i+1)=k:=by omega
 rw [this];simp [List.replicate_succ]
theorem Jqw {l:List Int}{n i:Nat}(hi:i≤l.length) (hn:l.length≤n):(Jph l n i).length=n:=by unfold Jph;simp;omega
theorem J86 (x:DLin) (n:Nat) (hxn:x.Coeffs.length≤n) (hn:n≤1048576):Holds Tryz.prog 262 [.agg (J06 x),i64 n] (fun r=>r = .agg (J07 (J3u n x))):=by
 have hm:(n:Int)*8≤LIM:=by unfold LIM;omega
 refine J02 Tryz.func262 a262_ok rfl (by simp [a262]) ?_
 simp [a262,J06,hm]
 refine ⟨?_,?_⟩
 all_goals
  refine J0k [1,2,4] 6 x.Coeffs.length (fun i s h m=>∃ a b,((a=2∧b=3)∨(a=3∧b=2))∧3<m∧s 5 = .ptr b 0 0∧h 0=some ⟨true,2,[[.int .i64 x.Const,.sl 1 (J0e x.Coeffs)]]⟩∧h 1=some ⟨true,2,[[.int .i64 0,.nil 1]]⟩∧h b=some ⟨true,2,[[.int .i64 x.Const,.ref a 0 n]]⟩∧h a=some ⟨false,1,J0e (Jph x.Coeffs n i)⟩) (by unfold LIM;omega) (by simp) ?_ ?_ ?_
  ·first
   | (refine ⟨2,3,.inl ⟨rfl,rfl⟩,?_⟩;simp [Jph];done)
   | (refine ⟨3,2,.inr ⟨rfl,rfl⟩,?_⟩;simp [Jph];done)
  ·rintro i s h m R hi hg hk s6 hw ⟨a,b,hab,hm3,s5,e0,e1,eb,ea⟩ hR _ _
   simp at hk
   have hpl:=Jqw (l:=x.Coeffs) (n:=n) (Nat.le_of_lt hi) hxn
   have hin:i<n:=by omega
   rcases hab with ⟨rfl,rfl⟩|⟨rfl,rfl⟩
   ·simp [hk,s6,s5,hi,e0,e1,eb,ea,hin,hw,hpl]
    intro _
    refine hR _ _ _ (by simp [hk]) (by simp) ⟨2,3,.inl ⟨rfl,rfl⟩,by omega,by simp [hk,s5],by simp [e0],by simp [e1],by simp [eb],?_⟩
    simp [←Jkm hi hxn]
   ·simp [hk,s6,s5,hi,e0,e1,eb,ea,hin,hw,hpl]
    intro _
    refine hR _ _ _ (by simp [hk]) (by simp) ⟨3,2,.inr ⟨rfl,rfl⟩,by omega,by simp [hk,s5],by simp [e0],by simp [e1],by simp [eb],?_⟩
    simp [←Jkm hi hxn]
  ·rintro s h m R hk s6 ⟨a,b,hab,hm3,s5,e0,e1,eb,ea⟩ _ hX
   simp at hk
   have hpe:Jph x.Coeffs n x.Coeffs.length=(J3u n x).Coeffs:=by simp [Jph,J3u]
   have hwl:(J3u n x).Coeffs.length=n:=by simp [J3u];omega
   have hwc:(J3u n x).Const=x.Const:=rfl
   rw [hpe] at ea
   rcases hab with ⟨rfl,rfl⟩|⟨rfl,rfl⟩
   ·simp [hk,s6,s5,e0,e1,eb,ea]
    intro _
    refine hX _ _ _ _ ?_
    simp [hk,s5,e1,eb,ea,J07,hwl,hwc,List.take_of_length_le]
   ·simp [hk,s6,s5,e0,e1,eb,ea]
    intro _
    refine hX _ _ _ _ ?_
    simp [hk,s5,e1,eb,ea,J07,hwl,hwc,List.take_of_length_le]
def J3v (b z:Nat) (rows:List (List AV)) (v:AV) (h:Heap) (n:Nat):Prop:=(rows=[]∧v = .nil z)∨∃ id,b<id∧id<n∧v = .ref id 0 rows.length∧h id=some ⟨false,z,rows⟩
theorem J3v.keep {b z:Nat}{rows:List (List AV)}{v:AV}{h h':Heap}{n n':Nat}(x:J3v b z rows v h n) (hn:n≤n') (hh:∀ id,b<id→id<n→v = .ref id 0 rows.length→h' id=h id):J3v b z rows v h' n':=
 x.imp (fun y=>y) fun ⟨i,h1,h2,h3,h4⟩=>⟨i,h1,by omega,h3,by rw [hh i h1 h2 h3];exact h4⟩
theorem J3v.dt {b z:Nat}{rows:List (List AV)}{v:AV}{h:Heap}{n:Nat}(x:J3v b z rows v h n):∃ h',Go.Proofs.YtoclolkigjbcgaaGreat.dt v h=some (.us z rows,h')∧∀ id,(∀ l,v ≠ .ref id 0 l)→h' id=h id:=by
 rcases x with ⟨rfl,rfl⟩|⟨i,_,_,rfl,hb⟩
 ·exact ⟨h,by simp,fun _ _=>rfl⟩
 ·refine ⟨upd h i Option.none,by simp [hb],fun id hid => ?_⟩
  have:¬id=i:=fun e=>hid rows.length (by rw [e])
  simp [this]
theorem J3v.cell {b z:Nat}{rows:List (List AV)}{v:AV}{h:Heap}{n:Nat}(x:J3v b z rows v h n):J0n v=true:=by
 rcases x with ⟨_,rfl⟩|⟨i,_,_,rfl,_⟩ <;> rfl
theorem J3v.ne_sz {b z z':Nat}{rows rows':List (List AV)}{v v':AV}{h:Heap}{n id l l':Nat}(x:J3v b z rows v h n) (y:J3v b z' rows' v' h n) (hz:z≠z') (e:v = .ref id 0 l) (e':v' = .ref id 0 l'):False:=by
 rcases x with ⟨_,rfl⟩|⟨i,_,_,rfl,hi⟩
 ·cases e
 rcases y with ⟨_,rfl⟩|⟨j,_,_,rfl,hj⟩
 ·cases e'
 simp only [AV.ref.injEq] at e e'
 rw [e.1] at hi
 rw [e'.1,hi] at hj
 simp at hj
 exact hz hj.1
theorem J3v.ne_ge {b z:Nat}{rows:List (List AV)}{v:AV}{h:Heap}{n q l:Nat}(x:J3v b z rows v h n) (hq:n≤q) (e:v = .ref q 0 l):False:=by
 rcases x with ⟨_,rfl⟩|⟨i,_,hi,rfl,_⟩
 ·cases e
 ·simp only [AV.ref.injEq] at e;omega
theorem Jbv {k:IntKind}{n:Int} : J0n (.int k n)=true:=rfl
theorem Jf9 {i o l:Nat} : J0n (.ref i o l)=true:=rfl
theorem Jah {l:List Str}{s:Str} : J3x l s=true↔s∈l:=by simp [J3x]
theorem Jkd {l:List Str}{s:Str} : J3x l s=false↔s∉l:=by rw [←Bool.not_eq_true,Jah]
theorem Jp0 {N:List Str} : ∀ {S:List Str},S.Nodup→(∀ x∈S,x∈N)→S.length≤N.length:=by
 induction N with
 | nil=>
  intro S _ h
  cases S with
  | nil=>exact Nat.le_refl _
  | cons x S=>have:=h x (List.mem_cons_self ..);cases this
 | cons y N ih=>
  intro S hS h
  have:=ih (S:=S.filter (· != y)) (hS.sublist List.filter_sublist) (fun x hx=>by
   rw [List.mem_filter] at hx
   rcases List.mem_cons.1 (h x hx.1) with rfl|h'
   ·simp at hx
   ·exact h')
  have hc:S.length≤(S.filter (· != y)).length+1:=by
   clear this ih h
   induction S with
   | nil=>simp
   | cons x S ih=>
    rw [List.nodup_cons] at hS
    by_cases hx:x=y
    ·subst hx
     have hf:S.filter (· != x)=S:=List.filter_eq_self.2 fun z hz=>by simp;rintro rfl;exact hS.1 hz
     simp [hf]
    ·have hx':(x != y)=true:=by simpa using hx
     simp only [List.filter_cons,hx',if_true,List.length_cons]
     have:=ih hS.2
     omega
  simp only [List.length_cons];omega
theorem Jjm:∀ {l met:List Str},J40 met l=true→l.Nodup∧∀ x∈l,x∉met
 | [],_,_=>⟨List.nodup_nil,fun _ h=>by cases h⟩
 | s::l,met,h=>by
  simp only [J40,Bool.and_eq_true,Bool.not_eq_true'] at h
  obtain ⟨h1,h2⟩:=Jjm h.2
  have h3:=Jkd.1 h.1
  refine ⟨List.nodup_cons.2 ⟨fun hs=>h2 s hs (by simp),h1⟩,?_⟩
  intro x hx
  rcases List.mem_cons.1 hx with rfl|hx
  ·exact h3
  ·exact fun hm=>h2 x hx (List.mem_append_left _ hm)
def Jl2 (n:Nat):List Str→Nat→SEnv
 | [],_=>[]
 | x::xs,i=>(x,J2k i n)::Jl2 n xs (i+1)
def Jqc (n:Nat):List Str→Nat→List DLin
 | [],_=>[]
 | _::xs,i=>J2k i n::Jqc n xs (i+1)
theorem Je8 {n:Nat} : ∀ {xs:List Str}{i:Nat},J1a (Jl2 n xs i)=xs
 | [],_=>rfl
 | x::xs,i=>by
  have:=Je8 (n:=n) (xs:=xs) (i:=i+1)
  unfold J1a at this ⊢
  simp [Jl2,this]
theorem Jgp {n:Nat} : ∀ {xs:List Str}{i:Nat}{e:Str×DLin},e∈Jl2 n xs i→∃ j,i≤j∧j<i+xs.length∧e.2=J2k j n
 | [],_,_,h=>by cases h
 | x::xs,i,e,h=>by
  rcases List.mem_cons.1 h with rfl|h
  ·exact ⟨i,Nat.le_refl _,by simp,rfl⟩
  ·obtain ⟨j,h1,h2,h3⟩:=Jgp h
   exact ⟨j,by omega,by simp;omega,h3⟩
theorem Jol {n:Nat}(hn:n≤8) {xs:List Str}(h:xs.length≤n):Jkx n (Jl2 n xs 0):=by
 intro e he
 obtain ⟨j,_,h2,h3⟩:=Jgp he
 rw [h3]
 exact ⟨J9c hn (by omega),by omega⟩
theorem Jp4 {n:Nat}{xs:List Str}(h:xs.length≤2):Jqc n xs 0=(List.range xs.length).map fun i:Nat=>J2k i n:=by
 match xs,h with
 | [],_=>rfl
 | [_],_=>simp [Jqc,List.range_succ]
 | [_,_],_=>simp [Jqc,List.range_succ]
theorem Jd9 (E:SEnv) (x:Str) (l:DLin):J1a (E++[(x,l)])=J1a E++[x]:=by simp [J1a]
theorem Jgx {n:Nat} : ∀ {xs:List Str}{a b:MS},a.E=b.E→a.nx=b.nx→a.pars=b.pars→a.args=b.args→xs.Nodup→(∀ x∈xs,x∉J1a a.E) →
 (xs.foldl (Jaf n) a).E=a.E++Jl2 n xs a.nx∧(xs.foldl (J91 n) b).E=a.E++Jl2 n xs a.nx∧(xs.foldl (Jaf n) a).nx=a.nx+xs.length∧(xs.foldl (Jaf n) a).pars=a.pars++Jqc n xs a.nx∧(xs.foldl (J91 n) b).pars=a.pars++Jqc n xs a.nx ∧
 (xs.foldl (Jaf n) a).args=a.args∧(xs.foldl (J91 n) b).args=a.args∧(xs.foldl (Jaf n) a).rows=a.rows++Jcy n xs a.nx∧(xs.foldl (J91 n) b).rows=b.rows
 | [],a,b,h1,h2,h3,h4,_,_=>by simp [Jl2,Jqc,Jcy,h1,h3,h4]
 | x::xs,a,b,h1,h2,h3,h4,hd,hk=>by
  obtain ⟨hx,hd'⟩:=List.nodup_cons.1 hd
  have he:=Jao (l:=J2k a.nx n) (hk x List.mem_cons_self)
  simp only [List.foldl_cons]
  have ih:=Jgx (n:=n) (xs:=xs) (a:=Jaf n a x) (b:=J91 n b x) (by show Jl6 a.E x (J2k a.nx n)=b.E++[(x,J2k b.nx n)];rw [he,h1,h2]) (by simp [Jaf,J91,h2]) (by simp [Jaf,J91,h2,h3]) (by simp [Jaf,J91,h4]) hd' (by
   intro y hy
   have:(Jaf n a x).E=a.E++[(x,J2k a.nx n)]:=he
   rw [this,Jd9]
   intro hm
   rcases List.mem_append.1 hm with hm|hm
   ·exact hk y (List.mem_cons_of_mem _ hy) hm
   ·simp at hm;subst hm;exact hx hy)
  obtain ⟨g1,g2,g3,g4,g5,g6,g7,g8,g9⟩:=ih
  refine ⟨?_,?_,?_,?_,?_,?_,?_,?_,?_⟩
  ·rw [g1];simp [Jaf,he,Jl2]
  ·rw [g2];simp [Jaf,he,Jl2]
  ·rw [g3];simp [Jaf];omega
  ·rw [g4];simp [Jaf,Jqc]
  ·rw [g5];simp [Jaf,Jqc]
  ·rw [g6];rfl
  ·rw [g7];rfl
  ·rw [g8];simp [Jaf,Jcy]
  ·rw [g9];rfl
theorem Jmr {n j:Nat}(hn:n≤8) (hj:j<n):(J7h (J2k j n) (-1)).getD J1d=J4k (J2k j n) 1:=by
 rw [Je1 hn hj]
 have h1:J1c ⟨0,(List.replicate n 0).set j 1⟩ (((List.replicate n (0:Int)).set j 1).length:Nat)=true:=by
  unfold J1c
  simp only [Bool.and_eq_true,decide_eq_true_eq,List.all_eq_true]
  refine ⟨⟨⟨by simp [inR];omega,by simp⟩,by decide⟩,?_⟩
  intro y hy
  rcases List.mem_or_eq_of_mem_set hy with hy|rfl
  ·rw [(List.mem_replicate.1 hy).2];decide
  ·decide
 unfold J7h J4k
 simp only [h1]
 have h2:Jcf 0 (-1)=(-1,true):=by decide
 have h3:IntKind.i64.wrap (0 - 1) = -1:=by decide
 simp only [h2,h3]
 simp
theorem Jh6 {n:Nat}(hn:n≤8) {ps:List Str}(hps:ps.length≤n):∀ {qs:List DPattern}{a:MS}{F:SEnv},a.E=Jl2 n ps 0++F→(∀ q∈qs,q.Lst∈ps)→(J9p qs).Nodup→(∀ x∈J9p qs,x∉J1a a.E)→a.nx+J34 qs≤n→Jkx n a.E →
 qs.foldl (Jbs n) a=qs.foldl (J5a n) a∧J1a (qs.foldl (J5a n) a).E=J1a a.E++J9p qs∧(qs.foldl (J5a n) a).nx=a.nx+J34 qs∧Jkx n (qs.foldl (J5a n) a).E
 | [],a,F,_,_,_,_,_,hE=>by simp [J9p,J34,hE]
 | q::qs,a,F,hF,hl,hd,hk,hx,hE=>by
  have hq:q.Lst∈J1a (Jl2 n ps 0):=by rw [Je8];exact hl q List.mem_cons_self
  obtain ⟨l,hm,hg⟩:=Jea J1d hq
  obtain ⟨j,_,hj,hl2⟩:=Jgp hm
  simp only at hl2
  have hj':j<n:=by omega
  have hget:∀ d F,J2n d (Jl2 n ps 0++F) q.Lst=J2k j n:=fun d F=>by rw [hg,hl2]
  simp only [List.foldl_cons]
  cases hc:q.Cons
  ·have hpn:J9p (q::qs)=J9p qs:=by simp [J9p,hc]
   have hcn:J34 (q::qs)=J34 qs:=by simp [J34,hc]
   rw [hpn] at hd hk ⊢
   rw [hcn] at hx ⊢
   have he:Jbs n a q=J5a n a q:=by
    unfold Jbs J5a
    rw [hc,hF,hget,hget];rfl
   have hsE:(J5a n a q).E=a.E:=by unfold J5a;rw [hc];rfl
   have hsx:(J5a n a q).nx=a.nx:=by unfold J5a;rw [hc];rfl
   rw [he]
   have ih:=Jh6 hn hps (qs:=qs) (a:=J5a n a q) (F:=F) (by rw [hsE,hF]) (fun r hr=>hl r (List.mem_cons_of_mem _ hr)) hd (by rw [hsE];exact hk) (by rw [hsx];exact hx) (by rw [hsE];exact hE)
   rw [hsE,hsx] at ih
   exact ih
  ·have hpn:J9p (q::qs)=q.Head::q.Tail::J9p qs:=by simp [J9p,hc]
   have hcn:J34 (q::qs)=J34 qs+1:=by simp [J34,hc]
   rw [hpn] at hd hk ⊢
   rw [hcn] at hx ⊢
   obtain ⟨d1,hd⟩:=List.nodup_cons.1 hd
   obtain ⟨d2,hd⟩:=List.nodup_cons.1 hd
   simp only [List.mem_cons,not_or] at d1
   have hEh:Jw5 n a q=a.E++[(q.Head,J2k a.nx n)]:=Jao (hk _ List.mem_cons_self)
   have hLI:Jm0 n a q=J4k (J2k j n) 1:=by
    unfold Jm0
    rw [hEh,hF,List.append_assoc,hget]
    exact Jmr hn hj'
   have hLS:Jhz n a q=J4k (J2k j n) 1:=by unfold Jhz;rw [hF,hget]
   have hE2:Jl6 (a.E++[(q.Head,J2k a.nx n)]) q.Tail (J4k (J2k j n) 1)=a.E++[(q.Head,J2k a.nx n),(q.Tail,J4k (J2k j n) 1)]:=by
    rw [Jao,List.append_assoc]
    ·rfl
    ·rw [Jd9]
     intro hm
     rcases List.mem_append.1 hm with hm|hm
     ·exact hk q.Tail (by simp) hm
     ·simp at hm;exact d1.1 hm.symm
   have he:Jbs n a q=J5a n a q:=by
    unfold Jbs J5a
    rw [hc,hLI,hLS,hEh,hE2];rfl
   have hsE:(J5a n a q).E=a.E++[(q.Head,J2k a.nx n),(q.Tail,J4k (J2k j n) 1)]:=by unfold J5a;rw [hc,hLS];rfl
   have hsx:(J5a n a q).nx=a.nx+1:=by unfold J5a;rw [hc];rfl
   have hsk:J1a (J5a n a q).E=J1a a.E++[q.Head,q.Tail]:=by rw [hsE];simp [J1a]
   rw [he]
   have ih:=Jh6 hn hps (qs:=qs) (a:=J5a n a q) (F:=F++[(q.Head,J2k a.nx n),(q.Tail,J4k (J2k j n) 1)]) (by rw [hsE,hF,List.append_assoc]) (fun r hr=>hl r (List.mem_cons_of_mem _ hr)) hd (by
    intro x hxm
    rw [hsk]
    intro hm
    rcases List.mem_append.1 hm with hm|hm
    ·exact hk x (by simp [hxm]) hm
    ·simp at hm
     rcases hm with rfl|rfl
     ·exact d1.2 hxm
     ·exact d2 hxm) (by rw [hsx];omega) (by
    rw [hsE]
    intro e he
    rcases List.mem_append.1 he with he|he
    ·exact hE e he
    ·simp at he
     rcases he with rfl|rfl
     ·exact ⟨J9c hn (by omega),by omega⟩
     ·exact ⟨J9c (i:=j) hn hj',by omega⟩)
   obtain ⟨g1,g2,g3,g4⟩:=ih
   refine ⟨g1,?_,?_,g4⟩
   ·rw [g2,hsk,List.append_assoc];rfl
   ·rw [g3,hsx];omega
def Jsx (K:List Str) (a:DArg):Prop:=(∀ s∈a.Heads,∀ t∈s.Terms,t.Name∈K)∧(a.Base≠[]→a.Base∈K)
def Jjf (p:DProgram) (K:List Str):List DCall→Prop
 | []=>True
 | c::cs=>(∀ a∈c.Args,Jsx K a)∧((J1p p.Functions c.Func).getD fn0).ListResult=J0l c.Bind∧c.Bind∉K∧Jjf p (K++[c.Bind]) cs
theorem Jhx {p:DProgram}{n:Nat}(hn:n≤8):∀ {cs:List DCall}{a:MS},Jjf p (J1a a.E) cs→a.nx+cs.length≤n→Jkx n a.E →
 cs.foldl (Jer p n) a=cs.foldl (J5g n) a∧J1a (cs.foldl (J5g n) a).E=J1a a.E++cs.map (·.Bind)∧Jkx n (cs.foldl (J5g n) a).E
 | [],a,_,_,hE=>by simp [hE]
 | c::cs,a,h,hx,hE=>by
  obtain ⟨h1,h2,h3,h4⟩:=h
  simp only [List.length_cons] at hx
  simp only [List.foldl_cons]
  have hb:Jl6 a.E c.Bind (J2k a.nx n)=a.E++[(c.Bind,J2k a.nx n)]:=Jao h3
  have ha:c.Args.map (Jfx a.E n)=c.Args.map (Jf4 a.E n):=List.map_congr_left fun x hx=>Jtj hE (h1 x hx)
  have he:Jer p n a c=J5g n a c:=by
   unfold Jer J5g
   rw [hb,ha,h2]
  have hsE:(J5g n a c).E=a.E++[(c.Bind,J2k a.nx n)]:=rfl
  rw [he]
  have ih:=Jhx (p:=p) hn (cs:=cs) (a:=J5g n a c) (by rw [hsE,Jd9];exact h4) (by show a.nx+1+_≤_;omega) (by
   rw [hsE]
   intro e he
   rcases List.mem_append.1 he with he|he
   ·exact hE e he
   ·simp at he;subst he;exact ⟨J9c hn (by omega),by omega⟩)
  obtain ⟨g1,g2,g3⟩:=ih
  refine ⟨g1,?_,g3⟩
  rw [g2,hsE,Jd9];simp
theorem Jli {a:DArg}{b:Bool}{K:List Str}(h:J5t a b K=true):Jsx K a:=by
 unfold J5t at h
 simp only [Bool.and_eq_true] at h
 have h2:=h.2
 rw [Jdz] at h2
 unfold Jm9 at h2
 rw [List.all_eq_true] at h2
 have hs:∀ (l:List DSum) (s:DSum),s∈l→∀ t∈s.Terms,t.Name∈J9k l:=by
  intro l
  induction l with
  | nil=>intro s hs;cases hs
  | cons x l ih=>
   intro s hs t ht
   simp only [J9k]
   rcases List.mem_cons.1 hs with rfl|hs
   ·exact List.mem_append_left _ (List.mem_map.2 ⟨t,ht,rfl⟩)
   ·exact List.mem_append_right _ (ih s hs t ht)
 refine ⟨fun s hs' t ht=>Jah.1 (h2 _ ?_),fun hb=>Jah.1 (h2 _ ?_)⟩
 ·exact List.mem_append_left _ (hs _ s hs' t ht)
 ·refine List.mem_append_right _ ?_
  rw [if_neg hb];exact List.mem_cons_self
theorem Jfw {K:List Str} : ∀ {l:List DArg}{m:List Str},J7r K l m=true→l.length=m.length→∀ a∈l,∃ b,J5t a b K=true
 | [],_,_,_,_,h=>by cases h
 | a::l,[],_,hl,_,_=>by simp at hl
 | a::l,s::m,h,hl,x,hx=>by
  simp only [J7r,Bool.and_eq_true] at h
  rcases List.mem_cons.1 hx with rfl|hx
  ·exact ⟨_,h.1⟩
  ·exact Jfw h.2 (by simpa using hl) x hx
theorem Jl8 {p:DProgram}{c:DCall}{K:List Str}(h:Jaz p c K=true):(∀ a∈c.Args,∃ b,J5t a b K=true)∧((J1p p.Functions c.Func).getD fn0).ListResult=J0l c.Bind:=by
 unfold Jaz at h
 simp only [Bool.and_eq_true,decide_eq_true_eq] at h
 obtain ⟨⟨⟨_,h1⟩,h2⟩,h3⟩:=h
 refine ⟨Jfw h3 h1,?_⟩
 cases hr:((J1p p.Functions c.Func).getD fn0).ListResult
 ·rw [hr] at h2
  simp only [Bool.false_eq_true,if_false,J28,Bool.and_eq_true,Bool.not_eq_true'] at h2
  exact h2.2.symm
 ·rw [hr] at h2
  simp only [if_true] at h2
  exact h2.symm
theorem J9e {p:DProgram}{r:DRule}{f:DFunction}(hf:J1p p.Functions r.Func=some f) {k:Nat}(hk:k≤r.Calls.length):J1j p r k=f.Params++J9p r.Patterns++(r.Calls.take k).map (·.Bind):=by
 unfold J1j
 rw [hf]
 rw [if_pos (by simp [inR];omega)];simp
theorem Jck {p:DProgram}{r:DRule}{f:DFunction}(hf:J1p p.Functions r.Func=some f) (hd:(f.Params++J9p r.Patterns++r.Calls.map (·.Bind)).Nodup) :
 ∀ {m k:Nat},k+m=r.Calls.length→J2y p r k (r.Calls.drop k)=true→Jjf p (J1j p r k) (r.Calls.drop k)
 | 0,k,hm,_=>by rw [List.drop_eq_nil_of_le (by omega)];trivial
 | m+1,k,hm,h=>by
  have hk:k<r.Calls.length:=by omega
  have hsk:J1j p r (k+1:Nat)=J1j p r k++[(r.Calls[k]).Bind]:=by
   rw [J9e hf (by omega),J9e hf (by omega),List.take_succ_eq_append_getElem hk,List.map_append,←List.append_assoc];rfl
  rw [List.drop_eq_getElem_cons hk] at h ⊢
  simp only [J2y,Bool.and_eq_true] at h
  obtain ⟨g1,g2⟩:=Jl8 h.1
  refine ⟨fun a ha => ?_,g2,?_,?_⟩
  ·obtain ⟨b,hb⟩:=g1 a ha
   exact Jli hb
  ·rw [J9e hf (by omega)]
   intro hmem
   have hsub:(f.Params++J9p r.Patterns++(r.Calls.take k).map (·.Bind)++[(r.Calls[k]).Bind]).Nodup:=by
    refine hd.sublist ?_
    rw [List.append_assoc]
    refine List.Sublist.append_left ?_ _
    have:(r.Calls.take k).map (·.Bind)++[(r.Calls[k]).Bind]=(r.Calls.take (k+1)).map (·.Bind):=by rw [List.take_succ_eq_append_getElem hk,List.map_append];rfl
    rw [this]
    exact (List.take_sublist _ _).map _
   rw [List.nodup_append] at hsub
   exact hsub.2.2 _ hmem _ (by simp) rfl
  ·rw [←hsk]
   exact Jck hf hd (m:=m) (by omega) h.2
theorem Jmt {ps:List Str} : ∀ {qs:List DPattern}{met:List Str},J3e ps met qs=true→(∀ q∈qs,q.Lst∈ps)∧(qs.map (·.Lst)).Nodup∧∀ q∈qs,q.Lst∉met
 | [],_,_=>by simp
 | q::qs,met,h=>by
  simp only [J3e,Bool.and_eq_true,Bool.not_eq_true'] at h
  obtain ⟨⟨h1,h2⟩,h3⟩:=h
  obtain ⟨g1,g2,g3⟩:=Jmt h3
  unfold Jt5 at h1
  simp only [Bool.and_eq_true] at h1
  have h1':=Jah.1 h1.1.1
  have h2':=Jkd.1 h2
  refine ⟨?_,?_,?_⟩
  ·intro x hx
   rcases List.mem_cons.1 hx with rfl|hx
   ·exact h1'
   ·exact g1 x hx
  ·rw [List.map_cons,List.nodup_cons]
   refine ⟨?_,g2⟩
   intro hm
   obtain ⟨y,hy,he⟩:=List.mem_map.1 hm
   exact g3 y hy (by rw [he];simp)
  ·intro x hx
   rcases List.mem_cons.1 hx with rfl|hx
   ·exact h2'
   ·exact fun hm=>g3 x hx (List.mem_append_left _ hm)
theorem Jni {p:DProgram}{name:Str}{f:DFunction}(hp:J4c p=true) (hf:J1p p.Functions name=some f):f.Params.length≤2∧f.Params.Nodup∧(∀ l∈f.Pre,J1c l f.Params.length=true)∧f.Pre.length≤2:=by
 unfold J4c at hp
 simp only [Bool.and_eq_true,Jbt,List.all_eq_true] at hp
 have:=hp.1.1.2.1 f (List.mem_of_find?_eq_some hf)
 unfold Jjj J7x at this
 simp only [Bool.and_eq_true,decide_eq_true_eq,List.all_eq_true] at this
 obtain ⟨⟨⟨⟨_,h2⟩,_,h3⟩,h4⟩,h5⟩:=this
 exact ⟨h2,(Jjm h3).1,h5,h4⟩
structure RuleIn (p:DProgram) (r:DRule) (f:DFunction):Prop where
 par:f.Params.length≤2
 pre:∀ l∈f.Pre,J1c l f.Params.length=true
 npre:f.Pre.length≤2
 pats:∀ q∈r.Patterns,q.Lst∈f.Params
 npats:r.Patterns.length≤f.Params.length
 nd:(f.Params++J9p r.Patterns++r.Calls.map (·.Bind)).Nodup
 ncalls:r.Calls.length≤2
 nguards:r.Guards.length≤2
 guards:∀ g∈r.Guards,J3p (f.Params++J9p r.Patterns) g=true
 calls:J2y p r 0 r.Calls=true
 res:J5t r.Result f.ListResult (f.Params++J9p r.Patterns++r.Calls.map (·.Bind))=true
theorem Jjk {p:DProgram}{r:DRule}(hp:J4c p=true) (hr:r∈p.Rules):∃ f,J1p p.Functions r.Func=some f∧RuleIn p r f:=by
 have hp':=hp
 unfold J4c at hp'
 simp only [Bool.and_eq_true,List.all_eq_true] at hp'
 have h:=hp'.2 r hr
 unfold J7v at h
 simp only [Bool.and_eq_true,decide_eq_true_eq] at h
 obtain ⟨⟨⟨⟨⟨⟨⟨g1,g2⟩,g3⟩,g4⟩,g5⟩,g6⟩,g7⟩,g8⟩:=h
 obtain ⟨f,hf⟩:=Option.isSome_iff_exists.1 g1
 rw [hf] at g2 g7
 simp only [Option.getD_some] at g2 g7
 obtain ⟨k1,k2,k3,k4⟩:=Jni hp hf
 obtain ⟨q1,q2,_⟩:=Jmt g2
 have hs0:=J9e (p:=p) (r:=r) hf (k:=0) (Nat.zero_le _)
 have hsa:=J9e (p:=p) (r:=r) hf (k:=r.Calls.length) (Nat.le_refl _)
 rw [List.take_length] at hsa
 simp only [List.take_zero,List.map_nil,List.append_nil] at hs0
 rw [hsa] at g7 g8
 rw [show ((0:Nat):Int)=0 from rfl] at hs0
 rw [hs0,List.all_eq_true] at g4
 refine ⟨f,hf,k1,k3,k4,q1,?_,(Jjm g8).1,g5,g3,g4,g6,g7⟩
 have:=Jp0 q2 (N:=f.Params) (by
  intro x hx
  obtain ⟨q,hq,rfl⟩:=List.mem_map.1 hx
  exact q1 q hq)
 simpa using this
theorem Jku (l:List DPattern):J34 l≤l.length:=List.length_filter_le _ _
theorem RuleIn.size {p:DProgram}{r:DRule}{f:DFunction}(R:RuleIn p r f):J14 r f≤6:=by
 have:=Jku r.Patterns
 have:=R.par;have:=R.npats;have:=R.ncalls
 unfold J14;omega
theorem Jqg {p:DProgram}{r:DRule}{f:DFunction}(hf:J1p p.Functions r.Func=some f) (R:RuleIn p r f):Jkp p r f=some (J68 r f):=by
 have h6:=R.size
 have hn:J14 r f≤8:=by omega
 have hpn:f.Params.length≤J14 r f:=by unfold J14;omega
 have hd:=R.nd
 rw [List.append_assoc,List.nodup_append] at hd
 obtain ⟨hd1,hd2,hd3⟩:=hd
 rw [List.nodup_append] at hd2
 obtain ⟨hd4,hd5,hd6⟩:=hd2
 obtain ⟨a1,a2,a3,a4,a5,a6,a7,a8,a9⟩:=Jgx (n:=J14 r f) (xs:=f.Params) (a:=⟨[],0,[],[],[]⟩) (b:=⟨[],0,Jd6 f (J14 r f),[],[]⟩) rfl rfl rfl rfl hd1 (by simp [J1a])
 simp only [List.nil_append,Nat.zero_add] at a1 a2 a3 a4 a5 a6 a7 a8 a9
 have hpre:K04 (st1 r f).pars (J14 r f) f.Pre=some (f.Pre.map (J3u (J14 r f))):=by
  refine Jjx fun l hl => ?_
  unfold st1
  rw [a4,Jp4 R.par]
  exact Jik R.par hpn hn (R.pre l hl)
 unfold Jkp J68
 rw [hpre]
 simp only
 have e1:(⟨(st1 r f).E,(st1 r f).nx,(st1 r f).rows++f.Pre.map (J3u (J14 r f)),(st1 r f).pars,(st1 r f).args⟩:MS)=Jbl (ss1 r f) f.Params.length:=by
  unfold st1 ss1 Jbl
  rw [a1,a2,a3,a4,a5,a6,a7,a8,a9];rfl
 have b0:(Jbl (ss1 r f) f.Params.length).E=Jl2 (J14 r f) f.Params 0++[]:=by rw [List.append_nil];exact a2
 have b1:J1a (Jbl (ss1 r f) f.Params.length).E=f.Params:=by rw [b0,List.append_nil,Je8]
 have b2:Jkx (J14 r f) (Jbl (ss1 r f) f.Params.length).E:=by rw [b0,List.append_nil];exact Jol hn hpn
 obtain ⟨c1,c2,c3,c4⟩:=Jh6 hn hpn (qs:=r.Patterns) (a:=Jbl (ss1 r f) f.Params.length) b0 R.pats hd4 (by
  rw [b1];intro x hx hm;exact hd3 x hm x (List.mem_append_left _ hx) rfl) (by show f.Params.length+J34 r.Patterns≤J14 r f;unfold J14;omega) b2
 rw [b1] at c2
 have e3:st3 r f (f.Pre.map (J3u (J14 r f)))=ss3 r f:=by unfold st3 ss3;rw [e1,c1]
 have hg:r.Guards.map (Jfv (ss3 r f).E (J14 r f))=r.Guards.map (Jdb (ss3 r f).E (J14 r f)):=by
  refine List.map_congr_left fun g hg=>Jt9 c4 fun t ht => ?_
  have:=R.guards g hg
  unfold J3p Jm9 at this
  simp only [Bool.and_eq_true,List.all_eq_true] at this
  have:=Jah.1 (this.2 t.Name (List.mem_map.2 ⟨t,ht,rfl⟩))
  show t.Name∈J1a (ss3 r f).E
  unfold ss3;rw [c2];exact this
 have e4:J0u (ss3 r f) (r.Guards.map (Jfv (ss3 r f).E (J14 r f)))=J0u (Jbl (ss3 r f) (f.Params.length+J34 r.Patterns)) (r.Guards.map (Jdb (ss3 r f).E (J14 r f))):=by
  rw [hg]
  unfold J0u Jbl
  have:(ss3 r f).nx=f.Params.length+J34 r.Patterns:=c3
  rw [this]
 have hk0:J1a (J0u (Jbl (ss3 r f) (f.Params.length+J34 r.Patterns)) (r.Guards.map (Jdb (ss3 r f).E (J14 r f)))).E=f.Params++J9p r.Patterns:=c2
 have hci:=Jck (p:=p) (r:=r) hf R.nd (m:=r.Calls.length) (k:=0) (by omega) R.calls
 have hs0:=J9e (p:=p) (r:=r) hf (k:=0) (Nat.zero_le _)
 simp only [List.take_zero,List.map_nil,List.append_nil] at hs0
 rw [hs0,List.drop_zero] at hci
 obtain ⟨d1,d2,d3⟩:=Jhx (p:=p) hn (cs:=r.Calls) (a:=J0u (Jbl (ss3 r f) (f.Params.length+J34 r.Patterns)) (r.Guards.map (Jdb (ss3 r f).E (J14 r f)))) (by rw [hk0];exact hci) (by
  show f.Params.length+J34 r.Patterns+r.Calls.length≤J14 r f;unfold J14;omega) c4
 have e5:st5 p r f (f.Pre.map (J3u (J14 r f)))=ss5 r f:=by unfold st5 ss5;rw [e3,e4,d1]
 rw [e5]
 have er:Jfx (ss5 r f).E (J14 r f) r.Result=Jf4 (ss5 r f).E (J14 r f) r.Result:=by
  refine Jtj d3 ?_
  have h1:=Jli R.res
  have h2:J1a (ss5 r f).E=f.Params++J9p r.Patterns++r.Calls.map (·.Bind):=by unfold ss5;rw [d2,hk0]
  rw [←h2] at h1
  exact h1
 rw [er]
def a206:AFn:= ⟨34,[(.c 6 true 2)],(.seq (.reg [Zo 4 (.boxv (.t 1)),Zo 6 (.box [(.int .i64 0),(.nil 1)])]) (.seq (.reg [Zf 10 0 4,Zl 11 false 1 10,Zv 12 2,Zc 13 178 [.t 11,.t 12],Zo 7 (.box [(.int .i64 0),(.nil 1)]),⟨no,.st 2 (.t 7) (.t 13),no⟩]) (.seq (.seq (.reg [Zf 14 1 4,Zl 15 false 1 14,Zo 16 (.len false (.t 15)),Zo 17 (.mv (.k (.int .i64 0)))]) (.blk 0 (.loop (.seq (.reg [Zo 18 (.bin .lss (.t 17) (.t 16))]) (.seq (.cond (.t 18) .skip (.exit 0)) (.seq (.blk 1 (.seq (.reg [Zo 19 (.ixa 2 (.t 15) (.t 17)),Zl 20 true 2 19,Zo 9 (.box [(.int .i64 0),(.str [])]),⟨no,.st 2 (.t 9) (.t 20),no⟩]) (.reg [Zl 22 true 2 7,Zf 23 0 9,Zl 24 false 1 23,Zv 25 0,Zf 26 1 9,Zl 27 false 1 26,Zo 28 (.mget (.agg [(.int .i64 0),(.nil 1)]) (.t 25) (.t 27)),Zc 29 193 [.t 22,.t 24,.t 28],Zv 21 29,Zo 30 (.ext (.t 21) 0),Zo 31 (.ext (.t 21) 1),⟨no,.st 2 (.t 7) (.t 30),no⟩]))) (.reg [Zo 32 (.bin .add (.t 17) (.k (.int .i64 1))),Zv 17 32]))))))) (.seq (.reg [Zl 33 true 2 7,⟨no,.st 2 (.t 6) (.t 33),no⟩]) .ret))))⟩
theorem a206_ok:J0a Tryz.prog Tryz.f206=some a206:=by kernel_rfl
def a207:AFn:= ⟨36,[(.c 6 true 2)],(.seq (.reg [Zo 4 (.boxv (.t 1)),Zo 6 (.box [(.int .i64 0),(.nil 1)])]) (.seq (.seq (.reg [Zf 8 0 4,Zl 9 false 1 8,Zo 10 (.un .not (.t 9))]) (.cond (.t 10) (.seq (.reg [Zv 11 0,Zf 12 1 4,Zl 13 false 1 12,Zo 14 (.ixa 2 (.t 13) (.k (.int .i64 0))),Zl 15 true 2 14,Zv 16 2,Zc 17 206 [.t 11,.t 15,.t 16],⟨no,.st 2 (.t 6) (.t 17),no⟩]) .ret) .skip)) (.seq (.reg [Zf 18 1 4,Zl 19 false 1 18,Zo 20 (.len false (.t 19)),Zv 21 2,Zc 22 178 [.t 20,.t 21],Zo 7 (.box [(.int .i64 0),(.nil 1)]),⟨no,.st 2 (.t 7) (.t 22),no⟩]) (.seq (.seq (.reg [Zf 23 2 4,Zl 24 false 1 23,Zo 25 (.bin .neq (.t 24) (.k (.str [])))]) (.cond (.t 25) (.reg [Zl 27 true 2 7,Zv 28 0,Zf 29 2 4,Zl 30 false 1 29,Zo 31 (.mget (.agg [(.int .i64 0),(.nil 1)]) (.t 28) (.t 30)),Zc 32 193 [.t 27,(.k (.int .i64 1)),.t 31],Zv 26 32,Zo 33 (.ext (.t 26) 0),Zo 34 (.ext (.t 26) 1),⟨no,.st 2 (.t 7) (.t 33),no⟩]) .skip)) (.seq (.reg [Zl 35 true 2 7,⟨no,.st 2 (.t 6) (.t 35),no⟩]) .ret)))))⟩
theorem a207_ok:J0a Tryz.prog Tryz.f207=some a207:=by kernel_rfl
theorem Jdn {P:Program}{f:FuncId}{xs:List AV}{h:Heap}{n:Nat}{K:AV→Heap→Nat→Prop}
 (hA:J30 P f xs h n fun r h' n'=>(∀ id,id<n→h' id=h id)∧K r h' n'):J30 P f xs h n (hK h K):=by
 refine ⟨hA.1,fun base w0 w L F vs H hv => ?_⟩
 refine (hA.2 base w0 w L F vs H hv).mono ?_
 rintro e w' ⟨v,r,L',n',F',h',rfl,H',hx,hr,hh,hk⟩
 refine ⟨v,r,L',n',F',h',rfl,H',hx,hr,fun id B hB => ?_,hk⟩
 have hlt:id<n:=by
  cases hl:L id with
  | none=>rw [H.mod id hl] at hB;cases hB
  | some l=>exact H.lt id l hl
 rw [hh id hlt];exact hB
def Jij (l:DLin) (q:Nat):AV := .agg [i64 l.Const,.ref q 0 l.Coeffs.length]
structure Ent where
 k:Str
 l:DLin
 q:Nat
def Ent.row (e:Ent):List AV:=[.str e.k,Jij e.l e.q]
def Jjc (es:List Ent):SEnv:=es.map fun e=>(e.k,e.l)
def J9s:List Ent→Str→DLin→Nat→List Ent
 | [],k,l,q=>[⟨k,l,q⟩]
 | e::es,k,l,q=>if e.k=k then ⟨k,l,q⟩::es else e::J9s es k l q
theorem Jko {k:Str}{l:DLin}{q:Nat} : ∀ {es:List Ent},Jjc (J9s es k l q)=Jl6 (Jjc es) k l
 | []=>rfl
 | e::es=>by
  have ih:=Jko (k:=k) (l:=l) (q:=q) (es:=es)
  simp only [J9s,Jjc,List.map_cons,Jl6] at ih ⊢
  split
  ·rfl
  ·rw [List.map_cons,ih]
theorem Jeg {k:Str}{l:DLin}{q:Nat} : ∀ {es:List Ent},Jn6 (es.map Ent.row) k (Jij l q)=(J9s es k l q).map Ent.row
 | []=>rfl
 | e::es=>by
  have ih:=Jeg (k:=k) (l:=l) (q:=q) (es:=es)
  simp only [List.map_cons,Ent.row,Jn6,J9s] at ih ⊢
  split
  ·rfl
  ·simp only [List.map_cons,Ent.row,List.cons.injEq,true_and];exact ih
theorem Jf3 {k:Str}{l:DLin}{q:Nat} : ∀ {es:List Ent}{e:Ent},e∈J9s es k l q→e∈es∨e=⟨k,l,q⟩
 | [],e,h=>by simp [J9s] at h;exact .inr h
 | a::es,e,h=>by
  simp only [J9s] at h
  split at h
  ·rcases List.mem_cons.1 h with h|h
   ·exact .inr h
   ·exact .inl (List.mem_cons_of_mem _ h)
  ·rcases List.mem_cons.1 h with rfl|h
   ·exact .inl List.mem_cons_self
   ·rcases Jf3 h with h|h
    ·exact .inl (List.mem_cons_of_mem _ h)
    ·exact .inr h
theorem Jbr {k:Str} : ∀ {es:List Ent},(Ja2 (es.map Ent.row) k=Option.none∧∀ d,J2n d (Jjc es) k=d)∨∃ e∈es,Ja2 (es.map Ent.row) k=some (Jij e.l e.q)∧∀ d,J2n d (Jjc es) k=e.l
 | [] => .inl ⟨rfl,fun _=>rfl⟩
 | a::es=>by
  simp only [List.map_cons,Ent.row,Ja2,Jjc,J2n,List.find?_cons]
  by_cases h:a.k=k
  ·exact .inr ⟨a,List.mem_cons_self,by rw [if_pos h],fun d=>by simp [h]⟩
  ·rw [if_neg h]
   have hb:(a.k==k)=false:=by simpa using h
   rcases Jbr (k:=k) (es:=es) with ⟨h1,h2⟩|⟨e,he,h1,h2⟩
   ·exact .inl ⟨h1,fun d=>by rw [hb];exact h2 d⟩
   ·exact .inr ⟨e,List.mem_cons_of_mem _ he,h1,fun d=>by rw [hb];exact h2 d⟩
def Jax (d:Nat) (E:SEnv) (h:Heap) (n:Nat):Prop:=∃ es:List Ent,Jjc es=E∧h d=some ⟨true,0,es.map Ent.row⟩∧∀ e∈es,e.q<n∧h e.q=some ⟨false,1,J0e e.l.Coeffs⟩
theorem Jax.keep {d:Nat}{E:SEnv}{h h':Heap}{n n':Nat}(M:Jax d E h n) (hd:d<n) (hn:n≤n') (hh:∀ id,id<n→h' id=h id):Jax d E h' n':=by
 obtain ⟨es,h1,h2,h3⟩:=M
 exact ⟨es,h1,by rw [hh d hd,h2],fun e he=>⟨by have:=(h3 e he).1;omega,by rw [hh _ (h3 e he).1];exact (h3 e he).2⟩⟩
theorem Jax.get {d:Nat}{E:SEnv}{h:Heap}{n:Nat}(M:Jax d E h n) (x:Str):∃ rows w,h d=some ⟨true,0,rows⟩∧(Ja2 rows x).getD (.agg [.int .i64 0,.nil 1]) = .agg [.int .i64 (J2n J1d E x).Const,w]∧bw w h=some (.sl 1 (J0e (J2n J1d E x).Coeffs)):=by
 obtain ⟨es,rfl,h2,h3⟩:=M
 refine ⟨es.map Ent.row,?_⟩
 rcases Jbr (k:=x) (es:=es) with ⟨g1,g2⟩|⟨e,he,g1,g2⟩
 ·exact ⟨.nil 1,h2,by rw [g1,g2];rfl,by rw [g2];rfl⟩
 ·refine ⟨.ref e.q 0 e.l.Coeffs.length,h2,by rw [g1,g2];rfl,?_⟩
  rw [g2]
  simp [bw,(h3 e he).2]
theorem Jax.get2 {d:Nat}{E:SEnv}{h:Heap}{n:Nat}(M:Jax d E h n) (x:Str):∃ rows w,h d=some ⟨true,0,rows⟩∧(Ja2 rows x).getD (.agg [.int .i64 0,.nil 1]) = .agg [.int .i64 (J2n J1d E x).Const,w] ∧
 ((w = .nil 1∧(J2n J1d E x).Coeffs=[])∨∃ q,q<n∧w = .ref q 0 (J2n J1d E x).Coeffs.length∧h q=some ⟨false,1,J0e (J2n J1d E x).Coeffs⟩):=by
 obtain ⟨es,rfl,h2,h3⟩:=M
 refine ⟨es.map Ent.row,?_⟩
 rcases Jbr (k:=x) (es:=es) with ⟨g1,g2⟩|⟨e,he,g1,g2⟩
 ·exact ⟨.nil 1,h2,by rw [g1,g2];rfl,.inl ⟨rfl,by rw [g2];rfl⟩⟩
 ·refine ⟨.ref e.q 0 e.l.Coeffs.length,h2,by rw [g1,g2];rfl,.inr ⟨e.q,(h3 e he).1,by rw [g2],by rw [g2];exact (h3 e he).2⟩⟩
theorem Jc1 {d:Nat}{E:SEnv}{h:Heap}{n N:Nat}{s:DSum}(hs:s.Terms.length≤1048576) (M:Jax d E h n) (hd:d<n) {K:AV→Heap→Nat→Prop}
 (hK:∀ q h' n',n≤q→q<n'→(∀ id,id<n→h' id=h id)→h' q=some ⟨false,1,J0e (Jfv E N s).Coeffs⟩→K (Jij (Jfv E N s) q) h' n') :
 J30 Tryz.prog 206 [.mp d,.agg (J1g s),i64 N] h n K:=by
 refine J1z Tryz.func206 a206_ok rfl (by simp [a206]) ?_
 have z0:¬n=n+1:=by omega
 have z1:¬n+1=n:=by omega
 have z2:¬n=n+1+1:=by omega
 have z3:¬n=n+1+1+1:=by omega
 have z4:¬n+1=n+1+1:=by omega
 have z5:¬n+1=n+1+1+1:=by omega
 have z6:¬n+1+1=n:=by omega
 have z7:¬n+1+1+1=n:=by omega
 simp [a206,J1g]
 first|refine J00 (J11 s.Const N) (by first|simp;done|rfl) ?_|refine J01 (J11 s.Const N) (by first|simp;done|rfl) ?_
 rintro r rfl
 simp [J07,J1g,z0,z1,z2,z3,z4,z5,z6,z7]
 intro _
 unfold Jfv at hK
 generalize hT:s.Terms.foldl (fun o t=>J7z o t.Coeff (J2n J1d E t.Name)) (J04 s.Const N)=T at hK
 refine J0k [0,2,4,6,7,15,16] 17 s.Terms.length (fun i st h' m=>n+3<m∧(∀ id,id<n→h' id=h id)∧h' n=some ⟨true,2,[[.int .i64 s.Const,.sl 2 (s.Terms.map J10)]]⟩∧h' (n+1)=some ⟨true,2,[[.int .i64 0,.nil 1]]⟩ ∧
  ∃ (o:DLin) (q:Nat),h' (n+3)=some ⟨true,2,[[.int .i64 o.Const,.ref q 0 o.Coeffs.length]]⟩∧h' q=some ⟨false,1,J0e o.Coeffs⟩∧(q=n+2∨n+3<q)∧q<m∧(s.Terms.drop i).foldl (fun o t=>J7z o t.Coeff (J2n J1d E t.Name)) o=T) (by unfold LIM;omega) (by simp) ?_ ?_ ?_
 ·refine ⟨by omega,?_,by simp [z0,z1,z2,z3,z4,z5,z6,z7],by simp [z0,z1,z2,z3,z4,z5,z6,z7],J04 s.Const N,n+2,by simp [z0,z1,z2,z3,z4,z5,z6,z7],by simp,.inl rfl,by omega,hT⟩
  intro id hid
  have y0:¬id=n:=by omega
  have y1:¬id=n+1:=by omega
  have y2:¬id=n+1+1:=by omega
  have y3:¬id=n+1+1+1:=by omega
  have y4:¬id=n+2:=by omega
  have y5:¬id=n+3:=by omega
  simp [y0,y1,y2,y3,y4,y5]
 ·rintro i st h' m R hi hg hk s17 hw ⟨hm,hfr,e0,e1,o,q,eb,eq,hq,hqm,hJ⟩ hR _ _
  simp at hk
  rw [List.drop_eq_getElem_cons hi,List.foldl_cons] at hJ
  refine J0g [0,2,4,6,7,15,16,17] (fun s=>s 18 = .bool true) (by simp [hk,s17,hi]) ?_
  intro st1 hk1 s18
  simp at hk1
  refine J2m s18 (J09 (J0t ?_))
  refine J17 [0,2,4,6,7,15,16,17] (fun st2 h2 m2=>m2=m+1∧st2 9 = .ptr m 0 0∧h2 m=some ⟨true,2,[J10 s.Terms[i]]⟩∧∀ id,id<m→h2 id=h' id) ?_ ?_
  ·simp [hk1,hk,s17,hi,J10]
   intro id hid
   have:¬id=m:=by omega
   simp [this]
  rintro st2 h2 m2 hk2 ⟨rfl,s9,em,hfr2⟩
  simp at hk2
  have M2:Jax d E h2 (m+1):=M.keep hd (by omega) fun id hid=>by rw [hfr2 id (by omega),hfr id hid]
  obtain ⟨rows,w,hdr,hv,hbw⟩:=M2.get (s.Terms[i]).Name
  have eb2:=hfr2 (n+3) (by omega)
  have eq2:=hfr2 q (by omega)
  rw [eb] at eb2
  rw [eq] at eq2
  simp [hk2,hk1,hk,s17,s9,em,eb2,J10,hdr,hv]
  first|refine J00 (J0q o (s.Terms[i]'hi).Coeff (J2n J1d E (s.Terms[i]'hi).Name)) (by first|simp [J06,eq2,hbw];done|rfl) ?_|refine J01 (J0q o (s.Terms[i]'hi).Coeff (J2n J1d E (s.Terms[i]'hi).Name)) (by first|simp [J06,eq2,hbw];done|rfl) ?_
  rintro r rfl
  rw [J0o]
  have hadd:(J0b o (s.Terms[i]).Coeff (J2n J1d E (s.Terms[i]).Name)).getD J1d=J7z o (s.Terms[i]).Coeff (J2n J1d E (s.Terms[i]).Name):=rfl
  rw [hadd]
  generalize J7z o (s.Terms[i]).Coeff (J2n J1d E (s.Terms[i]).Name)=o' at *
  have b1:¬n+3=m+1:=by omega
  have b2:¬m+1=n+3:=by omega
  have b3:¬n=m+1:=by omega
  have b4:¬n+1=m+1:=by omega
  have b5:¬n+1+1=m:=by omega
  have b6:¬m=n+1+1:=by omega
  have b7:¬m=n+2:=by omega
  have b8:¬n+2=m:=by omega
  simp [hk2,hk1,hk,s17,hw,J07,eb2,b1,b2,b5,b6]
  refine hR _ _ _ (by simp [hk2,hk1,hk]) (by simp) ⟨by omega,?_,?_,?_,o',m+1,by simp,by simp [b2,b6,b7],.inr (by omega),by omega,hJ⟩
  ·intro id hid
   have y0:¬id=n+3:=by omega
   have y1:¬id=m+1:=by omega
   simp [y0,y1,hfr2 id (by omega),hfr id hid]
  ·simp [b3,hfr2 n (by omega),e0,z3]
  ·have:¬n+1=n+3:=by omega
   simp [b4,hfr2 (n+1) (by omega),e1]
   try omega
 ·rintro st h' m R hk s17 ⟨hm,hfr,e0,e1,o,q,eb,eq,hq,hqm,hJ⟩ hret hX
  simp at hk
  rw [List.drop_eq_nil_of_le (by omega)] at hJ
  simp only [List.foldl_nil] at hJ
  subst hJ
  refine J0g [6,7] (fun s=>s 18 = .bool false) (by simp [hk,s17]) ?_
  intro st1 hk1 s18
  simp at hk1
  refine J2g s18 ?_
  refine hX _ _ _ _ ?_
  have c1:¬q=n+1:=by omega
  simp [hk1,hk,eb,e1]
  refine hK q _ _ (by omega) hqm ?_ (by simp [c1,eq])
  intro id hid
  have y0:¬id=n+1:=by omega
  simp [y0,hfr id hid]
theorem Jc6 {d:Nat}{E:SEnv}{h:Heap}{n N:Nat}{a:DArg}(hs:∀ s∈a.Heads,s.Terms.length≤1048576) (hne:a.Lst=false→0<a.Heads.length) (M:Jax d E h n) (hd:d<n) {K:AV→Heap→Nat→Prop}
 (hK:∀ q h' n',n≤q→q<n'→(∀ id,id<n→h' id=h id)→h' q=some ⟨false,1,J0e (Jfx E N a).Coeffs⟩→K (Jij (Jfx E N a) q) h' n') :
 J30 Tryz.prog 207 [.mp d,.agg (J0x a),i64 N] h n K:=by
 refine J1z Tryz.func207 a207_ok rfl (by simp [a207]) ?_
 have z0:¬n=n+1:=by omega
 have z1:¬n+1=n:=by omega
 have z2:¬n=n+1+1:=by omega
 have z3:¬n=n+1+1+1:=by omega
 have z4:¬n+1=n+1+1:=by omega
 have z5:¬n+1=n+1+1+1:=by omega
 have z6:¬n+1+1=n:=by omega
 have z7:¬n+1+1+1=n:=by omega
 unfold Jfx at hK
 have M2:Jax d E (upd (upd h n (some ⟨true,3,[J0x a]⟩)) (n+1) (some ⟨true,2,[[.int .i64 0,.nil 1]]⟩)) (n+2):=M.keep hd (by omega) fun id hid=>by
  have y0:¬id=n:=by omega
  have y1:¬id=n+1:=by omega
  simp [y0,y1]
 cases hL:a.Lst
 ·rw [hL] at hK
  have hz:=hne hL
  obtain ⟨s,l,hsl⟩:∃ s l,a.Heads=s::l:=by
   cases hh:a.Heads with
   | nil=>rw [hh] at hz;cases hz
   | cons s l=>exact ⟨s,l,rfl⟩
  have hs0:=hs s (by rw [hsl];exact List.mem_cons_self)
  simp [hsl] at hK
  simp [a207,J0x,hL,hsl,z0,z1]
  refine Jc1 (E:=E) hs0 (by simpa [J0x,hL,hsl] using M2) (by omega) ?_
  intro q h' n' hq hq' hfr hqb
  have f1:=hfr (n+1) (by omega)
  simp at f1
  simp [Jij,f1]
  have y2:¬q=n+1:=by omega
  refine hK q _ _ (by omega) hq' ?_ (by simp [y2,hqb])
  intro id hid
  have y0:¬id=n:=by omega
  have y1:¬id=n+1:=by omega
  simp [y0,y1,hfr id (by omega)]
 ·rw [hL] at hK
  simp at hK
  simp [a207,J0x,hL,z0,z1]
  intro _
  first|refine J00 (J11 a.Heads.length N) (by first|simp;done|rfl) ?_|refine J01 (J11 a.Heads.length N) (by first|simp;done|rfl) ?_
  rintro r rfl
  obtain ⟨rows,w,hdr,hv,hw⟩:=M.get2 a.Base
  have d0:¬d=n:=by omega
  have d1:¬d=n+1:=by omega
  have d2:¬d=n+1+1:=by omega
  have d3:¬d=n+1+1+1:=by omega
  have d4:¬n+1=n+3:=by omega
  have d5:¬n+1+1=n+3:=by omega
  have fr:∀ id,id<n→¬id=n∧¬id=n+1∧¬id=n+1+1∧¬id=n+1+1+1∧¬id=n+2∧¬id=n+3∧¬id=n+1+1+1+1∧¬id=n+4:=fun id hid=>by omega
  simp [J07,z0,z1,z2,z3,z4,z5,z6,z7]
  constructor
  ·intro hb
   rw [if_neg hb] at hK
   simp [d0,d1,d2,d3,hdr,hv]
   unfold J7z at hK
   rcases hw with ⟨rfl,hc⟩|⟨q,hq,rfl,hqb⟩
   ·have hl:J2n J1d E a.Base=⟨(J2n J1d E a.Base).Const,[]⟩:=by rw [←hc]
    generalize (J2n J1d E a.Base).Const=cc at *
    rw [hl] at hK
    have en:J0e []=[]:=rfl
    first|refine J00 (J0q (J04 a.Heads.length N) 1 ⟨cc,[]⟩) (by first|simp [J06,J07,en,z0,z1,z2,z3,z4,z5,z6,z7];done|rfl) ?_|refine J01 (J0q (J04 a.Heads.length N) 1 ⟨cc,[]⟩) (by first|simp [J06,J07,en,z0,z1,z2,z3,z4,z5,z6,z7];done|rfl) ?_
    rintro r rfl
    rw [J0o]
    generalize (J0b (J04 a.Heads.length N) 1 ⟨cc,[]⟩).getD J1d=o' at *
    simp [J07,z0,z1,z2,z3,z4,z5,z6,z7]
    refine hK (n+4) _ _ (by omega) (by omega) (fun id hid=>by simp [fr id hid]) (by simp)
   ·obtain ⟨q0,q1,q2,q3,q4,q5,q6,q7⟩:=fr q hq
    first|refine J00 (J0q (J04 a.Heads.length N) 1 (J2n J1d E a.Base)) (by first|simp [J06,J07,z0,z1,z2,z3,z4,z5,z6,z7,hqb,q0,q1,q2,q3];done|rfl) ?_|refine J01 (J0q (J04 a.Heads.length N) 1 (J2n J1d E a.Base)) (by first|simp [J06,J07,z0,z1,z2,z3,z4,z5,z6,z7,hqb,q0,q1,q2,q3];done|rfl) ?_
    rintro r rfl
    rw [J0o]
    generalize (J0b (J04 a.Heads.length N) 1 (J2n J1d E a.Base)).getD J1d=o' at *
    simp [J07,z0,z1,z2,z3,z4,z5,z6,z7]
    refine hK (n+4) _ _ (by omega) (by omega) (fun id hid=>by simp [fr id hid]) (by simp)
  ·intro hb
   rw [if_pos hb] at hK
   refine hK (n+2) _ _ (by omega) (by omega) (fun id hid=>by simp [fr id hid]) (by simp)
end Go.Proofs.YtoclolkigjbcgaaGreat
