/- The reference's model: the heap of its loops. -/
import Derived.Test.YtoclolkigjbcgaaGreatWV8
namespace Go.Proofs.YtoclolkigjbcgaaGreat
set_option maxRecDepth 40000
set_option maxHeartbeats 4000000
open Go Go.RowKit Go.Proofs
set_option linter.all false
def lm0:AC:=(.reg [Zo 2 (.boxv (.t 0)),Zo 4 (.box [(.int .i64 0),(.nil 2),(.nil 2),(.nil 1),(.int .i64 0),(.nil 1)])])
def lm1:AC:=(.reg [Zf 23 1 2,Zl 24 false 1 23,Zv 25 1,Zo 26 (.ixa 7 (.t 24) (.t 25)),Zl 27 true 7 26,Zo 5 (.box [(.str []),(.nil 4),(.nil 2),(.nil 3),(.bool false),(.nil 2),(.str [])]),⟨no,.st 7 (.t 5) (.t 27),no⟩])
def lm2:AC:=(.reg [Zl 29 true 2 2,Zf 30 0 5,Zl 31 false 1 30,Zc 32 172 [.t 29,.t 31],Zv 28 32,Zo 33 (.ext (.t 28) 0),Zo 34 (.ext (.t 28) 1),Zo 6 (.box [(.str []),(.nil 1),(.bool false),(.nil 2)]),⟨no,.st 4 (.t 6) (.t 33),no⟩,Zv 7 34])
def lm3:AC:=(.reg [Zf 35 1 6,Zl 36 false 1 35,Zo 37 (.len false (.t 36)),Zv 8 37])
def lm4:AC:=(.draw (.op (Zv 38 8) (.op (Zf 39 1 5) (.op (Zl 40 false 1 39) (.op (Zf 43 3 5) (.op (Zl 44 false 1 43) (.op (Zo 45 (.len false (.t 44))) (.op (Zc 41 265 [.t 40]) (.op (Zo 42 (.bin .add (.t 38) (.t 41))) (.op (Zo 46 (.bin .add (.t 42) (.t 45))) (.op (Zv 9 46) .fin)))))))))))
def lm5:AC:=(.reg [Zv 47 9,Zl 48 true 4 6,Zv 49 9,Zc 50 180 [.t 48,.t 49],Zo 51 (.build [(.int .i64 0),(.nil 2)] [(0,(1,(.t 47))),(1,(1,(.t 50)))]),Zo 52 (.build [(.int .i64 0),(.nil 2),(.nil 2),(.nil 1),(.int .i64 0),(.nil 1)] [(0,(2,(.t 51)))]),Zo 10 (.box [(.int .i64 0),(.nil 2),(.nil 2),(.nil 1),(.int .i64 0),(.nil 1)]),⟨no,.st 6 (.t 10) (.t 52),no⟩])
def lm6:AC:=(.reg [Zo 53 (.build [(.nil 1),(.nil 2)] []),Zo 11 (.box [(.nil 1),(.nil 2)]),⟨no,.st 2 (.t 11) (.t 53),no⟩])
def K7m:AC:=(.draw (.op (Zf 59 0 11) (.op (Zl 60 false 1 59) (.op (Zf 61 1 6) (.op (Zl 62 false 1 61) (.op (Zv 63 12) (.op (Zo 64 (.ixa 1 (.t 62) (.t 63))) (.op (Zl 65 false 1 64) (.hop (Zo 66 (.bsl 1 [.t 65])) [(.ld false 1 (.t 59)),(.fld 0 (.t 11))] (.hop (Zo 67 (.app 16 1 (.t 60) (.t 66))) [] (.op (Zf 68 0 11) (.hop ⟨no,.st 1 (.t 68) (.t 67),no⟩ [] .fin))))))))))))
def K7r:AC:=(.draw (.op (Zf 69 1 11) (.op (Zl 70 false 1 69) (.op (Zv 71 12) (.op (Zv 72 9) (.op (Zc 73 261 [.t 71,.t 72]) (.hop (Zo 74 (.bsl 2 [.t 73])) [(.ld false 1 (.t 69)),(.fld 1 (.t 11))] (.hop (Zo 75 (.app 32 2 (.t 70) (.t 74))) [] (.op (Zf 76 1 11) (.hop ⟨no,.st 1 (.t 76) (.t 75),no⟩ [] .fin))))))))))
def K6m:AC:=(.draw (.op (Zf 77 2 10) (.op (Zl 78 false 1 77) (.op (Zv 79 12) (.op (Zv 80 9) (.op (Zc 81 261 [.t 79,.t 80]) (.hop (Zo 82 (.bsl 2 [.t 81])) [(.ld false 1 (.t 77)),(.fld 2 (.t 10))] (.hop (Zo 83 (.app 32 2 (.t 78) (.t 82))) [] (.op (Zf 84 2 10) (.hop ⟨no,.st 1 (.t 84) (.t 83),no⟩ [] .fin))))))))))
def lm7:AC:=(.seq (.reg [Zo 12 (.mv (.k (.int .i64 0)))]) (.blk 0 (.loop (.seq (.seq (.reg [Zv 54 12,Zv 55 8,Zo 56 (.bin .lss (.t 54) (.t 55))]) (.cond (.t 56) .skip (.exit 0))) (.seq (.blk 1 (.seq K7m (.seq K7r K6m))) (.reg [Zv 57 12,Zo 58 (.bin .add (.t 57) (.k (.int .i64 1))),Zv 12 58]))))))
def lm8:AC:=(.reg [Zl 86 true 2 11,Zl 87 true 7 5,Zv 88 8,Zv 89 9,Zc 90 266 [.t 86,.t 87,.t 88,.t 89],Zv 85 90,Zo 91 (.ext (.t 85) 0),Zo 92 (.ext (.t 85) 1),⟨no,.st 2 (.t 11) (.t 91),no⟩,Zv 13 92])
def lm9:AC:=(.reg [Zf 93 0 10,Zf 94 1 93,Zl 95 false 1 94,Zv 96 13,Zo 97 (.app 32 2 (.t 95) (.t 96)),Zf 98 0 10,Zf 99 1 98,⟨no,.st 1 (.t 99) (.t 97),no⟩])
def Jur:AC:=(.draw (.op (Zl 108 true 2 11) (.op (Zf 109 2 5) (.op (Zl 110 false 1 109) (.op (Zv 111 14) (.op (Zo 112 (.ixa 2 (.t 110) (.t 111))) (.op (Zl 113 true 2 112) (.op (Zv 114 9) (.both (.op (Zc 115 267 [.t 108,.t 113,.t 114]) (.op (Zv 107 115) (.op (Zo 116 (.ext (.t 107) 0)) (.op (Zo 117 (.ext (.t 107) 1)) (.op (Zo 15 (.box [(.int .i64 0),(.nil 1)])) (.hop ⟨no,.st 2 (.t 15) (.t 116),no⟩ [] (.op (Zv 16 117) .fin))))))) (.op (Zo 15 (.box [(.int .i64 0),(.nil 1)])) (.op (Zc 115 267 [.t 108,.t 113,.t 114]) (.op (Zv 107 115) (.op (Zo 116 (.ext (.t 107) 0)) (.op (Zo 117 (.ext (.t 107) 1)) (.hop ⟨no,.st 2 (.t 15) (.t 116),no⟩ [] (.op (Zv 16 117) .fin))))))))))))))))
def Jw8:AC:=(.reg [Zf 118 0 10,Zf 119 1 118,Zl 120 false 1 119,Zl 121 true 2 15,Zo 122 (.bsl 2 [.t 121]),Zo 123 (.app 32 2 (.t 120) (.t 122)),Zf 124 0 10,Zf 125 1 124,⟨no,.st 1 (.t 125) (.t 123),no⟩])
def K4v:AC:=(.seq (.reg [Zo 14 (.mv (.k (.int .i64 0)))]) (.blk 2 (.loop (.seq (.seq (.reg [Zv 100 14,Zf 101 2 5,Zl 102 false 1 101,Zo 103 (.len false (.t 102)),Zo 104 (.bin .lss (.t 100) (.t 103))]) (.cond (.t 104) .skip (.exit 2))) (.seq (.blk 3 (.seq Jur  Jw8)) (.reg [Zv 105 14,Zo 106 (.bin .add (.t 105) (.k (.int .i64 1))),Zv 14 106]))))))
def Jtz:AC:=(.draw (.op (Zl 146 true 2 11) (.op (Zf 147 3 5) (.op (Zl 148 false 1 147) (.op (Zv 149 17) (.op (Zo 150 (.ixa 3 (.t 148) (.t 149))) (.op (Zf 151 2 150) (.op (Zl 152 false 1 151) (.op (Zv 153 19) (.op (Zo 154 (.ixa 3 (.t 152) (.t 153))) (.op (Zl 155 true 3 154) (.op (Zv 156 9) (.both (.op (Zc 157 268 [.t 146,.t 155,.t 156]) (.op (Zv 145 157) (.op (Zo 158 (.ext (.t 145) 0)) (.op (Zo 159 (.ext (.t 145) 1)) (.op (Zo 20 (.box [(.int .i64 0),(.nil 1)])) (.hop ⟨no,.st 2 (.t 20) (.t 158),no⟩ [] (.op (Zv 21 159) .fin))))))) (.op (Zo 20 (.box [(.int .i64 0),(.nil 1)])) (.op (Zc 157 268 [.t 146,.t 155,.t 156]) (.op (Zv 145 157) (.op (Zo 158 (.ext (.t 145) 0)) (.op (Zo 159 (.ext (.t 145) 1)) (.hop ⟨no,.st 2 (.t 20) (.t 158),no⟩ [] (.op (Zv 21 159) .fin))))))))))))))))))))
def K01:AC:=(.reg [Zv 160 18,Zl 161 true 2 20,Zo 162 (.bsl 2 [.t 161]),Zo 163 (.app 32 2 (.t 160) (.t 162)),Zv 18 163])
def Jvh:AC:=(.seq (.reg [Zo 19 (.mv (.k (.int .i64 0)))]) (.blk 6 (.loop (.seq (.seq (.reg [Zv 134 19,Zf 135 3 5,Zl 136 false 1 135,Zv 137 17,Zo 138 (.ixa 3 (.t 136) (.t 137)),Zf 139 2 138,Zl 140 false 1 139,Zo 141 (.len false (.t 140)),Zo 142 (.bin .lss (.t 134) (.t 141))]) (.cond (.t 142) .skip (.exit 6))) (.seq (.blk 7 (.seq Jtz  K01)) (.reg [Zv 143 19,Zo 144 (.bin .add (.t 143) (.k (.int .i64 1))),Zv 19 144]))))))
def Jtv:AC:=(.reg [Zf 164 3 10,Zl 165 false 1 164,Zv 166 18,Zo 167 (.bsl 1 [.t 166]),Zo 168 (.app 24 1 (.t 165) (.t 167)),Zf 169 3 10,⟨no,.st 1 (.t 169) (.t 168),no⟩])
def Jws:AC:=(.draw (.op (Zf 179 0 11) (.op (Zl 180 false 1 179) (.op (Zf 181 3 5) (.op (Zl 182 false 1 181) (.op (Zv 183 17) (.op (Zo 184 (.ixa 3 (.t 182) (.t 183))) (.op (Zf 185 0 184) (.op (Zl 186 false 1 185) (.hop (Zo 187 (.bsl 1 [.t 186])) [(.ld false 1 (.t 179)),(.fld 0 (.t 11))] (.hop (Zo 188 (.app 16 1 (.t 180) (.t 187))) [] (.op (Zf 189 0 11) (.hop ⟨no,.st 1 (.t 189) (.t 188),no⟩ [] .fin)))))))))))))
def Jwh:AC:=(.reg [Zf 190 1 11,Zl 191 false 1 190,Zl 192 true 2 22,Zo 193 (.bsl 2 [.t 192]),Zo 194 (.app 32 2 (.t 191) (.t 193)),Zf 195 1 11,⟨no,.st 1 (.t 195) (.t 194),no⟩])
def Jw7:AC:=(.draw (.op (Zf 203 0 10) (.op (Zf 204 1 203) (.op (Zl 205 false 1 204) (.op (Zl 206 true 2 22) (.op (Zc 207 82 [.t 206]) (.hop (Zo 208 (.bsl 2 [.t 207])) [(.ld false 1 (.t 204)),(.fld 1 (.t 203)),(.fld 0 (.t 10))] (.hop (Zo 209 (.app 32 2 (.t 205) (.t 208))) [] (.op (Zf 210 0 10) (.op (Zf 211 1 210) (.hop ⟨no,.st 1 (.t 211) (.t 209),no⟩ [] .fin)))))))))))
def K7e:AC:=(.seq (.reg [Zo 17 (.mv (.k (.int .i64 0)))]) (.blk 4 (.loop (.seq (.seq (.reg [Zv 126 17,Zf 127 3 5,Zl 128 false 1 127,Zo 129 (.len false (.t 128)),Zo 130 (.bin .lss (.t 126) (.t 129))]) (.cond (.t 130) .skip (.exit 4))) (.seq (.blk 5 (.seq (.reg [Zo 133 (.bsl 2 []),Zv 18 133]) (.seq Jvh (.seq  Jtv (.seq (.reg [Zv 170 9,Zf 171 3 5,Zl 172 false 1 171,Zo 173 (.len false (.t 172)),Zo 174 (.bin .sub (.t 170) (.t 173)),Zv 175 17,Zo 176 (.bin .add (.t 174) (.t 175)),Zv 177 9,Zc 178 261 [.t 176,.t 177],Zo 22 (.box [(.int .i64 0),(.nil 1)]),⟨no,.st 2 (.t 22) (.t 178),no⟩]) (.seq Jws (.seq  Jwh (.seq (.reg [Zf 196 3 5,Zl 197 false 1 196,Zv 198 17,Zo 199 (.ixa 3 (.t 197) (.t 198)),Zf 200 0 199,Zl 201 false 1 200,Zc 202 260 [.t 201]]) (.cond (.t 202) Jw7 .skip))))))))) (.reg [Zv 131 17,Zo 132 (.bin .add (.t 131) (.k (.int .i64 1))),Zv 17 132]))))))
def K97:AC:=(.reg [Zl 213 true 2 11,Zf 214 4 5,Zl 215 true 3 214,Zv 216 9,Zc 217 268 [.t 213,.t 215,.t 216],Zv 212 217,Zo 218 (.ext (.t 212) 0),Zo 219 (.ext (.t 212) 1),Zf 220 4 10,⟨no,.st 2 (.t 220) (.t 218),no⟩])
def K8g:AC:=(.reg [Zl 221 true 6 10,⟨no,.st 6 (.t 4) (.t 221),no⟩])
def a184:AFn:=⟨222,[(.c 4 true 6)],(.seq lm0 (.seq lm1 (.seq lm2 (.seq lm3 (.seq lm4 (.seq lm5 (.seq lm6 (.seq lm7 (.seq lm8 (.seq lm9 (.seq K4v (.seq K7e (.seq K97 (.seq K8g .ret))))))))))))))⟩
theorem a184_ok:J0a Tryz.prog Tryz.f184=some a184:=by kernel_rfl
def SAcc (N:Nat) (nm:List Str) (ls R P:List DLin) (A:List (List DLin)) (h:Heap) (n:Nat):Prop:=∃ vN vL vR vP vA,h 8=some ⟨true,2,[[vN,vL]]⟩∧h 7=some ⟨true,6,[J52 N vR vP vA]⟩ ∧
 Jep 5 [(1,J0d nm,vN),(2,ls.map J06,vL),(2,R.map J07,vR),(2,P.map J07,vP),(1,A.map J26,vA)] h n
structure SI (r:DRule) (f:DFunction) (N:Nat) (nm:List Str) (ls R P:List DLin) (A:List (List DLin)) (h:Heap) (n:Nat):Prop where
 hz:h 1=some ⟨true,6,[[.int .i64 0,.nil 2,.nil 2,.nil 1,.int .i64 0,.nil 1]]⟩
 hr:h 2=some ⟨true,7,[J0c r]⟩
 h3:h 3=some ⟨false,1,J0d f.Params⟩
 hf:h 5=some ⟨true,4,[[.str f.Name,.ref 3 0 f.Params.length,.bool f.ListResult,.ref 4 0 f.Pre.length]]⟩
 lt:8<n
 acc:SAcc N nm ls R P A h n
section
variable {r:DRule}{f:DFunction}{N:Nat}{nm nm':List Str}{ls R P ls' R' P':List DLin}{A A':List (List DLin)}{h H:Heap}{n n':Nat}
theorem SI.frame (M:SI r f N nm ls R P A h n) (hn:n≤n') (hh:∀ id,id<n→H id=h id):SI r f N nm ls R P A H n':=by
 have l1:=M.lt
 obtain ⟨vN,vL,vR,vP,vA,e8,e7,AS⟩:=M.acc
 exact ⟨by rw [hh _ (by omega),M.hz],by rw [hh _ (by omega),M.hr],by rw [hh _ (by omega),M.h3],by rw [hh _ (by omega),M.hf],by omega,vN,vL,vR,vP,vA,by rw [hh _ (by omega),e8],by rw [hh _ (by omega),e7],AS.frame hn fun id _ hid=>hh id hid⟩
theorem SI.app (M:SI r f N nm ls R P A h n) {vN vL vR vP vA vN' vL' vR' vP' vA':AV}{l1 l2:List (Nat×List (List AV)×AV)}{x x':Nat×List (List AV)×AV}(hn:n≤n') (e8:h 8=some ⟨true,2,[[vN,vL]]⟩) (e7:h 7=some ⟨true,6,[J52 N vR vP vA]⟩)
 (AS:Jep 5 (l1++x::l2) h n) (e8':H 8=some ⟨true,2,[[vN',vL']]⟩) (e7':H 7=some ⟨true,6,[J52 N vR' vP' vA']⟩) (hx:J3v 5 x'.1 x'.2.1 x'.2.2 H n') (hnew:∀ i k,x'.2.2 = .ref i 0 k→n≤i)
 (hH:∀ id,id<n→id≠7→id≠8→(∀ k,x.2.2 ≠ .ref id 0 k)→H id=h id)
 (hl:l1++x'::l2=[(1,J0d nm',vN'),(2,ls'.map J06,vL'),(2,R'.map J07,vR'),(2,P'.map J07,vP'),(1,A'.map J26,vA')]):SI r f N nm' ls' R' P' A' H n':=by
 have l1':=M.lt
 have low:∀ id,id≤5→H id=h id:=by
  intro id hid
  refine hH id (by omega) (by omega) (by omega) fun k e => ?_
  have:=((AS.1 x (by simp)).lt e).1
  omega
 refine ⟨by rw [low _ (by omega),M.hz],by rw [low _ (by omega),M.hr],by rw [low _ (by omega),M.h3],by rw [low _ (by omega),M.hf],by omega,vN',vL',vR',vP',vA',e8',e7',?_⟩
 rw [←hl]
 refine AS.step hx hnew hn fun id hb hid hf hne=>hH id hid ?_ ?_ hne
 ·rintro rfl;obtain ⟨z,rows,hf⟩:=hf;rw [e7] at hf;simp at hf
 ·rintro rfl;obtain ⟨z,rows,hf⟩:=hf;rw [e8] at hf;simp at hf
end
section
variable {ks:List Kt}{s:Env}{h h':Heap}{n N:Nat}{Q:Fin}{r:DRule}{f:DFunction}{nm:List Str}{ls R P:List DLin}{A:List (List DLin)}
theorem Js7 {i:Nat}(hi:i<f.Params.length) (s6:s 6 = .ptr 5 0 0) (s11:s 11 = .ptr 8 0 0) (s12:s 12 = .int .i64 i) (M:SI r f N nm ls R P A h n) (hl:nm.length≤1048576)
 (hK:∀ s' h' n',(∀ j,j<59→s' j=s j)→SI r f N (nm++[f.Params[i]]) ls R P A h' n'→J25 Tryz.prog ks .normal s' h' n' Q):rC Tryz.prog K7m ks s h n Q:=by
 have l1:=M.lt
 obtain ⟨vN,vL,vR,vP,vA,e8,e7,AS⟩:=M.acc
 have y1:=AS.1 (1,J0d nm,vN) (by simp)
 have ne:¬8=n∧¬7=n∧¬n=7∧¬n=6∧¬n=8∧¬8=n+1∧¬7=n+1∧¬n+1=8:=by omega
 have frn:∀ id,id<n→¬id=n∧¬id=n+1:=by intro id _;omega
 have kp:∀ j,j<59→¬j=59∧¬j=60∧¬j=61∧¬j=62∧¬j=63∧¬j=64∧¬j=65∧¬j=66∧¬j=67∧¬j=68:=by intro j _;omega
 simp [K7m,s6,s11,s12,e8,M.hf,M.h3,hi,ne]
 refine J32 (rows:=J0d nm) (rows2:=[[.str f.Params[i]]]) (y1.keep (n':=n+1) (by omega) fun id _ hid _=>by simp [frn id hid]) (by simp) (fun l e=>by have:=(y1.lt e).2.1;omega) (by omega) (by simp [J0d];unfold LIM;omega) ?_
 intro h1 f1 f2
 have g8:h1 8=some ⟨true,2,[[vN,vL]]⟩:=by rw [f2 8 (by omega) (by omega) fun l e=>y1.not_box e8 e];simp [ne,e8]
 have g7:h1 7=some ⟨true,6,[J52 N vR vP vA]⟩:=by rw [f2 7 (by omega) (by omega) fun l e=>y1.not_box e7 e];simp [ne,e7]
 simp [g8,s11]
 refine hK _ _ _ (fun j hj=>by simp [kp j hj]) (M.app (l1:=[]) (x:=(1,J0d nm,vN)) (x':=(1,J0d (nm++[f.Params[i]]),.ref (n+1) 0 (nm.length+1))) (l2:=[(2,ls.map J06,vL),(2,R.map J07,vR),(2,P.map J07,vP),(1,A.map J26,vA)]) (by omega) e8 e7 AS (by simp [J0d]) (by simp [g7]) (.inr ⟨n+1,by omega,by omega,by simp [J0d],by simp [ne,f1,J0d]⟩) (fun i k e=>by simp only [AV.ref.injEq] at e;omega) ?_ rfl)
 intro id h1' h2' h3' h4'
 simp [h3',f2 id (by omega) (by omega) h4',frn id h1']
theorem Jr9 {i:Nat}(s9:s 9 = .int .i64 N) (s11:s 11 = .ptr 8 0 0) (s12:s 12 = .int .i64 i) (M:SI r f N nm ls R P A h n) (hl:ls.length≤1048576)
 (hK:∀ s' h' n',(∀ j,j<59→s' j=s j)→SI r f N nm (ls++[J2k i N]) R P A h' n'→J25 Tryz.prog ks .normal s' h' n' Q):rC Tryz.prog K7r ks s h n Q:=by
 have l1:=M.lt
 obtain ⟨vN,vL,vR,vP,vA,e8,e7,AS⟩:=M.acc
 have y1:=AS.1 (2,ls.map J06,vL) (by simp)
 have ne:¬8=n∧¬7=n∧¬n=7∧¬n=6∧¬n=8∧¬8=n+1∧¬7=n+1∧¬n+1=8:=by omega
 have frn:∀ id,id<n→¬id=n∧¬id=n+1:=by intro id _;omega
 have kp:∀ j,j<59→¬j=69∧¬j=70∧¬j=71∧¬j=72∧¬j=73∧¬j=74∧¬j=75∧¬j=76:=by intro j _;omega
 simp [K7r,s9,s11,s12,e8]
 refine J4x (J6w i N) (by simp) ?_
 rintro _ rfl
 simp [e8,ne,s11]
 refine J32 (rows:=ls.map J06) (rows2:=[J06 (J2k i N)]) (y1.keep (n':=n+1) (by omega) fun id _ hid _=>by simp [frn id hid]) (by simp) (fun l e=>by have:=(y1.lt e).2.1;omega) (by omega) (by simp;unfold LIM;omega) ?_
 intro h1 f1 f2
 have g8:h1 8=some ⟨true,2,[[vN,vL]]⟩:=by rw [f2 8 (by omega) (by omega) fun l e=>y1.not_box e8 e];simp [ne,e8]
 have g7:h1 7=some ⟨true,6,[J52 N vR vP vA]⟩:=by rw [f2 7 (by omega) (by omega) fun l e=>y1.not_box e7 e];simp [ne,e7]
 simp [g8,s11]
 refine hK _ _ _ (fun j hj=>by simp [kp j hj]) (M.app (l1:=[(1,J0d nm,vN)]) (x:=(2,ls.map J06,vL)) (x':=(2,(ls++[J2k i N]).map J06,.ref (n+1) 0 (ls.length+1))) (l2:=[(2,R.map J07,vR),(2,P.map J07,vP),(1,A.map J26,vA)]) (by omega) e8 e7 AS (by simp) (by simp [g7]) (.inr ⟨n+1,by omega,by omega,by simp,by simp [ne,f1]⟩) (fun i k e=>by simp only [AV.ref.injEq] at e;omega) ?_ rfl)
 intro id h1' h2' h3' h4'
 simp [h3',f2 id (by omega) (by omega) h4',frn id h1']
theorem Jpw {i:Nat}(s9:s 9 = .int .i64 N) (s10:s 10 = .ptr 7 0 0) (s12:s 12 = .int .i64 i) (M:SI r f N nm ls R P A h n) (hl:P.length≤1048576)
 (hK:∀ s' h' n',(∀ j,j<59→s' j=s j)→SI r f N nm ls R (P++[J2k i N]) A h' n'→J25 Tryz.prog ks .normal s' h' n' Q):rC Tryz.prog K6m ks s h n Q:=by
 have l1:=M.lt
 obtain ⟨vN,vL,vR,vP,vA,e8,e7,AS⟩:=M.acc
 have y1:=AS.1 (2,P.map J07,vP) (by simp)
 have ne:¬8=n∧¬7=n∧¬n=7∧¬n=6∧¬n=8∧¬8=n+1∧¬7=n+1∧¬n+1=8∧¬n+1=7∧¬n=n+1∧¬n+1=n∧¬n=5:=by omega
 have frn:∀ id,id<n→¬id=n∧¬id=n+1∧¬id=n+2:=by intro id _;omega
 have kp:∀ j,j<59→¬j=77∧¬j=78∧¬j=79∧¬j=80∧¬j=81∧¬j=82∧¬j=83∧¬j=84:=by intro j _;omega
 simp [K6m,s9,s10,s12,e7,J52]
 first|refine J00 (J6w i N) (by first|simp;done|rfl) ?_|refine J01 (J6w i N) (by first|simp;done|rfl) ?_
 rintro r rfl
 generalize J2k i N=l at *
 simp [J07,e7,ne,s10,J52]
 refine J32 (rows:=P.map J07) (rows2:=[[.int .i64 l.Const,.us 1 (J0e l.Coeffs)]]) (y1.keep (n':=n+1+1) (by omega) fun id _ hid _=>by simp [frn id hid]) (by simp) (fun l e=>by have:=(y1.lt e).2.1;omega) (by omega) (by simp;unfold LIM;omega) ?_
 intro h1 f1 f2
 have g8:h1 8=some ⟨true,2,[[vN,vL]]⟩:=by rw [f2 8 (by omega) (by omega) fun l e=>y1.not_box e8 e];simp [ne,e8]
 have g7:h1 7=some ⟨true,6,[J52 N vR vP vA]⟩:=by rw [f2 7 (by omega) (by omega) fun l e=>y1.not_box e7 e];simp [ne,e7]
 simp [g7,s10,J52]
 refine hK _ _ _ (fun j hj=>by simp [kp j hj]) (M.app (l1:=[(1,J0d nm,vN),(2,ls.map J06,vL),(2,R.map J07,vR)]) (x:=(2,P.map J07,vP)) (x':=(2,(P++[l]).map J07,.ref (n+2) 0 (P.length+1))) (l2:=[(1,A.map J26,vA)]) (by omega) e8 e7 AS (by simp [g8]) (by simp [J52]) (.inr ⟨n+2,by omega,by omega,by simp,by simp [ne,f1,J07]⟩) (fun i k e=>by simp only [AV.ref.injEq] at e;omega) ?_ rfl)
 intro id h1' h2' h3' h4'
 simp [h2',f2 id (by omega) (by omega) h4',frn id h1']
end
section
variable {ks:List Kt}{s:Env}{h h':Heap}{n N:Nat}{Q:Fin}{r:DRule}{f:DFunction}{nm:List Str}{ls R P:List DLin}{A:List (List DLin)}
def SM (r:DRule) (f:DFunction) (N:Nat) (ms:MS) (h:Heap) (n:Nat):Prop:=SI r f N (J1a ms.E) (J2x ms.E) ms.rows ms.pars ms.args h n
theorem Jvc {R0:List DLin}(s6:s 6 = .ptr 5 0 0) (s8:s 8 = .int .i64 f.Params.length) (s9:s 9 = .int .i64 N) (s10:s 10 = .ptr 7 0 0) (s11:s 11 = .ptr 8 0 0) (M:SM r f N ⟨[],0,R0,[],[]⟩ h n) (hp2:f.Params.length≤2)
 (hK:∀ s' h' n',(∀ j∈[2,4,5,6,8,9,10,11],s' j=s j)→SM r f N (f.Params.foldl (J91 N) ⟨[],0,R0,[],[]⟩) h' n'→J25 Tryz.prog ks .normal s' h' n' Q):rC Tryz.prog lm7 ks s h n Q:=by
 simp [lm7]
 generalize hT:f.Params.foldl (J91 N) ⟨[],0,R0,[],[]⟩=T at hK
 refine J0k [2,4,5,6,8,9,10,11] 12 f.Params.length (fun i s h m=>∃ ms:MS,(f.Params.drop i).foldl (J91 N) ms=T∧SM r f N ms h m∧ms.nx=i∧ms.E.length≤i∧ms.pars.length≤i) (by unfold LIM;omega) (by simp)
  ⟨_,by simpa using hT,M,rfl,by simp,by simp⟩ ?_ ?_
 ·rintro i st h' m Rr hi hg hk s12 hw ⟨ms,hJ,M,hb1,hb2,hb3⟩ hR _ _
  simp at hk
  rw [List.drop_eq_getElem_cons hi,List.foldl_cons] at hJ
  refine J09 (J0g [2,4,5,6,8,9,10,11,12] (fun s=>s 56 = .bool true) (by simp [hk,s12,s8,hi]) ?_)
  intro st1 hk1 s56
  simp at hk1
  refine J1u s56 (J09 (J0t ?_))
  refine J09 (Js7 (i:=i) hi (by simp [hk1,hk,s6]) (by simp [hk1,hk,s11]) (by simp [hk1,s12]) M (by simp [J1a];omega) ?_)
  intro st2 h2 m2 hk2 M2
  refine J53 (J09 (Jr9 (i:=i) (by simp [hk2 9 (by omega),hk1,hk,s9]) (by simp [hk2 11 (by omega),hk1,hk,s11]) (by simp [hk2 12 (by omega),hk1,s12]) M2 (by simp [J2x];omega) ?_))
  intro st3 h3 m3 hk3 M3
  refine J53 (Jpw (i:=i) (by simp [hk3 9 (by omega),hk2 9 (by omega),hk1,hk,s9]) (by simp [hk3 10 (by omega),hk2 10 (by omega),hk1,hk,s10]) (by simp [hk3 12 (by omega),hk2 12 (by omega),hk1,s12]) M3 (by omega) ?_)
  intro st4 h4 m4 hk4 M4
  have kp:∀ j∈[2,4,5,6,8,9,10,11,12],st4 j=st j:=by
   simp [hk4 2 (by omega),hk4 4 (by omega),hk4 5 (by omega),hk4 6 (by omega),hk4 8 (by omega),hk4 9 (by omega),hk4 10 (by omega),hk4 11 (by omega),hk4 12 (by omega),hk3 2 (by omega),hk3 4 (by omega),hk3 5 (by omega),hk3 6 (by omega),hk3 8 (by omega),hk3 9 (by omega),hk3 10 (by omega),hk3 11 (by omega),hk3 12 (by omega),hk2 2 (by omega),hk2 4 (by omega),hk2 5 (by omega),hk2 6 (by omega),hk2 8 (by omega),hk2 9 (by omega),hk2 10 (by omega),hk2 11 (by omega),hk2 12 (by omega),hk1]
  simp at kp
  simp [kp,s12,hw]
  refine hR _ _ _ (by simp [kp,hk]) (by simp) ⟨J91 N ms f.Params[i],hJ,?_,by show ms.nx+1=_;omega,by show (ms.E++_).length≤_;simp;omega,by show (ms.pars++_).length≤_;simp;omega⟩
  have e1:J1a (J91 N ms f.Params[i]).E=J1a ms.E++[f.Params[i]]:=by simp [J91,J1a]
  have e2:J2x (J91 N ms f.Params[i]).E=J2x ms.E++[J2k i N]:=by simp [J91,J2x,hb1]
  have e3:(J91 N ms f.Params[i]).pars=ms.pars++[J2k i N]:=by simp [J91,hb1]
  unfold SM
  rw [e1,e2,e3]
  exact M4
 ·rintro st h' m Rr hk s12 ⟨ms,hJ,M,hb1,hb2,hb3⟩ _ hX
  simp at hk
  rw [List.drop_eq_nil_of_le (by omega)] at hJ
  simp only [List.foldl_nil] at hJ
  subst hJ
  refine J09 (J0g [2,4,5,6,8,9,10,11] (fun s=>s 56 = .bool false) (by simp [hk,s12,s8]) ?_)
  intro st1 hk1 s56
  simp at hk1
  refine J1s s56 ?_
  refine hX _ _ _ _ ?_
  simp
  exact hK _ _ _ (by simp [hk1,hk]) M
theorem Ju1 {N:Nat} : ∀ {qs:List DPattern}{E:SEnv}{k:Nat}{R0 P:List DLin}{A:List (List DLin)},(qs.foldl (J5a N) ⟨E,k,R0,P,A⟩)=⟨(qs.foldl (J5a N) ⟨E,k,[],[],[]⟩).E,(qs.foldl (J5a N) ⟨E,k,[],[],[]⟩).nx,R0++(qs.foldl (J5a N) ⟨E,k,[],[],[]⟩).rows,P,A⟩:=by
 intro qs
 induction qs with
 | nil=>intro E k R0 P A;simp
 | cons q qs ih=>
  intro E k R0 P A
  simp only [List.foldl_cons]
  have h1:∀ (R0 P:List DLin) (A:List (List DLin)),J5a N ⟨E,k,R0,P,A⟩ q=⟨(J5a N ⟨E,k,[],[],[]⟩ q).E,(J5a N ⟨E,k,[],[],[]⟩ q).nx,R0++(J5a N ⟨E,k,[],[],[]⟩ q).rows,P,A⟩:=by
   intro R0 P A;unfold J5a Jhz;cases q.Cons <;> simp
  rw [h1 R0 P A,ih,h1 [] [] []]
  generalize J5a N ⟨E,k,[],[],[]⟩ q=x
  rw [ih (R0:=[]++x.rows)]
  simp
theorem Jox {b z bytes:Nat}{rows rows2:List (List AV)}{v y:AV}{h:Heap}{n:Nat}{K:AV→Heap→Nat→Prop}(B1:J3v b z rows v h n) (B2:J3v b z rows2 y h n) (hd:Dj v y)
 (hlen:(rows.length+rows2.length)*bytes≤LIM)
 (hK:∀ h',h' n=some ⟨false,z,rows++rows2⟩→(∀ id,id≠n→(∀ l,v ≠ .ref id 0 l)→(∀ l,y ≠ .ref id 0 l)→h' id=h id)→K (.ref n 0 (rows.length+rows2.length)) h' (n+1)) :
 Jsz bytes z v y h n K:=by
 rcases B2 with ⟨rfl,rfl⟩|⟨k,_,hkn,rfl,hkb⟩
 ·rcases B1 with ⟨rfl,rfl⟩|⟨i,_,hin,rfl,hib⟩
  ·simp
   simp at hK
   exact hK _ (by simp) fun id h1=>by simp [h1]
  ·have hne:¬i=n:=by omega
   simp [hib]
   refine ⟨by simpa using hlen,?_⟩
   have:=hK (upd (upd h i Option.none) n (some ⟨false,z,rows⟩)) (by simp) fun id h1 h2 _=>by
    have:¬id=i:=fun e=>h2 rows.length (by rw [e])
    simp [h1,this]
   simpa [List.take_of_length_le] using this
 ·refine J32 B1 hkb (fun l e=>hd k l _ e rfl) hkn hlen fun h' e1 e2=>hK h' e1 fun id h1 h2 h3=>e2 id h1 (fun e=>h3 rows2.length (by rw [e])) h2
end
theorem Jep.step2 {b:Nat}{l1 l2:List (Nat×List (List AV)×AV)}{x x':Nat×List (List AV)×AV}{y:AV}{h h':Heap}{n n':Nat}(A:Jep b (l1++x::l2) h n) (hy:∀ c∈l1++x::l2,Dj c.2.2 y) (hx:J3v b x'.1 x'.2.1 x'.2.2 h' n') (hnew:∀ i k,x'.2.2 = .ref i 0 k→n≤i) (hn:n≤n')
 (hh:∀ id,b<id→id<n→(∃ z rows,h id=some ⟨false,z,rows⟩)→(∀ k,x.2.2 ≠ .ref id 0 k)→(∀ k,y ≠ .ref id 0 k)→h' id=h id):Jep b (l1++x'::l2) h' n':=by
 obtain ⟨A1,A2⟩:=A
 rw [List.pairwise_append,List.pairwise_cons] at A2
 obtain ⟨p1,⟨p2,p3⟩,p4⟩:=A2
 refine ⟨?_,?_⟩
 ·intro c hc
  rcases List.mem_append.1 hc with hc|hc
  ·have hm:c∈l1++x::l2:=List.mem_append_left _ hc
   refine (A1 c hm).keep hn fun id hb hid e=>hh id hb hid ⟨_,_,((A1 c hm).lt e).2.2.1⟩ (fun k ek=>p4 c hc x List.mem_cons_self id _ k e ek) fun k ek=>hy c hm id _ k e ek
  ·rcases List.mem_cons.1 hc with rfl|hc
   ·exact hx
   ·have hm:c∈l1++x::l2:=List.mem_append_right _ (List.mem_cons_of_mem _ hc)
    refine (A1 c hm).keep hn fun id hb hid e=>hh id hb hid ⟨_,_,((A1 c hm).lt e).2.2.1⟩ (fun k ek=>p2 c hc id k _ ek e) fun k ek=>hy c hm id _ k e ek
 ·rw [List.pairwise_append,List.pairwise_cons]
  refine ⟨p1,⟨fun c hc i k l e1 e2 => ?_,p3⟩,fun c hc w hw i k l e1 e2 => ?_⟩
  ·have g1:=hnew i k e1
   have g2:=((A1 c (List.mem_append_right _ (List.mem_cons_of_mem _ hc))).lt e2).2.1
   omega
  ·have g2:=((A1 c (List.mem_append_left _ hc)).lt e1).2.1
   rcases List.mem_cons.1 hw with rfl|hw
   ·have g1:=hnew i l e2;omega
   ·exact p4 c hc w (List.mem_cons_of_mem _ hw) i k l e1 e2
theorem Dj.symm {v w:AV}(d:Dj v w):Dj w v:=fun i k l e1 e2=>d i l k e2 e1
theorem Old.dj {v0 v w:AV}{n0 b z:Nat}{rows:List (List AV)}{h:Heap}(o:Old v0 v n0) (d:Dj v0 w) (x:J3v b z rows w h n0):Dj v w:=by
 intro i k l e1 e2
 rcases o with rfl|g
 ·exact d i k l e1 e2
 ·have:=g i k e1
  have:=(x.lt e2).2.1;omega
section
variable {ks:List Kt}{s:Env}{h h':Heap}{n N:Nat}{Q:Fin}{r:DRule}{f:DFunction}
theorem Jse {ms:MS}{c:AC}{m:Nat}(s5:s 5 = .ptr 2 0 0) (s8:s 8 = .int .i64 m) (s9:s 9 = .int .i64 N) (s10:s 10 = .ptr 7 0 0) (s11:s 11 = .ptr 8 0 0) (M:SM r f N ms h n) (hN:N≤8) (hat:m≤1000) (hE:ms.E.length≤1000) (hp:r.Patterns.length≤100) (hR:ms.rows.length≤100000)
 (hin:∀ q∈r.Patterns,q.Lst∈J1a ms.E) (hv:∀ e∈ms.E,e.2.Coeffs.length≤8) (hRr:(r.Patterns.foldl (J5a N) ⟨ms.E,m,[],[],[]⟩).rows.length≤100000)
 (hK:∀ s' h' n',(∀ j∈[2,4,5,6,8,9,10,11],s' j=s j)→SM r f N (r.Patterns.foldl (J5a N) (Jbl ms m)) h' n'→rC Tryz.prog c ks s' h' n' Q):rC Tryz.prog (.seq lm8 (.seq lm9 c)) ks s h n Q:=by
 have hfold:=Ju1 (N:=N) (qs:=r.Patterns) (E:=ms.E) (k:=m) (R0:=ms.rows) (P:=ms.pars) (A:=ms.args)
 have hatd:Jbl ms m=⟨ms.E,m,ms.rows,ms.pars,ms.args⟩:=rfl
 rw [hatd,hfold] at hK
 generalize hT:r.Patterns.foldl (J5a N) ⟨ms.E,m,[],[],[]⟩=T at *
 have l1:=M.lt
 obtain ⟨vN,vL,vR,vP,vA,e8,e7,AS⟩:=M.acc
 obtain ⟨AS1,AS2⟩:=AS
 simp only [List.pairwise_cons,List.mem_cons,List.not_mem_nil,or_false,forall_eq_or_imp,forall_eq] at AS2
 obtain ⟨⟨d1,d2,d3,d4⟩,⟨d5,d6,d7⟩,⟨d8,d9⟩,d10,_⟩:=AS2
 have yN:=AS1 (1,J0d (J1a ms.E),vN) (by simp)
 have yL:=AS1 (2,(J2x ms.E).map J06,vL) (by simp)
 have yR:=AS1 (2,ms.rows.map J07,vR) (by simp)
 have yP:=AS1 (2,ms.pars.map J07,vP) (by simp)
 have yA:=AS1 (1,ms.args.map J26,vA) (by simp)
 refine J17 [2,4,5,6,8,9,10,11] (fun s' h' n'=>∃ vN' vL' vRr,s' 13=vRr∧n≤n'∧(∀ id,id≤5→h' id=h id)∧h' 8=some ⟨true,2,[[vN',vL']]⟩∧h' 7=some ⟨true,6,[J52 N vR vP vA]⟩ ∧
  Jep 5 [(1,J0d (J1a T.E),vN'),(2,(J2x T.E).map J06,vL'),(2,ms.rows.map J07,vR),(2,ms.pars.map J07,vP),(1,ms.args.map J26,vA)] h' n'∧J3v 5 2 (T.rows.map J07) vRr h' n' ∧
  ∀ x∈[(1,J0d (J1a T.E),vN'),(2,(J2x T.E).map J06,vL'),(2,ms.rows.map J07,vR),(2,ms.pars.map J07,vP),(1,ms.args.map J26,vA)],Dj x.2.2 vRr) ?_ ?_
 ·simp [lm8,s11,e8,s5,M.hr,s8,s9]
  refine Joz (b:=5) (E0:=ms.E) (vN0:=vN) (vL0:=vL) ⟨fun x hx => ?_,by simpa using d1⟩ (by omega) hN hat hE hp hin hv ?_
  ·simp only [List.mem_cons,List.not_mem_nil,or_false] at hx
   rcases hx with rfl|rfl
   ·exact yN
   ·exact yL
  rw [hT]
  intro vN' vL' vRr h1 n1 hn1 hfr1 B o1 o2 o3
  obtain ⟨B1,B2⟩:=B
  simp only [List.pairwise_cons,List.mem_cons,List.not_mem_nil,or_false,forall_eq_or_imp,forall_eq] at B2
  obtain ⟨⟨b1,b2⟩,b3,_⟩:=B2
  have zN:=B1 (1,J0d (J1a T.E),vN') (by simp)
  have zL:=B1 (2,(J2x T.E).map J06,vL') (by simp)
  have zR:=B1 (2,T.rows.map J07,vRr) (by simp)
  have cN:=zN.cell
  have cL:=zL.cell
  have g8:h1 8=some ⟨true,2,[[vN,vL]]⟩:=by rw [hfr1 8 (by omega) (fun k e=>yN.not_box e8 e) (fun k e=>yL.not_box e8 e),e8]
  have g7:h1 7=some ⟨true,6,[J52 N vR vP vA]⟩:=by rw [hfr1 7 (by omega) (fun k e=>yN.not_box e7 e) (fun k e=>yL.not_box e7 e),e7]
  simp [s11,g8,-J0n,cN,cL]
  have dR1:Dj vN' vR:=o1.dj d2 yR
  have dR2:Dj vN' vP:=o1.dj d3 yP
  have dR3:Dj vN' vA:=o1.dj d4 yA
  have dL1:Dj vL' vR:=o2.dj d5 yR
  have dL2:Dj vL' vP:=o2.dj d6 yP
  have dL3:Dj vL' vA:=o2.dj d7 yA
  have nilD:∀ w,Dj (.nil 2) w:=fun w i k l e1 _=>by cases e1
  have dr1:Dj vRr vR:=o3.dj (nilD _) yR
  have dr2:Dj vRr vP:=o3.dj (nilD _) yP
  have dr3:Dj vRr vA:=o3.dj (nilD _) yA
  have up8:∀ {z:Nat}{rows:List (List AV)}{v:AV},J3v 5 z rows v h1 n1→J3v 5 z rows v (upd h1 8 (some ⟨true,2,[[vN',vL']]⟩)) n1:=by
   intro z rows v x
   refine x.keep (Nat.le_refl _) fun id _ _ e => ?_
   have:¬id=8:=by rintro rfl;exact x.not_box g8 e
   simp [this]
  have mv:∀ {z:Nat}{rows:List (List AV)}{v:AV},J3v 5 z rows v h n→Dj vN v→Dj vL v→J3v 5 z rows v h1 n1:=fun x p q=>x.keep hn1 fun id _ hid e=>hfr1 id hid (fun k e'=>p id k _ e' e) fun k e'=>q id k _ e' e
  refine ⟨hn1,?_,vN',vL',⟨⟨rfl,rfl⟩,by simpa using g7,⟨?_,?_⟩,up8 zR,?_⟩⟩
  ·intro id hid
   have:¬id=8:=by omega
   simp [this]
   exact hfr1 id (by omega) (fun k e=>by have:=(yN.lt e).1;omega) fun k e=>by have:=(yL.lt e).1;omega
  ·intro x hx
   simp only [List.mem_cons,List.not_mem_nil,or_false] at hx
   rcases hx with rfl|rfl|rfl|rfl|rfl
   ·exact up8 zN
   ·exact up8 zL
   ·exact up8 (mv yR d2 d5)
   ·exact up8 (mv yP d3 d6)
   ·exact up8 (mv yA d4 d7)
  ·simp only [List.pairwise_cons,List.mem_cons,List.not_mem_nil,or_false,forall_eq_or_imp,forall_eq]
   exact ⟨⟨b1,dR1,dR2,dR3⟩,⟨dL1,dL2,dL3⟩,⟨d8,d9⟩,d10,by simp⟩
  ·exact ⟨b2,b3,dr1.symm,dr2.symm,dr3.symm⟩
 rintro s1 h1 n1 hk1 ⟨vN',vL',vRr,s13,hn1,low,f8,f7,B,zR,hdj⟩
 simp at hk1
 have u10:s1 10 = .ptr 7 0 0:=by rw [hk1.2.2.2.2.2.2.1,s10]
 have wR:=B.1 (2,ms.rows.map J07,vR) (by simp)
 refine J09 ?_
 simp [lm9,u10,f7,J52,s13]
 refine Jox (rows:=ms.rows.map J07) (rows2:=T.rows.map J07) wR zR (hdj (2,ms.rows.map J07,vR) (by simp)) (by simp;unfold LIM;omega) ?_
 intro h2 q1 q2
 have ne:¬7=n1∧¬8=n1∧¬n1=7∧¬n1=8:=by omega
 have k7:h2 7=some ⟨true,6,[J52 N vR vP vA]⟩:=by rw [q2 7 (by omega) (fun l e=>wR.not_box f7 e) (fun l e=>zR.not_box f7 e),f7]
 have k8:h2 8=some ⟨true,2,[[vN',vL']]⟩:=by rw [q2 8 (by omega) (fun l e=>wR.not_box f8 e) (fun l e=>zR.not_box f8 e),f8]
 simp [k7,u10,J52]
 refine hK _ _ _ (by simp [hk1]) ?_
 have low2:∀ id,id≤5→upd h2 7 (some ⟨true,6,[J52 N (.ref n1 0 (ms.rows.length+T.rows.length)) vP vA]⟩) id=h id:=by
  intro id hid
  have:¬id=7:=by omega
  rw [←low id hid]
  simp [this]
  exact q2 id (by omega) (fun k e=>by have:=(wR.lt e).1;omega) fun k e=>by have:=(zR.lt e).1;omega
 simp only [J52] at low2
 refine ⟨by rw [low2 1 (by omega),M.hz],by rw [low2 2 (by omega),M.hr],by rw [low2 3 (by omega),M.h3],by rw [low2 5 (by omega),M.hf],by omega,vN',vL',.ref n1 0 (ms.rows.length+T.rows.length),vP,vA,by simp [k8],by simp [J52],?_⟩
 refine Jep.step2 (l1:=[(1,J0d (J1a T.E),vN'),(2,(J2x T.E).map J06,vL')]) (x:=(2,ms.rows.map J07,vR)) (x':=(2,(ms.rows++T.rows).map J07,.ref n1 0 (ms.rows.length+T.rows.length))) (l2:=[(2,ms.pars.map J07,vP),(1,ms.args.map J26,vA)]) (y:=vRr) B hdj (.inr ⟨n1,by omega,by omega,by simp,by simp [ne,q1]⟩) (fun i k e=>by simp only [AV.ref.injEq] at e;omega) (by omega) ?_
 intro id hb hid hf h3 h4
 have:¬id=7:=by
  rintro rfl;obtain ⟨z,rows,hf⟩:=hf;rw [f7] at hf;simp at hf
 simp [this]
 exact q2 id (by omega) h3 h4
end
section
variable {ks:List Kt}{s:Env}{h h' h0:Heap}{n n0 N:Nat}{Q:Fin}{r:DRule}{f:DFunction}{nm:List Str}{ls R P:List DLin}{A:List (List DLin)}
theorem SM.bws {ms:MS}(M:SM r f N ms h n):∃ vN vL,h 8=some ⟨true,2,[[vN,vL]]⟩∧∀ h',(∀ id,id<n→h' id=h id)→bw vN h'=some (.sl 1 (J0d (J1a ms.E)))∧bw vL h'=some (.sl 2 ((J2x ms.E).map J06)):=by
 obtain ⟨vN,vL,vR,vP,vA,e8,e7,AS⟩:=M.acc
 refine ⟨vN,vL,e8,fun h' hh=>⟨?_,?_⟩⟩
 ·exact ((AS.1 (1,J0d (J1a ms.E),vN) (by simp)).keep (Nat.le_refl _) fun id _ hid _=>hh id hid).bwS
 ·exact ((AS.1 (2,(J2x ms.E).map J06,vL) (by simp)).keep (Nat.le_refl _) fun id _ hid _=>hh id hid).bwA
def Jg4 (l:DLin) (v:AV) (h:Heap) (n n':Nat):Prop:=∃ k q,v = .ptr k 0 0∧n≤k∧n≤q∧k<n'∧q<n'∧h k=some ⟨true,2,[[.int .i64 l.Const,.ref q 0 l.Coeffs.length]]⟩∧h q=some ⟨false,1,J0e l.Coeffs⟩
theorem Jn2 {ms:MS}{i:Nat}(hi:i<r.Guards.length) (s5:s 5 = .ptr 2 0 0) (s9:s 9 = .int .i64 N) (s11:s 11 = .ptr 8 0 0) (s14:s 14 = .int .i64 i) (M:SM r f N ms h n) (hE:ms.E.length≤1048576) (hx:(r.Guards[i]).Terms.length≤1048576)
 (hK:∀ s' h' n',(∀ j∈[2,4,5,6,8,9,10,11,14],s' j=s j)→n≤n'→(∀ id,id<n→h' id=h id)→Jg4 (Jdb ms.E N r.Guards[i]) (s' 15) h' n n'→J25 Tryz.prog ks .normal s' h' n' Q):rC Tryz.prog Jur ks s h n Q:=by
 obtain ⟨vN,vL,e8,hb⟩:=M.bws
 obtain ⟨b1,b2⟩:=hb h fun _ _=>rfl
 have b3:∀ x,bw vN (upd h n x)=some (.sl 1 (J0d (J1a ms.E)))∧bw vL (upd h n x)=some (.sl 2 ((J2x ms.E).map J06)):=fun x=>hb _ fun id hid=>by
  have:¬id=n:=by omega
  simp [this]
 have fr:∀ id,id<n→¬id=n∧¬id=n+1:=by intro id _;omega
 have ne:¬n=n+1∧¬n+1=n:=by omega
 simp [Jur,s5,s9,s11,s14,e8,M.hr,J0c,hi]
 have hd:∀ g,(Jt0 ms.E N g).getD J1d=Jdb ms.E N g:=fun _=>rfl
 constructor
 ·skip
  first|refine J00 (J7s ms.E hE (r.Guards[i]'hi) hx N) (by first|simp [Jfy,b1,b2];done|rfl) ?_|refine J01 (J7s ms.E hE (r.Guards[i]'hi) hx N) (by first|simp [Jfy,b1,b2];done|rfl) ?_
  rintro r rfl
  rw [J0o,hd]
  generalize Jdb ms.E N r.Guards[i]=l at *
  simp [J07,ne]
  exact hK _ _ _ (by simp) (by omega) (fun id hid=>by simp [fr id hid]) ⟨n+1,n,by simp,by omega,by omega,by omega,by omega,by simp,by simp [ne]⟩
 ·skip
  first|refine J00 (J7s ms.E hE (r.Guards[i]'hi) hx N) (by first|simp [Jfy,b3];done|rfl) ?_|refine J01 (J7s ms.E hE (r.Guards[i]'hi) hx N) (by first|simp [Jfy,b3];done|rfl) ?_
  rintro r rfl
  rw [J0o,hd]
  generalize Jdb ms.E N r.Guards[i]=l at *
  simp [J07,ne]
  exact hK _ _ _ (by simp) (by omega) (fun id hid=>by simp [fr id hid]) ⟨n,n+1,by simp,by omega,by omega,by omega,by omega,by simp,by simp [ne]⟩
theorem Jmx {l:DLin}(s10:s 10 = .ptr 7 0 0) (M:SI r f N nm ls R P A h0 n0) (hn:n0≤n) (hfr:∀ id,id<n0→h id=h0 id) (L:Jg4 l (s 15) h n0 n) (hl:R.length≤1000000)
 (hK:∀ s' h' n',(∀ j∈[2,4,5,6,8,9,10,11,14],s' j=s j)→SI r f N nm ls (R++[l]) P A h' n'→J25 Tryz.prog ks .normal s' h' n' Q):rC Tryz.prog Jw8 ks s h n Q:=by
 have l1:=M.lt
 obtain ⟨k,q,s15,x1,x2,x3,x4,x5,x6⟩:=L
 obtain ⟨vN,vL,vR,vP,vA,e8,e7,AS⟩:=M.acc
 have y1:=AS.1 (2,R.map J07,vR) (by simp)
 have e7':h 7=some ⟨true,6,[J52 N vR vP vA]⟩:=by rw [hfr 7 (by omega),e7]
 have ne:¬8=n∧¬7=n∧¬n=7∧¬n=6∧¬n=8∧¬8=n+1∧¬7=n+1∧¬n+1=8∧¬n+1=7∧¬n=n+1∧¬n+1=n∧¬q=n∧¬q=7∧¬q=8∧¬7=q∧¬8=q:=by omega
 have frn:∀ id,id<n0→¬id=n∧¬id=n+1∧¬id=q:=by intro id _;omega
 simp [Jw8,s10,s15,e7',J52,x5,x6]
 refine J32 (rows:=R.map J07) (rows2:=[[.int .i64 l.Const,.us 1 (J0e l.Coeffs)]]) (y1.keep (n':=n+1) (by omega) fun id _ hid _=>by simp [frn id hid,hfr id hid]) (by simp) (fun l e=>by have:=(y1.lt e).2.1;omega) (by omega) (by simp;unfold LIM;omega) ?_
 intro h1 f1 f2
 have g8:h1 8=some ⟨true,2,[[vN,vL]]⟩:=by rw [f2 8 (by omega) (by omega) fun l e=>y1.not_box e8 e];simp [ne,hfr 8 (by omega),e8]
 have g7:h1 7=some ⟨true,6,[J52 N vR vP vA]⟩:=by rw [f2 7 (by omega) (by omega) fun l e=>y1.not_box e7 e];simp [ne,hfr 7 (by omega),e7]
 simp [g7,s10,J52]
 refine hK _ _ _ (by simp) (M.app (l1:=[(1,J0d nm,vN),(2,ls.map J06,vL)]) (x:=(2,R.map J07,vR)) (x':=(2,(R++[l]).map J07,.ref (n+1) 0 (R.length+1))) (l2:=[(2,P.map J07,vP),(1,A.map J26,vA)]) (by omega) e8 e7 AS (by simp [g8]) (by simp [J52]) (.inr ⟨n+1,by omega,by omega,by simp,by simp [ne,f1,J07]⟩) (fun i k e=>by simp only [AV.ref.injEq] at e;omega) ?_ rfl)
 intro id h1' h2' h3' h4'
 simp [h2',f2 id (by omega) (by omega) h4',frn id h1',hfr id h1']
theorem Jsq {ma:MS}(s5:s 5 = .ptr 2 0 0) (s9:s 9 = .int .i64 N) (s10:s 10 = .ptr 7 0 0) (s11:s 11 = .ptr 8 0 0) (M:SM r f N ma h n) (hE:ma.E.length≤1048576) (hg2:r.Guards.length≤2) (hts:∀ g∈r.Guards,g.Terms.length≤1048576) (hR:ma.rows.length≤100000)
 (hK:∀ s' h' n',(∀ j∈[2,4,5,6,8,9,10,11],s' j=s j)→SM r f N (J0u ma (r.Guards.map (Jdb ma.E N))) h' n'→J25 Tryz.prog ks .normal s' h' n' Q):rC Tryz.prog K4v ks s h n Q:=by
 simp [K4v]
 refine J0k [2,4,5,6,8,9,10,11] 14 r.Guards.length (fun i s h m=>SM r f N (J0u ma ((r.Guards.map (Jdb ma.E N)).take i)) h m) (by unfold LIM;omega) (by simp) (by simpa [J0u] using M) ?_ ?_
 ·rintro i st h' m Rr hi hg hk s14 hw M hR2 _ _
  simp at hk
  have hts:=hts _ (List.getElem_mem hi)
  have hM:=M.hr
  refine J09 (J0g [2,4,5,6,8,9,10,11,14] (fun s=>s 104 = .bool true) (by simp [hk,s14,s5,hM,J0c,hi]) ?_)
  intro st1 hk1 s104
  simp at hk1
  refine J1u s104 (J09 (J0t ?_))
  refine J09 (Jn2 (i:=i) hi (by simp [hk1,hk,s5]) (by simp [hk1,hk,s9]) (by simp [hk1,hk,s11]) (by simp [hk1,s14]) M hE hts ?_)
  intro st2 h2 m2 hk2 hm2 hfr2 L2
  simp at hk2
  refine J53 (Jmx (by simp [hk2,hk1,hk,s10]) M hm2 hfr2 L2 (by simp [J0u];omega) ?_)
  intro st3 h3 m3 hk3 M3
  simp at hk3
  simp [hk3,hk2,hk1,s14,hw]
  refine hR2 _ _ _ (by simp [hk3,hk2,hk1,hk]) (by simp) ?_
  rw [List.take_succ_eq_append_getElem (by simpa using hi)]
  have:(J0u ma ((r.Guards.map (Jdb ma.E N)).take i++[(r.Guards.map (Jdb ma.E N))[i]'(by simpa using hi)])).rows=(J0u ma ((r.Guards.map (Jdb ma.E N)).take i)).rows++[Jdb ma.E N r.Guards[i]]:=by simp [J0u]
  unfold SM
  rw [this]
  exact M3
 ·rintro st h' m Rr hk s14 M _ hX
  simp at hk
  have hM:=M.hr
  rw [List.take_of_length_le (by simp)] at M
  refine J09 (J0g [2,4,5,6,8,9,10,11] (fun s=>s 104 = .bool false) (by simp [hk,s14,s5,hM,J0c]) ?_)
  intro st1 hk1 s104
  simp at hk1
  refine J1s s104 ?_
  refine hX _ _ _ _ ?_
  simp
  exact hK _ _ _ (by simp [hk1,hk]) M
end
section
variable {ks:List Kt}{s:Env}{h h' h0:Heap}{n n0 N:Nat}{Q:Fin}{r:DRule}{f:DFunction}{nm:List Str}{ls R P:List DLin}{A:List (List DLin)}
theorem Jnk {ms:MS}{i j:Nat}(hi:i<r.Calls.length) (hj:j<(r.Calls[i]).Args.length) (s5:s 5 = .ptr 2 0 0) (s9:s 9 = .int .i64 N) (s11:s 11 = .ptr 8 0 0) (s17:s 17 = .int .i64 i) (s19:s 19 = .int .i64 j) (M:SM r f N ms h n) (hE:ms.E.length≤1048576)
 (hx:∀ y∈((r.Calls[i]).Args[j]).Heads,y.Terms.length≤1048576) (hne:((r.Calls[i]).Args[j]).Lst=false→0<((r.Calls[i]).Args[j]).Heads.length)
 (hK:∀ s' h' n',(∀ j∈[2,4,5,6,8,9,10,11,17,18,19],s' j=s j)→n≤n'→(∀ id,id<n→h' id=h id)→Jg4 (Jf4 ms.E N ((r.Calls[i]).Args[j])) (s' 20) h' n n'→J25 Tryz.prog ks .normal s' h' n' Q):rC Tryz.prog Jtz ks s h n Q:=by
 obtain ⟨vN,vL,e8,hb⟩:=M.bws
 obtain ⟨b1,b2⟩:=hb h fun _ _=>rfl
 have b3:∀ x,bw vN (upd h n x)=some (.sl 1 (J0d (J1a ms.E)))∧bw vL (upd h n x)=some (.sl 2 ((J2x ms.E).map J06)):=fun x=>hb _ fun id hid=>by
  have:¬id=n:=by omega
  simp [this]
 have fr:∀ id,id<n→¬id=n∧¬id=n+1:=by intro id _;omega
 have ne:¬n=n+1∧¬n+1=n:=by omega
 simp [Jtz,s5,s9,s11,s17,s19,e8,M.hr,J0c,J0y,hi,hj]
 have hd:∀ g,(Jv5 ms.E N g).getD J1d=Jf4 ms.E N g:=fun _=>rfl
 constructor
 ·skip
  first|refine J00 (J6m ms.E hE ((r.Calls[i]'hi).Args[j]'hj) hx hne N) (by first|simp [Jfy,b1,b2];done|rfl) ?_|refine J01 (J6m ms.E hE ((r.Calls[i]'hi).Args[j]'hj) hx hne N) (by first|simp [Jfy,b1,b2];done|rfl) ?_
  rintro r rfl
  rw [J0o,hd]
  generalize Jf4 ms.E N ((r.Calls[i]).Args[j])=l at *
  simp [J07,ne]
  exact hK _ _ _ (by simp) (by omega) (fun id hid=>by simp [fr id hid]) ⟨n+1,n,by simp,by omega,by omega,by omega,by omega,by simp,by simp [ne]⟩
 ·skip
  first|refine J00 (J6m ms.E hE ((r.Calls[i]'hi).Args[j]'hj) hx hne N) (by first|simp [Jfy,b3];done|rfl) ?_|refine J01 (J6m ms.E hE ((r.Calls[i]'hi).Args[j]'hj) hx hne N) (by first|simp [Jfy,b3];done|rfl) ?_
  rintro r rfl
  rw [J0o,hd]
  generalize Jf4 ms.E N ((r.Calls[i]).Args[j])=l at *
  simp [J07,ne]
  exact hK _ _ _ (by simp) (by omega) (fun id hid=>by simp [fr id hid]) ⟨n,n+1,by simp,by omega,by omega,by omega,by omega,by simp,by simp [ne]⟩
theorem Jns {ms:MS}{i:Nat}(hi:i<r.Calls.length) (s5:s 5 = .ptr 2 0 0) (s9:s 9 = .int .i64 N) (s11:s 11 = .ptr 8 0 0) (s17:s 17 = .int .i64 i) (M:SM r f N ms h0 n0) (hn:n0≤n) (hfr:∀ id,id<n0→h id=h0 id) (hE:ms.E.length≤1048576) (hal:(r.Calls[i]).Args.length≤100)
 (B:J3v (n0 - 1) 2 [] (s 18) h n) (hx:∀ x∈(r.Calls[i]).Args,∀ y∈x.Heads,y.Terms.length≤1048576) (hne:∀ x∈(r.Calls[i]).Args,x.Lst=false→0<x.Heads.length)
 (hK:∀ s' h' n',(∀ j∈[2,4,5,6,8,9,10,11,17],s' j=s j)→n0≤n'→(∀ id,id<n0→h' id=h0 id)→J3v (n0 - 1) 2 (((r.Calls[i]).Args.map (Jf4 ms.E N)).map J07) (s' 18) h' n'→J25 Tryz.prog ks .normal s' h' n' Q):rC Tryz.prog Jvh ks s h n Q:=by
 simp [Jvh]
 have l1:=M.lt
 have hM:∀ (h':Heap),(∀ id,id<n0→h' id=h0 id)→h' 2=some ⟨true,7,[J0c r]⟩:=fun h' hh=>by rw [hh 2 (by omega),M.hr]
 generalize hT:(r.Calls[i]).Args.map (Jf4 ms.E N)=T at hK
 refine J0k [2,4,5,6,8,9,10,11,17] 19 (r.Calls[i]).Args.length (fun j s h m=>n0≤m∧(∀ id,id<n0→h id=h0 id)∧∃ acc:List DLin,J3v (n0 - 1) 2 (acc.map J07) (s 18) h m∧acc++((r.Calls[i]).Args.drop j).map (Jf4 ms.E N)=T∧acc.length≤j) (by unfold LIM;omega) (by simp)
  ⟨hn,hfr,[],by simpa using B,by simpa using hT,by simp⟩ ?_ ?_
 ·rintro j st h' m Rr hj hg hk s19 hw ⟨hm,hfr',acc,hA,hJ,hacc⟩ hR _ _
  simp at hk
  rw [List.drop_eq_getElem_cons hj,List.map_cons] at hJ
  have hx:=hx _ (List.getElem_mem hj)
  have hne:=hne _ (List.getElem_mem hj)
  refine J09 (J0g [2,4,5,6,8,9,10,11,17,18,19] (fun s=>s 142 = .bool true) (by simp [hk,s19,s5,s17,hM h' hfr',J0c,J0y,hi,hj]) ?_)
  intro st1 hk1 s142
  simp at hk1
  refine J1u s142 (J09 (J0t ?_))
  have M1:SM r f N ms h' m:=SI.frame M hm hfr'
  refine J09 (Jnk (i:=i) (j:=j) hi hj (by simp [hk1,hk,s5]) (by simp [hk1,hk,s9]) (by simp [hk1,hk,s11]) (by simp [hk1,hk,s17]) (by simp [hk1,s19]) M1 hE hx hne ?_)
  intro st2 h2 m2 hk2 hm2 hfr2 L2
  simp at hk2
  obtain ⟨k,q,s20,x1,x2,x3,x4,x5,x6⟩:=L2
  generalize Jf4 ms.E N ((r.Calls[i]).Args[j])=l at *
  have u18:st2 18=st 18:=by rw [hk2.2.2.2.2.2.2.2.2.2.1,hk1.2.2.2.2.2.2.2.2.2.1]
  refine J53 ?_
  have nq:¬q=m2:=by omega
  have frn:∀ id,id<m→¬id=m2∧¬id=m2+1∧¬id=q:=by intro id _;omega
  simp [K01,u18,s20,x5,x6]
  generalize hv18:st 18=v18 at *
  refine J32 (rows:=acc.map J07) (rows2:=[[.int .i64 l.Const,.us 1 (J0e l.Coeffs)]]) (hA.keep (n':=m2+1) (by omega) fun id _ hid _=>by simp [frn id hid,hfr2 id hid]) (by simp) (fun l e=>by have:=(hA.lt e).2.1;omega) (by omega) (by simp;unfold LIM;omega) ?_
  intro h3 f1 f2
  simp [hk2,hk1,s19,hw]
  refine hR _ _ _ (by simp [hk2,hk1,hk]) (by simp) ⟨by omega,?_,acc++[l],?_,by simpa using hJ,by simp;omega⟩
  ·intro id hid
   rw [f2 id (by omega) (by omega) fun k e=>by have:=(hA.lt e).1;omega]
   simp [frn id (by omega),hfr2 id (by omega),hfr' id hid]
  ·simp
   exact .inr ⟨m2+1,by omega,by omega,by simp,by simp [f1,J07]⟩
 ·rintro j st h' Rr hk s19 ⟨hm,hfr',acc,hA,hJ,hacc⟩ _ hX
  simp at hk
  rw [List.drop_eq_nil_of_le (by omega)] at hJ
  simp at hJ
  subst hJ
  refine J09 (J0g [2,4,5,6,8,9,10,11,17,18] (fun s=>s 142 = .bool false) (by simp [hk,s19,s5,s17,hM _ hfr',J0c,J0y,hi]) ?_)
  intro st1 hk1 s142
  simp at hk1
  refine J1s s142 ?_
  refine hX _ _ _ _ ?_
  simp
  refine hK _ _ _ (by simp [hk1,hk]) hm hfr' ?_
  rw [hk1.2.2.2.2.2.2.2.2.2];exact hA
theorem Jnl {xs':List DLin}(s10:s 10 = .ptr 7 0 0) (M:SI r f N nm ls R P A h0 n0) (hn:n0≤n) (hfr:∀ id,id<n0→h id=h0 id) (B:J3v (n0 - 1) 2 (xs'.map J07) (s 18) h n) (hl:A.length≤1000000) (hl2:xs'.length≤1000000)
 (hK:∀ s' h' n',(∀ j∈[2,4,5,6,8,9,10,11,17],s' j=s j)→SI r f N nm ls R P (A++[xs']) h' n'→J25 Tryz.prog ks .normal s' h' n' Q):rC Tryz.prog Jtv ks s h n Q:=by
 have l1:=M.lt
 obtain ⟨vN,vL,vR,vP,vA,e8,e7,AS⟩:=M.acc
 have y1:=AS.1 (1,A.map J26,vA) (by simp)
 have e7':h 7=some ⟨true,6,[J52 N vR vP vA]⟩:=by rw [hfr 7 (by omega),e7]
 have ne:¬8=n∧¬7=n∧¬n=7∧¬n=6∧¬n=8∧¬8=n+1∧¬7=n+1∧¬n+1=8∧¬n+1=7∧¬n=n+1∧¬n+1=n:=by omega
 obtain ⟨hd,dt1,fd⟩:=B.dt
 have fdn:∀ id,id<n0→hd id=h0 id:=fun id hid=>by rw [fd id fun l e=>by have:=(B.lt e).1;omega,hfr id hid]
 have frn:∀ id,id<n0→¬id=n∧¬id=n+1:=by intro id _;omega
 have cB:=B.cell
 simp [Jtv,s10,e7',J52,dt1]
 refine J32 (rows:=A.map J26) (rows2:=[[.us 2 (xs'.map J07)]]) (y1.keep (n':=n+1) (by omega) fun id _ hid _=>by simp [frn id hid,fdn id hid]) (by simp) (fun l e=>by have:=(y1.lt e).2.1;omega) (by omega) (by simp;unfold LIM;omega) ?_
 intro h1 f1 f2
 have g8:h1 8=some ⟨true,2,[[vN,vL]]⟩:=by rw [f2 8 (by omega) (by omega) fun l e=>y1.not_box e8 e];simp [ne,fdn 8 (by omega),e8]
 have g7:h1 7=some ⟨true,6,[J52 N vR vP vA]⟩:=by rw [f2 7 (by omega) (by omega) fun l e=>y1.not_box e7 e];simp [ne,fdn 7 (by omega),e7]
 simp [g7,s10,J52]
 refine hK _ _ _ (by simp) (M.app (l1:=[(1,J0d nm,vN),(2,ls.map J06,vL),(2,R.map J07,vR),(2,P.map J07,vP)]) (x:=(1,A.map J26,vA)) (x':=(1,(A++[xs']).map J26,.ref (n+1) 0 (A.length+1))) (l2:=[]) (by omega) e8 e7 AS (by simp [g8]) (by simp [J52]) (.inr ⟨n+1,by omega,by omega,by simp,by simp [ne,f1,J26]⟩) (fun i k e=>by simp only [AV.ref.injEq] at e;omega) ?_ rfl)
 intro id h1' h2' h3' h4'
 simp [h2',f2 id (by omega) (by omega) h4',frn id h1',fdn id h1']
end
section
variable {ks:List Kt}{s:Env}{h h' h0:Heap}{n n0 N:Nat}{Q:Fin}{r:DRule}{f:DFunction}{nm:List Str}{ls R P:List DLin}{A:List (List DLin)}
theorem Joc {i:Nat}(hi:i<r.Calls.length) (s5:s 5 = .ptr 2 0 0) (s11:s 11 = .ptr 8 0 0) (s17:s 17 = .int .i64 i) (M:SI r f N nm ls R P A h n) (hl:nm.length≤1048576)
 (hK:∀ s' h' n',(∀ j∈[2,4,5,6,8,9,10,11,17,22],s' j=s j)→n≤n'→(∀ id z rows,id<n→id≠8→h id=some ⟨true,z,rows⟩→h' id=h id)→SI r f N (nm++[(r.Calls[i]).Bind]) ls R P A h' n'→J25 Tryz.prog ks .normal s' h' n' Q):rC Tryz.prog Jws ks s h n Q:=by
 have l1:=M.lt
 obtain ⟨vN,vL,vR,vP,vA,e8,e7,AS⟩:=M.acc
 have y1:=AS.1 (1,J0d nm,vN) (by simp)
 have ne:¬8=n∧¬7=n∧¬n=7∧¬n=6∧¬n=8∧¬8=n+1∧¬7=n+1∧¬n+1=8:=by omega
 have frn:∀ id,id<n→¬id=n∧¬id=n+1:=by intro id _;omega
 simp [Jws,s5,s11,s17,e8,M.hr,J0c,J0y,hi,ne]
 generalize (r.Calls[i]).Bind=x at *
 refine J32 (rows:=J0d nm) (rows2:=[[.str x]]) (y1.keep (n':=n+1) (by omega) fun id _ hid _=>by simp [frn id hid]) (by simp) (fun l e=>by have:=(y1.lt e).2.1;omega) (by omega) (by simp [J0d];unfold LIM;omega) ?_
 intro h1 f1 f2
 have g8:h1 8=some ⟨true,2,[[vN,vL]]⟩:=by rw [f2 8 (by omega) (by omega) fun l e=>y1.not_box e8 e];simp [ne,e8]
 have g7:h1 7=some ⟨true,6,[J52 N vR vP vA]⟩:=by rw [f2 7 (by omega) (by omega) fun l e=>y1.not_box e7 e];simp [ne,e7]
 simp [g8,s11]
 refine hK _ _ _ (by simp) (by omega) ?_ (M.app (l1:=[]) (x:=(1,J0d nm,vN)) (x':=(1,J0d (nm++[x]),.ref (n+1) 0 (nm.length+1))) (l2:=[(2,ls.map J06,vL),(2,R.map J07,vR),(2,P.map J07,vP),(1,A.map J26,vA)]) (by omega) e8 e7 AS (by simp [J0d]) (by simp [g7]) (.inr ⟨n+1,by omega,by omega,by simp [J0d],by simp [ne,f1,J0d]⟩) (fun i k e=>by simp only [AV.ref.injEq] at e;omega) ?_ rfl)
 ·intro id z rows h1' h2' h3'
  simp [h2',f2 id (by omega) (by omega) fun l e=>y1.not_box h3' e,frn id h1']
 intro id h1' h2' h3' h4'
 simp [h3',f2 id (by omega) (by omega) h4',frn id h1']
theorem Jmm {l:DLin}{k:Nat}(s11:s 11 = .ptr 8 0 0) (s22:s 22 = .ptr k 0 0) (hkn:k<n) (hkb:h k=some ⟨true,2,[J06 l]⟩) (M:SI r f N nm ls R P A h n) (hl:ls.length≤1048576)
 (hK:∀ s' h' n',(∀ j∈[2,4,5,6,8,9,10,11,17,22],s' j=s j)→n≤n'→(∀ id z rows,id<n→id≠8→h id=some ⟨true,z,rows⟩→h' id=h id)→SI r f N nm (ls++[l]) R P A h' n'→J25 Tryz.prog ks .normal s' h' n' Q):rC Tryz.prog Jwh ks s h n Q:=by
 have l1:=M.lt
 obtain ⟨vN,vL,vR,vP,vA,e8,e7,AS⟩:=M.acc
 have y1:=AS.1 (2,ls.map J06,vL) (by simp)
 have ne:¬8=n∧¬7=n∧¬n=7∧¬n=6∧¬n=8∧¬8=n+1∧¬7=n+1∧¬n+1=8:=by omega
 have frn:∀ id,id<n→¬id=n∧¬id=n+1:=by intro id _;omega
 simp [Jwh,s11,s22,e8,hkb]
 refine J32 (rows:=ls.map J06) (rows2:=[J06 l]) (y1.keep (n':=n+1) (by omega) fun id _ hid _=>by simp [frn id hid]) (by simp) (fun l e=>by have:=(y1.lt e).2.1;omega) (by omega) (by simp;unfold LIM;omega) ?_
 intro h1 f1 f2
 have g8:h1 8=some ⟨true,2,[[vN,vL]]⟩:=by rw [f2 8 (by omega) (by omega) fun l e=>y1.not_box e8 e];simp [ne,e8]
 have g7:h1 7=some ⟨true,6,[J52 N vR vP vA]⟩:=by rw [f2 7 (by omega) (by omega) fun l e=>y1.not_box e7 e];simp [ne,e7]
 simp [g8,s11]
 refine hK _ _ _ (by simp) (by omega) ?_ (M.app (l1:=[(1,J0d nm,vN)]) (x:=(2,ls.map J06,vL)) (x':=(2,(ls++[l]).map J06,.ref (n+1) 0 (ls.length+1))) (l2:=[(2,R.map J07,vR),(2,P.map J07,vP),(1,A.map J26,vA)]) (by omega) e8 e7 AS (by simp) (by simp [g7]) (.inr ⟨n+1,by omega,by omega,by simp,by simp [ne,f1]⟩) (fun i k e=>by simp only [AV.ref.injEq] at e;omega) ?_ rfl)
 ·intro id z rows h1' h2' h3'
  simp [h2',f2 id (by omega) (by omega) fun l e=>y1.not_box h3' e,frn id h1']
 intro id h1' h2' h3' h4'
 simp [h3',f2 id (by omega) (by omega) h4',frn id h1']
theorem Jn3 {l:DLin}{k:Nat}(s10:s 10 = .ptr 7 0 0) (s22:s 22 = .ptr k 0 0) (hkb:h k=some ⟨true,2,[J06 l]⟩) (M:SI r f N nm ls R P A h n) (hl:R.length≤1048576) (hl0:l.Coeffs.length≤1048576)
 (hK:∀ s' h' n',(∀ j∈[2,4,5,6,8,9,10,11,17],s' j=s j)→SI r f N nm ls (R++[l]) P A h' n'→J25 Tryz.prog ks .normal s' h' n' Q):rC Tryz.prog Jw7 ks s h n Q:=by
 have l1:=M.lt
 obtain ⟨vN,vL,vR,vP,vA,e8,e7,AS⟩:=M.acc
 have y1:=AS.1 (2,R.map J07,vR) (by simp)
 have ne:¬8=n∧¬7=n∧¬n=7∧¬n=6∧¬n=8∧¬8=n+1∧¬7=n+1∧¬n+1=8∧¬n+1=7∧¬n=n+1∧¬n+1=n∧¬n=5:=by omega
 have frn:∀ id,id<n→¬id=n∧¬id=n+1∧¬id=n+2:=by intro id _;omega
 simp [Jw7,s10,s22,e7,J52,hkb]
 first|refine J00 (J2c l hl0) (by first|simp;done|rfl) ?_|refine J01 (J2c l hl0) (by first|simp;done|rfl) ?_
 rintro r rfl
 simp [J07,e7,ne,s10,J52]
 refine J32 (rows:=R.map J07) (rows2:=[[.int .i64 l.Const,.us 1 (J0e l.Coeffs)]]) (y1.keep (n':=n+1+1) (by omega) fun id _ hid _=>by simp [frn id hid]) (by simp) (fun l e=>by have:=(y1.lt e).2.1;omega) (by omega) (by simp;unfold LIM;omega) ?_
 intro h1 f1 f2
 have g8:h1 8=some ⟨true,2,[[vN,vL]]⟩:=by rw [f2 8 (by omega) (by omega) fun l e=>y1.not_box e8 e];simp [ne,e8]
 have g7:h1 7=some ⟨true,6,[J52 N vR vP vA]⟩:=by rw [f2 7 (by omega) (by omega) fun l e=>y1.not_box e7 e];simp [ne,e7]
 simp [g7,s10,J52]
 refine hK _ _ _ (by simp) (M.app (l1:=[(1,J0d nm,vN),(2,ls.map J06,vL)]) (x:=(2,R.map J07,vR)) (x':=(2,(R++[l]).map J07,.ref (n+2) 0 (R.length+1))) (l2:=[(2,P.map J07,vP),(1,A.map J26,vA)]) (by omega) e8 e7 AS (by simp [g8]) (by simp [J52]) (.inr ⟨n+2,by omega,by omega,by simp,by simp [ne,f1,J07]⟩) (fun i k e=>by simp only [AV.ref.injEq] at e;omega) ?_ rfl)
 intro id h1' h2' h3' h4'
 simp [h2',f2 id (by omega) (by omega) h4',frn id h1']
def okA (x:DArg):Prop:=(∀ y∈x.Heads,y.Terms.length≤4)∧(x.Lst=false→0<x.Heads.length)
theorem Jsb {ma:MS}(s5:s 5 = .ptr 2 0 0) (s9:s 9 = .int .i64 N) (s10:s 10 = .ptr 7 0 0) (s11:s 11 = .ptr 8 0 0) (M:SM r f N ma h n) (hN:N≤8) (hE:ma.E.length≤100000) (hc2:r.Calls.length≤2) (hcN:r.Calls.length≤N) (hnx:ma.nx=N - r.Calls.length) (hR:ma.rows.length≤100000) (hA:ma.args.length≤10)
 (hargs:∀ c∈r.Calls,c.Args.length≤2∧∀ x∈c.Args,okA x)
 (hK:∀ s' h' n',(∀ j∈[2,4,5,6,8,9,10,11],s' j=s j)→SM r f N (r.Calls.foldl (J5g N) ma) h' n'→J25 Tryz.prog ks .normal s' h' n' Q):rC Tryz.prog K7e ks s h n Q:=by
 simp [K7e]
 generalize hT:r.Calls.foldl (J5g N) ma=T at hK
 refine J0k [2,4,5,6,8,9,10,11] 17 r.Calls.length (fun i s h m=>∃ ms:MS,(r.Calls.drop i).foldl (J5g N) ms=T∧SM r f N ms h m∧ms.nx=N - r.Calls.length+i∧ms.E.length≤100000+i∧ms.rows.length≤100000+i∧ms.args.length≤10+i) (by unfold LIM;omega) (by simp)
  ⟨ma,by simpa using hT,M,by omega,by omega,by omega,by omega⟩ ?_ ?_
 ·rintro i st h' m Rr hi hg hk s17 hw ⟨ms,hJ,M,hb1,hb2,hb3,hb4⟩ hR2 _ _
  simp at hk
  rw [List.drop_eq_getElem_cons hi,List.foldl_cons] at hJ
  obtain ⟨ha1,ha2⟩:=hargs _ (List.getElem_mem hi)
  have hM:=M.hr
  have l1:=M.lt
  refine J09 (J0g [2,4,5,6,8,9,10,11,17] (fun s=>s 130 = .bool true) (by simp [hk,s17,s5,hM,J0c,hi]) ?_)
  intro st1 hk1 s130
  simp at hk1
  refine J1u s130 (J09 (J0t ?_))
  refine J17 [2,4,5,6,8,9,10,11,17] (fun s h2 n2=>m≤n2∧(∀ id,id<m→h2 id=h' id)∧J3v (m - 1) 2 [] (s 18) h2 n2) ?_ ?_
  ·simp
   refine ⟨fun id hid => ?_,.inr ⟨m,by omega,by omega,by simp,by simp⟩⟩
   have:¬id=m:=by omega
   simp [this]
  rintro st2 h2 m2 hk2 ⟨hm2,hfr2,B2⟩
  simp at hk2
  refine J09 (Jns (ms:=ms) (i:=i) hi (by simp [hk2,hk1,hk,s5]) (by simp [hk2,hk1,hk,s9]) (by simp [hk2,hk1,hk,s11]) (by simp [hk2,hk1,s17]) M hm2 hfr2 (by omega) (by omega) B2 (fun x hx y hy=>by have:=(ha2 x hx).1 y hy;omega) (fun x hx=>(ha2 x hx).2) ?_)
  intro st3 h3 m3 hk3 hm3 hfr3 B3
  simp at hk3
  refine J53 (J09 (Jnl (by simp [hk3,hk2,hk1,hk,s10]) M hm3 hfr3 B3 (by omega) (by simp;omega) ?_))
  intro st4 h4 m4 hk4 M4
  simp at hk4
  generalize hargsL:(r.Calls[i]).Args.map (Jf4 ms.E N)=AL at *
  have k4:∀ j∈[2,4,5,6,8,9,10,11,17],st4 j=st j:=by simp [hk4,hk3,hk2,hk1]
  simp at k4
  have hM4:=M4.hr
  have hw1:IntKind.i64.wrap ((N:Int) - (r.Calls.length:Int))=((N - r.Calls.length:Nat):Int):=by rw [J19 (by omega)];omega
  have hw2:IntKind.i64.wrap (((N - r.Calls.length:Nat):Int)+(i:Int))=(ms.nx:Int):=by rw [J19 (by omega)];omega
  refine J53 (J17 [2,4,5,6,8,9,10,11,17] (fun s h5 n5=>∃ k,s 22 = .ptr k 0 0∧k<n5∧k≠8∧h5 k=some ⟨true,2,[J06 (J2k ms.nx N)]⟩∧SI r f N (J1a ms.E) (J2x ms.E) ms.rows ms.pars (ms.args++[AL]) h5 n5) ?_ ?_)
  ·simp [k4,hk,s9,s5,hM4,J0c,s17,hw1,hw2]
   intro _
   refine J7o (J6w ms.nx N) ?_ ?_
   ·simp
   rintro _ rfl
   have fr:∀ id,id<m4→¬id=m4:=by intro id _;omega
   have l4:=M4.lt
   simp
   exact ⟨by omega,M4.frame (by omega) fun id hid=>by simp [fr id hid]⟩
  rintro st5 h5 m5 hk5 ⟨k,s22,hkn,hk8,hkb,M5⟩
  simp at hk5
  refine J09 (Joc (i:=i) hi (by simp [hk5,k4,hk,s5]) (by simp [hk5,k4,hk,s11]) (by simp [hk5,k4,s17]) M5 (by simp [J1a];omega) ?_)
  intro st6 h6 m6 hk6 hm6 bx6 M6
  simp at hk6
  have hkb6:h6 k=some ⟨true,2,[J06 (J2k ms.nx N)]⟩:=by rw [bx6 k _ _ hkn hk8 hkb,hkb]
  refine J53 (J09 (Jmm (l:=J2k ms.nx N) (k:=k) (by simp [hk6,hk5,k4,hk,s11]) (by simp [hk6,s22]) (by omega) hkb6 M6 (by simp [J2x];omega) ?_))
  intro st7 h7 m7 hk7 hm7 bx7 M7
  simp at hk7
  have hkb7:h7 k=some ⟨true,2,[J06 (J2k ms.nx N)]⟩:=by rw [bx7 k _ _ (by omega) hk8 hkb6,hkb6]
  have hM7:=M7.hr
  refine J53 (J0g [2,4,5,6,8,9,10,11,17,22] (fun s=>s 202 = .bool (J0l (r.Calls[i]).Bind)) ?_ ?_)
  ·simp [hk7,hk6,hk5,k4,hk,s5,s17,hM7,J0c,J0y,hi]
   first|refine J00 (J18 (r.Calls[i]'hi).Bind) (by first|simp;done|rfl) ?_|refine J01 (J18 (r.Calls[i]'hi).Bind) (by first|simp;done|rfl) ?_
   rintro r rfl
   simp
  intro st8 hk8' s202
  simp at hk8'
  have hsc:J5g N ms r.Calls[i]=⟨ms.E++[((r.Calls[i]).Bind,J2k ms.nx N)],ms.nx+1,ms.rows++(if J0l (r.Calls[i]).Bind then [J2k ms.nx N] else []),ms.pars,ms.args++[AL]⟩:=by unfold J5g;rw [hargsL]
  rw [hsc] at hJ
  have hl8:=J66 (i:=ms.nx) N hN
  have hkE:J1a (ms.E++[((r.Calls[i]).Bind,J2k ms.nx N)])=J1a ms.E++[(r.Calls[i]).Bind]:=by simp [J1a]
  have hvE:J2x (ms.E++[((r.Calls[i]).Bind,J2k ms.nx N)])=J2x ms.E++[J2k ms.nx N]:=by simp [J2x]
  cases c1:J0l (r.Calls[i]).Bind
  ·rw [c1] at s202 hJ
   simp [s202,hk8',hk7,hk6,hk5,k4,s17,hw]
   refine hR2 _ _ _ (by simp [hk8',hk7,hk6,hk5,k4,hk]) (by simp) ⟨_,hJ,?_,by simp only;omega,by simp;omega,by simp;omega,by simp;omega⟩
   unfold SM
   simp only [hkE,hvE,Bool.false_eq_true,if_false,List.append_nil]
   exact M7
  ·rw [c1] at s202 hJ
   rw [Jgk (show ev st8 (.t 202) = .bool true from s202)]
   refine Jn3 (l:=J2k ms.nx N) (k:=k) (by simp [hk8',hk7,hk6,hk5,k4,hk,s10]) (by simp [hk8',hk7,hk6,s22]) hkb7 M7 (by omega) (by omega) ?_
   intro st9 h9 m9 hk9 M9
   simp at hk9
   simp [hk9,hk8',hk7,hk6,hk5,k4,s17,hw]
   refine hR2 _ _ _ (by simp [hk9,hk8',hk7,hk6,hk5,k4,hk]) (by simp) ⟨_,hJ,?_,by simp only;omega,by simp;omega,by simp;omega,by simp;omega⟩
   unfold SM
   simp only [hkE,hvE,if_true]
   exact M9
 ·rintro st h' m Rr hk s17 ⟨ms,hJ,M,hb1,hb2,hb3,hb4⟩ _ hX
  simp at hk
  rw [List.drop_eq_nil_of_le (by omega)] at hJ
  simp only [List.foldl_nil] at hJ
  subst hJ
  have hM:=M.hr
  refine J09 (J0g [2,4,5,6,8,9,10,11] (fun s=>s 130 = .bool false) (by simp [hk,s17,s5,hM,J0c]) ?_)
  intro st1 hk1 s130
  simp at hk1
  refine J1s s130 ?_
  refine hX _ _ _ _ ?_
  simp
  exact hK _ _ _ (by simp [hk1,hk]) M
end
section
variable {p:DProgram}{r:DRule}{f:DFunction}{N:Nat}{I:Ids}{ks:List Kt}{s:Env}{h:Heap}{n:Nat}{Q:Fin}
theorem J6o.of {s':Env}(S:J6o I s) (hk:s' 2=s 2∧s' 4=s 4∧s' 6=s 6∧s' 7=s 7∧s' 9=s 9∧s' 12=s 12∧s' 13=s 13∧s' 15=s 15∧s' 16=s 16):J6o I s':=S.keep (by simpa [moK] using hk)
theorem J3v.bw {b:Nat}{l:List DLin}{v:AV}(x:J3v b 2 (l.map J07) v h n):Go.Proofs.YtoclolkigjbcgaaGreat.bw v h=some (.sl 2 (l.map J06)):=by
 rcases x with ⟨h1,rfl⟩|⟨i,_,_,rfl,hb⟩
 ·have:l=[]:=by simpa using h1
  subst this;simp
 ·simp [hb,List.take_of_length_le]
def Joo (N:Nat) (l:List DLin) (i:Nat):List DLin:=(l.take i).map (J3u N)
theorem Jp2 {l:List DLin}{i:Nat}(hi:i<l.length):Joo N l (i+1)=Joo N l i++[J3u N (l[i]'hi)]:=by unfold Joo;rw [List.take_succ_eq_append_getElem hi,List.map_append];rfl
theorem Js4 {l:List DLin} : Joo N l l.length=l.map (J3u N):=by unfold Joo;rw [List.take_length]
theorem Jqb {ma:MS}(S:J6o I s) (M:MI p r f N I ma h n) (hl2:f.Pre.length≤2) (hr2:ma.rows.length≤100) (hpl:∀ l∈f.Pre,J56 l ma.pars N=some (J3u N l)) (hwl:∀ l∈f.Pre,(J3u N l).Coeffs.length≤1048576)
 (hK:∀ s' h' n',J6o I s'→MI p r f N I (J0u ma (f.Pre.map (J3u N))) h' n'→J25 Tryz.prog ks .normal s' h' n' Q):rC Tryz.prog K71 ks s h n Q:=by
 have S0:=S
 obtain ⟨s2,s4,s6,s7,s9,s12,s13,s15,s16⟩:=S0
 simp [K71,s7,M.hf,M.h4]
 intro _
 refine J0k [2,4,6,7,9,12,13,15,16,114,115] 116 f.Pre.length (fun i s' h' n'=>MI p r f N I (J0u ma (Joo N f.Pre i)) h' n') (by unfold LIM;omega) (by simp) (by simpa [J0u,Joo] using M) ?_ ?_
 ·rintro i st h' m R hi hg hk s116 hw M hR _ _
  simp at hk
  rw [Jp2 hi] at hR
  have hpl:=hpl _ (List.getElem_mem hi)
  have hwl:=hwl _ (List.getElem_mem hi)
  refine J0g [2,4,6,7,9,12,13,15,16,114,115,116] (fun s=>s 117 = .bool true) (by simp [hk,s116,hi]) ?_
  intro st1 hk1 s117
  simp at hk1
  refine J2m s117 (J09 (J0t ?_))
  refine J17 [2,4,6,7,9,12,13,15,16,114,115,116] (fun s h' n'=>∃ k,s 21 = .ptr k 0 0∧k<n'∧h' k=some ⟨true,2,[J06 (f.Pre[i]'hi)]⟩∧MI p r f N I (J0u ma (Joo N f.Pre i)) h' n') ?_ ?_
  ·have fr:∀ id,id<m→¬id=m:=by intro id _;omega
   simp [hk1,hk,s116,hi,M.h4]
   exact M.frame (by omega) fun id hid=>by simp [fr id hid]
  rintro st2 h2 n2 hk2 ⟨k,s21,hkn,hkb,M2⟩
  simp at hk2
  generalize f.Pre[i]=l at *
  generalize hms:J0u ma (Joo N f.Pre i)=ms at *
  have hmp:ms.pars=ma.pars:=by rw [←hms];rfl
  have hmr:ms.rows.length≤102:=by rw [←hms];simp [J0u,Joo];omega
  obtain ⟨vR,vP,vA,g1,g2,g3,g4,g6,g5⟩:=M2.acc
  have hbP:=g3.bw
  rw [hmp] at hbP
  refine J17 [2,4,6,7,9,12,13,15,16,114,115,116] (fun s h' n'=>s 23 = .bool true∧∃ k,s 22 = .ptr k 0 0∧J5e (J3u N l) k h' n'∧MI p r f N I ms h' n') ?_ ?_
  ·have fr:∀ id,id<n2→¬id=n2∧¬id=n2+1:=by intro id _;omega
   have S2:J6o I st2:=S.of (by simp [hk2,hk1,hk])
   obtain ⟨t2,t4,t6,t7,t9,t12,t13,t15,t16⟩:=S2
   simp [s21,hkb,t12,g1,J52,t9,M2.hn]
   first|refine J00 (J5r l ma.pars N) (by first|simp [J06,hbP];done|rfl) ?_|refine J01 (J5r l ma.pars N) (by first|simp [J06,hbP];done|rfl) ?_
   rintro r rfl
   rw [hpl]
   simp [J0s,J07]
   exact ⟨⟨n2,by omega,by omega,by simp,by simp⟩,M2.frame (by omega) fun id hid=>by simp [fr id hid]⟩
  rintro st3 h3 n3 hk3 ⟨s23,k3,s22,L3,M3⟩
  simp at hk3
  have S3:J6o I st3:=S.of (by simp [hk3,hk2,hk1,hk])
  obtain ⟨t2,t4,t6,t7,t9,t12,t13,t15,t16⟩:=S3
  obtain ⟨q,hkn,hqn,hkb,hqb⟩:=L3
  simp [s23,t16,s22,hkb]
  refine J9i M3 (l:=J3u N l) (q:=q) hwl hqn hqb (by omega) ?_
  intro h6 n6 hn6 _ M6
  simp [hk3,hk2,hk1,hk,s116,hw]
  refine hR _ _ _ (by simp [hk3,hk2,hk1,hk]) (by simp) ?_
  have:Jib ms (J3u N l)=J0u ma (Joo N f.Pre i++[J3u N l]):=by rw [←hms];simp [Jib,J0u]
  rw [←this];exact M6
 ·rintro st h' m R hk s116 M _ hX
  simp at hk
  rw [Js4] at M
  refine J0g [2,4,6,7,9,12,13,15,16] (fun s=>s 117 = .bool false) (by simp [hk,s116]) ?_
  intro st1 hk1 s117
  simp at hk1
  refine J2g s117 ?_
  refine hX _ _ _ _ ?_
  simp
  exact hK _ _ _ (S.of (by simp [hk1,hk])) M
theorem Jax.bw2 {d:Nat}{E:SEnv}(M:Jax d E h n) (x:Str):∃ rows w,h d=some ⟨true,0,rows⟩∧(Ja2 rows x).getD (.agg [.int .i64 0,.nil 1]) = .agg [.int .i64 (J2n J1d E x).Const,w] ∧
 ∀ h',(∀ id,id<n→h' id=h id)→Go.Proofs.YtoclolkigjbcgaaGreat.bw w h'=some (.sl 1 (J0e (J2n J1d E x).Coeffs)):=by
 obtain ⟨rows,w,h1,h2,h3⟩:=M.get2 x
 refine ⟨rows,w,h1,h2,fun h' hh => ?_⟩
 rcases h3 with ⟨rfl,hc⟩|⟨q,hq,rfl,hb⟩
 ·rw [hc];rfl
 ·rw [←hh q hq] at hb
  simp [hb]
theorem Jo8 {ms:MS}{q:DPattern}{k:Nat}(s9:s 9 = .ptr 6 0 0) (s13:s 13 = .ptr I.s 0 0) (s25:s 25 = .ptr k 0 0) (M:MI p r f N I ms h n) (hkb:h k=some ⟨true,4,[J08 q]⟩)
 (hK:∀ s' h' n',(∀ j,j<145→j≠26→j≠27→s' j=s j)→(∃ k,s' 26 = .ptr k 0 0∧J5e (J7z (J04 0 N) (-1) (J2n J1d ms.E q.Lst)) k h' n')→MI p r f N I ms h' n'→J25 Tryz.prog ks .normal s' h' n' Q):rC Tryz.prog Jx4 ks s h n Q:=by
 obtain ⟨l1,l2,l3,l4,l5⟩:=M.lt
 obtain ⟨rows,w,hdr,hv,hbw⟩:=M.map.bw2 q.Lst
 have fr:∀ id,id<n→¬id=n∧¬id=n+1∧¬id=n+1+1∧¬id=n+2:=by intro id _;omega
 have hb1:∀ x,Go.Proofs.YtoclolkigjbcgaaGreat.bw w (upd h n x)=some (.sl 1 (J0e (J2n J1d ms.E q.Lst).Coeffs)):=fun x=>hbw _ fun id hid=>by simp [fr id hid]
 have hb2:∀ x y,Go.Proofs.YtoclolkigjbcgaaGreat.bw w (upd (upd h n x) (n+1) y)=some (.sl 1 (J0e (J2n J1d ms.E q.Lst).Coeffs)):=fun x y=>hbw _ fun id hid=>by simp [fr id hid]
 have kp:∀ j,j<145→¬j=145∧¬j=146∧¬j=147∧¬j=148∧¬j=149∧¬j=150∧¬j=151∧¬j=152∧¬j=153∧¬j=154:=by intro j _;omega
 have ne:¬n=n+1∧¬n+1=n∧¬n=n+1+1∧¬n+1+1=n∧¬n+1=n+1+1∧¬n+1+1=n+1:=by omega
 simp [Jx4,s9,s13,s25,M.hn,M.hmp,hkb,hdr,J08,hv]
 constructor
 ·skip
  first|refine J00 (J11 0 N) (by first|simp;done|rfl) ?_|refine J01 (J11 0 N) (by first|simp;done|rfl) ?_
  rintro r rfl
  simp [J07,ne]
  constructor
  ·skip
   first|refine J00 (J0q (J04 0 N) (-1) (J2n J1d ms.E q.Lst)) (by first|simp [J06,hb1];done|rfl) ?_|refine J01 (J0q (J04 0 N) (-1) (J2n J1d ms.E q.Lst)) (by first|simp [J06,hb1];done|rfl) ?_
   rintro r rfl
   rw [J0o]
   have hadd:(J0b (J04 0 N) (-1) (J2n J1d ms.E q.Lst)).getD J1d=J7z (J04 0 N) (-1) (J2n J1d ms.E q.Lst):=rfl
   rw [hadd]
   generalize J7z (J04 0 N) (-1) (J2n J1d ms.E q.Lst)=l at *
   simp [J07,ne]
   refine hK _ _ _ (fun j hj h26 h27=>by simp [kp j hj,h26,h27]) ⟨n+2,by simp,n+1,by omega,by omega,by simp [ne],by simp [ne]⟩ (M.frame (by omega) fun id hid=>by simp [fr id hid])
  ·skip
   first|refine J00 (J0q (J04 0 N) (-1) (J2n J1d ms.E q.Lst)) (by first|simp [J06,hb2,ne];done|rfl) ?_|refine J01 (J0q (J04 0 N) (-1) (J2n J1d ms.E q.Lst)) (by first|simp [J06,hb2,ne];done|rfl) ?_
   rintro r rfl
   rw [J0o]
   have hadd:(J0b (J04 0 N) (-1) (J2n J1d ms.E q.Lst)).getD J1d=J7z (J04 0 N) (-1) (J2n J1d ms.E q.Lst):=rfl
   rw [hadd]
   generalize J7z (J04 0 N) (-1) (J2n J1d ms.E q.Lst)=l at *
   simp [J07,ne]
   refine hK _ _ _ (fun j hj h26 h27=>by simp [kp j hj,h26,h27]) ⟨n+1,by simp,n+2,by omega,by omega,by simp [ne],by simp [ne]⟩ (M.frame (by omega) fun id hid=>by simp [fr id hid])
 ·skip
  first|refine J00 (J11 0 N) (by first|simp;done|rfl) ?_|refine J01 (J11 0 N) (by first|simp;done|rfl) ?_
  rintro r rfl
  simp [J07,ne]
  ·skip
   first|refine J00 (J0q (J04 0 N) (-1) (J2n J1d ms.E q.Lst)) (by first|simp [J06,hb2,ne];done|rfl) ?_|refine J01 (J0q (J04 0 N) (-1) (J2n J1d ms.E q.Lst)) (by first|simp [J06,hb2,ne];done|rfl) ?_
   rintro r rfl
   rw [J0o]
   have hadd:(J0b (J04 0 N) (-1) (J2n J1d ms.E q.Lst)).getD J1d=J7z (J04 0 N) (-1) (J2n J1d ms.E q.Lst):=rfl
   rw [hadd]
   generalize J7z (J04 0 N) (-1) (J2n J1d ms.E q.Lst)=l at *
   simp [J07,ne]
   refine hK _ _ _ (fun j hj h26 h27=>by simp [kp j hj,h26,h27]) ⟨n,by simp,n+2,by omega,by omega,by simp [ne],by simp [ne]⟩ (M.frame (by omega) fun id hid=>by simp [fr id hid])
end
section
variable {p:DProgram}{r:DRule}{f:DFunction}{N:Nat}{I:Ids}{ks:List Kt}{s:Env}{h:Heap}{n:Nat}{Q:Fin}
theorem J9b {a b:DLin}{k:Int} : (J7z a k b).Coeffs.length≤8:=by
 unfold J7z
 cases ha:J0b a k b with
 | none=>simp [J1d]
 | some o=>
  have h1:=(J7f ha).1
  unfold J0b at ha
  split at ha
  ·rename_i hc
   simp only [Bool.and_eq_true] at hc
   have h2:=J1t hc.1.1.1.1
   simp only [Option.getD_some];omega
  ·cases ha
theorem Jo1 {a:DLin}{k:Int} : ((J7h a k).getD J1d).Coeffs.length≤8:=by
 unfold J7h
 split
 ·rename_i hc
  simp only [Bool.and_eq_true] at hc
  have h2:=J1t hc.2
  simp only [Option.getD_some];omega
 ·simp [J1d]
theorem MI.ne_m {ms:MS}(M:MI p r f N I ms h n) {k z:Nat}{rows:List (List AV)}(hk:h k=some ⟨true,z,rows⟩) (hz:z≠6):k≠I.m:=by
 rintro rfl
 obtain ⟨vR,vP,vA,g1,_⟩:=M.acc
 rw [hk] at g1;simp at g1;exact hz g1.1
theorem MI.ne_d {ms:MS}(M:MI p r f N I ms h n) {k z:Nat}{rows:List (List AV)}(hk:h k=some ⟨true,z,rows⟩) (hz:z≠0):k≠I.d:=by
 rintro rfl
 obtain ⟨es,_,g1,_⟩:=M.map
 rw [hk] at g1;simp at g1;exact hz g1.1
theorem MI.ne_x {ms:MS}(M:MI p r f N I ms h n) {k z:Nat}{rows:List (List AV)}(hk:h k=some ⟨true,z,rows⟩) (hz:z≠1):k≠I.x:=by
 rintro rfl
 rw [M.hnx] at hk;simp at hk;exact hz hk.1.symm
theorem Jpv {ma:MS}(S:J6o I s) (M:MI p r f N I ma h n) (hl2:r.Patterns.length≤2) (hx2:ma.nx≤100) (hr2:ma.rows.length≤100) (hN:N≤8)
 (hK:∀ s' h' n',J6o I s'→MI p r f N I (r.Patterns.foldl (Jbs N) ma) h' n'→J25 Tryz.prog ks .normal s' h' n' Q):rC Tryz.prog K6a ks s h n Q:=by
 have S0:=S
 obtain ⟨s2,s4,s6,s7,s9,s12,s13,s15,s16⟩:=S0
 simp [K6a,s6,M.hr,J0c]
 intro _
 generalize hT:r.Patterns.foldl (Jbs N) ma=T at hK
 refine J0k [2,4,6,7,9,12,13,15,16,136,137] 138 r.Patterns.length (fun i s' h' n'=>∃ ms:MS,MI p r f N I ms h' n'∧(r.Patterns.drop i).foldl (Jbs N) ms=T∧ms.nx≤100+i∧ms.rows.length≤100+i) (by unfold LIM;omega) (by simp)
  ⟨_,M,by simpa using hT,by omega,by omega⟩ ?_ ?_
 ·rintro i st h' m R hi hg hk s138 hw ⟨ms,M,hJ,hb1,hb2⟩ hR _ _
  simp at hk
  rw [List.drop_eq_getElem_cons hi,List.foldl_cons] at hJ
  obtain ⟨l1,l2,l3,l4,l5⟩:=M.lt
  refine J0g [2,4,6,7,9,12,13,15,16,136,137,138] (fun s=>s 139 = .bool true) (by simp [hk,s138,hi]) ?_
  intro st1 hk1 s139
  simp at hk1
  refine J2m s139 (J09 (J0t ?_))
  refine J17 [2,4,6,7,9,12,13,15,16,136,137,138] (fun s h' n'=>∃ k,s 25 = .ptr k 0 0∧k<n'∧h' k=some ⟨true,4,[J08 (r.Patterns[i]'hi)]⟩∧MI p r f N I ms h' n') ?_ ?_
  ·have fr:∀ id,id<m→¬id=m:=by intro id _;omega
   simp [hk1,hk,s138,hi,J08]
   exact M.frame (by omega) fun id hid=>by simp [fr id hid]
  rintro st2 h2 n2 hk2 ⟨k,s25,hkn,hkb,M2⟩
  simp at hk2
  generalize r.Patterns[i]=q at *
  have S2:J6o I st2:=S.of (by simp [hk2,hk1,hk])
  obtain ⟨t2,t4,t6,t7,t9,t12,t13,t15,t16⟩:=S2
  have kk:∀ j∈[2,4,6,7,9,12,13,15,16,136,137,138],st2 j=st j:=by simp [hk2,hk1]
  simp at kk
  cases hc:q.Cons
  ·have hiP:Jbs N ms q=Jib ms (J7z (J04 0 N) (-1) (J2n J1d ms.E q.Lst)):=by unfold Jbs;rw [hc];rfl
   rw [hiP] at hJ
   refine J09 ?_
   refine J0g [2,4,6,7,9,12,13,15,16,136,137,138,25] (fun s=>s 144 = .bool true) (by simp [s25,hkb,J08,hc]) ?_
   intro st3 hk3 s144
   simp at hk3
   rw [Jgk (show ev st3 (.t 144) = .bool true from s144)]
   refine J09 (Jo8 (q:=q) (k:=k) (by rw [hk3.2.2.2.2.1,t9]) (by rw [hk3.2.2.2.2.2.2.1,t13]) (by rw [hk3.2.2.2.2.2.2.2.2.2.2.2.2,s25]) M2 hkb ?_)
   rintro st4 h4 n4 hk4 ⟨k4,s26,q4,hkn4,hqn4,hkb4,hqb4⟩ M4
   have kp:∀ j∈[2,4,6,7,9,12,13,15,16,136,137,138],st4 j=st j:=by
    simp [hk4 2 (by omega) (by omega) (by omega),hk4 4 (by omega) (by omega) (by omega),hk4 6 (by omega) (by omega) (by omega),hk4 7 (by omega) (by omega) (by omega),hk4 9 (by omega) (by omega) (by omega),hk4 12 (by omega) (by omega) (by omega),hk4 13 (by omega) (by omega) (by omega),hk4 15 (by omega) (by omega) (by omega),hk4 16 (by omega) (by omega) (by omega),hk4 136 (by omega) (by omega) (by omega),hk4 137 (by omega) (by omega) (by omega),hk4 138 (by omega) (by omega) (by omega),hk3,kk]
   simp at kp
   have u16:st4 16 = .fn (.func 204) [] [.ptr I.m 0 0]:=by rw [kp.2.2.2.2.2.2.2.2.1,←kk.2.2.2.2.2.2.2.2.1,t16]
   refine J53 ?_
   simp [u16,s26,hkb4]
   refine J9i M4 (q:=q4) (by have:=J9b (a:=J04 0 N) (k := -1) (b:=J2n J1d ms.E q.Lst);omega) hqn4 hqb4 (by omega) ?_
   intro h6 n6 hn6 _ M6
   simp [kp,s138,hw]
   exact hR _ _ _ (by simp [kp,hk]) (by simp) ⟨_,M6,hJ,by show ms.nx≤_;omega,by show (ms.rows++[_]).length≤_;simp;omega⟩
  ·have hlx:(J2k ms.nx N).Coeffs.length≤8:=J66 N (by omega)
   have hiP:Jbs N ms q=Jib (Jg8 (Jg8 ms q.Head (J2k ms.nx N) (ms.nx+1)) q.Tail (Jm0 N ms q) (ms.nx+1)) (Jm0 N ms q):=by unfold Jbs;rw [hc];rfl
   rw [hiP] at hJ
   refine J09 ?_
   refine J0g [2,4,6,7,9,12,13,15,16,136,137,138,25] (fun s=>s 144 = .bool false) (by simp [s25,hkb,J08,hc]) ?_
   intro st3 hk3 s144
   simp at hk3
   rw [Jka (show ev st3 (.t 144) = .bool false from s144),Jpd]
   refine J53 ?_
   have e25:st3 25 = .ptr k 0 0:=by rw [hk3.2.2.2.2.2.2.2.2.2.2.2.2,s25]
   have e15:st3 15 = .fn (.func 202) [] [.ptr I.x 0 0,.ptr 6 0 0,.ptr I.s 0 0]:=by rw [hk3.2.2.2.2.2.2.2.1,t15]
   have nd:=M2.ne_d hkb (by omega)
   have nx:=M2.ne_x hkb (by omega)
   refine J17 [2,4,6,7,9,12,13,15,16,136,137,138,25] (fun s h' n'=>MI p r f N I (Jg8 ms q.Head (J2k ms.nx N) (ms.nx+1)) h' n'∧k<n'∧h' k=some ⟨true,4,[J08 q]⟩) ?_ ?_
   ·simp [e25,e15,hkb,J08]
    refine Jbn M2 q.Head (by omega) ?_
    intro q' h1 n1 hq hq1 hfr hqb M1
    simp
    exact ⟨M1,by omega,by rw [hfr k hkn nd nx,hkb];rfl⟩
   rintro st4 h4 n4 hk4 ⟨M4,hkn4,hkb4⟩
   simp at hk4
   have e13:st4 13 = .ptr I.s 0 0:=by rw [hk4.2.2.2.2.2.2.1,hk3.2.2.2.2.2.2.1,t13]
   have f25:st4 25 = .ptr k 0 0:=by rw [hk4.2.2.2.2.2.2.2.2.2.2.2.2,e25]
   have hpE:(Jg8 ms q.Head (J2k ms.nx N) (ms.nx+1)).E=Jw5 N ms q:=rfl
   refine J17 [2,4,6,7,9,12,13,15,16,136,137,138,25] (fun s h' n'=>MI p r f N I (Jg8 ms q.Head (J2k ms.nx N) (ms.nx+1)) h' n'∧k<n'∧h' k=some ⟨true,4,[J08 q]⟩∧∃ k,s 28 = .ptr k 0 0∧J5e (Jm0 N ms q) k h' n') ?_ ?_
   ·obtain ⟨rows,w,hdr,hv,hbw⟩:=M4.map.get q.Lst
    rw [hpE] at hv hbw
    simp [e13,f25,hkb4,J08,M4.hmp,hdr,hv]
    first|refine J00 (Jlb (J2n J1d (Jw5 N ms q) q.Lst) (-1)) (by first|simp [J06,hbw];done|rfl) ?_|refine J01 (Jlb (J2n J1d (Jw5 N ms q) q.Lst) (-1)) (by first|simp [J06,hbw];done|rfl) ?_
    rintro r rfl
    rw [J0o,show (J7h (J2n J1d (Jw5 N ms q) q.Lst) (-1)).getD J1d=Jm0 N ms q from rfl]
    generalize Jm0 N ms q=l at *
    have fr:∀ id,id<n4→¬id=n4∧¬id=n4+1:=by intro id _;omega
    have ne:¬n4=n4+1∧¬n4+1=n4:=by omega
    simp [J07,ne]
    exact ⟨M4.frame (by omega) fun id hid=>by simp [fr id hid],by omega,by simp [fr k hkn4,hkb4,J08],n4,by omega,by omega,by simp,by simp [ne]⟩
   rintro st5 h5 n5 hk5 ⟨M5,hkn5,hkb5,k5,s28,q5,w5,b5,c5,d5⟩
   simp at hk5
   have g13:st5 13 = .ptr I.s 0 0:=by rw [hk5.2.2.2.2.2.2.1,e13]
   have g25:st5 25 = .ptr k 0 0:=by rw [hk5.2.2.2.2.2.2.2.2.2.2.2.2,f25]
   have hpl8:(Jm0 N ms q).Coeffs.length≤8:=Jo1
   refine J17 [2,4,6,7,9,12,13,15,16,136,137,138,28] (fun s h' n'=>MI p r f N I (Jg8 (Jg8 ms q.Head (J2k ms.nx N) (ms.nx+1)) q.Tail (Jm0 N ms q) (ms.nx+1)) h' n'∧J5e (Jm0 N ms q) k5 h' n') ?_ ?_
   ·obtain ⟨es,hE,hd,hes⟩:=M5.map
    have n5d:=M5.ne_d c5 (by omega)
    have n5x:=M5.ne_x c5 (by omega)
    have q5d:¬q5=I.d:=by rintro rfl;rw [d5] at hd;simp at hd
    have ldx:¬I.x=I.d:=by omega
    simp [g13,g25,hkb5,J08,M5.hmp,s28,c5,hd]
    refine ⟨M5.upd_map (x:=q.Tail) (l:=Jm0 N ms q) (q:=q5) rfl rfl rfl rfl (Nat.le_refl _) b5 (by simp [q5d,d5]) (by simp [ldx,M5.hnx,Jg8]) (fun id hid h1 h2=>by simp [h1]) ?_,q5,w5,b5,by simp [n5d,c5],by simp [q5d,d5]⟩
    intro es' hd'
    rw [hd] at hd'
    simp only [Option.some.injEq,Blk.mk.injEq,true_and] at hd'
    rw [←Jeg,←hd']
    simp [Jij]
   rintro st6 h6 n6 hk6 ⟨M6,q6,w6,b6,c6,d6⟩
   simp at hk6
   have g16:st6 16 = .fn (.func 204) [] [.ptr I.m 0 0]:=by rw [hk6.2.2.2.2.2.2.2.2.1,hk5.2.2.2.2.2.2.2.2.1,hk4.2.2.2.2.2.2.2.2.1,hk3.2.2.2.2.2.2.2.2.1,t16]
   have g28:st6 28 = .ptr k5 0 0:=by rw [hk6.2.2.2.2.2.2.2.2.2.2.2.2,s28]
   simp [g16,g28,c6]
   refine J9i M6 (q:=q6) (by omega) b6 d6 (by show ms.rows.length≤_;omega) ?_
   intro h7 n7 hn7 _ M7
   simp [hk6,hk5,hk4,hk3,kk,s138,hw]
   exact hR _ _ _ (by simp [hk6,hk5,hk4,hk3,kk,hk]) (by simp) ⟨_,M7,hJ,by show ms.nx+1≤_;omega,by show (ms.rows++[_]).length≤_;simp;omega⟩
 ·rintro st h' m R hk s138 ⟨ms,M,hJ,hb1,hb2⟩ _ hX
  simp at hk
  rw [List.drop_eq_nil_of_le (by omega)] at hJ
  simp only [List.foldl_nil] at hJ
  subst hJ
  refine J0g [2,4,6,7,9,12,13,15,16] (fun s=>s 139 = .bool false) (by simp [hk,s138]) ?_
  intro st1 hk1 s139
  simp at hk1
  refine J2g s139 ?_
  refine hX _ _ _ _ ?_
  simp
  exact hK _ _ _ (S.of (by simp [hk1,hk])) M
end
section
variable {p:DProgram}{r:DRule}{f:DFunction}{N:Nat}{I:Ids}{ks:List Kt}{s:Env}{h:Heap}{n:Nat}{Q:Fin}
theorem J6q (c:Int) (n:Int):(J04 c n).Coeffs.length≤8:=by
 unfold J04
 split
 ·rename_i h
  simp [inR] at h
  simp;omega
 ·simp
theorem Jk8 {E:SEnv}{x:DSum} : (Jfv E N x).Coeffs.length≤8:=by
 unfold Jfv
 have:∀ (ts:List DTerm) (o:DLin),o.Coeffs.length≤8→(ts.foldl (fun o t=>J7z o t.Coeff (J2n J1d E t.Name)) o).Coeffs.length≤8:=by
  intro ts
  induction ts with
  | nil=>intro o h;exact h
  | cons t ts ih=>intro o _;exact ih _ J9b
 exact this _ _ (J6q _ _)
theorem Jrv {E:SEnv}{x:DArg} : (Jfx E N x).Coeffs.length≤8:=by
 unfold Jfx
 split
 ·split
  ·exact J6q _ _
  ·exact J9b
 ·exact Jk8
def gdL (E:SEnv) (N:Nat) (l:List DSum) (i:Nat):List DLin:=(l.take i).map (Jfv E N)
theorem Jrg {E:SEnv}{l:List DSum}{i:Nat}(hi:i<l.length):gdL E N l (i+1)=gdL E N l i++[Jfv E N (l[i]'hi)]:=by unfold gdL;rw [List.take_succ_eq_append_getElem hi,List.map_append];rfl
theorem Jun {E:SEnv}{l:List DSum} : gdL E N l l.length=l.map (Jfv E N):=by unfold gdL;rw [List.take_length]
theorem Jru {ma:MS}(S:J6o I s) (M:MI p r f N I ma h n) (hl2:r.Guards.length≤2) (hr2:ma.rows.length≤1000) (hts:∀ g∈r.Guards,g.Terms.length≤1048576)
 (hK:∀ s' h' n',J6o I s'→MI p r f N I (J0u ma (r.Guards.map (Jfv ma.E N))) h' n'→J25 Tryz.prog ks .normal s' h' n' Q):rC Tryz.prog K85 ks s h n Q:=by
 have S0:=S
 obtain ⟨s2,s4,s6,s7,s9,s12,s13,s15,s16⟩:=S0
 simp [K85,s6,M.hr,J0c]
 intro _
 refine J0k [2,4,6,7,9,12,13,15,16,179,180] 181 r.Guards.length (fun i s' h' n'=>MI p r f N I (J0u ma (gdL ma.E N r.Guards i)) h' n') (by unfold LIM;omega) (by simp) (by simpa [J0u,gdL] using M) ?_ ?_
 ·rintro i st h' m R hi hg hk s181 hw M hR _ _
  simp at hk
  rw [Jrg hi] at hR
  have hts:=hts _ (List.getElem_mem hi)
  refine J0g [2,4,6,7,9,12,13,15,16,179,180,181] (fun s=>s 182 = .bool true) (by simp [hk,s181,hi]) ?_
  intro st1 hk1 s182
  simp at hk1
  refine J2m s182 (J09 (J0t ?_))
  refine J17 [2,4,6,7,9,12,13,15,16,179,180,181] (fun s h' n'=>∃ k,s 31 = .ptr k 0 0∧k<n'∧h' k=some ⟨true,2,[J1g (r.Guards[i]'hi)]⟩∧MI p r f N I (J0u ma (gdL ma.E N r.Guards i)) h' n') ?_ ?_
  ·have fr:∀ id,id<m→¬id=m:=by intro id _;omega
   simp [hk1,hk,s181,hi,J1g]
   exact M.frame (by omega) fun id hid=>by simp [fr id hid]
  rintro st2 h2 n2 hk2 ⟨k,s31,hkn,hkb,M2⟩
  simp at hk2
  generalize r.Guards[i]=g at *
  generalize hms:J0u ma (gdL ma.E N r.Guards i)=ms at *
  have hmE:ms.E=ma.E:=by rw [←hms];rfl
  have hmr:ms.rows.length≤1002:=by rw [←hms];simp [J0u,gdL];omega
  obtain ⟨l1,l2,l3,l4,l5⟩:=M2.lt
  have S2:J6o I st2:=S.of (by simp [hk2,hk1,hk])
  obtain ⟨t2,t4,t6,t7,t9,t12,t13,t15,t16⟩:=S2
  simp [t16,t13,M2.hmp,s31,hkb,t9,M2.hn]
  refine Jc1 (E:=ma.E) hts (by rw [←hmE];exact M2.map) (by omega) ?_
  intro q h3 n3 hq hqn hfr hqb
  simp [Jij]
  have M3:=M2.frame (h':=h3) (n':=n3) (by omega) hfr
  have hs8:(Jfv ma.E N g).Coeffs.length≤8:=Jk8
  refine J9i M3 (q:=q) (by omega) hqn hqb (by omega) ?_
  intro h6 n6 hn6 _ M6
  simp [hk2,hk1,hk,s181,hw]
  refine hR _ _ _ (by simp [hk2,hk1,hk]) (by simp) ?_
  have:Jib ms (Jfv ma.E N g)=J0u ma (gdL ma.E N r.Guards i++[Jfv ma.E N g]):=by rw [←hms];simp [Jib,J0u]
  rw [←this];exact M6
 ·rintro st h' m R hk s181 M _ hX
  simp at hk
  rw [Jun] at M
  refine J0g [2,4,6,7,9,12,13,15,16] (fun s=>s 182 = .bool false) (by simp [hk,s181]) ?_
  intro st1 hk1 s182
  simp at hk1
  refine J2g s182 ?_
  refine hX _ _ _ _ ?_
  simp
  exact hK _ _ _ (S.of (by simp [hk1,hk])) M
theorem Joj {ms:MS}{c:DCall}{k:Nat}(s9:s 9 = .ptr 6 0 0) (s13:s 13 = .ptr I.s 0 0) (s33:s 33 = .ptr k 0 0) (s34:s 34 = .nil 2) (M:MI p r f N I ms h n) (hkn:k<n) (hkb:h k=some ⟨true,3,[J0y c]⟩)
 (hal:c.Args.length≤1048576) (hts:∀ a∈c.Args,∀ x∈a.Heads,x.Terms.length≤1048576) (hne:∀ a∈c.Args,a.Lst=false→0<a.Heads.length)
 (hK:∀ s' h' n',(∀ j∈[2,4,6,7,9,12,13,15,16,193,194,195,33],s' j=s j)→n≤n'→(∀ id,id<n→h' id=h id)→J3v (n - 1) 2 ((c.Args.map (Jfx ms.E N)).map J07) (s' 34) h' n'→J25 Tryz.prog ks .normal s' h' n' Q):rC Tryz.prog Jub ks s h n Q:=by
 obtain ⟨l1,l2,l3,l4,l5⟩:=M.lt
 simp [Jub,s33,hkb,J0y]
 intro _
 generalize hT:c.Args.map (Jfx ms.E N)=T at hK
 have hTl:T.length≤1048576:=by rw [←hT];simpa using hal
 have hTl2:∀ i,i≤c.Args.length→∀ acc:List DLin,acc++(c.Args.drop i).map (Jfx ms.E N)=T→acc.length≤1048576:=by
  intro i _ acc h
  have:=congrArg List.length h
  simp at this;omega
 refine J0k [2,4,6,7,9,12,13,15,16,193,194,195,33,200,201] 202 c.Args.length (fun i s' h' n'=>n≤n'∧(∀ id,id<n→h' id=h id)∧∃ acc:List DLin,J3v (n - 1) 2 (acc.map J07) (s' 34) h' n'∧acc++(c.Args.drop i).map (Jfx ms.E N)=T) (by unfold LIM;omega) (by simp)
  ⟨Nat.le_refl _,fun _ _=>rfl,[],.inl (by simp [s34]),by simpa using hT⟩ ?_ ?_
 ·rintro i st h' m R hi hg hk s202 hw ⟨hm,hfr,acc,hA,hJ⟩ hR _ _
  have hal2:=hTl2 i (by omega) acc hJ
  simp at hk
  rw [List.drop_eq_getElem_cons hi,List.map_cons] at hJ
  have hts:=hts _ (List.getElem_mem hi)
  have hne:=hne _ (List.getElem_mem hi)
  refine J0g [2,4,6,7,9,12,13,15,16,193,194,195,33,200,201,202,34] (fun s=>s 203 = .bool true) (by simp [hk,s202,hi]) ?_
  intro st1 hk1 s203
  simp at hk1
  refine J2m s203 (J09 (J0t ?_))
  refine J17 [2,4,6,7,9,12,13,15,16,193,194,195,33,200,201,202,34] (fun s h2 n2=>n2=m+1∧s 36 = .ptr m 0 0∧h2 m=some ⟨true,3,[J0x (c.Args[i]'hi)]⟩∧∀ id,id<m→h2 id=h' id) ?_ ?_
  ·have fr:∀ id,id<m→¬id=m:=by intro id _;omega
   simp [hk1,hk,s202,hi,J0x]
   exact fun id hid=>by simp [fr id hid]
  rintro st2 h2 n2 hk2 ⟨rfl,s36,em,hfr2⟩
  simp at hk2
  generalize c.Args[i]=x at *
  have M2:=M.frame (h':=h2) (n':=m+1) (by omega) fun id hid=>by rw [hfr2 id (by omega),hfr id hid]
  have u13:st2 13 = .ptr I.s 0 0:=by simp [hk2,hk1,hk,s13]
  have u9:st2 9 = .ptr 6 0 0:=by simp [hk2,hk1,hk,s9]
  simp [u13,u9,M2.hmp,M2.hn,s36,em]
  refine Jc6 (E:=ms.E) hts hne M2.map (by omega) ?_
  intro q h3 n3 hq hqn hfr3 hqb
  have frm:∀ id,id<n→h3 id=h id:=fun id hid=>by rw [hfr3 id (by omega),hfr2 id (by omega),hfr id hid]
  have hl8:(Jfx ms.E N x).Coeffs.length≤8:=Jrv
  generalize Jfx ms.E N x=l at *
  have w34:st2 34=st 34:=by simp [hk2,hk1]
  have ne:¬q=n3∧¬n3=q:=by omega
  have fr:∀ id,id<n→¬id=q∧¬id=n3∧¬id=n3+1:=by intro id _;omega
  rcases hA with ⟨hz,hv⟩|⟨id0,hid1,hid2,hv,hid3⟩
  ·have hz':acc=[]:=by simpa using hz
   subst hz'
   rw [hv] at w34
   simp [Jij,hqb,w34,ne,hk2,hk1,hk,s202,hw]
   refine ⟨by unfold LIM;omega,?_⟩
   exact hR _ _ _ (by simp [hk2,hk1,hk]) (by simp) ⟨by omega,fun id hid=>by simp [fr id hid,frm id hid],[l],.inr ⟨n3+1,by omega,by omega,by simp,by simp [J07]⟩,by simpa using hJ⟩
  ·rw [hv] at w34
   have e0:h3 id0=some ⟨false,2,acc.map J07⟩:=by rw [hfr3 id0 (by omega),hfr2 id0 (by omega),hid3]
   have nid:¬id0=n3∧¬n3=id0∧¬id0=n3+1∧¬n3+1=id0∧¬id0=q∧¬q=id0:=by omega
   have fr0:∀ id,id<n→¬id=id0:=by intro id _;omega
   simp [Jij,hqb,w34,ne,nid,e0,hk2,hk1,hk,s202,hw]
   refine ⟨by unfold LIM;omega,?_⟩
   exact hR _ _ _ (by simp [hk2,hk1,hk]) (by simp) ⟨by omega,fun id hid=>by simp [fr id hid,fr0 id hid,frm id hid],acc++[l],.inr ⟨n3+1,by omega,by omega,by simp,by simp [J07,List.take_of_length_le]⟩,by simpa using hJ⟩
 ·rintro st h' m R hk s202 ⟨hm,hfr,acc,hA,hJ⟩ _ hX
  simp at hk
  rw [List.drop_eq_nil_of_le (by omega)] at hJ
  simp at hJ
  subst hJ
  refine J0g [2,4,6,7,9,12,13,15,16,193,194,195,33,34] (fun s=>s 203 = .bool false) (by simp [hk,s202]) ?_
  intro st1 hk1 s203
  simp at hk1
  refine J2g s203 ?_
  refine hX _ _ _ _ ?_
  simp
  refine hK _ _ _ (by simp [hk1,hk]) hm hfr ?_
  rw [hk1.2.2.2.2.2.2.2.2.2.2.2.2.2];exact hA
end
end Go.Proofs.YtoclolkigjbcgaaGreat
