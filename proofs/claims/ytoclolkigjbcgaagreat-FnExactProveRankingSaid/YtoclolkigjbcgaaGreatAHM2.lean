/- The program's ModelOf, part by part. -/
import Derived.Test.YtoclolkigjbcgaaGreatAHM0
import Derived.Test.YtoclolkigjbcgaaGreatAV5
namespace Go.Proofs.YtoclolkigjbcgaaGreat
open Tryz
open Tryz(prog)
open List(drop_eq_getElem_cons drop_eq_nil_of_le mem_cons not_mem_nil foldl_cons foldl_nil mem_cons_self pairwise_append pairwise_cons mem_append mem_append_left mem_append_right mem_cons_of_mem)
set_option maxRecDepth 40000
set_option maxHeartbeats 4000000
open Go Go.RowKit Go.Proofs
set_option linter.all false
def mo0:AC:=(.reg [ZB 2 0,ZV 4,Zt 5 false])
def mo1:AC:=(Zq [Zl 40 true 2 2,Zc 41 67 [.t 40],ZN 42 41,Zv 43 42,Zg 44 43 false (.mv (.t 1)),Zg 45 43 false (.fld 1 (.t 2)),Zg 46 43 false (.ld false 1 (.t 45)),Zg 47 43 false (.len false (.t 46)),Zg 48 43 false (.bin .sub (.t 47) (.k (.int .i64 1))),Zg 49 43 false (.call (.k (.fn (.func 102) [] [])) [.t 44,(.k (.int .i64 0)),.t 48]),Zg 50 43 false (.un .not (.t 49)),ZP 51 43 50] (.cond (.t 51) (Zq [Zo 52 (.build [(.int .i64 0),(.nil 2),(.nil 2),(.nil 1),(.int .i64 0),(.nil 1)] []),Zs 6 4 52,Zt 5 false] .ret) .skip))
def mo2:AC:=(.reg [Zf 53 1 2,Zl 54 false 1 53,Zv 55 1,Zx 56 7 54 55,Zl 57 true 7 56,Zo 6 (.box [(.str []),(.nil 4),(.nil 2),(.nil 3),(.bool false),(.nil 2),(.str [])]),Zs 7 6 57])
def mo3:AC:=(.reg [Zl 59 true 2 2,Zf 60 0 6,Zl 61 false 1 60,Zc 62 176 [.t 59,.t 61],Zv 58 62,Ze 63 58 0,Ze 64 58 1,ZU 7,Zs 4 7 63,Zv 8 64])
def mo4:AC:=(.reg [Zf 65 1 7,Zl 66 false 1 65,Zn 67 66,Zf 68 3 6,Zl 69 false 1 68,Zn 70 69,Zb 71 .add 67 70,Zo 9 (.box [(.int .i64 0)]),Zs 1 9 71])
def mo5:AC:=(Zq [Zf 72 1 6,Zl 73 false 1 72,Zn 74 73,Zi 75 0] (.blk 0 (.loop (Zq [Zb 76 .lss 75 74] (.seq (Zw 76 0) (.seq (.blk 1 (Zq [Zx 77 4 73 75,Zl 78 true 4 77,Zo 11 (.box [(.str []),(.bool false),(.str []),(.str [])]),Zs 4 11 78] (Zq [Zf 79 1 11,Zl 80 false 1 79] (.cond (.t 80) (.reg [Zl 81 false 1 9,Zk 82 .add 81 1,Zs 1 9 82]) .skip)))) (.reg [Zk 83 .add 75 1,Zv 75 83])))))))
def mo6:AC:=(.reg [Zl 84 false 1 9,Zo 85 (.build [(.int .i64 0),(.nil 2)] [(0,(1,(.t 84)))]),Zo 86 (.build [(.int .i64 0),(.nil 2),(.nil 2),(.nil 1),(.int .i64 0),(.nil 1)] [(0,(2,(.t 85)))]),ZV 12,Zs 6 12 86])
def mo7:AC:=(.reg [Zo 87 (.mmk),Zo 13 (.box [.undef]),Zs 1 13 87])
def mo8:AC:=(.reg [Zo 14 (.box [(.int .i64 0)]),⟨no,.st 1 (.t 14) (.k (.int .i64 0)),no⟩])
def mo9:AC:=(.reg [Zo 88 (.mkf (.func 202) [] [.t 14,.t 9,.t 13]),Zv 15 88])
def Kc6:AC:=(.reg [Zo 89 (.mkf (.func 204) [] [.t 12]),Zv 16 89])
def Jlj:AC:=(.draw (.op (Zf 100 2 12) (.op (Zl 101 false 1 100) (.op (Zl 102 true 2 19) (.op (Zc 103 86 [.t 102]) (.hop (ZS 104 2 103) [(.ld false 1 (.t 100)),(.fld 2 (.t 12))] (.hop (ZA 105 32 2 101 104) [] (.op (Zf 106 2 12) (.hop (Zs 1 106 105) [] .fin)))))))))
def K6l:AC:=(Zq [Zf 90 1 7,Zl 91 false 1 90,Zn 92 91,Zi 93 0] (.blk 2 (.loop (Zq [Zb 94 .lss 93 92] (.seq (Zw 94 2) (.seq (.blk 3 (Zq [Zx 95 1 91 93,Zl 96 false 1 95,Zv 18 96] (Zq [Zv 97 15,Zv 98 18,Zo 99 (.call (.t 97) [.t 98]),ZR 19,Zs 2 19 99] (.seq Jlj (Zq [Zv 107 18,Zc 108 205 [.t 107]] (.cond (.t 108) (.reg [Zv 109 16,Zl 110 true 2 19,Zo 111 (.call (.t 109) [.t 110])]) .skip)))))) (.reg [Zk 112 .add 93 1,Zv 93 112])))))))
def K5s:AC:=(Zq [Zf 113 3 7,Zl 114 false 1 113,Zn 115 114,Zi 116 0] (.blk 4 (.loop (Zq [Zb 117 .lss 116 115] (.seq (Zw 117 4) (.seq (.blk 5 (Zq [Zx 118 2 114 116,Zl 119 true 2 118,ZR 21,Zs 2 21 119] (Zq [Zl 121 true 2 21,Zf 122 2 12,Zl 123 false 1 122,Zl 124 false 1 9,Zc 125 191 [.t 121,.t 123,.t 124],Zv 120 125,Ze 126 120 0,Ze 127 120 1,ZR 22,Zs 2 22 126,Zv 23 127] (.seq (Zq [Zv 128 23,ZN 129 128] (.cond (.t 129) (Zq [Zo 130 (.build [(.int .i64 0),(.nil 2),(.nil 2),(.nil 1),(.int .i64 0),(.nil 1)] []),Zs 6 4 130,Zt 5 false] .ret) .skip)) (.reg [Zv 131 16,Zl 132 true 2 22,Zo 133 (.call (.t 131) [.t 132])]))))) (.reg [Zk 134 .add 116 1,Zv 116 134])))))))
def Tv:AC:=(.draw (.op (Zl 146 false 1 9) (.op (Zl 148 false 1 13) (.op (Zf 149 0 25) (.op (Zl 150 false 1 149) (.op (Zo 151 (.mget (.agg [(.int .i64 0),(.nil 1)]) (.t 148) (.t 150))) (.both (.op (Zc 147 178 [(.k (.int .i64 0)),.t 146]) (.both (.op (Zc 152 193 [.t 147,(.k (.int .i64 (-1))),.t 151]) (.op (Zv 145 152) (.op (Ze 153 145 0) (.op (Ze 154 145 1) (.op (ZR 26) (.hop (Zs 2 26 153) [] (.op (Zv 27 154) .fin))))))) (.op (ZR 26) (.op (Zc 152 193 [.t 147,(.k (.int .i64 (-1))),.t 151]) (.op (Zv 145 152) (.op (Ze 153 145 0) (.op (Ze 154 145 1) (.hop (Zs 2 26 153) [] (.op (Zv 27 154) .fin))))))))) (.op (ZR 26) (.op (Zc 147 178 [(.k (.int .i64 0)),.t 146]) (.op (Zc 152 193 [.t 147,(.k (.int .i64 (-1))),.t 151]) (.op (Zv 145 152) (.op (Ze 153 145 0) (.op (Ze 154 145 1) (.hop (Zs 2 26 153) [] (.op (Zv 27 154) .fin)))))))))))))))
def K87:AC:=(Zq [Zf 135 1 6,Zl 136 false 1 135,Zn 137 136,Zi 138 0] (.blk 6 (.loop (Zq [Zb 139 .lss 138 137] (.seq (Zw 139 6) (.seq (.blk 7 (Zq [Zx 140 4 136 138,Zl 141 true 4 140,Zo 25 (.box [(.str []),(.bool false),(.str []),(.str [])]),Zs 4 25 141] (.seq (Zq [Zf 142 1 25,Zl 143 false 1 142,ZN 144 143] (.cond (.t 144) (.seq Tv (Zq [Zv 155 16,Zl 156 true 2 26,Zo 157 (.call (.t 155) [.t 156])] (.exit 7))) .skip)) (Zq [Zv 158 15,Zf 159 2 25,Zl 160 false 1 159,Zo 161 (.call (.t 158) [.t 160])] (Zq [Zl 163 false 1 13,Zf 164 0 25,Zl 165 false 1 164,Zo 166 (.mget (.agg [(.int .i64 0),(.nil 1)]) (.t 163) (.t 165)),Zc 167 189 [.t 166,(.k (.int .i64 (-1)))],Zv 162 167,Ze 168 162 0,Ze 169 162 1,ZR 28,Zs 2 28 168,Zv 29 169] (Zq [Zl 170 false 1 13,Zf 171 3 25,Zl 172 false 1 171,Zl 173 true 2 28,⟨no,.mput (.t 170) (.t 172) (.t 173),no⟩] (.reg [Zv 174 16,Zl 175 true 2 28,Zo 176 (.call (.t 174) [.t 175])]))))))) (.reg [Zk 177 .add 138 1,Zv 138 177])))))))
def K5t:AC:=(Zq [Zf 178 2 6,Zl 179 false 1 178,Zn 180 179,Zi 181 0] (.blk 8 (.loop (Zq [Zb 182 .lss 181 180] (.seq (Zw 182 8) (.seq (.blk 9 (Zq [Zx 183 2 179 181,Zl 184 true 2 183,Zo 31 (.box [(.int .i64 0),(.nil 2)]),Zs 2 31 184] (.reg [Zv 185 16,Zl 186 false 1 13,Zl 187 true 2 31,Zl 188 false 1 9,Zc 189 206 [.t 186,.t 187,.t 188],Zo 190 (.call (.t 185) [.t 189])]))) (.reg [Zk 191 .add 181 1,Zv 181 191])))))))
def Jm3:AC:=(Zq [Zf 199 2 33,Zl 200 false 1 199,Zn 201 200,Zi 202 0] (.blk 12 (.loop (Zq [Zb 203 .lss 202 201] (.seq (Zw 203 12) (.seq (.blk 13 (Zq [Zx 204 3 200 202,Zl 205 true 3 204,Zo 36 (.box [(.bool false),(.nil 2),(.str [])]),Zs 3 36 205] (.reg [Zv 206 34,Zl 207 false 1 13,Zl 208 true 3 36,Zl 209 false 1 9,Zc 210 207 [.t 207,.t 208,.t 209],ZS 211 2 210,ZA 212 32 2 206 211,Zv 34 212]))) (.reg [Zk 213 .add 202 1,Zv 202 213])))))))
def Jlr:AC:=(.reg [Zf 214 3 12,Zl 215 false 1 214,Zv 216 34,ZS 217 1 216,ZA 218 24 1 215 217,Zf 219 3 12,Zs 1 219 218])
def K6r:AC:=(Zq [Zf 192 3 6,Zl 193 false 1 192,Zn 194 193,Zi 195 0] (.blk 10 (.loop (Zq [Zb 196 .lss 195 194] (.seq (Zw 196 10) (.seq (.blk 11 (Zq [Zx 197 3 193 195,Zl 198 true 3 197,Zo 33 (.box [(.str []),(.str []),(.nil 3)]),Zs 3 33 198] (Zq [Zz 34 2] (.seq Jm3 (.seq  Jlr (Zq [Zv 220 15,Zf 221 0 33,Zl 222 false 1 221,Zo 223 (.call (.t 220) [.t 222]),ZR 37,Zs 2 37 223] (Zq [Zl 225 true 2 2,Zf 226 1 33,Zl 227 false 1 226,Zc 228 176 [.t 225,.t 227],Zv 224 228,Ze 229 224 0,Ze 230 224 1,ZU 38,Zs 4 38 229,Zv 39 230] (Zq [Zf 231 2 38,Zl 232 false 1 231] (.cond (.t 232) (.reg [Zv 233 16,Zl 234 true 2 37,Zo 235 (.call (.t 233) [.t 234])]) .skip))))))))) (.reg [Zk 236 .add 195 1,Zv 195 236])))))))
def Kc9:AC:=(.reg [Zl 237 false 1 13,Zf 238 4 6,Zl 239 true 3 238,Zl 240 false 1 9,Zc 241 207 [.t 237,.t 239,.t 240],Zf 242 4 12,Zs 2 242 241])
def Kc2:AC:=(.reg [Zl 243 true 6 12,Zs 6 4 243,Zt 5 true])
def K69:Jl:=⟨244,[(.c 4 true 6),.t 5],(.seq mo0 (.seq mo1 (.seq mo2 (.seq mo3 (.seq mo4 (.seq mo5 (.seq mo6 (.seq mo7 (.seq mo8 (.seq mo9 (.seq Kc6 (.seq K6l (.seq K5s (.seq K87 (.seq K5t (.seq K6r (.seq Kc9 (.seq Kc2 .ret))))))))))))))))))⟩
theorem Jnm:Jh prog f126=some K69:=by kernel_rfl
def Vd(I:Bt)(s:Jm):Prop:=s 2 = .ptr 0 0 0/\s 4 = .ptr 1 0 0/\s 6 = .ptr 2 0 0/\s 7 = .ptr 5 0 0/\s 9 = .ptr 6 0 0/\s 12 = .ptr I.m 0 0/\s 13 = .ptr I.s 0 0 /\
 s 15 = .fn (.func 202) [] [.ptr I.x 0 0,.ptr 6 0 0,.ptr I.s 0 0]/\s 16 = .fn (.func 204) [] [.ptr I.m 0 0]
theorem J5c(q:X4)(l:List X4):Yf (q::l)=(if q.Cons then 1 else 0)+Yf l:=by unfold Yf;rw[List.filter_cons];cases q.Cons <;>simp;omega
section
variable {p:Jo}{r:K0}{f:K3}{N:Nat}{I:Bt}{ks:List Kt}{s:Jm}{h:J8}{n:Nat}{Q:Xb}
theorem Jqr{c:Nat}(s6:s 6 = .ptr 2 0 0)(s9:s 9 = .ptr 6 0 0)(e2:h 2=some ⟨true,7,[Ju r]⟩)(e6:h 6=some ⟨true,1,[[.int .i64 c]]⟩)(hn:6<n)(hc:c<=10000000)(hl:r.Patterns.length<=1048576)
 (hK:∀s' h' n',(∀j∈[2,4,6,7,9],s' j=s j)->n<=n'->(∀id,id<n->id≠6->h' id=h id)->h' 6=some ⟨true,1,[[.int .i64 (c+Yf r.Patterns:Nat)]]⟩->Jt prog ks .normal s' h' n' Q) :
 rC prog mo5 ks s h n Q:=by
 simp[mo5,s6,e2,Ju];intro _;generalize hT:c+Yf r.Patterns=T at hK
 refine Ka [2,4,6,7,9,73,74] 75 r.Patterns.length (λi s' h' n'=>n<=n'/\(∀id,id<n->id≠6->h' id=h id)/\∃c':Nat,c'<=10000000+i/\c'+Yf (r.Patterns.drop i)=T/\h' 6=some ⟨true,1,[[.int .i64 c']]⟩) (by unfold Jd;omega) (by simp)
  ⟨Nat.le_refl _,λ_ _ _=>rfl,c,by omega,by simpa using hT,e6⟩ ?_ ?_
 ·rintro i st h' m R hi hg hk s75 hw ⟨hm,hfr,c',hc',hJ,e6'⟩ hR _ _;simp at hk;rw[drop_eq_getElem_cons hi,J5c]at hJ;have z1:¬6=m:=by omega
  have z2:¬m=6:=by omega
  refine Jq [2,4,6,7,9,73,74,75] (λs=>s 76 = .bool true) (by simp[hk,s75,hi]) ?_;intro Jv hk1 s76;simp at hk1;refine W3 s76 (Jn (Xd ?_));have hw2:IntKind.i64.wrap ((c':Int)+1)=(c':Int)+1:=Km (by omega);have fr:∀id,id<n->¬id=m:=by intro id _;omega
  cases hc2:(r.Patterns[i]).Cons
  ·rw[hc2]at hJ;simp[hk1,hk,s75,hi,Kd,hc2,hw];refine hR _ _ _ (by simp[hk1,hk]) (by simp) ⟨by omega,?_,c',by omega,by simpa using hJ,by simp[z1,e6']⟩;intro id hid h6;simp[fr id hid,hfr id hid h6]
  ·rw[hc2]at hJ;simp only[if_true]at hJ;simp[hk1,hk,s75,hi,Kd,hc2,z1,hw,e6',hw2,s9];refine hR _ _ _ (by simp[hk1,hk]) (by simp) ⟨by omega,?_,c'+1,by omega,by omega,by simp⟩;intro id hid h6;simp[fr id hid,h6,hfr id hid h6]
 ·rintro st h' m R hk s75 ⟨hm,hfr,c',hc',hJ,e6'⟩ _ hX;simp at hk;rw[drop_eq_nil_of_le (by omega)]at hJ;simp[Yf]at hJ;subst hJ;refine Jq [2,4,6,7,9] (λs=>s 76 = .bool false) (by simp[hk,s75]) ?_;intro Jv hk1 s76;simp at hk1;refine Uv s76 ?_;refine hX _ _ _ _ ?_;simp;exact hK _ _ _ (by simp[hk1,hk]) hm hfr e6'
theorem W0{P:Program}{b:AC}{ks:List Kt}{s:Jm}{h:J8}{n:Nat}{Q:Xb}(h1:rC P b ks s h n Q):Jt P (.seq b::ks) .normal s h n Q:=h1
def Mz:List Nat:=[2,4,6,7,9,12,13,15,16]
theorem Vd.keep {s':Jm}(S:Vd I s) (hk:∀j∈Mz,s' j=s j):Vd I s':=by simp only[Mz,mem_cons,not_mem_nil,or_false,forall_eq_or_imp,forall_eq]at hk;obtain⟨k2,k4,k6,k7,k9,k12,k13,k15,k16⟩:=hk;obtain⟨s2,s4,s6,s7,s9,s12,s13,s15,s16⟩:=S;exact⟨by rw[k2,s2],by rw[k4,s4],by rw[k6,s6],by rw[k7,s7],by rw[k9,s9],by rw[k12,s12],by rw[k13,s13],by rw[k15,s15],by rw[k16,s16]⟩
def V3(l:Jc)(k:Nat)(h:J8)(n:Nat):Prop:=∃q,k<n/\q<n/\h k=some ⟨true,2,[[.int .i64 l.Const,.ref q 0 l.Coeffs.length]]⟩/\h q=some ⟨false,1,Ji l.Coeffs⟩
theorem H7{i:Int}(N:Nat)(hN:N<=8):(Ki i N).Coeffs.length<=8:=by
 unfold Ki;split
 ·simp;omega
 ·simp[Jj]
theorem Jmr{ms:MS}{l:Jc}{k:Nat}(s12:s 12 = .ptr I.m 0 0)(s19:s 19 = .ptr k 0 0)(M:MI p r f N I ms h n)(L:V3 l k h n)(hl:l.Coeffs.length<=1048576)(hb:ms.pars.length<=1000000)
 (hK:∀s' h' n',(∀j,j<100->s' j=s j)->MI p r f N I (Dp ms l) h' n'->V3 l k h' n'->Jt prog ks .normal s' h' n' Q):rC prog Jlj ks s h n Q:=by
 obtain⟨l1,l2,l3,l4,l5⟩:=M.lt;obtain⟨q,hkn,hqn,hkb,hqb⟩:=L;obtain⟨vR,vP,vA,g1,g2,g3,g4,g6,g5⟩:=M.acc;have hkm:¬k=I.m:=by rintro rfl;rw[hkb]at g1;simp at g1
 have hqm:¬q=I.m:=by rintro rfl;rw[hqb]at g1;simp at g1
 have ne:¬I.m=n/\¬I.m=n+1/\¬I.m=n+1+1/\¬n=I.m/\¬n+1=I.m/\¬n+1+1=I.m/\¬n+2=I.m/\¬I.m=n+2/\¬k=n/\¬k=n+1/\¬k=n+1+1/\¬q=n/\¬q=n+1/\¬q=n+1+1/\¬n=n+1/\¬n+1=n/\¬n=n+1+1/\¬n+1+1=n/\¬n+1=n+1+1/\¬I.m=k/\¬I.m=q:=by omega
 have kp:∀j,j<100->¬j=100/\¬j=101/\¬j=102/\¬j=103/\¬j=104/\¬j=105/\¬j=106:=by intro j _;omega
 have fr:∀id,id<n->¬id=n/\¬id=n+1/\¬id=n+1+1:=by intro id _;omega
 simp[Jlj,s12,s19,g1,Xj,hkb];refine Jx (N2 l hl) (by simp[Jb,hqb]) ?_;rintro r rfl;rcases g3 with ⟨hz,rfl⟩|⟨i,hi,hin,rfl,hib⟩
 ·have hz':ms.pars=[]:=by simpa using hz
  simp[Ja,g1,Xj,ne,s12];refine⟨by unfold Jd;omega,?_⟩;refine hK _ _ _ (λj hj=>by simp[kp j hj]) (M.upd_acc (st':=Dp ms l) rfl rfl (by omega) (λ_=>False) (λ_ h=>h.elim) ?_ ?_) ⟨q,by omega,by omega,by simp[ne,hkm,hkb],by simp[ne,hqm,hqb]⟩
  ·intro id hid hm _;simp[fr id hid,hm]
  ·have fm:∀id,I.x<id->¬id=I.m:=by intro id _;omega
   refine⟨vR,.ref (n+2) 0 1,vA,by simp[Xj],g2.keep (by omega) λid hb hid _=>by simp[fr id hid,fm id hb],.inr ⟨n+2,by omega,by omega,by simp[Dp,hz'],by simp[Dp,hz',Ja,ne]⟩,g4.keep (by omega) λid hb hid _=>by simp[fr id hid,fm id hb],g6,?_⟩;intro i k j l' e1 e2;simp only[AV.ref.injEq]at e2;rcases g2 with ⟨_,e⟩|⟨j',_,hj',e,_⟩
   ·rw[e]at e1;cases e1
   ·rw[e]at e1;simp only[AV.ref.injEq]at e1;omega
 ·have hik:¬k=i:=by rintro rfl;rw[hkb]at hib;simp at hib
  have hiq:¬q=i:=by rintro rfl;rw[hqb]at hib;simp at hib
  have ni:¬i=n/\¬i=n+1/\¬i=n+1+1/\¬i=I.m/\¬I.m=i/\¬n=i/\¬n+1=i/\¬n+1+1=i/\¬i=k/\¬i=q:=by omega
  simp[Ja,g1,Xj,ne,ni,hib,s12];refine⟨by unfold Jd;omega,?_⟩;refine hK _ _ _ (λj hj=>by simp[kp j hj]) (M.upd_acc (st':=Dp ms l) rfl rfl (by omega) (λid=>id=i) (λid e=>⟨by omega,λl hl=>by rw[e,hib]at hl;simp at hl⟩) ?_ ?_) ⟨q,by omega,by omega,by simp[ne,hkm,hkb,hik],by simp[ne,hqm,hqb,hiq]⟩
  ·intro id hid hm hii;simp[fr id hid,hm,hii]
  ·have fm:∀id,I.x<id->¬id=I.m:=by intro id _;omega
   refine⟨vR,.ref (n+2) 0 (ms.pars.length+1),vA,by simp[Xj],g2.keep (by omega) λid hb hid e=>?_,.inr ⟨n+2,by omega,by omega,by simp[Dp],by simp[Dp,Ja,ne]⟩,g4.keep (by omega) λid hb hid e=>?_,g6,?_⟩
   ·have hii:¬id=i:=λe'=>g5 id _ i _ e rfl e'
    simp[fr id hid,fm id hb,hii]
   ·have hii:¬id=i:=by
     intro e';rcases g4 with ⟨_,e2⟩|⟨j',_,_,e2,hjb⟩
     ·rw[e2]at e;cases e
     ·rw[e2]at e;simp only[AV.ref.injEq]at e;rw[e.1,e',hib]at hjb;simp at hjb
    simp[fr id hid,fm id hb,hii]
   ·intro i' k j l' e1 e2;simp only[AV.ref.injEq]at e2;rcases g2 with ⟨_,e⟩|⟨j',_,hj',e,_⟩
    ·rw[e]at e1;cases e1
    ·rw[e]at e1;simp only[AV.ref.injEq]at e1;omega
theorem Ji4(S:Vd I s)(M:MI p r f N I ⟨[],0,[],[],[]⟩ h n)(hp2:f.Params.length<=2)(hN:N<=8)
 (hK:∀s' h' n',Vd I s'->MI p r f N I (f.Params.foldl (W8 N) ⟨[],0,[],[],[]⟩) h' n'->Jt prog ks .normal s' h' n' Q):rC prog K6l ks s h n Q:=by
 have S0:=S;obtain⟨s2,s4,s6,s7,s9,s12,s13,s15,s16⟩:=S0;simp[K6l,s7,M.hf,M.h3];intro _;generalize hT:f.Params.foldl (W8 N) ⟨[],0,[],[],[]⟩=T at hK
 refine Ka [2,4,6,7,9,12,13,15,16,91,92] 93 f.Params.length (λi s' h' n'=>∃st:MS,MI p r f N I st h' n'/\(f.Params.drop i).foldl (W8 N) st=T/\st.nx<=i/\st.rows.length<=i/\st.pars.length<=i) (by unfold Jd;omega) (by simp)
  ⟨_,M,by simpa using hT,by simp,by simp,by simp⟩ ?_ ?_
 ·rintro i st h' m R hi hg hk s93 hw ⟨ms,M,hJ,hb1,hb2,hb3⟩ hR _ _;simp at hk;rw[drop_eq_getElem_cons hi,foldl_cons]at hJ;obtain⟨l1,l2,l3,l4,l5⟩:=M.lt;refine Jq [2,4,6,7,9,12,13,15,16,91,92,93] (λs=>s 94 = .bool true) (by simp[hk,s93,hi]) ?_;intro Jv hk1 s94;simp at hk1;refine W3 s94 (Jn (Xd ?_));refine Jq [2,4,6,7,9,12,13,15,16,91,92,93] (λs=>s 18 = .str (f.Params[i]'hi)) (by simp[hk1,hk,s93,hi,M.h3]) ?_;intro st2 hk2 s18;simp at hk2;generalize f.Params[i]=x at *;have hlx:(Ki ms.nx N).Coeffs.length<=8:=H7 N (by omega);have S2:Vd I st2:=S.keep (by simp[Mz,hk2,hk1,hk]);obtain⟨t2,t4,t6,t7,t9,t12,t13,t15,t16⟩:=S2
  have hiP:W8 N ms x=(if Xp x then Ic (Dp (Qs ms x (Ki ms.nx N) (ms.nx+1)) (Ki ms.nx N)) (Ki ms.nx N)else Dp (Qs ms x (Ki ms.nx N) (ms.nx+1)) (Ki ms.nx N)):=by unfold W8 Ic Dp Qs;cases Xp x <;>simp
  generalize hl:Ki ms.nx N=l at *;refine Xu [2,4,6,7,9,12,13,15,16,91,92,93,18] (λs h' n'=>∃k,s 19 = .ptr k 0 0/\V3 l k h' n'/\MI p r f N I (Qs ms x l (ms.nx+1)) h' n') ?_ ?_
  ·simp[t15,s18];refine J1y M x (by omega) ?_;rw[hl];intro q h1 n1 hq hq1 hfr hqb M1;have fr:∀id,id<n1->¬id=n1:=by intro id _;omega
   simp[Id];exact⟨⟨q,by omega,by omega,by simp,by simp[fr q hq1,hqb]⟩,M1.frame (by omega) λid hid=>by simp[fr id hid]⟩
  rintro Kq h3 n3 hk3 ⟨k,s19,L3,M3⟩;simp at hk3;have u12:Kq 12 = .ptr I.m 0 0:=by rw[hk3.2.2.2.2.2.1,t12]
  refine Jn (Jmr u12 s19 M3 L3 (by omega) (by show ms.pars.length<=_;omega) ?_);intro st4 h4 n4 hk4 M4 L4;refine W0 (Jq [2,4,6,7,9,12,13,15,16,91,92,93,19] (λs=>s 108 = .bool (Xp x)) ?_ ?_)
  ·simp[hk4 18 (by omega),hk3,s18];refine Je (En x) (by simp) ?_;rintro r rfl;simp
  intro Yz hk5 s108;simp at hk5;have v16:Yz 16 = .fn (.func 204) [] [.ptr I.m 0 0]:=by rw[hk5.2.2.2.2.2.2.2.2.1,hk4 16 (by omega),hk3.2.2.2.2.2.2.2.2.1,t16]
  have v19:Yz 19 = .ptr k 0 0:=by rw[hk5.2.2.2.2.2.2.2.2.2.2.2.2,hk4 19 (by omega),s19]
  have kp:∀j∈[2,4,6,7,9,12,13,15,16,91,92,93],Yz j=st j:=by simp[hk5,hk4 2 (by omega),hk4 4 (by omega),hk4 6 (by omega),hk4 7 (by omega),hk4 9 (by omega),hk4 12 (by omega),hk4 13 (by omega),hk4 15 (by omega),hk4 16 (by omega),hk4 91 (by omega),hk4 92 (by omega),hk4 93 (by omega),hk3,hk2,hk1]
  simp at kp;cases c1:Xp x
  ·rw[c1]at hiP s108;simp only[Bool.false_eq_true,if_false]at hiP;rw[hiP]at hJ;simp[s108,kp,s93,hw];exact hR _ _ _ (by simp[kp,hk]) (by simp) ⟨_,M4,hJ,by show ms.nx+1<=_;omega,by show ms.rows.length<=_;omega,by show(ms.pars++[l]).length<=_;simp;omega⟩
  ·rw[c1]at hiP s108;simp only[if_true]at hiP;rw[hiP]at hJ;obtain⟨q,hkn,hqn,hkb,hqb⟩:=L4;simp[s108,v16,v19,hkb];refine Md M4 (l:=l) (q:=q) (by omega) hqn hqb (by show ms.rows.length<=_;omega) ?_;intro h6 n6 hn6 _ M6;simp[kp,s93,hw];exact hR _ _ _ (by simp[kp,hk]) (by simp) ⟨_,M6,hJ,by show ms.nx+1<=_;omega,by show(ms.rows++[l]).length<=_;simp;omega,by show(ms.pars++[l]).length<=_;simp;omega⟩
 ·rintro st h' m R hk s93 ⟨ms,M,hJ,hb1,hb2,hb3⟩ _ hX;simp at hk;rw[drop_eq_nil_of_le (by omega)]at hJ;simp only[foldl_nil]at hJ;subst hJ;refine Jq [2,4,6,7,9,12,13,15,16] (λs=>s 94 = .bool false) (by simp[hk,s93]) ?_;intro Jv hk1 s94;simp at hk1;refine Uv s94 ?_;refine hX _ _ _ _ ?_;simp;exact hK _ _ _ (S.keep (by simp[Mz,hk1,hk])) M
end
def K74:Jl:= ⟨39,[(.c 6 true 2),.t 7],(Zq [ZB 3 0,ZB 4 1,ZR 6,Zt 7 false] (.seq (Zq [Zf 9 0 4,Zl 10 false 1 9,ZN 11 10] (.cond (.t 11) (.seq (.draw (.op (Zl 12 true 2 3) (.op (Zf 13 1 4) (.op (Zl 14 false 1 13) (.op (Zo 15 (.ixa 2 (.t 14) (.k (.int .i64 0)))) (.op (Zl 16 true 2 15) (.op (Zv 17 2) (.op (Zc 18 267 [.t 12,.t 16,.t 17]) (.op (Ze 19 18 0) (.op (Ze 20 18 1) (.hop (Zs 2 6 19) [] (.op (Zv 7 20) .fin)))))))))))) .ret) .skip)) (Zq [Zf 21 1 4,Zl 22 false 1 21,Zn 23 22,Zv 24 2,Zc 25 99 [.t 23,.t 24],ZR 8,Zs 2 8 25] (.seq (Zq [Zf 26 2 4,Zl 27 false 1 26,Zo 28 (.bin .eql (.t 27) (.k (.str [])))] (.cond (.t 28) (Zq [Zl 29 true 2 8,Zs 2 6 29,Zt 7 true] .ret) .skip)) (.seq (.draw (.op (Zl 30 true 2 8) (.op (Zl 31 true 2 3) (.op (Zf 32 2 4) (.op (Zl 33 false 1 32) (.op (Zv 34 2) (.op (Zc 35 305 [.t 31,.t 33,.t 34]) (.op (Zc 36 98 [.t 30,(.k (.int .i64 1)),.t 35]) (.op (Ze 37 36 0) (.op (Ze 38 36 1) (.hop (Zs 2 6 37) [] (.op (Zv 7 38) .fin)))))))))))) .ret)))))⟩
theorem Jpn:Jh prog f268=some K74:=by kernel_rfl
def sm0:AC:=(.reg [ZB 3 0,ZB 4 1,ZR 6,Zt 7 false])
def sm1:AC:=(.reg [Zf 12 0 4,Zl 13 false 1 12,Zv 14 2,Zc 15 99 [.t 13,.t 14],ZR 8,Zs 2 8 15])
def K4c:AC:=(.draw (.op (Zl 24 true 2 8) (.op (Zf 25 1 4) (.op (Zl 26 false 1 25) (.op (Zv 27 9) (.op (Zx 28 2 26 27) (.op (Zf 29 0 28) (.op (Zl 30 false 1 29) (.op (Zl 31 true 2 3) (.op (Zf 32 1 4) (.op (Zl 33 false 1 32) (.op (Zv 34 9) (.op (Zx 35 2 33 34) (.op (Zf 36 1 35) (.op (Zl 37 false 1 36) (.op (Zv 38 2) (.both (.op (Zc 39 305 [.t 31,.t 37,.t 38]) (.both (.op (Zc 40 98 [.t 24,.t 30,.t 39]) (.op (Zv 23 40) (.op (Ze 41 23 0) (.op (Ze 42 23 1) (.op (ZR 10) (.hop (Zs 2 10 41) [] (.op (Zv 11 42) .fin))))))) (.op (ZR 10) (.op (Zc 40 98 [.t 24,.t 30,.t 39]) (.op (Zv 23 40) (.op (Ze 41 23 0) (.op (Ze 42 23 1) (.hop (Zs 2 10 41) [] (.op (Zv 11 42) .fin))))))))) (.op (ZR 10) (.op (Zc 39 305 [.t 31,.t 37,.t 38]) (.op (Zc 40 98 [.t 24,.t 30,.t 39]) (.op (Zv 23 40) (.op (Ze 41 23 0) (.op (Ze 42 23 1) (.hop (Zs 2 10 41) [] (.op (Zv 11 42) .fin)))))))))))))))))))))))))
def sm2:AC:=(Zq [Zi 9 0] (.blk 0 (.loop (.seq (Zq [Zv 16 9,Zf 17 1 4,Zl 18 false 1 17,Zn 19 18,Zb 20 .lss 16 19] (Zw 20 0)) (.seq (.blk 1 (.seq K4c (.seq (Zq [Zv 43 11,ZN 44 43] (.cond (.t 44) (Zq [Zo 45 (.build [(.int .i64 0),(.nil 1)] []),Zs 2 6 45,Zt 7 false] .ret) .skip)) (.reg [Zl 46 true 2 10,Zs 2 8 46])))) (.reg [Zv 21 9,Zk 22 .add 21 1,Zv 9 22]))))))
def sm3:AC:=(.reg [Zl 47 true 2 8,Zs 2 6 47,Zt 7 true])
def K83:Jl:=⟨48,[(.c 6 true 2),.t 7],(.seq sm0 (.seq sm1 (.seq sm2 (.seq sm3 .ret))))⟩
theorem Jmz:Jh prog f267=some K83:=by kernel_rfl
def G1(E:Xo):List AV:=[.sl 1 (Jf (Kl E)),.sl 2 ((Y8 E).map Jb)]
theorem Jjc{E:Xo}{x:Xg}{o:Jc}{i N k3 k4 k8:Nat}{ks:List Kt}{s:Jm}{h:J8}{n:Nat}{Q:Xb}(hE:E.length<=1048576)(hi:i<x.Terms.length)(s2:s 2 = .int .i64 N)(s3:s 3 = .ptr k3 0 0)(s4:s 4 = .ptr k4 0 0)(s8:s 8 = .ptr k8 0 0)(s9:s 9 = .int .i64 i)
 (e3:h k3=some ⟨true,2,[G1 E]⟩) (e4:h k4=some ⟨true,2,[Ks x]⟩) (L:V3 o k8 h n)
 (hK:∀s' h' n',(∀j∈[2,3,4,6,7,8,9],s' j=s j)->s' 11 = .bool (K9 o (x.Terms[i]).Coeff (Kp (Jr 0 N) E (x.Terms[i]).Name)).isSome ->
  (∃k,s' 10 = .ptr k 0 0/\V3 ((K9 o (x.Terms[i]).Coeff (Kp (Jr 0 N) E (x.Terms[i]).Name)).getD Jj) k h' n')->n<=n'->(∀id,id<n->h' id=h id)->Jt prog ks .normal s' h' n' Q):rC prog K4c ks s h n Q:=by
 obtain⟨q,hkn,hqn,hkb,hqb⟩:=L;simp[K4c,s2,s3,s4,s8,s9,e3,e4,hkb,Ks,G1,hi,Xh];constructor
 ·refine J2q (J5t (.inl rfl) (.inl rfl) hE ?_);intro w h1 n1 hn1 hfr1 cw hbw;refine⟨hfr1,?_⟩;have b0:=hbw h1 λ_ _=>rfl
  have fr1:∀id,id<n1->¬id=n1/\¬id=n1+1:=by intro id _;omega
  have frn:∀id,id<n->¬id=n1/\¬id=n1+1:=by intro id _;omega
  have b1:∀y,bw w (upd h1 n1 y)=some (.sl 1 (Ji (Kp (Jr 0 N) E (x.Terms[i]).Name).Coeffs)):=λy=>hbw _ λid hid=>by simp[fr1 id hid]
  have hq1:h1 q=some ⟨false,1,Ji o.Coeffs⟩:=by rw[hfr1 q hqn,hqb]
  have ne1:¬n1=n1+1/\¬n1+1=n1/\¬q=n1:=by omega
  simp;constructor
  ·skip;refine Jx (Vp o (x.Terms[i]'hi).Coeff (Kp (Jr 0 N) E (x.Terms[i]'hi).Name)) (by simp[Jb,hq1,b0]) ?_;rintro r rfl;rw[Xm];generalize(K9 o (x.Terms[i]).Coeff (Kp (Jr 0 N) E (x.Terms[i]).Name)).getD Jj=l at *;simp[Ja];refine hK _ _ _ (by simp) (by simp) ⟨n1+1,by simp,n1,by omega,by omega,by simp,by simp⟩ (by omega) λid hid=>by simp[frn id hid,hfr1 id hid]
  ·skip;refine Jx (Vp o (x.Terms[i]'hi).Coeff (Kp (Jr 0 N) E (x.Terms[i]'hi).Name)) (by simp[Jb,hq1,b1,ne1]) ?_;rintro r rfl;rw[Xm];generalize(K9 o (x.Terms[i]).Coeff (Kp (Jr 0 N) E (x.Terms[i]).Name)).getD Jj=l at *;simp[Ja];refine hK _ _ _ (by simp) (by simp) ⟨n1,by simp,n1+1,by omega,by omega,by simp,by simp⟩ (by omega) λid hid=>by simp[frn id hid,hfr1 id hid]
 ·refine J2q (J5t (.inl rfl) (.inl rfl) hE ?_);intro w h1 n1 hn1 hfr1 cw hbw;refine⟨hfr1,?_⟩;have b0:=hbw h1 λ_ _=>rfl
  have frn:∀id,id<n->¬id=n/\¬id=n1:=by intro id _;omega
  have hq1:h1 q=some ⟨false,1,Ji o.Coeffs⟩:=by rw[hfr1 q (by omega)];simp[frn q hqn,hqb]
  have hn0:=hfr1 n (by omega);simp at hn0;have ne1:¬n=n1/\¬n1=n/\¬q=n:=by omega
  simp
  ·skip;refine Jx (Vp o (x.Terms[i]'hi).Coeff (Kp (Jr 0 N) E (x.Terms[i]'hi).Name)) (by simp[Jb,hq1,b0]) ?_;rintro r rfl;rw[Xm];generalize(K9 o (x.Terms[i]).Coeff (Kp (Jr 0 N) E (x.Terms[i]).Name)).getD Jj=l at *;simp[Ja,ne1,hn0];refine hK _ _ _ (by simp) (by simp) ⟨n,by simp,n1,by omega,by omega,by simp,by simp[ne1]⟩ (by omega) λid hid=>by simp[frn id hid,hfr1 id (by omega)]
theorem J2w(E:Xo)(hE:E.length<=1048576)(x:Xg)(hx:x.Terms.length<=1048576)(N:Nat):Holds prog 267 [.agg (G1 E),.agg (Ks x),i64 N] (λr=>r=Ku (Er E N x)):=by
 refine Jp func267 Jmz rfl (by simp[K83]) ?_;simp[K83,sm0,sm1,sm2,Ks,G1];refine Je (Gi x.Const N) (by simp) ?_;rintro r rfl;simp[Ja];unfold Er;generalize hT:Ba E N x.Terms (Jr x.Const N)=T
 refine Ka [2,3,4,6,7,8] 9 x.Terms.length (λi s h n=>4<n/\h 0=some ⟨true,2,[G1 E]⟩/\h 1=some ⟨true,2,[Ks x]⟩/\h 2=some ⟨true,2,[[.int .i64 0,.nil 1]]⟩/\∃o,V3 o 4 h n/\Ba E N (x.Terms.drop i) o=T) (by unfold Jd;omega) (by simp)
  ⟨by simp,by simp[G1],by simp[Ks],by simp,Jr x.Const N,⟨3,by simp,by simp,by simp,by simp⟩,by simpa using hT⟩ ?_ ?_
 ·rintro i st h n R hi hg hk s9 hw ⟨hn,e0,e1,e2,o,L,hJ⟩ hR hret _;simp at hk;rw[drop_eq_getElem_cons hi]at hJ;simp only[Ba]at hJ;refine Jn (Jq [2,3,4,6,7,8,9] (λs=>s 20 = .bool true) (by simp[hk,s9,hi,e1,Ks]) ?_);intro Jv hk1 s20;simp at hk1;refine U2 s20 (Jn (Xd (Jn (Jjc (E:=E) (x:=x) (o:=o) (i:=i) (N:=N) (k3:=0) (k4:=1) (k8:=4) hE hi (by simp[hk1,hk]) (by simp[hk1,hk]) (by simp[hk1,hk]) (by simp[hk1,hk]) (by simp[hk1,s9]) e0 e1 L ?_))));rintro st2 h2 n2 hk2 s11 ⟨k,s10,L2⟩ hn2 hfr;simp at hk2;refine W0 ?_;have e0':=hfr 0 (by omega);have e1':=hfr 1 (by omega);have e2':=hfr 2 (by omega);rw[e0]at e0';rw[e1]at e1';rw[e2]at e2';obtain⟨q4,x4,y4,z4,w4⟩:=L;have z4':=hfr 4 x4;rw[z4]at z4';obtain⟨q2,x2,y2,z2,w2⟩:=L2
  cases ho:K9 o (x.Terms[i]).Coeff (Kp (Jr 0 N) E (x.Terms[i]).Name)with
  |none=>
   rw[ho]at hJ s11;simp only[Option.isSome_none]at s11;simp[s11,hk2,hk1,hk,e2'];refine hret _ _ _ ?_
   simp[hk2,hk1,hk,<-hJ,Ku,Jj,Ja,Ji]
  |some o'=>
   rw[ho]at hJ s11 z2 w2;simp only[Option.isSome_some]at s11;simp only[Option.getD_some]at z2 w2;simp[s11,s10,z2,hk2,hk1,hk,z4',s9,hw];have q24:¬q2=4:=by rintro rfl;rw[z4']at w2;simp at w2
   exact hR _ _ _ (by simp[hk2,hk1,hk]) (by simp) ⟨by omega,by simp[e0'],by simp[e1'],by simp[e2'],o',⟨q2,by omega,y2,by simp,by simp[q24,w2]⟩,hJ⟩
 ·rintro st h n R hk s9 ⟨hn,e0,e1,e2,o,⟨q,hkn,hqn,hkb,hqb⟩,hJ⟩ hret hX;simp at hk;rw[drop_eq_nil_of_le (by omega)]at hJ;simp only[Ba]at hJ;subst hJ;refine Jn (Jq [2,3,4,6,7,8] (λs=>s 20 = .bool false) (by simp[hk,s9,e1,Ks]) ?_);intro Jv hk1 s20;simp at hk1;refine U1 s20 ?_;refine hX _ _ _ _ ?_;have q2:¬q=2:=by rintro rfl;rw[e2]at hqb;simp at hqb
  simp[sm3,hk1,hk,hkb,e2,hqb,q2,Ku,Ja]
theorem J1n(E:Xo)(hE:E.length<=1048576)(x:Xe)(hx:∀y∈x.Heads,y.Terms.length<=1048576)(hne:x.Lst=false->0<x.Heads.length)(N:Nat):Holds prog 268 [.agg (G1 E),.agg (Kn x),i64 N] (λr=>r=Ku (Fx E N x)):=by
 refine Jp func268 Jpn rfl (by simp[K74]) ?_;simp[K74,G1,Kn];unfold Fx;cases hL:x.Lst
 ·have hz:=hne hL
  obtain⟨s,l,hsl⟩:∃s l,x.Heads=s::l:=by
   cases hh:x.Heads with
   |nil=>rw[hh]at hz;cases hz
   |cons s l=>exact⟨s,l,rfl⟩
  simp[hsl];refine Jx (J2w E hE s (hx s (by rw[hsl];exact mem_cons_self)) N) (by simp[G1]) ?_;rintro r rfl;rw[Xm];generalize hb:(Er E N s).isSome=b;simp[Ja]
 ·simp;intro _;refine Je (Gi x.Heads.length N) (by simp) ?_;rintro r rfl;simp[Ja];by_cases hb:x.Base=[]
  ·simp[hb,Ku,Ja]
  ·simp[hb];refine J2q (J5t (.inl rfl) (.inl rfl) hE ?_);intro w h1 n1 hn1 hfr1 cw hbw;refine⟨hfr1,?_⟩;have h3:=hfr1 3 (by omega);have h2:=hfr1 2 (by omega);simp at h2 h3;have b0:=hbw h1 λ_ _=>rfl
   have ne:¬n1=2/\¬2=n1:=by omega
   simp;refine Jx (Vp (Jr x.Heads.length N) 1 (Kp (Jr 0 N) E x.Base)) (by simp[Jb,h3,b0]) ?_;rintro r rfl;rw[Xm];generalize(K9 (Jr x.Heads.length N) 1 (Kp (Jr 0 N) E x.Base)).getD Jj=l;generalize(K9 (Jr x.Heads.length N) 1 (Kp (Jr 0 N) E x.Base)).isSome=b;simp[Ja,h2,ne]
def ro0:AC:=(.reg [ZB 4 0,ZB 5 1,Zo 8 (.box [(.nil 1),(.nil 2)]),Zz 9 2])
def ro1:AC:=(.reg [Zo 16 (.bsl 2 []),Zv 10 16])
def K8t:AC:=(.draw (.op (Zv 38 3) (.op (Zl 40 true 2 13) (.both (.op (Zc 39 99 [(.k (.int .i64 0)),.t 38]) (.both (.op (Zc 41 98 [.t 39,(.k (.int .i64 (-1))),.t 40]) (.op (Zv 37 41) (.op (Ze 42 37 0) (.op (Ze 43 37 1) (.op (ZR 14) (.hop (Zs 2 14 42) [] (.op (Zv 15 43) .fin))))))) (.op (ZR 14) (.op (Zc 41 98 [.t 39,(.k (.int .i64 (-1))),.t 40]) (.op (Zv 37 41) (.op (Ze 42 37 0) (.op (Ze 43 37 1) (.hop (Zs 2 14 42) [] (.op (Zv 15 43) .fin))))))))) (.op (ZR 14) (.op (Zc 39 99 [(.k (.int .i64 0)),.t 38]) (.op (Zc 41 98 [.t 39,(.k (.int .i64 (-1))),.t 40]) (.op (Zv 37 41) (.op (Ze 42 37 0) (.op (Ze 43 37 1) (.hop (Zs 2 14 42) [] (.op (Zv 15 43) .fin))))))))))))
def K80:AC:=(.reg [Zf 53 0 4,Zl 54 false 1 53,Zf 55 2 12,Zl 56 false 1 55,Zf 57 3 12,Zl 58 false 1 57,Zo 59 (.bsl 1 [.t 56,.t 58]),ZA 60 16 1 54 59,Zf 61 0 4,Zs 1 61 60])
def K6z:AC:=(.draw (.op (Zf 62 1 4) (.op (Zl 63 false 1 62) (.op (Zv 64 2) (.op (Zv 65 3) (.op (Zl 67 true 2 13) (.op (Zc 66 261 [.t 64,.t 65]) (.op (Zc 68 306 [.t 67,(.k (.int .i64 1))]) (.hop (Zo 69 (.bsl 2 [.t 66,.t 68])) [(.ld false 1 (.t 62)),(.fld 1 (.t 4))] (.hop (ZA 70 32 2 63 69) [] (.op (Zf 71 1 4) (.hop (Zs 1 71 70) [] .fin))))))))))))
def ro2:AC:=(Zq [Zi 11 0] (.blk 0 (.loop (.seq (Zq [Zv 17 11,Zf 18 1 5,Zl 19 false 1 18,Zn 20 19,Zb 21 .lss 17 20] (Zw 21 0)) (.seq (.blk 1 (Zq [Zf 24 1 5,Zl 25 false 1 24,Zv 26 11,Zx 27 4 25 26,Zl 28 true 4 27,Zo 12 (.box [(.str []),(.bool false),(.str []),(.str [])]),Zs 4 12 28] (Zq [Zl 29 true 2 4,Zf 30 0 12,Zl 31 false 1 30,Zv 32 3,Zc 33 305 [.t 29,.t 31,.t 32],ZR 13,Zs 2 13 33] (.seq (Zq [Zf 34 1 12,Zl 35 false 1 34,ZN 36 35] (.cond (.t 36) (.seq K8t (Zq [Zv 44 10,Zl 45 true 2 14,ZS 46 2 45,ZA 47 32 2 44 46,Zv 10 47] (.exit 1))) .skip)) (Zq [Zv 48 10,Zl 49 true 2 13,Zc 50 306 [.t 49,(.k (.int .i64 1))],ZS 51 2 50,ZA 52 32 2 48 51,Zv 10 52] (.seq  K80 (.seq K6z (.reg [Zv 72 2,Zk 73 .add 72 1,Zv 2 73])))))))) (.reg [Zv 22 11,Zk 23 .add 22 1,Zv 11 23]))))))
def ro3:AC:=(.reg [Zl 74 true 2 4,Zv 75 10,Zs 2 8 74,Zv 9 75])
def K4v:Jl:=⟨76,[(.c 8 true 2),.t 9],(.seq ro0 (.seq ro1 (.seq ro2 (.seq ro3 .ret))))⟩
theorem Jmy:Jh prog f266=some K4v:=by kernel_rfl
def Dj(v w:AV):Prop:=∀i k l,v = .ref i 0 k->w = .ref i 0 l->False
def Vr(b:Nat)(l:List (Nat×List (List AV)×AV))(h:J8)(n:Nat):Prop:=(∀x∈l,Kj b x.1 x.2.1 x.2.2 h n)/\l.Pairwise λx y=>Dj x.2.2 y.2.2
theorem Kj.lt {b z:Nat}{rows:List (List AV)}{v:AV}{h:J8}{n i k:Nat}(x:Kj b z rows v h n) (e:v = .ref i 0 k):b<i/\i<n/\h i=some ⟨false,z,rows⟩/\k=rows.length:=by
 rcases x with ⟨_,rfl⟩|⟨j,h1,h2,rfl,hb⟩
 ·cases e
 ·simp only[AV.ref.injEq]at e;obtain⟨rfl,_,rfl⟩:=e;exact⟨h1,h2,hb,rfl⟩
theorem Vr.step {b:Nat}{l1 l2:List (Nat×List (List AV)×AV)}{x x':Nat×List (List AV)×AV}{h h':J8}{n n':Nat}(A:Vr b (l1++x::l2) h n) (hx:Kj b x'.1 x'.2.1 x'.2.2 h' n') (hnew:∀i k,x'.2.2 = .ref i 0 k->n<=i) (hn:n<=n')
 (hh:∀id,b<id->id<n->(∃z rows,h id=some ⟨false,z,rows⟩)->(∀k,x.2.2 ≠ .ref id 0 k)->h' id=h id):Vr b (l1++x'::l2) h' n':=by
 obtain⟨A1,A2⟩:=A;rw[pairwise_append,pairwise_cons]at A2;obtain⟨p1,⟨p2,p3⟩,p4⟩:=A2;refine⟨?_,?_⟩
 ·intro y hy;rcases mem_append.1 hy with hy|hy
  ·refine(A1 y (mem_append_left _ hy)).keep hn λid hb hid e=>hh id hb hid ⟨_,_,((A1 y (mem_append_left _ hy)).lt e).2.2.1⟩ λk ek=>p4 y hy x mem_cons_self id _ k e ek
  ·rcases mem_cons.1 hy with rfl|hy
   ·exact hx
   ·refine(A1 y (mem_append_right _ (mem_cons_of_mem _ hy))).keep hn λid hb hid e=>hh id hb hid ⟨_,_,((A1 y (mem_append_right _ (mem_cons_of_mem _ hy))).lt e).2.2.1⟩ λk ek=>p2 y hy id k _ ek e
 ·rw[pairwise_append,pairwise_cons];refine⟨p1,⟨λy hy i k l e1 e2=>?_,p3⟩,λy hy w hw i k l e1 e2=>?_⟩
  ·have g1:=hnew i k e1;have g2:=((A1 y (mem_append_right _ (mem_cons_of_mem _ hy))).lt e2).2.1;omega
  ·have g2:=((A1 y (mem_append_left _ hy)).lt e1).2.1;rcases mem_cons.1 hw with rfl|hw
   ·have g1:=hnew i l e2;omega
   ·exact p4 y hy w (mem_cons_of_mem _ hw) i k l e1 e2
theorem Vr.frame {b:Nat}{l:List (Nat×List (List AV)×AV)}{h h':J8}{n n':Nat}(A:Vr b l h n) (hn:n<=n') (hh:∀id,b<id->id<n->h' id=h id):Vr b l h' n':=
 ⟨λx hx=>(A.1 x hx).keep hn λid hb hid _=>hh id hb hid,A.2⟩
theorem Q7{b z bytes k:Nat}{rows rows2:List (List AV)}{v:AV}{h:J8}{n:Nat}{K:AV->J8->Nat->Prop}(A:Kj b z rows v h n)(hk:h k=some ⟨false,z,rows2⟩)(hvk:∀l,v ≠ .ref k 0 l)(hkn:k<n)
 (hlen:(rows.length+rows2.length)*bytes<=Jd)
 (hK:∀h',h' n=some ⟨false,z,rows++rows2⟩->(∀id,id≠n->id≠k->(∀l,v ≠ .ref id 0 l)->h' id=h id)->K (.ref n 0 (rows.length+rows2.length)) h' (n+1)) :
 Eq bytes z v (.ref k 0 rows2.length) h n K:=by
 rcases A with ⟨rfl,rfl⟩|⟨i,_,hin,rfl,hib⟩
 ·simp[hk];refine⟨by simpa using hlen,?_⟩;have:k≠n:=by omega
  simp at hK;exact hK _ (by simp) λid h1 h2=>by simp[h1,h2]
 ·have hki:¬k=i:=λe=>hvk _ (by rw[e])
  have hik:¬i=k:=λe=>hki e.symm
  have hne:¬i=n:=by omega
  simp[hk,hib,hki];refine⟨hlen,?_⟩;refine hK _ (by simp) λid h1 h2 h3=>?_
  have:¬id=i:=λe=>h3 _ (by rw[e])
  simp[h1,h2,this]
section
variable {ks:List Kt}{s:Jm}{h:J8}{n N:Nat}{Q:Xb}
theorem Jh2{l0:Jc}{k:Nat}(s3:s 3 = .int .i64 N)(s13:s 13 = .ptr k 0 0)(hkn:k<n)(hkb:h k=some ⟨true,2,[Jb l0]⟩)
 (hK:∀s' h' n',(∀j∈[2,3,4,5,8,9,10,11,12,13],s' j=s j)->(∃k q,s' 14 = .ptr k 0 0/\n<=k/\n<=q/\k<n'/\q<n'/\h' k=some ⟨true,2,[[.int .i64 (Ys (Jr 0 N) (-1) l0).Const,.ref q 0 (Ys (Jr 0 N) (-1) l0).Coeffs.length]]⟩/\h' q=some ⟨false,1,Ji (Ys (Jr 0 N) (-1) l0).Coeffs⟩)->n<=n'->(∀id,id<n->h' id=h id)->Jt prog ks .normal s' h' n' Q):rC prog K8t ks s h n Q:=by
 have fr:∀id,id<n->¬id=n/\¬id=n+1/\¬id=n+1+1/\¬id=n+2:=by intro id _;omega
 have ne:¬n=n+1/\¬n+1=n/\¬n=n+1+1/\¬n+1+1=n/\¬n+1=n+1+1/\¬n+1+1=n+1:=by omega
 simp[K8t,s3,s13,hkb];constructor
 ·skip;refine Jx (Gi 0 N) (by simp) ?_;rintro r rfl;simp[Ja];constructor
  ·skip;refine Jx (Vp (Jr 0 N) (-1) l0) (by simp[Jb]) ?_;rintro r rfl;rw[Xm];have hadd:(K9 (Jr 0 N) (-1) l0).getD Jj=Ys (Jr 0 N) (-1) l0:=rfl;rw[hadd];generalize Ys (Jr 0 N) (-1) l0=l at *;simp[Ja];refine hK _ _ _ (by simp) ⟨n+2,n+1,by simp,by omega,by omega,by omega,by omega,by simp,by simp⟩ (by omega) λid hid=>by simp[fr id hid]
  ·skip;refine Jx (Vp (Jr 0 N) (-1) l0) (by simp[Jb]) ?_;rintro r rfl;rw[Xm];have hadd:(K9 (Jr 0 N) (-1) l0).getD Jj=Ys (Jr 0 N) (-1) l0:=rfl;rw[hadd];generalize Ys (Jr 0 N) (-1) l0=l at *;simp[Ja];refine hK _ _ _ (by simp) ⟨n+1,n+2,by simp,by omega,by omega,by omega,by omega,by simp,by simp⟩ (by omega) λid hid=>by simp[fr id hid]
 ·skip;refine Jx (Gi 0 N) (by simp) ?_;rintro r rfl;simp[Ja]
  ·skip;refine Jx (Vp (Jr 0 N) (-1) l0) (by simp[Jb]) ?_;rintro r rfl;rw[Xm];have hadd:(K9 (Jr 0 N) (-1) l0).getD Jj=Ys (Jr 0 N) (-1) l0:=rfl;rw[hadd];generalize Ys (Jr 0 N) (-1) l0=l at *;simp[Ja,ne];refine hK _ _ _ (by simp) ⟨n,n+2,by simp,by omega,by omega,by omega,by omega,by simp,by simp⟩ (by omega) λid hid=>by simp[fr id hid]
def By(v0 v:AV)(n0:Nat):Prop:=v=v0\/∀i k,v = .ref i 0 k->n0<=i
structure RI (b n0:Nat) (vN0 vL0:AV) (h0:J8) (r:K0) (nm:List J9) (ls R:List Jc) (v10:AV) (h:J8) (m:Nat):Prop where
 lt:n0+3<m
 hr:h (n0+1)=some ⟨true,7,[Ju r]⟩
 hz:h (n0+2)=some ⟨true,2,[[.nil 1,.nil 2]]⟩
 fr:∀id,id<n0->(∀k,vN0 ≠ .ref id 0 k)->(∀k,vL0 ≠ .ref id 0 k)->h id=h0 id
 env:∃vN vL,h n0=some ⟨true,2,[[vN,vL]]⟩/\Vr b [(1,Jf nm,vN),(2,ls.map Jb,vL),(2,R.map Ja,v10)] h m/\By vN0 vN n0/\By vL0 vL n0/\By (.nil 2) v10 n0
variable {b n0:Nat}{vN0 vL0 v10 v10':AV}{h0 h':J8}{r:K0}{nm:List J9}{ls R:List Jc}{m m':Nat}
theorem By.fresh {v0:AV}{i k:Nat}(h:n0<=i):By v0 (.ref i 0 k) n0 := .inr λj l e=>by simp only[AV.ref.injEq]at e;omega
theorem RI.frame (M:RI b n0 vN0 vL0 h0 r nm ls R v10 h m) (hm:m<=m') (hh:∀id,id<m->h' id=h id):RI b n0 vN0 vL0 h0 r nm ls R v10 h' m':=by have l1:=M.lt;obtain⟨vN,vL,e1,e2,e3,e4,e5⟩:=M.env;exact⟨by omega,by rw[hh _ (by omega),M.hr],by rw[hh _ (by omega),M.hz],λid h1 h2 h3=>by rw[hh id (by omega),M.fr id h1 h2 h3],vN,vL,by rw[hh _ (by omega),e1],e2.frame hm λid _ hid=>hh id hid,e3,e4,e5⟩
theorem Kj.not_box {z z' i k:Nat}{rows rows':List (List AV)}{v:AV}(x:Kj b z rows v h n) (hb:h i=some ⟨true,z',rows'⟩) (e:v = .ref i 0 k):False:=by have:=(x.lt e).2.2.1;rw[hb]at this;simp at this
theorem RI.rows (M:RI b n0 vN0 vL0 h0 r nm ls R v10 h m) {R':List Jc}(hm:m<=m') (hx:Kj b 2 (R'.map Ja) v10' h' m') (hnew:∀i k,v10' = .ref i 0 k->m<=i) (hh:∀id,id<m->(∀k,v10 ≠ .ref id 0 k)->h' id=h id):RI b n0 vN0 vL0 h0 r nm ls R' v10' h' m':=by
 have l1:=M.lt;obtain⟨vN,vL,e1,e2,e3,e4,e5⟩:=M.env;have y3:=e2.1 (2,R.map Ja,v10) (by simp);refine⟨by omega,?_,?_,?_,vN,vL,?_,?_,e3,e4,.inr λi k e=>by have:=hnew i k e;omega⟩
 ·rw[hh _ (by omega) λk e=>y3.not_box M.hr e,M.hr]
 ·rw[hh _ (by omega) λk e=>y3.not_box M.hz e,M.hz]
 ·intro id h1 h2 h3;rw[hh id (by omega) λk e=>?_,M.fr id h1 h2 h3];rcases e5 with rfl|g
  ·cases e
  ·have:=g _ _ e;omega
 ·rw[hh _ (by omega) λk e=>y3.not_box e1 e,e1]
 ·exact Vr.step (l1:=[(1,Jf nm,vN),(2,ls.map Jb,vL)]) (l2:=[]) (x:=(2,R.map Ja,v10)) (x':=(2,R'.map Ja,v10')) e2 hx hnew hm λid _ h2 _ h3=>hh id h2 h3
theorem RI.names (M:RI b n0 vN0 vL0 h0 r nm ls R v10 h m) {nm':List J9}{vN vL vN':AV}(e1:h n0=some ⟨true,2,[[vN,vL]]⟩) (e1':h' n0=some ⟨true,2,[[vN',vL]]⟩) (hm:m<=m') (hx:Kj b 1 (Jf nm') vN' h' m') (hnew:∀i k,vN' = .ref i 0 k->m<=i) (hh:∀id,id<m->id≠n0->(∀k,vN ≠ .ref id 0 k)->h' id=h id):RI b n0 vN0 vL0 h0 r nm' ls R v10 h' m':=by
 have l1:=M.lt;obtain⟨vN2,vL2,f1,e2,e3,e4,e5⟩:=M.env;rw[e1]at f1;simp only[Option.some.injEq,Yi.mk.injEq,true_and,List.cons.injEq,and_true]at f1;obtain⟨rfl,rfl⟩:=f1;have y1:=e2.1 (1,Jf nm,vN) (by simp);refine⟨by omega,?_,?_,?_,vN',vL,e1',?_,.inr λi k e=>by have:=hnew i k e;omega,e4,e5⟩
 ·rw[hh _ (by omega) (by omega) λk e=>y1.not_box M.hr e,M.hr]
 ·rw[hh _ (by omega) (by omega) λk e=>y1.not_box M.hz e,M.hz]
 ·intro id h1 h2 h3;rw[hh id (by omega) (by omega) λk e=>?_,M.fr id h1 h2 h3];rcases e3 with rfl|g
  ·exact h2 k e
  ·have:=g _ _ e;omega
 ·refine Vr.step (l1:=[]) (l2:=[(2,ls.map Jb,vL),(2,R.map Ja,v10)]) (x:=(1,Jf nm,vN)) (x':=(1,Jf nm',vN')) e2 hx hnew hm λid hb h2 hf h3=>?_
  refine hh id h2 (λe=>?_) h3;obtain⟨z,rows,hf⟩:=hf;rw[e,e1]at hf;simp at hf
theorem RI.lins (M:RI b n0 vN0 vL0 h0 r nm ls R v10 h m) {ls':List Jc}{vN vL vL':AV}(e1:h n0=some ⟨true,2,[[vN,vL]]⟩) (e1':h' n0=some ⟨true,2,[[vN,vL']]⟩) (hm:m<=m') (hx:Kj b 2 (ls'.map Jb) vL' h' m') (hnew:∀i k,vL' = .ref i 0 k->m<=i) (hh:∀id,id<m->id≠n0->(∀k,vL ≠ .ref id 0 k)->h' id=h id):RI b n0 vN0 vL0 h0 r nm ls' R v10 h' m':=by
 have l1:=M.lt;obtain⟨vN2,vL2,f1,e2,e3,e4,e5⟩:=M.env;rw[e1]at f1;simp only[Option.some.injEq,Yi.mk.injEq,true_and,List.cons.injEq,and_true]at f1;obtain⟨rfl,rfl⟩:=f1;have y1:=e2.1 (2,ls.map Jb,vL) (by simp);refine⟨by omega,?_,?_,?_,vN,vL',e1',?_,e3,.inr λi k e=>by have:=hnew i k e;omega,e5⟩
 ·rw[hh _ (by omega) (by omega) λk e=>y1.not_box M.hr e,M.hr]
 ·rw[hh _ (by omega) (by omega) λk e=>y1.not_box M.hz e,M.hz]
 ·intro id h1 h2 h3;rw[hh id (by omega) (by omega) λk e=>?_,M.fr id h1 h2 h3];rcases e4 with rfl|g
  ·exact h3 k e
  ·have:=g _ _ e;omega
 ·refine Vr.step (l1:=[(1,Jf nm,vN)]) (l2:=[(2,R.map Ja,v10)]) (x:=(2,ls.map Jb,vL)) (x':=(2,ls'.map Jb,vL')) e2 hx hnew hm λid hb h2 hf h3=>?_
  refine hh id h2 (λe=>?_) h3;obtain⟨z,rows,hf⟩:=hf;rw[e,e1]at hf;simp at hf
theorem Jh3{q:X4}{k:Nat}(s4:s 4 = .ptr n0 0 0)(s12:s 12 = .ptr k 0 0)(M:RI b n0 vN0 vL0 h0 r nm ls R v10 h n)(hb:b<n0)(hkn:k<n)(hkb:h k=some ⟨true,4,[Kd q]⟩)(hl:nm.length<=1048576)
 (hK:∀s' h' n',(∀j∈[2,3,5,8,9,10,11,12,13,4],s' j=s j)->n<=n'->(∀id z rows,id<n->id≠n0->h id=some ⟨true,z,rows⟩->h' id=h id)->RI b n0 vN0 vL0 h0 r (nm++[q.Head,q.Tail]) ls R v10 h' n'->Jt prog ks .normal s' h' n' Q):rC prog K80 ks s h n Q:=by
 have l1:=M.lt;obtain⟨vN,vL,e1,e2,e3,e4,e5⟩:=M.env;have y1:=e2.1 (1,Jf nm,vN) (by simp)
 have ne:¬n0=n/\¬k=n/\¬n0=n+1/\¬n+1=n0/\¬k=n0/\¬n0=k:=by
  refine⟨by omega,by omega,by omega,by omega,?_,?_⟩
  ·rintro rfl;rw[hkb]at e1;simp at e1
  ·rintro rfl;rw[hkb]at e1;simp at e1
 have frn:∀id,id<n->¬id=n/\¬id=n+1:=by intro id _;omega
 simp[K80,s4,s12,e1,hkb,Kd];refine Q7 (rows:=Jf nm) (rows2:=[[.str q.Head],[.str q.Tail]]) (y1.keep (n':=n+1) (by omega) λid _ hid _=>by simp[frn id hid]) (by simp) (λl e=>by have:=(y1.lt e).2.1;omega) (by omega) (by simp[Jf];unfold Jd;omega) ?_;intro h1 f1 f2;have g0:h1 n0=some ⟨true,2,[[vN,vL]]⟩:=by rw[f2 n0 (by omega) (by omega) λl e=>y1.not_box e1 e];simp[ne,e1]
 simp[g0,s4];refine hK _ _ _ (by simp) (by omega) ?_ (M.names (vN' := .ref (n+1) 0 (nm.length+2)) e1 (by simp) (by omega) (.inr ⟨n+1,by omega,by omega,by simp[Jf],by simp[ne,f1,Jf]⟩) (λi k e=>by simp only[AV.ref.injEq]at e;omega) ?_)
 ·intro id z rows h1' h2' h3';simp[h2',f2 id (by omega) (by omega) λl e=>y1.not_box h3' e,frn id h1']
 ·intro id h1' h2' h3';simp[h2',f2 id (by omega) (by omega) h3',frn id h1']
theorem Jhy{l0:Jc}{k at':Nat}(s2:s 2 = .int .i64 at')(s3:s 3 = .int .i64 N)(s4:s 4 = .ptr n0 0 0)(s13:s 13 = .ptr k 0 0)(M:RI b n0 vN0 vL0 h0 r nm ls R v10 h n)(hb:b<n0)(hkn:k<n)(hkb:h k=some ⟨true,2,[Jb l0]⟩)(hk0:k≠n0)(hl:ls.length<=1048576)(hl0:l0.Coeffs.length<=1048576)
 (hK:∀s' h' n',(∀j∈[2,3,5,8,9,10,11,12,13,4],s' j=s j)->n<=n'->(∀id z rows,id<n->id≠n0->h id=some ⟨true,z,rows⟩->h' id=h id)->RI b n0 vN0 vL0 h0 r nm (ls++[Ki at' N,Vn l0 1]) R v10 h' n'->Jt prog ks .normal s' h' n' Q):rC prog K6z ks s h n Q:=by
 have l1:=M.lt;obtain⟨vN,vL,e1,e2,e3,e4,e5⟩:=M.env;have y1:=e2.1 (2,ls.map Jb,vL) (by simp);have ne:¬n0=n/\¬k=n/\¬n0=n+1/\¬n0=n+1+1/\¬n0=n+2/\¬k=n+1/\¬n=n+1/\¬n+1=n:=by omega
 have frn:∀id,id<n->¬id=n/\¬id=n+1/\¬id=n+1+1/\¬id=n+2/\¬id=n+3:=by intro id _;omega
 simp[K6z,s2,s3,s4,s13,e1,hkb];refine Ez (P5 at' N) (by simp) ?_;rintro _ rfl;simp;refine Ez (J3o l0 1 hl0) (by simp) ?_;rintro _ rfl;simp[ne,e1,s4];have ne2:¬n+1+1=n0/\¬n+1=n0/\¬n+2=n0/\¬n0=n+1+1:=by omega
 refine Q7 (rows:=ls.map Jb) (rows2:=[Jb (Ki at' N),Jb (Vn l0 1)]) (y1.keep (n':=n+1) (by omega) λid _ hid _=>by simp[frn id hid]) (by simp) (λl e=>by have:=(y1.lt e).2.1;omega) (by omega) (by simp;unfold Jd;omega) ?_;intro h1 f1 f2;have g0:h1 n0=some ⟨true,2,[[vN,vL]]⟩:=by rw[f2 n0 (by omega) (by omega) λl e=>y1.not_box e1 e];simp[ne,e1]
 simp[g0,s4];refine hK _ _ _ (by simp) (by omega) ?_ (M.lins (vL' := .ref (n+1) 0 (ls.length+2)) e1 (by simp) (by omega) (.inr ⟨n+1,by omega,by omega,by simp,by simp[ne2,f1]⟩) (λi k e=>by simp only[AV.ref.injEq]at e;omega) ?_)
 ·intro id z rows h1' h2' h3';simp[h2',f2 id (by omega) (by omega) λl e=>y1.not_box h3' e,frn id h1']
 ·intro id h1' h2' h3';simp[h2',f2 id (by omega) (by omega) h3',frn id h1']
end
section
variable {ks:List Kt}{s:Jm}{h:J8}{n N:Nat}{Q:Xb}{b n0:Nat}{vN0 vL0:AV}{h0:J8}{r:K0}
def RJ(N b n0:Nat)(vN0 vL0:AV)(h0:J8)(r:K0)(E0:Xo)(T:MS)(i:Nat)(s:Jm)(h:J8)(m:Nat):Prop:=
 ∃ms:MS,(r.Patterns.drop i).foldl (Xs N) ms=T/\s 2 = .int .i64 ms.nx/\RI b n0 vN0 vL0 h0 r (Kl ms.E) (Y8 ms.E) ms.rows (s 10) h m/\ms.nx<=1000+i/\ms.E.length<=1000+2*i/\ms.rows.length<=i/\(∀x∈Kl E0,x∈Kl ms.E)/\∀e∈ms.E,e.2.Coeffs.length<=8
theorem Jgg(E F:Xo):Kl (E++F)=Kl E++Kl F:=by simp[Kl]
theorem Jai{E:Xo}{x:J9}{d:Jc}(h:∀e∈E,e.2.Coeffs.length<=8)(hx:x∈Kl E):(Kp d E x).Coeffs.length<=8:=by obtain⟨l,h1,h2⟩:=Pb d hx;have:=h2 d [];rw[List.append_nil]at this;rw[this];exact h _ h1
theorem Js9{E0:Xo}{T:MS}(s3:s 3 = .int .i64 N)(s4:s 4 = .ptr n0 0 0)(s5:s 5 = .ptr (n0+1) 0 0)(hb:b<n0)(hN:N<=8)(hp:r.Patterns.length<=100)(hin:∀q∈r.Patterns,q.Lst∈Kl E0)(J:RJ N b n0 vN0 vL0 h0 r E0 T 0 s h n)
 (hK:∀s' h' m,(∀j∈[3,4,5,8,9],s' j=s j)->RI b n0 vN0 vL0 h0 r (Kl T.E) (Y8 T.E) T.rows (s' 10) h' m->Jt prog ks .normal s' h' m Q):rC prog ro2 ks s h n Q:=by
 simp[ro2];refine Ka [3,4,5,8,9] 11 r.Patterns.length (RJ N b n0 vN0 vL0 h0 r E0 T) (by unfold Jd;omega) (by simp) (by simpa[RJ]using J) ?_ ?_
 ·rintro i st h' m R hi hg hk s11 hw ⟨ms,hJ,t2,M,hb1,hb2,hb3,hb4,hb5⟩ hR _ _;simp at hk;rw[drop_eq_getElem_cons hi,foldl_cons]at hJ;have hin:=hin _ (List.getElem_mem hi);have l1:=M.lt;refine Jn (Jq [2,3,4,5,8,9,10,11] (λs=>s 21 = .bool true) (by simp[hk,s11,s5,M.hr,Ju,hi]) ?_);intro Jv hk1 s21;simp at hk1;refine U2 s21 (Jn (Xd ?_));refine Xu [2,3,4,5,8,9,10,11] (λs h2 m2=>m2=m+1/\s 12 = .ptr m 0 0/\h2 m=some ⟨true,4,[Kd (r.Patterns[i]'hi)]⟩/\∀id,id<m->h2 id=h' id) ?_ ?_
  ·have fr:∀id,id<m->¬id=m:=by intro id _;omega
   simp[hk1,hk,s11,s5,M.hr,Ju,Kd,hi];exact λid hid=>by simp[fr id hid]
  rintro st2 h2 m2 hk2 ⟨rfl,s12,em,hfr2⟩;simp at hk2;generalize r.Patterns[i]=q at *;have M2:=M.frame (h':=h2) (m':=m+1) (by omega) hfr2;have u10:st2 10=st 10:=by rw[hk2.2.2.2.2.2.2.1,hk1.2.2.2.2.2.2.1]
  have hx:q.Lst∈Kl ms.E:=hb4 _ hin;have hl8:=Jai (d:=Jr 0 N) hb5 hx;have hsl:F6 N ms q=Vn (Kp (Jr 0 N) ms.E q.Lst) 1:=rfl
  have hsp:Xs N ms q=if q.Cons then⟨ms.E++[(q.Head,Ki ms.nx N),(q.Tail,Vn (Kp (Jr 0 N) ms.E q.Lst) 1)],ms.nx+1,ms.rows++[Vn (Kp (Jr 0 N) ms.E q.Lst) 1],ms.pars,ms.args⟩
   else⟨ms.E,ms.nx,ms.rows++[Ys (Jr 0 N) (-1) (Kp (Jr 0 N) ms.E q.Lst)],ms.pars,ms.args⟩:=rfl
  rw[hsp]at hJ;refine Xu [2,3,4,5,8,9,10,11,12] (λs h3 m3=>∃k,s 13 = .ptr k 0 0/\m+1<=k/\k<m3/\h3 k=some ⟨true,2,[Jb (Kp (Jr 0 N) ms.E q.Lst)]⟩/\h3 m=some ⟨true,4,[Kd q]⟩/\RI b n0 vN0 vL0 h0 r (Kl ms.E) (Y8 ms.E) ms.rows (st 10) h3 m3) ?_ ?_
  ·obtain⟨vN,vL,e1,e2,e3,e4,e5⟩:=M2.env;have w4:st2 4 = .ptr n0 0 0:=by rw[hk2.2.2.1,hk1.2.2.1,hk.2.1,s4]
   have w3:st2 3 = .int .i64 N:=by rw[hk2.2.1,hk1.2.1,hk.1,s3]
   simp[w4,w3,s12,em,e1,Kd];refine J8x (d:=Jr 0 N) (.inr ⟨b,e2.1 (1,Jf (Kl ms.E),vN) (by simp)⟩) (.inr ⟨b,e2.1 (2,(Y8 ms.E).map Jb,vL) (by simp)⟩) hx ?_;intro h3 m3 hm3 hfr3;have fr:∀id,id<m3->¬id=m3:=by intro id _;omega
   have em3:=hfr3 m (by omega);rw[em]at em3;simp;exact⟨by omega,by simp[fr m (by omega),em3,Kd],M2.frame (by omega) λid hid=>by simp[fr id (by omega),hfr3 id hid]⟩
  rintro Kq h3 m3 hk3 ⟨k,s13,hkm,hkn,hkb,em3,M3⟩;simp at hk3;generalize Kp (Jr 0 N) ms.E q.Lst=l0 at *;have v3:Kq 3 = .int .i64 N:=by rw[hk3.2.1,hk2.2.1,hk1.2.1,hk.1,s3]
  have v4:Kq 4 = .ptr n0 0 0:=by rw[hk3.2.2.1,hk2.2.2.1,hk1.2.2.1,hk.2.1,s4]
  have v12:Kq 12 = .ptr m 0 0:=by rw[hk3.2.2.2.2.2.2.2.2,s12]
  have v10:Kq 10=st 10:=by rw[hk3.2.2.2.2.2.2.1,u10]
  have kk:Kq 2=st 2/\Kq 3=st 3/\Kq 4=st 4/\Kq 5=st 5/\Kq 8=st 8/\Kq 9=st 9/\Kq 11=st 11:=by simp[hk3,hk2,hk1]
  rw[<-v10]at M3;refine Jn ?_;refine Jq [2,3,4,5,8,9,10,11,12,13] (λs=>s 36 = .bool (!q.Cons)) (by simp[v12,em3,Kd]) ?_;intro st4 hk4 s36;simp at hk4;cases hc:q.Cons
  ·rw[hc]at hJ s36;simp only[Bool.false_eq_true,if_false]at hJ;rw[J5w (show ev st4 (.t 36) = .bool true from s36)];refine Jn (Jh2 (l0:=l0) (k:=k) (by rw[hk4.2.1,v3]) (by rw[hk4.2.2.2.2.2.2.2.2.2,s13]) hkn hkb ?_);rintro Yz h5 m5 hk5 ⟨k5,q5,s14,o5,p5,x5,y5,z5,w5⟩ hm5 hfr5;simp at hk5;have M5:=M3.frame hm5 hfr5;have l5:=M5.lt;obtain⟨vN,vL,e1,e2,e3,e4,e5⟩:=M5.env;have y1:=e2.1 (2,ms.rows.map Ja,Kq 10) (by simp);have g10:Yz 10=Kq 10:=by rw[hk5.2.2.2.2.2.2.1,hk4.2.2.2.2.2.2.1]
   have hqv:∀l,Kq 10 ≠ .ref q5 0 l:=λl e=>by have:=(y1.lt e).2.2.1;rw[w5]at this;simp at this
   generalize Ys (Jr 0 N) (-1) l0=lr at *;have frn:∀id,id<m5->¬id=m5:=by intro id _;omega
   refine W0 ?_;simp[g10,s14,z5,w5];generalize hv3:Kq 10=v3' at *;refine Q7 (rows:=ms.rows.map Ja) (rows2:=[[.int .i64 lr.Const,.us 1 (Ji lr.Coeffs)]]) (y1.keep (n':=m5+1) (by omega) λid _ hid e=>?_) (by simp) (λl e=>by have:=(y1.lt e).2.1;omega) (by omega) (by simp;unfold Jd;omega) ?_
   ·have:¬id=q5:=λe'=>hqv _ (by rw[<-e'];exact e)
    simp[frn id hid,this]
   intro h6 f1 f2;simp[hk5,hk4,kk,s11,hw];refine hR _ _ _ (by simp[hk5,hk4,kk,hk]) (by simp) ⟨_,hJ,by simp[hk5,hk4,kk,t2],?_,by show ms.nx<=_;omega,by show ms.E.length<=_;omega,by show(ms.rows++[_]).length<=_;simp;omega,hb4,hb5⟩;simp;refine M3.rows (by omega) (.inr ⟨m5+1,by omega,by omega,by simp,by simp[f1,Ja]⟩) (λi k e=>by simp only[AV.ref.injEq]at e;omega) ?_;intro id h1 h2;have:¬id=q5:=by omega
   rw[f2 id (by omega) (by omega) h2];simp[this,frn id (by omega),hfr5 id h1]
  ·rw[hc]at hJ s36;simp only[if_true]at hJ;rw[Jbj (show ev st4 (.t 36) = .bool false from s36),Jdo];refine W0 ?_;have l3:=M3.lt;obtain⟨vN,vL,e1,e2,e3,e4,e5⟩:=M3.env;have y1:=e2.1 (2,ms.rows.map Ja,Kq 10) (by simp);have x13:st4 13 = .ptr k 0 0:=by rw[hk4.2.2.2.2.2.2.2.2.2,s13]
   have x10:st4 10=Kq 10:=by rw[hk4.2.2.2.2.2.2.1]
   have frn:∀id,id<m3->¬id=m3/\¬id=m3+1:=by intro id _;omega
   refine Xu [2,3,4,5,8,9,11,12,13] (λs h5 m5=>m3<=m5/\h5 k=some ⟨true,2,[Jb l0]⟩/\h5 m=some ⟨true,4,[Kd q]⟩/\RI b n0 vN0 vL0 h0 r (Kl ms.E) (Y8 ms.E) (ms.rows++[Vn l0 1]) (s 10) h5 m5) ?_ ?_
   ·simp[x10,x13,hkb];refine Je (J3o l0 1 (by omega)) (by simp) ?_;rintro r rfl;generalize Vn l0 1=lm at *;simp[Ja];generalize hv3:Kq 10=v3' at *;refine Q7 (rows:=ms.rows.map Ja) (rows2:=[[.int .i64 lm.Const,.us 1 (Ji lm.Coeffs)]]) (y1.keep (n':=m3+1+1) (by omega) λid _ hid e=>by simp[frn id hid]) (by simp) (λl e=>by have:=(y1.lt e).2.1;omega) (by omega) (by simp;unfold Jd;omega) ?_;intro h6 f1 f2
    have bx:∀id z rows,id<m3->h3 id=some ⟨true,z,rows⟩->h6 id=h3 id:=by intro id z rows h1' h3';rw[f2 id (by omega) (by omega) λl e=>y1.not_box h3' e];simp[frn id h1']
    simp;refine⟨by omega,by rw[bx k _ _ hkn hkb,hkb],by rw[bx m _ _ (by omega) em3,em3],M3.rows (by omega) (.inr ⟨m3+2,by omega,by omega,by simp,by simp[f1,Ja]⟩) (λi k e=>by simp only[AV.ref.injEq]at e;omega) ?_⟩;intro id h1 h2;rw[f2 id (by omega) (by omega) h2];simp[frn id (by omega)]
   rintro Yz h5 m5 hk5 ⟨hm5,hkb5,em5,M5⟩;simp at hk5
   have hkl:ms.E.length<=100000:=by have:i<r.Patterns.length:=hi;omega
   have hkn0:k≠n0:=by omega
   refine Jn (Jh3 (q:=q) (k:=m) (by rw[hk5.2.2.1,hk4.2.2.1,v4]) (by rw[hk5.2.2.2.2.2.2.2.1,hk4.2.2.2.2.2.2.2.2.1,v12]) M5 hb (by omega) em5 (by simp[Kl];omega) ?_);intro st6 h6 m6 hk6 hm6 bx6 M6;simp at hk6;refine W0 (Jn (Jhy (ls:=Y8 ms.E) (l0:=l0) (k:=k) (at':=ms.nx) (by rw[hk6.1,hk5.1,hk4.1,kk.1,t2]) (by rw[hk6.2.1,hk5.2.1,hk4.2.1,v3]) (by rw[hk6.2.2.2.2.2.2.2.2.2,hk5.2.2.1,hk4.2.2.1,v4]) (by rw[hk6.2.2.2.2.2.2.2.2.1,hk5.2.2.2.2.2.2.2.2,x13]) M6 hb (by omega) (by rw[bx6 k _ _ (by omega) hkn0 hkb5,hkb5]) hkn0 (by simp[Y8];omega) (by omega) ?_));intro st7 h7 m7 hk7 hm7 bx7 M7;simp at hk7;have hw2:IntKind.i64.wrap ((ms.nx:Int)+1)=(ms.nx:Int)+1:=Km (by omega);have z2:st7 2 = .int .i64 ms.nx:=by rw[hk7.1,hk6.1,hk5.1,hk4.1,kk.1,t2]
   simp[hk7,hk6,hk5,hk4,kk,s11,hw,t2,hw2];refine hR _ _ _ (by simp[hk7,hk6,hk5,hk4,kk,hk]) (by simp) ⟨_,hJ,by simp,?_,by show ms.nx+1<=_;omega,by show(ms.E++_).length<=_;simp;omega,by show(ms.rows++[_]).length<=_;simp;omega,?_,?_⟩
   ·have hkE:Kl (ms.E++[(q.Head,Ki ms.nx N),(q.Tail,Vn l0 1)])=Kl ms.E++[q.Head,q.Tail]:=by simp[Kl]
    have hvE:Y8 (ms.E++[(q.Head,Ki ms.nx N),(q.Tail,Vn l0 1)])=Y8 ms.E++[Ki ms.nx N,Vn l0 1]:=by simp[Y8]
    simp only;rw[hkE,hvE];have:st7 10=Yz 10:=by rw[hk7.2.2.2.2.2.1,hk6.2.2.2.2.2.1]
    simp;rw[this];exact M7
   ·intro x hx;show x∈Kl (ms.E++_)
    rw[Jgg];exact mem_append_left _ (hb4 x hx)
   ·intro e he;rcases mem_append.1 he with he|he
    ·exact hb5 e he
    ·simp at he;rcases he with rfl|rfl
     ·exact H7 N (by omega)
     ·exact hl8
 ·rintro st h' m R hk s11 ⟨ms,hJ,t2,M,hb1,hb2,hb3,hb4,hb5⟩ _ hX;simp at hk;rw[drop_eq_nil_of_le (by omega)]at hJ;simp only[foldl_nil]at hJ;subst hJ;refine Jn (Jq [3,4,5,8,9,10] (λs=>s 21 = .bool false) (by simp[hk,s11,s5,M.hr,Ju]) ?_);intro Jv hk1 s21;simp at hk1;refine U1 s21 ?_;refine hX _ _ _ _ ?_;simp;refine hK _ _ _ (by simp[hk1,hk]) ?_;rw[hk1.2.2.2.2.2];exact M
end
section
variable {h h':J8}{n n' N:Nat}{b:Nat}{r:K0}
theorem Vr.keepB {l:List (Nat×List (List AV)×AV)}(A:Vr b l h n) (hn:n<=n') (hh:∀id,b<id->id<n->(∃z rows,h id=some ⟨false,z,rows⟩)->h' id=h id):Vr b l h' n':=
 ⟨λx hx=>(A.1 x hx).keep hn λid hb hid e=>hh id hb hid ⟨_,_,((A.1 x hx).lt e).2.2.1⟩,A.2⟩
theorem Jfz{E0:Xo}{vN0 vL0:AV}{at':Nat}(A:Vr b [(1,Jf (Kl E0),vN0),(2,(Y8 E0).map Jb,vL0)] h n)(hb:b<n)(hN:N<=8)(hat:at'<=1000)(hE:E0.length<=1000)(hp:r.Patterns.length<=100)(hin:∀q∈r.Patterns,q.Lst∈Kl E0)(hv:∀e∈E0,e.2.Coeffs.length<=8)
 {K:AV->J8->Nat->Prop}(hK:∀vN vL vR h' n',n<=n'->(∀id,id<n->(∀k,vN0 ≠ .ref id 0 k)->(∀k,vL0 ≠ .ref id 0 k)->h' id=h id) ->
  Vr b [(1,Jf (Kl (r.Patterns.foldl (Xs N) ⟨E0,at',[],[],[]⟩).E),vN),(2,(Y8 (r.Patterns.foldl (Xs N) ⟨E0,at',[],[],[]⟩).E).map Jb,vL),(2,(r.Patterns.foldl (Xs N) ⟨E0,at',[],[],[]⟩).rows.map Ja,vR)] h' n' ->
  By vN0 vN n->By vL0 vL n->By (.nil 2) vR n->K (.tup [.agg [vN,vL],vR]) h' n') :
 X9 prog 266 [.agg [vN0,vL0],.agg (Ju r),i64 at',i64 N] h n K:=by
 refine U8 func266 Jmy rfl (by simp[K4v]) ?_;have cN:=(A.1 (1,Jf (Kl E0),vN0) (by simp)).cell;have cL:=(A.1 (2,(Y8 E0).map Jb,vL0) (by simp)).cell;have ne:¬n=n+1/\¬n+1=n/\¬n=n+1+1/\¬n=n+1+1+1/\¬n+1=n+1+1/\¬n+1=n+1+1+1/\¬n+1+1=n+1+1+1/\¬n+2=n+1+1+1/\¬n+3=n:=by omega
 have fr:∀id,id<n->¬id=n/\¬id=n+1/\¬id=n+1+1/\¬id=n+1+1+1/\¬id=n+2/\¬id=n+3:=by intro id _;omega
 simp[K4v,ro0,ro1,-Kb,cN,cL];generalize hT:r.Patterns.foldl (Xs N) ⟨E0,at',[],[],[]⟩=T at hK;refine Js9 (E0:=E0) (T:=T) (b:=b) (n0:=n) (vN0:=vN0) (vL0:=vL0) (h0:=h) (r:=r) (N:=N) (by simp) (by simp) (by simp) hb hN hp hin ?_ ?_
 ·refine⟨⟨E0,at',[],[],[]⟩,by simpa using hT,by simp,⟨by omega,by simp,by simp,λid h1 _ _=>by simp[fr id h1],vN0,vL0,by simp[ne],?_,.inl rfl,.inl rfl,?_⟩,by omega,by simpa using hE,by simp,λx hx=>hx,hv⟩
  ·obtain⟨A1,A2⟩:=A;simp only[pairwise_cons,mem_cons,not_mem_nil,or_false,forall_eq]at A2;have y1:=A1 (1,Jf (Kl E0),vN0) (by simp);have y2:=A1 (2,(Y8 E0).map Jb,vL0) (by simp);refine⟨?_,?_⟩
   ·intro x hx;simp only[mem_cons,not_mem_nil,or_false]at hx;rcases hx with rfl|rfl|rfl
    ·exact y1.keep (by omega) λid _ hid _=>by simp[fr id hid]
    ·exact y2.keep (by omega) λid _ hid _=>by simp[fr id hid]
    ·simp;exact .inr ⟨n+3,by omega,by omega,by simp,by simp⟩
   ·simp only[pairwise_cons,mem_cons,not_mem_nil,or_false,forall_eq_or_imp,forall_eq];refine⟨⟨A2.1,?_⟩,?_,?_⟩
    ·intro i k l e1 e2;simp at e2;have:=(y1.lt e1).2.1;omega
    ·intro i k l e1 e2;simp at e2;have:=(y2.lt e1).2.1;omega
    ·simp
  ·simp;exact .fresh (by omega)
 intro s' h1 m hk1 M;simp at hk1;have l1:=M.lt;obtain⟨vN,vL,e1,e2,e3,e4,e5⟩:=M.env;have dN:=(e2.1 (1,Jf (Kl T.E),vN) (by simp)).cell;have dL:=(e2.1 (2,(Y8 T.E).map Jb,vL) (by simp)).cell;have M8:=M.hz;refine W0 ?_;simp[ro3,hk1,e1,-Kb,dN,dL,M8];refine hK _ _ _ _ _ (by omega) ?_ ?_ e3 e4 e5
 ·intro id h1' h2 h3;simp[fr id h1',M.fr id h1' h2 h3]
 ·refine e2.keepB (Nat.le_refl _) λid _ _ hf=>?_
  have:¬id=n+2:=by rintro rfl;obtain⟨z,rows,hf⟩:=hf;rw[M8]at hf;simp at hf
  simp[this]
end
def lm0:AC:=(.reg [ZB 2 0,ZV 4])
def lm1:AC:=(.reg [Zf 23 1 2,Zl 24 false 1 23,Zv 25 1,Zx 26 7 24 25,Zl 27 true 7 26,Zo 5 (.box [(.str []),(.nil 4),(.nil 2),(.nil 3),(.bool false),(.nil 2),(.str [])]),Zs 7 5 27])
def lm2:AC:=(.reg [Zl 29 true 2 2,Zf 30 0 5,Zl 31 false 1 30,Zc 32 172 [.t 29,.t 31],Zv 28 32,Ze 33 28 0,Ze 34 28 1,ZU 6,Zs 4 6 33,Zv 7 34])
def lm3:AC:=(.reg [Zf 35 1 6,Zl 36 false 1 35,Zn 37 36,Zv 8 37])
def lm4:AC:=(.draw (.op (Zv 38 8) (.op (Zf 39 1 5) (.op (Zl 40 false 1 39) (.op (Zf 43 3 5) (.op (Zl 44 false 1 43) (.op (Zn 45 44) (.op (Zc 41 265 [.t 40]) (.op (Zb 42 .add 38 41) (.op (Zb 46 .add 42 45) (.op (Zv 9 46) .fin)))))))))))
def lm5:AC:=(.reg [Zv 47 9,Zl 48 true 4 6,Zv 49 9,Zc 50 180 [.t 48,.t 49],Zo 51 (.build [(.int .i64 0),(.nil 2)] [(0,(1,(.t 47))),(1,(1,(.t 50)))]),Zo 52 (.build [(.int .i64 0),(.nil 2),(.nil 2),(.nil 1),(.int .i64 0),(.nil 1)] [(0,(2,(.t 51)))]),ZV 10,Zs 6 10 52])
def lm6:AC:=(.reg [Zo 53 (.build [(.nil 1),(.nil 2)] []),Zo 11 (.box [(.nil 1),(.nil 2)]),Zs 2 11 53])
def K56:AC:=(.draw (.op (Zf 59 0 11) (.op (Zl 60 false 1 59) (.op (Zf 61 1 6) (.op (Zl 62 false 1 61) (.op (Zv 63 12) (.op (Zx 64 1 62 63) (.op (Zl 65 false 1 64) (.hop (ZS 66 1 65) [(.ld false 1 (.t 59)),(.fld 0 (.t 11))] (.hop (ZA 67 16 1 60 66) [] (.op (Zf 68 0 11) (.hop (Zs 1 68 67) [] .fin))))))))))))
def K4i:AC:=(.draw (.op (Zf 69 1 11) (.op (Zl 70 false 1 69) (.op (Zv 71 12) (.op (Zv 72 9) (.op (Zc 73 261 [.t 71,.t 72]) (.hop (ZS 74 2 73) [(.ld false 1 (.t 69)),(.fld 1 (.t 11))] (.hop (ZA 75 32 2 70 74) [] (.op (Zf 76 1 11) (.hop (Zs 1 76 75) [] .fin))))))))))
def K5r:AC:=(.draw (.op (Zf 77 2 10) (.op (Zl 78 false 1 77) (.op (Zv 79 12) (.op (Zv 80 9) (.op (Zc 81 261 [.t 79,.t 80]) (.hop (ZS 82 2 81) [(.ld false 1 (.t 77)),(.fld 2 (.t 10))] (.hop (ZA 83 32 2 78 82) [] (.op (Zf 84 2 10) (.hop (Zs 1 84 83) [] .fin))))))))))
def lm7:AC:=(Zq [Zi 12 0] (.blk 0 (.loop (.seq (Zq [Zv 54 12,Zv 55 8,Zb 56 .lss 54 55] (Zw 56 0)) (.seq (.blk 1 (.seq K56 (.seq K4i K5r))) (.reg [Zv 57 12,Zk 58 .add 57 1,Zv 12 58]))))))
def lm8:AC:=(.reg [Zl 86 true 2 11,Zl 87 true 7 5,Zv 88 8,Zv 89 9,Zc 90 266 [.t 86,.t 87,.t 88,.t 89],Zv 85 90,Ze 91 85 0,Ze 92 85 1,Zs 2 11 91,Zv 13 92])
def lm9:AC:=(.reg [Zf 93 0 10,Zf 94 1 93,Zl 95 false 1 94,Zv 96 13,ZA 97 32 2 95 96,Zf 98 0 10,Zf 99 1 98,Zs 1 99 97])
def Jlw:AC:=(.draw (.op (Zl 108 true 2 11) (.op (Zf 109 2 5) (.op (Zl 110 false 1 109) (.op (Zv 111 14) (.op (Zx 112 2 110 111) (.op (Zl 113 true 2 112) (.op (Zv 114 9) (.both (.op (Zc 115 267 [.t 108,.t 113,.t 114]) (.op (Zv 107 115) (.op (Ze 116 107 0) (.op (Ze 117 107 1) (.op (ZR 15) (.hop (Zs 2 15 116) [] (.op (Zv 16 117) .fin))))))) (.op (ZR 15) (.op (Zc 115 267 [.t 108,.t 113,.t 114]) (.op (Zv 107 115) (.op (Ze 116 107 0) (.op (Ze 117 107 1) (.hop (Zs 2 15 116) [] (.op (Zv 16 117) .fin))))))))))))))))
def Jlm:AC:=(.reg [Zf 118 0 10,Zf 119 1 118,Zl 120 false 1 119,Zl 121 true 2 15,ZS 122 2 121,ZA 123 32 2 120 122,Zf 124 0 10,Zf 125 1 124,Zs 1 125 123])
def K4k:AC:=(Zq [Zi 14 0] (.blk 2 (.loop (.seq (Zq [Zv 100 14,Zf 101 2 5,Zl 102 false 1 101,Zn 103 102,Zb 104 .lss 100 103] (Zw 104 2)) (.seq (.blk 3 (.seq Jlw  Jlm)) (.reg [Zv 105 14,Zk 106 .add 105 1,Zv 14 106]))))))
def Jm2:AC:=(.draw (.op (Zl 146 true 2 11) (.op (Zf 147 3 5) (.op (Zl 148 false 1 147) (.op (Zv 149 17) (.op (Zx 150 3 148 149) (.op (Zf 151 2 150) (.op (Zl 152 false 1 151) (.op (Zv 153 19) (.op (Zx 154 3 152 153) (.op (Zl 155 true 3 154) (.op (Zv 156 9) (.both (.op (Zc 157 268 [.t 146,.t 155,.t 156]) (.op (Zv 145 157) (.op (Ze 158 145 0) (.op (Ze 159 145 1) (.op (ZR 20) (.hop (Zs 2 20 158) [] (.op (Zv 21 159) .fin))))))) (.op (ZR 20) (.op (Zc 157 268 [.t 146,.t 155,.t 156]) (.op (Zv 145 157) (.op (Ze 158 145 0) (.op (Ze 159 145 1) (.hop (Zs 2 20 158) [] (.op (Zv 21 159) .fin))))))))))))))))))))
def Jx1:AC:=(.reg [Zv 160 18,Zl 161 true 2 20,ZS 162 2 161,ZA 163 32 2 160 162,Zv 18 163])
def Jlt:AC:=(Zq [Zi 19 0] (.blk 6 (.loop (.seq (Zq [Zv 134 19,Zf 135 3 5,Zl 136 false 1 135,Zv 137 17,Zx 138 3 136 137,Zf 139 2 138,Zl 140 false 1 139,Zn 141 140,Zb 142 .lss 134 141] (Zw 142 6)) (.seq (.blk 7 (.seq Jm2  Jx1)) (.reg [Zv 143 19,Zk 144 .add 143 1,Zv 19 144]))))))
def Jm1:AC:=(.reg [Zf 164 3 10,Zl 165 false 1 164,Zv 166 18,ZS 167 1 166,ZA 168 24 1 165 167,Zf 169 3 10,Zs 1 169 168])
def Jm0:AC:=(.draw (.op (Zf 179 0 11) (.op (Zl 180 false 1 179) (.op (Zf 181 3 5) (.op (Zl 182 false 1 181) (.op (Zv 183 17) (.op (Zx 184 3 182 183) (.op (Zf 185 0 184) (.op (Zl 186 false 1 185) (.hop (ZS 187 1 186) [(.ld false 1 (.t 179)),(.fld 0 (.t 11))] (.hop (ZA 188 16 1 180 187) [] (.op (Zf 189 0 11) (.hop (Zs 1 189 188) [] .fin)))))))))))))
def Jlh:AC:=(.reg [Zf 190 1 11,Zl 191 false 1 190,Zl 192 true 2 22,ZS 193 2 192,ZA 194 32 2 191 193,Zf 195 1 11,Zs 1 195 194])
def Jlk:AC:=(.draw (.op (Zf 203 0 10) (.op (Zf 204 1 203) (.op (Zl 205 false 1 204) (.op (Zl 206 true 2 22) (.op (Zc 207 82 [.t 206]) (.hop (ZS 208 2 207) [(.ld false 1 (.t 204)),(.fld 1 (.t 203)),(.fld 0 (.t 10))] (.hop (ZA 209 32 2 205 208) [] (.op (Zf 210 0 10) (.op (Zf 211 1 210) (.hop (Zs 1 211 209) [] .fin)))))))))))
def K4d:AC:=(Zq [Zi 17 0] (.blk 4 (.loop (.seq (Zq [Zv 126 17,Zf 127 3 5,Zl 128 false 1 127,Zn 129 128,Zb 130 .lss 126 129] (Zw 130 4)) (.seq (.blk 5 (Zq [Zo 133 (.bsl 2 []),Zv 18 133] (.seq Jlt (.seq  Jm1 (Zq [Zv 170 9,Zf 171 3 5,Zl 172 false 1 171,Zn 173 172,Zb 174 .sub 170 173,Zv 175 17,Zb 176 .add 174 175,Zv 177 9,Zc 178 261 [.t 176,.t 177],ZR 22,Zs 2 22 178] (.seq Jm0 (.seq  Jlh (Zq [Zf 196 3 5,Zl 197 false 1 196,Zv 198 17,Zx 199 3 197 198,Zf 200 0 199,Zl 201 false 1 200,Zc 202 260 [.t 201]] (.cond (.t 202) Jlk .skip))))))))) (.reg [Zv 131 17,Zk 132 .add 131 1,Zv 17 132]))))))
def Kc5:AC:=(.reg [Zl 213 true 2 11,Zf 214 4 5,Zl 215 true 3 214,Zv 216 9,Zc 217 268 [.t 213,.t 215,.t 216],Zv 212 217,Ze 218 212 0,Ze 219 212 1,Zf 220 4 10,Zs 2 220 218])
def Kca:AC:=(.reg [Zl 221 true 6 10,Zs 6 4 221])
def K8b:Jl:=⟨222,[(.c 4 true 6)],(.seq lm0 (.seq lm1 (.seq lm2 (.seq lm3 (.seq lm4 (.seq lm5 (.seq lm6 (.seq lm7 (.seq lm8 (.seq lm9 (.seq K4k (.seq K4d (.seq Kc5 (.seq Kca .ret))))))))))))))⟩
theorem Jo6:Jh prog f184=some K8b:=by kernel_rfl
def Kea(N:Nat)(nm:List J9)(ls R P:List Jc)(A:List (List Jc))(h:J8)(n:Nat):Prop:=∃vN vL vR vP vA,h 8=some ⟨true,2,[[vN,vL]]⟩/\h 7=some ⟨true,6,[Xj N vR vP vA]⟩ /\
 Vr 5 [(1,Jf nm,vN),(2,ls.map Jb,vL),(2,R.map Ja,vR),(2,P.map Ja,vP),(1,A.map Y3,vA)] h n
structure SI (r:K0) (f:K3) (N:Nat) (nm:List J9) (ls R P:List Jc) (A:List (List Jc)) (h:J8) (n:Nat):Prop where
 hz:h 1=some ⟨true,6,[[.int .i64 0,.nil 2,.nil 2,.nil 1,.int .i64 0,.nil 1]]⟩
 hr:h 2=some ⟨true,7,[Ju r]⟩
 h3:h 3=some ⟨false,1,Jf f.Params⟩
 hf:h 5=some ⟨true,4,[[.str f.Name,.ref 3 0 f.Params.length,.bool f.ListResult,.ref 4 0 f.Pre.length]]⟩
 lt:8<n
 acc:Kea N nm ls R P A h n
section
variable {r:K0}{f:K3}{N:Nat}{nm nm':List J9}{ls R P ls' R' P':List Jc}{A A':List (List Jc)}{h H:J8}{n n':Nat}
theorem SI.frame (M:SI r f N nm ls R P A h n) (hn:n<=n') (hh:∀id,id<n->H id=h id):SI r f N nm ls R P A H n':=by have l1:=M.lt;obtain⟨vN,vL,vR,vP,vA,e8,e7,AS⟩:=M.acc;exact⟨by rw[hh _ (by omega),M.hz],by rw[hh _ (by omega),M.hr],by rw[hh _ (by omega),M.h3],by rw[hh _ (by omega),M.hf],by omega,vN,vL,vR,vP,vA,by rw[hh _ (by omega),e8],by rw[hh _ (by omega),e7],AS.frame hn λid _ hid=>hh id hid⟩
theorem SI.app (M:SI r f N nm ls R P A h n) {vN vL vR vP vA vN' vL' vR' vP' vA':AV}{l1 l2:List (Nat×List (List AV)×AV)}{x x':Nat×List (List AV)×AV}(hn:n<=n') (e8:h 8=some ⟨true,2,[[vN,vL]]⟩) (e7:h 7=some ⟨true,6,[Xj N vR vP vA]⟩)
 (AS:Vr 5 (l1++x::l2) h n) (e8':H 8=some ⟨true,2,[[vN',vL']]⟩) (e7':H 7=some ⟨true,6,[Xj N vR' vP' vA']⟩) (hx:Kj 5 x'.1 x'.2.1 x'.2.2 H n') (hnew:∀i k,x'.2.2 = .ref i 0 k->n<=i)
 (hH:∀id,id<n->id≠7->id≠8->(∀k,x.2.2 ≠ .ref id 0 k)->H id=h id)
 (hl:l1++x'::l2=[(1,Jf nm',vN'),(2,ls'.map Jb,vL'),(2,R'.map Ja,vR'),(2,P'.map Ja,vP'),(1,A'.map Y3,vA')]):SI r f N nm' ls' R' P' A' H n':=by
 have l1':=M.lt
 have low:∀id,id<=5->H id=h id:=by
  intro id hid;refine hH id (by omega) (by omega) (by omega) λk e=>?_
  have:=((AS.1 x (by simp)).lt e).1;omega
 refine⟨by rw[low _ (by omega),M.hz],by rw[low _ (by omega),M.hr],by rw[low _ (by omega),M.h3],by rw[low _ (by omega),M.hf],by omega,vN',vL',vR',vP',vA',e8',e7',?_⟩;rw[<-hl];refine AS.step hx hnew hn λid hb hid hf hne=>hH id hid ?_ ?_ hne
 ·rintro rfl;obtain⟨z,rows,hf⟩:=hf;rw[e7]at hf;simp at hf
 ·rintro rfl;obtain⟨z,rows,hf⟩:=hf;rw[e8]at hf;simp at hf
end
section
variable {ks:List Kt}{s:Jm}{h h':J8}{n N:Nat}{Q:Xb}{r:K0}{f:K3}{nm:List J9}{ls R P:List Jc}{A:List (List Jc)}
theorem Jhc{i:Nat}(hi:i<f.Params.length)(s6:s 6 = .ptr 5 0 0)(s11:s 11 = .ptr 8 0 0)(s12:s 12 = .int .i64 i)(M:SI r f N nm ls R P A h n)(hl:nm.length<=1048576)
 (hK:∀s' h' n',(∀j,j<59->s' j=s j)->SI r f N (nm++[f.Params[i]]) ls R P A h' n'->Jt prog ks .normal s' h' n' Q):rC prog K56 ks s h n Q:=by
 have l1:=M.lt;obtain⟨vN,vL,vR,vP,vA,e8,e7,AS⟩:=M.acc;have y1:=AS.1 (1,Jf nm,vN) (by simp);have ne:¬8=n/\¬7=n/\¬n=7/\¬n=6/\¬n=8/\¬8=n+1/\¬7=n+1/\¬n+1=8:=by omega
 have frn:∀id,id<n->¬id=n/\¬id=n+1:=by intro id _;omega
 have kp:∀j,j<59->¬j=59/\¬j=60/\¬j=61/\¬j=62/\¬j=63/\¬j=64/\¬j=65/\¬j=66/\¬j=67/\¬j=68:=by intro j _;omega
 simp[K56,s6,s11,s12,e8,M.hf,M.h3,hi,ne];refine Q7 (rows:=Jf nm) (rows2:=[[.str f.Params[i]]]) (y1.keep (n':=n+1) (by omega) λid _ hid _=>by simp[frn id hid]) (by simp) (λl e=>by have:=(y1.lt e).2.1;omega) (by omega) (by simp[Jf];unfold Jd;omega) ?_;intro h1 f1 f2;have g8:h1 8=some ⟨true,2,[[vN,vL]]⟩:=by rw[f2 8 (by omega) (by omega) λl e=>y1.not_box e8 e];simp[ne,e8]
 have g7:h1 7=some ⟨true,6,[Xj N vR vP vA]⟩:=by rw[f2 7 (by omega) (by omega) λl e=>y1.not_box e7 e];simp[ne,e7]
 simp[g8,s11];refine hK _ _ _ (λj hj=>by simp[kp j hj]) (M.app (l1:=[]) (x:=(1,Jf nm,vN)) (x':=(1,Jf (nm++[f.Params[i]]),.ref (n+1) 0 (nm.length+1))) (l2:=[(2,ls.map Jb,vL),(2,R.map Ja,vR),(2,P.map Ja,vP),(1,A.map Y3,vA)]) (by omega) e8 e7 AS (by simp) (by simp[g7]) (.inr ⟨n+1,by omega,by omega,by simp[Jf],by simp[ne,f1,Jf]⟩) (λi k e=>by simp only[AV.ref.injEq]at e;omega) ?_ rfl);intro id h1' h2' h3' h4';simp[h3',f2 id (by omega) (by omega) h4',frn id h1']
theorem Jiq{i:Nat}(s9:s 9 = .int .i64 N)(s11:s 11 = .ptr 8 0 0)(s12:s 12 = .int .i64 i)(M:SI r f N nm ls R P A h n)(hl:ls.length<=1048576)
 (hK:∀s' h' n',(∀j,j<59->s' j=s j)->SI r f N nm (ls++[Ki i N]) R P A h' n'->Jt prog ks .normal s' h' n' Q):rC prog K4i ks s h n Q:=by
 have l1:=M.lt;obtain⟨vN,vL,vR,vP,vA,e8,e7,AS⟩:=M.acc;have y1:=AS.1 (2,ls.map Jb,vL) (by simp);have ne:¬8=n/\¬7=n/\¬n=7/\¬n=6/\¬n=8/\¬8=n+1/\¬7=n+1/\¬n+1=8:=by omega
 have frn:∀id,id<n->¬id=n/\¬id=n+1:=by intro id _;omega
 have kp:∀j,j<59->¬j=69/\¬j=70/\¬j=71/\¬j=72/\¬j=73/\¬j=74/\¬j=75/\¬j=76:=by intro j _;omega
 simp[K4i,s9,s11,s12,e8];refine Ez (P5 i N) (by simp) ?_;rintro _ rfl;simp[e8,ne,s11];refine Q7 (rows:=ls.map Jb) (rows2:=[Jb (Ki i N)]) (y1.keep (n':=n+1) (by omega) λid _ hid _=>by simp[frn id hid]) (by simp) (λl e=>by have:=(y1.lt e).2.1;omega) (by omega) (by simp;unfold Jd;omega) ?_;intro h1 f1 f2;have g8:h1 8=some ⟨true,2,[[vN,vL]]⟩:=by rw[f2 8 (by omega) (by omega) λl e=>y1.not_box e8 e];simp[ne,e8]
 have g7:h1 7=some ⟨true,6,[Xj N vR vP vA]⟩:=by rw[f2 7 (by omega) (by omega) λl e=>y1.not_box e7 e];simp[ne,e7]
 simp[g8,s11];refine hK _ _ _ (λj hj=>by simp[kp j hj]) (M.app (l1:=[(1,Jf nm,vN)]) (x:=(2,ls.map Jb,vL)) (x':=(2,(ls++[Ki i N]).map Jb,.ref (n+1) 0 (ls.length+1))) (l2:=[(2,R.map Ja,vR),(2,P.map Ja,vP),(1,A.map Y3,vA)]) (by omega) e8 e7 AS (by simp) (by simp[g7]) (.inr ⟨n+1,by omega,by omega,by simp,by simp[ne,f1]⟩) (λi k e=>by simp only[AV.ref.injEq]at e;omega) ?_ rfl);intro id h1' h2' h3' h4';simp[h3',f2 id (by omega) (by omega) h4',frn id h1']
theorem Jh1{i:Nat}(s9:s 9 = .int .i64 N)(s10:s 10 = .ptr 7 0 0)(s12:s 12 = .int .i64 i)(M:SI r f N nm ls R P A h n)(hl:P.length<=1048576)
 (hK:∀s' h' n',(∀j,j<59->s' j=s j)->SI r f N nm ls R (P++[Ki i N]) A h' n'->Jt prog ks .normal s' h' n' Q):rC prog K5r ks s h n Q:=by
 have l1:=M.lt;obtain⟨vN,vL,vR,vP,vA,e8,e7,AS⟩:=M.acc;have y1:=AS.1 (2,P.map Ja,vP) (by simp);have ne:¬8=n/\¬7=n/\¬n=7/\¬n=6/\¬n=8/\¬8=n+1/\¬7=n+1/\¬n+1=8/\¬n+1=7/\¬n=n+1/\¬n+1=n/\¬n=5:=by omega
 have frn:∀id,id<n->¬id=n/\¬id=n+1/\¬id=n+2:=by intro id _;omega
 have kp:∀j,j<59->¬j=77/\¬j=78/\¬j=79/\¬j=80/\¬j=81/\¬j=82/\¬j=83/\¬j=84:=by intro j _;omega
 simp[K5r,s9,s10,s12,e7,Xj];refine Jx (P5 i N) (by simp) ?_;rintro r rfl;generalize Ki i N=l at *;simp[Ja,e7,ne,s10,Xj];refine Q7 (rows:=P.map Ja) (rows2:=[[.int .i64 l.Const,.us 1 (Ji l.Coeffs)]]) (y1.keep (n':=n+1+1) (by omega) λid _ hid _=>by simp[frn id hid]) (by simp) (λl e=>by have:=(y1.lt e).2.1;omega) (by omega) (by simp;unfold Jd;omega) ?_;intro h1 f1 f2;have g8:h1 8=some ⟨true,2,[[vN,vL]]⟩:=by rw[f2 8 (by omega) (by omega) λl e=>y1.not_box e8 e];simp[ne,e8]
 have g7:h1 7=some ⟨true,6,[Xj N vR vP vA]⟩:=by rw[f2 7 (by omega) (by omega) λl e=>y1.not_box e7 e];simp[ne,e7]
 simp[g7,s10,Xj];refine hK _ _ _ (λj hj=>by simp[kp j hj]) (M.app (l1:=[(1,Jf nm,vN),(2,ls.map Jb,vL),(2,R.map Ja,vR)]) (x:=(2,P.map Ja,vP)) (x':=(2,(P++[l]).map Ja,.ref (n+2) 0 (P.length+1))) (l2:=[(1,A.map Y3,vA)]) (by omega) e8 e7 AS (by simp[g8]) (by simp[Xj]) (.inr ⟨n+2,by omega,by omega,by simp,by simp[ne,f1,Ja]⟩) (λi k e=>by simp only[AV.ref.injEq]at e;omega) ?_ rfl);intro id h1' h2' h3' h4';simp[h2',f2 id (by omega) (by omega) h4',frn id h1']
end
section
variable {ks:List Kt}{s:Jm}{h h':J8}{n N:Nat}{Q:Xb}{r:K0}{f:K3}{nm:List J9}{ls R P:List Jc}{A:List (List Jc)}
def SM(r:K0)(f:K3)(N:Nat)(ms:MS)(h:J8)(n:Nat):Prop:=SI r f N (Kl ms.E) (Y8 ms.E) ms.rows ms.pars ms.args h n
theorem Jr5{R0:List Jc}(s6:s 6 = .ptr 5 0 0)(s8:s 8 = .int .i64 f.Params.length)(s9:s 9 = .int .i64 N)(s10:s 10 = .ptr 7 0 0)(s11:s 11 = .ptr 8 0 0)(M:SM r f N ⟨[],0,R0,[],[]⟩ h n)(hp2:f.Params.length<=2)
 (hK:∀s' h' n',(∀j∈[2,4,5,6,8,9,10,11],s' j=s j)->SM r f N (f.Params.foldl (U7 N) ⟨[],0,R0,[],[]⟩) h' n'->Jt prog ks .normal s' h' n' Q):rC prog lm7 ks s h n Q:=by
 simp[lm7];generalize hT:f.Params.foldl (U7 N) ⟨[],0,R0,[],[]⟩=T at hK
 refine Ka [2,4,5,6,8,9,10,11] 12 f.Params.length (λi s h m=>∃ms:MS,(f.Params.drop i).foldl (U7 N) ms=T/\SM r f N ms h m/\ms.nx=i/\ms.E.length<=i/\ms.pars.length<=i) (by unfold Jd;omega) (by simp)
  ⟨_,by simpa using hT,M,rfl,by simp,by simp⟩ ?_ ?_
 ·rintro i st h' m Rr hi hg hk s12 hw ⟨ms,hJ,M,hb1,hb2,hb3⟩ hR _ _;simp at hk;rw[drop_eq_getElem_cons hi,foldl_cons]at hJ;refine Jn (Jq [2,4,5,6,8,9,10,11,12] (λs=>s 56 = .bool true) (by simp[hk,s12,s8,hi]) ?_);intro Jv hk1 s56;simp at hk1;refine U2 s56 (Jn (Xd ?_));refine Jn (Jhc (i:=i) hi (by simp[hk1,hk,s6]) (by simp[hk1,hk,s11]) (by simp[hk1,s12]) M (by simp[Kl];omega) ?_);intro st2 h2 m2 hk2 M2;refine W0 (Jn (Jiq (i:=i) (by simp[hk2 9 (by omega),hk1,hk,s9]) (by simp[hk2 11 (by omega),hk1,hk,s11]) (by simp[hk2 12 (by omega),hk1,s12]) M2 (by simp[Y8];omega) ?_));intro Kq h3 m3 hk3 M3;refine W0 (Jh1 (i:=i) (by simp[hk3 9 (by omega),hk2 9 (by omega),hk1,hk,s9]) (by simp[hk3 10 (by omega),hk2 10 (by omega),hk1,hk,s10]) (by simp[hk3 12 (by omega),hk2 12 (by omega),hk1,s12]) M3 (by omega) ?_);intro st4 h4 m4 hk4 M4
  have kp:∀j∈[2,4,5,6,8,9,10,11,12],st4 j=st j:=by simp[hk4 2 (by omega),hk4 4 (by omega),hk4 5 (by omega),hk4 6 (by omega),hk4 8 (by omega),hk4 9 (by omega),hk4 10 (by omega),hk4 11 (by omega),hk4 12 (by omega),hk3 2 (by omega),hk3 4 (by omega),hk3 5 (by omega),hk3 6 (by omega),hk3 8 (by omega),hk3 9 (by omega),hk3 10 (by omega),hk3 11 (by omega),hk3 12 (by omega),hk2 2 (by omega),hk2 4 (by omega),hk2 5 (by omega),hk2 6 (by omega),hk2 8 (by omega),hk2 9 (by omega),hk2 10 (by omega),hk2 11 (by omega),hk2 12 (by omega),hk1]
  simp at kp;simp[kp,s12,hw];refine hR _ _ _ (by simp[kp,hk]) (by simp) ⟨U7 N ms f.Params[i],hJ,?_,by show ms.nx+1=_;omega,by show(ms.E++_).length<=_;simp;omega,by show(ms.pars++_).length<=_;simp;omega⟩;have e1:Kl (U7 N ms f.Params[i]).E=Kl ms.E++[f.Params[i]]:=by simp[U7,Kl]
  have e2:Y8 (U7 N ms f.Params[i]).E=Y8 ms.E++[Ki i N]:=by simp[U7,Y8,hb1]
  have e3:(U7 N ms f.Params[i]).pars=ms.pars++[Ki i N]:=by simp[U7,hb1]
  unfold SM;rw[e1,e2,e3];exact M4
 ·rintro st h' m Rr hk s12 ⟨ms,hJ,M,hb1,hb2,hb3⟩ _ hX;simp at hk;rw[drop_eq_nil_of_le (by omega)]at hJ;simp only[foldl_nil]at hJ;subst hJ;refine Jn (Jq [2,4,5,6,8,9,10,11] (λs=>s 56 = .bool false) (by simp[hk,s12,s8]) ?_);intro Jv hk1 s56;simp at hk1;refine U1 s56 ?_;refine hX _ _ _ _ ?_;simp;exact hK _ _ _ (by simp[hk1,hk]) M
theorem Jo1{N:Nat} : ∀{qs:List X4}{E:Xo}{k:Nat}{R0 P:List Jc}{A:List (List Jc)},(qs.foldl (Xs N) ⟨E,k,R0,P,A⟩)=⟨(qs.foldl (Xs N) ⟨E,k,[],[],[]⟩).E,(qs.foldl (Xs N) ⟨E,k,[],[],[]⟩).nx,R0++(qs.foldl (Xs N) ⟨E,k,[],[],[]⟩).rows,P,A⟩:=by
 intro qs
 induction qs with
 |nil=>intro E k R0 P A;simp
 |cons q qs ih=>
  intro E k R0 P A;simp only[foldl_cons]
  have h1:∀(R0 P:List Jc) (A:List (List Jc)),Xs N ⟨E,k,R0,P,A⟩ q=⟨(Xs N ⟨E,k,[],[],[]⟩ q).E,(Xs N ⟨E,k,[],[],[]⟩ q).nx,R0++(Xs N ⟨E,k,[],[],[]⟩ q).rows,P,A⟩:=by intro R0 P A;unfold Xs F6;cases q.Cons <;>simp
  rw[h1 R0 P A,ih,h1 [] [] []];generalize Xs N ⟨E,k,[],[],[]⟩ q=x;rw[ih (R0:=[]++x.rows)];simp
theorem J6l{b z bytes:Nat}{rows rows2:List (List AV)}{v y:AV}{h:J8}{n:Nat}{K:AV->J8->Nat->Prop}(B1:Kj b z rows v h n)(B2:Kj b z rows2 y h n)(hd:Dj v y)
 (hlen:(rows.length+rows2.length)*bytes<=Jd)
 (hK:∀h',h' n=some ⟨false,z,rows++rows2⟩->(∀id,id≠n->(∀l,v ≠ .ref id 0 l)->(∀l,y ≠ .ref id 0 l)->h' id=h id)->K (.ref n 0 (rows.length+rows2.length)) h' (n+1)) :
 Eq bytes z v y h n K:=by
 rcases B2 with ⟨rfl,rfl⟩|⟨k,_,hkn,rfl,hkb⟩
 ·rcases B1 with ⟨rfl,rfl⟩|⟨i,_,hin,rfl,hib⟩
  ·simp;simp at hK;exact hK _ (by simp) λid h1=>by simp[h1]
  ·have hne:¬i=n:=by omega
   simp[hib];refine⟨by simpa using hlen,?_⟩
   have:=hK (upd (upd h i Option.none) n (some ⟨false,z,rows⟩)) (by simp) λid h1 h2 _=>by
    have:¬id=i:=λe=>h2 rows.length (by rw[e])
    simp[h1,this]
   simpa[List.take_of_length_le]using this
 ·refine Q7 B1 hkb (λl e=>hd k l _ e rfl) hkn hlen λh' e1 e2=>hK h' e1 λid h1 h2 h3=>e2 id h1 (λe=>h3 rows2.length (by rw[e])) h2
end
theorem Vr.step2 {b:Nat}{l1 l2:List (Nat×List (List AV)×AV)}{x x':Nat×List (List AV)×AV}{y:AV}{h h':J8}{n n':Nat}(A:Vr b (l1++x::l2) h n) (hy:∀c∈l1++x::l2,Dj c.2.2 y) (hx:Kj b x'.1 x'.2.1 x'.2.2 h' n') (hnew:∀i k,x'.2.2 = .ref i 0 k->n<=i) (hn:n<=n')
 (hh:∀id,b<id->id<n->(∃z rows,h id=some ⟨false,z,rows⟩)->(∀k,x.2.2 ≠ .ref id 0 k)->(∀k,y ≠ .ref id 0 k)->h' id=h id):Vr b (l1++x'::l2) h' n':=by
 obtain⟨A1,A2⟩:=A;rw[pairwise_append,pairwise_cons]at A2;obtain⟨p1,⟨p2,p3⟩,p4⟩:=A2;refine⟨?_,?_⟩
 ·intro c hc;rcases mem_append.1 hc with hc|hc
  ·have hm:c∈l1++x::l2:=mem_append_left _ hc;refine(A1 c hm).keep hn λid hb hid e=>hh id hb hid ⟨_,_,((A1 c hm).lt e).2.2.1⟩ (λk ek=>p4 c hc x mem_cons_self id _ k e ek) λk ek=>hy c hm id _ k e ek
  ·rcases mem_cons.1 hc with rfl|hc
   ·exact hx
   ·have hm:c∈l1++x::l2:=mem_append_right _ (mem_cons_of_mem _ hc);refine(A1 c hm).keep hn λid hb hid e=>hh id hb hid ⟨_,_,((A1 c hm).lt e).2.2.1⟩ (λk ek=>p2 c hc id k _ ek e) λk ek=>hy c hm id _ k e ek
 ·rw[pairwise_append,pairwise_cons];refine⟨p1,⟨λc hc i k l e1 e2=>?_,p3⟩,λc hc w hw i k l e1 e2=>?_⟩
  ·have g1:=hnew i k e1;have g2:=((A1 c (mem_append_right _ (mem_cons_of_mem _ hc))).lt e2).2.1;omega
  ·have g2:=((A1 c (mem_append_left _ hc)).lt e1).2.1;rcases mem_cons.1 hw with rfl|hw
   ·have g1:=hnew i l e2;omega
   ·exact p4 c hc w (mem_cons_of_mem _ hw) i k l e1 e2
theorem Dj.symm {v w:AV}(d:Dj v w):Dj w v:=λi k l e1 e2=>d i l k e2 e1
theorem By.dj {v0 v w:AV}{n0 b z:Nat}{rows:List (List AV)}{h:J8}(o:By v0 v n0) (d:Dj v0 w) (x:Kj b z rows w h n0):Dj v w:=by
 intro i k l e1 e2;rcases o with rfl|g
 ·exact d i k l e1 e2
 ·have:=g i k e1;have:=(x.lt e2).2.1;omega
section
variable {ks:List Kt}{s:Jm}{h h':J8}{n N:Nat}{Q:Xb}{r:K0}{f:K3}
theorem Jhs{ms:MS}{c:AC}{m:Nat}(s5:s 5 = .ptr 2 0 0)(s8:s 8 = .int .i64 m)(s9:s 9 = .int .i64 N)(s10:s 10 = .ptr 7 0 0)(s11:s 11 = .ptr 8 0 0)(M:SM r f N ms h n)(hN:N<=8)(hat:m<=1000)(hE:ms.E.length<=1000)(hp:r.Patterns.length<=100)(hR:ms.rows.length<=100000)
 (hin:∀q∈r.Patterns,q.Lst∈Kl ms.E) (hv:∀e∈ms.E,e.2.Coeffs.length<=8) (hRr:(r.Patterns.foldl (Xs N) ⟨ms.E,m,[],[],[]⟩).rows.length<=100000)
 (hK:∀s' h' n',(∀j∈[2,4,5,6,8,9,10,11],s' j=s j)->SM r f N (r.Patterns.foldl (Xs N) (We ms m)) h' n'->rC prog c ks s' h' n' Q):rC prog (.seq lm8 (.seq lm9 c)) ks s h n Q:=by
 have hfold:=Jo1 (N:=N) (qs:=r.Patterns) (E:=ms.E) (k:=m) (R0:=ms.rows) (P:=ms.pars) (A:=ms.args);have hatd:We ms m=⟨ms.E,m,ms.rows,ms.pars,ms.args⟩:=rfl;rw[hatd,hfold]at hK;generalize hT:r.Patterns.foldl (Xs N) ⟨ms.E,m,[],[],[]⟩=T at *;have l1:=M.lt;obtain⟨vN,vL,vR,vP,vA,e8,e7,AS⟩:=M.acc;obtain⟨AS1,AS2⟩:=AS;simp only[pairwise_cons,mem_cons,not_mem_nil,or_false,forall_eq_or_imp,forall_eq]at AS2;obtain⟨⟨d1,d2,d3,d4⟩,⟨d5,d6,d7⟩,⟨d8,d9⟩,d10,_⟩:=AS2;have yN:=AS1 (1,Jf (Kl ms.E),vN) (by simp);have yL:=AS1 (2,(Y8 ms.E).map Jb,vL) (by simp);have yR:=AS1 (2,ms.rows.map Ja,vR) (by simp);have yP:=AS1 (2,ms.pars.map Ja,vP) (by simp);have yA:=AS1 (1,ms.args.map Y3,vA) (by simp)
 refine Xu [2,4,5,6,8,9,10,11] (λs' h' n'=>∃vN' vL' vRr,s' 13=vRr/\n<=n'/\(∀id,id<=5->h' id=h id)/\h' 8=some ⟨true,2,[[vN',vL']]⟩/\h' 7=some ⟨true,6,[Xj N vR vP vA]⟩ /\
  Vr 5 [(1,Jf (Kl T.E),vN'),(2,(Y8 T.E).map Jb,vL'),(2,ms.rows.map Ja,vR),(2,ms.pars.map Ja,vP),(1,ms.args.map Y3,vA)] h' n'/\Kj 5 2 (T.rows.map Ja) vRr h' n' /\
  ∀x∈[(1,Jf (Kl T.E),vN'),(2,(Y8 T.E).map Jb,vL'),(2,ms.rows.map Ja,vR),(2,ms.pars.map Ja,vP),(1,ms.args.map Y3,vA)],Dj x.2.2 vRr) ?_ ?_
 ·simp[lm8,s11,e8,s5,M.hr,s8,s9];refine Jfz (b:=5) (E0:=ms.E) (vN0:=vN) (vL0:=vL) ⟨λx hx=>?_,by simpa using d1⟩ (by omega) hN hat hE hp hin hv ?_
  ·simp only[mem_cons,not_mem_nil,or_false]at hx;rcases hx with rfl|rfl
   ·exact yN
   ·exact yL
  rw[hT];intro vN' vL' vRr h1 n1 hn1 hfr1 B o1 o2 o3;obtain⟨B1,B2⟩:=B;simp only[pairwise_cons,mem_cons,not_mem_nil,or_false,forall_eq_or_imp,forall_eq]at B2;obtain⟨⟨b1,b2⟩,b3,_⟩:=B2;have zN:=B1 (1,Jf (Kl T.E),vN') (by simp);have zL:=B1 (2,(Y8 T.E).map Jb,vL') (by simp);have zR:=B1 (2,T.rows.map Ja,vRr) (by simp);have cN:=zN.cell;have cL:=zL.cell;have g8:h1 8=some ⟨true,2,[[vN,vL]]⟩:=by rw[hfr1 8 (by omega) (λk e=>yN.not_box e8 e) (λk e=>yL.not_box e8 e),e8]
  have g7:h1 7=some ⟨true,6,[Xj N vR vP vA]⟩:=by rw[hfr1 7 (by omega) (λk e=>yN.not_box e7 e) (λk e=>yL.not_box e7 e),e7]
  simp[s11,g8,-Kb,cN,cL];have dR1:Dj vN' vR:=o1.dj d2 yR;have dR2:Dj vN' vP:=o1.dj d3 yP;have dR3:Dj vN' vA:=o1.dj d4 yA;have dL1:Dj vL' vR:=o2.dj d5 yR;have dL2:Dj vL' vP:=o2.dj d6 yP;have dL3:Dj vL' vA:=o2.dj d7 yA;have nilD:∀w,Dj (.nil 2) w:=λw i k l e1 _=>by cases e1
  have dr1:Dj vRr vR:=o3.dj (nilD _) yR;have dr2:Dj vRr vP:=o3.dj (nilD _) yP;have dr3:Dj vRr vA:=o3.dj (nilD _) yA
  have up8:∀{z:Nat}{rows:List (List AV)}{v:AV},Kj 5 z rows v h1 n1->Kj 5 z rows v (upd h1 8 (some ⟨true,2,[[vN',vL']]⟩)) n1:=by
   intro z rows v x;refine x.keep (Nat.le_refl _) λid _ _ e=>?_
   have:¬id=8:=by rintro rfl;exact x.not_box g8 e
   simp[this]
  have mv:∀{z:Nat}{rows:List (List AV)}{v:AV},Kj 5 z rows v h n->Dj vN v->Dj vL v->Kj 5 z rows v h1 n1:=λx p q=>x.keep hn1 λid _ hid e=>hfr1 id hid (λk e'=>p id k _ e' e) λk e'=>q id k _ e' e
  refine⟨hn1,?_,vN',vL',⟨⟨rfl,rfl⟩,by simpa using g7,⟨?_,?_⟩,up8 zR,?_⟩⟩
  ·intro id hid;have:¬id=8:=by omega
   simp[this];exact hfr1 id (by omega) (λk e=>by have:=(yN.lt e).1;omega) λk e=>by have:=(yL.lt e).1;omega
  ·intro x hx;simp only[mem_cons,not_mem_nil,or_false]at hx;rcases hx with rfl|rfl|rfl|rfl|rfl
   ·exact up8 zN
   ·exact up8 zL
   ·exact up8 (mv yR d2 d5)
   ·exact up8 (mv yP d3 d6)
   ·exact up8 (mv yA d4 d7)
  ·simp only[pairwise_cons,mem_cons,not_mem_nil,or_false,forall_eq_or_imp,forall_eq];exact⟨⟨b1,dR1,dR2,dR3⟩,⟨dL1,dL2,dL3⟩,⟨d8,d9⟩,d10,by simp⟩
  ·exact⟨b2,b3,dr1.symm,dr2.symm,dr3.symm⟩
 rintro s1 h1 n1 hk1 ⟨vN',vL',vRr,s13,hn1,low,f8,f7,B,zR,hdj⟩;simp at hk1;have u10:s1 10 = .ptr 7 0 0:=by rw[hk1.2.2.2.2.2.2.1,s10]
 have wR:=B.1 (2,ms.rows.map Ja,vR) (by simp);refine Jn ?_;simp[lm9,u10,f7,Xj,s13];refine J6l (rows:=ms.rows.map Ja) (rows2:=T.rows.map Ja) wR zR (hdj (2,ms.rows.map Ja,vR) (by simp)) (by simp;unfold Jd;omega) ?_;intro h2 q1 q2;have ne:¬7=n1/\¬8=n1/\¬n1=7/\¬n1=8:=by omega
 have k7:h2 7=some ⟨true,6,[Xj N vR vP vA]⟩:=by rw[q2 7 (by omega) (λl e=>wR.not_box f7 e) (λl e=>zR.not_box f7 e),f7]
 have k8:h2 8=some ⟨true,2,[[vN',vL']]⟩:=by rw[q2 8 (by omega) (λl e=>wR.not_box f8 e) (λl e=>zR.not_box f8 e),f8]
 simp[k7,u10,Xj];refine hK _ _ _ (by simp[hk1]) ?_
 have low2:∀id,id<=5->upd h2 7 (some ⟨true,6,[Xj N (.ref n1 0 (ms.rows.length+T.rows.length)) vP vA]⟩) id=h id:=by
  intro id hid;have:¬id=7:=by omega
  rw[<-low id hid];simp[this];exact q2 id (by omega) (λk e=>by have:=(wR.lt e).1;omega) λk e=>by have:=(zR.lt e).1;omega
 simp only[Xj]at low2;refine⟨by rw[low2 1 (by omega),M.hz],by rw[low2 2 (by omega),M.hr],by rw[low2 3 (by omega),M.h3],by rw[low2 5 (by omega),M.hf],by omega,vN',vL',.ref n1 0 (ms.rows.length+T.rows.length),vP,vA,by simp[k8],by simp[Xj],?_⟩;refine Vr.step2 (l1:=[(1,Jf (Kl T.E),vN'),(2,(Y8 T.E).map Jb,vL')]) (x:=(2,ms.rows.map Ja,vR)) (x':=(2,(ms.rows++T.rows).map Ja,.ref n1 0 (ms.rows.length+T.rows.length))) (l2:=[(2,ms.pars.map Ja,vP),(1,ms.args.map Y3,vA)]) (y:=vRr) B hdj (.inr ⟨n1,by omega,by omega,by simp,by simp[ne,q1]⟩) (λi k e=>by simp only[AV.ref.injEq]at e;omega) (by omega) ?_;intro id hb hid hf h3 h4
 have:¬id=7:=by rintro rfl;obtain⟨z,rows,hf⟩:=hf;rw[f7]at hf;simp at hf
 simp[this];exact q2 id (by omega) h3 h4
end
end Go.Proofs.YtoclolkigjbcgaaGreat
