/- Contracts: a variable eliminated (program), at a call. -/
import Derived.Test.YtoclolkigjbcgaaGreatBHB2
import Derived.Test.YtoclolkigjbcgaaGreatBV7
namespace Go.Proofs.YtoclolkigjbcgaaGreat
open Tryz(prog)
open List(drop_eq_getElem_cons drop_eq_nil_of_le take_of_length_le)
set_option maxRecDepth 40000
set_option maxHeartbeats 4000000
open Go Go.RowKit Go.Proofs
set_option linter.all false
section
variable {ks:List Kt}{s:Jm}{h h':J8}{n:Nat}{Q:Xc}
theorem Jky{ds:List Kd}{vl:AV}{N m v n0:Nat}{h0:J8}{acc0 T:List Kd}(hg:∀d∈ds,GD N m d)(hm:m<=20)(hv:v<N)(hd:ds.length<=60)(L:K6 Kz 4 0 ds vl h0 n0)(hn0:n0<=n)
 (s0:s 0=vl) (s1:s 1 = .int .i64 v) (hf:∀id,id<n0->h id=h0 id) (B0:K6 Kz 4 n0 acc0 (s 5) h n) (hT:acc0++ds.flatMap (Io v ds)=T) (hTl:T.length<=4000)
 (hK:∀s' h' n',n<=n'->(∀id,id<n0->h' id=h0 id)->K6 Kz 4 n0 T (s' 5) h' n'->Ju prog ks .normal s' h' n' Q):rC prog To ks s h n Q:=by
 have keepL:∀{h' m'},n0<=m'->(∀id,id<n0->h' id=h0 id)->K6 Kz 4 0 ds vl h' m':=λhm hh=>K6.keep (R:=Kz) (λ_ _ _ _ _ _=>Kz.keep) L hm (Ko.of hh) λid rows _ hid _ e=>by rw[hh id hid,e]
 simp[To,s0];refine Gd (keepL hn0 hf) (by unfold Jb;omega) ?_;simp;refine Ki [0,1,35,36] 37 ds.length (λi s h m'=>n<=m'/\(∀id,id<n0->h id=h0 id)/\∃acc,K6 Kz 4 n0 acc (s 5) h m'/\acc++(ds.drop i).flatMap (Io v ds)=T) (by unfold Jb;omega) (by simp) ⟨Nat.le_refl _,hf,acc0,B0,by simpa using hT⟩ ?_ ?_
 ·rintro i st h1 m1 R hi hgi hk s37 hw ⟨hm1,hf1,acc,B,hJ⟩ hR hret _;simp at hk;rw[drop_eq_getElem_cons hi,List.flatMap_cons]at hJ;have ga:=hg _ (List.getElem_mem hi);refine Js [0,1,5,35,36,37] (λs=>s 38 = .bool true) (by simp[hk,s37,hi]) ?_;intro Jv hk1 s38;simp at hk1;refine W9 s38 (Jn (Xg ?_));refine Jn (Ty (.inr (.inl ⟨rfl,rfl,rfl,rfl⟩)) (keepL (by omega) hf1) hi (by simp[hk1,hk]) (by simp[hk1,s37]) ?_);intro st2 h2 r hk2 _ hf2 s9 e9 hr;simp at hk2;rw[Qb];have B2:K6 Kz 4 n0 acc (st 5) h2 (m1+1):=K6.keep (R:=Kz) (λ_ _ _ _ _ _=>Kz.keep) B (Nat.le_succ m1) (Ko.of hf2) λid rows _ hid _ e=>by rw[hf2 id hid,e]
  have hf20:∀id,id<n0->h2 id=h0 id:=λid hid=>by rw[hf2 id (by omega),hf1 id hid]
  refine Jn (Jkk (.inr (.inl ⟨rfl,rfl,rfl⟩)) ga hv s9 (by simp[hk2,hk1,hk,s1]) e9 hr ?_);intro Kl hk3 _ hx _;have s10:=hx rfl;simp at hk3;rw[Qb];by_cases hp:Kc v ds[i]<=0
  ·have hj:Io v ds ds[i]=[]:=by unfold Io;rw[if_pos hp]
   rw[hj,List.nil_append]at hJ;simp[s10,hp,hk3,hk2,hk1,s37,hw];exact hR _ _ _ (by simp[hk3,hk2,hk1,hk]) (by simp) ⟨by omega,hf20,acc,by simpa[hk3,hk2,hk1]using B2,hJ⟩
  ·rw[Jc3 hp,<-List.append_assoc]at hJ;have hal:=congrArg List.length hJ;simp only[List.length_append]at hal;simp[s10,hp,hk3,hk2,hk1,hk,s0];refine Gd (keepL (by omega) hf20) (by unfold Jb;omega) ?_;simp;refine Jmt (ds:=ds) (vl:=vl) (a:=ds[i]) (ra:=r) (k9:=m1) (acc0:=acc) (v:=v) hg ga hm hv hd hp L (by omega) (by omega) (by simp[hk3,hk2,hk1,hk,s1]) (by simp[hk3,s9]) (by simp[s10]) (by simp) (by simp) (by simp) hf20 e9 hr (by simpa[hk3,hk2,hk1]using B2) (by simpa[hk3,hk2,hk1]using B.below (Nat.le_refl m1)) rfl (by simp;omega) ?_;intro st4 h4 m4 hk4 hm4 hf4 B4;simp at hk4;simp[hk4,hk3,hk2,hk1,s37,hw];exact hR _ _ _ (by simp[hk4,hk3,hk2,hk1,hk]) (by simp) ⟨by omega,hf4,_,by simpa using B4,hJ⟩
 ·rintro st h1 m1 R hk s37 ⟨hm1,hf1,acc,B,hJ⟩ hret hX;simp at hk;rw[drop_eq_nil_of_le (by omega)]at hJ;simp at hJ;subst hJ;refine Js [5] (λs=>s 38 = .bool false) (by simp[hk,s37]) ?_;intro Jv hk1 s38;simp at hk1;refine Ut s38 ?_;refine hX _ _ _ _ ?_;simp;exact hK _ _ _ hm1 hf1 (by simpa[hk1]using B)
end
theorem J71{ds:List Kd}{vl:AV}{N m v:Nat}{h:J8}{n:Nat}{K:AV->J8->Nat->Prop}(hg:∀d∈ds,GD N m d)(hm:m<=20)(hv:v<N)(hd:ds.length<=60)(L:K6 Kz 4 0 ds vl h n)
 (hK:∀a h' n',n<=n'->(∀id,id<n->h' id=h id)->K6 Kz 4 n (Vh v ds) a h' n'->K a h' n'):X7 prog 281 [vl,i64 v] h n K:=by
 refine U8 Tryz.func281 a281_ok rfl (by simp[a281]) ?_;simp[a281,wo0,wo1];refine Jlx (n0:=n) (h0:=h) hg hv hd (Nat.le_refl n) (λ_ _=>rfl) L (by simp) (by simp) (by simp) ?_;intro s1 h1 n1 hk1 hn1 hf1 B1;simp at hk1;simp;have hl:=Ri (v:=v) (l:=ds);have h60:ds.length*ds.length<=60*60:=Nat.mul_le_mul hd hd;refine Jky (n0:=n) (h0:=h) hg hm hv hd L hn1 (by simp[hk1]) (by simp[hk1]) hf1 B1 (show _=Vh v ds from rfl) (by omega) ?_;intro s2 h2 n2 hn2 hf2 B2;simp[wo4];exact hK _ _ _ (by omega) hf2 B2
def fk0:AC:=(.reg [ZB 2 0,ZB 3 1,Zo 4 (.box [(.int .i64 0),(.nil 1)]),Zt 5 false])
def fk1:AC:=(Zq [Zl 16 true 2 2,Zc 17 277 [.t 16],ZN 18 17,Zv 19 18,Zg 20 19 false (.ld true 2 (.t 3)),Zg 21 19 false (.fld 0 (.t 2)),Zg 22 19 false (.ld false 1 (.t 21)),Zg 23 19 false (.call (.k (.fn (.func 146) [] [])) [.t 20,.t 22]),Zg 24 19 false (.un .not (.t 23)),ZP 25 19 24] (.cond (.t 25) (Zq [Zo 26 (.build [(.int .i64 0),(.nil 1)] []),⟨no,.st 2 (.t 4) (.t 26),no⟩,Zt 5 false] .ret) .skip))
def fk2:AC:=(.draw (.op (Zf 28 0 2) (.op (Zl 29 false 1 28) (.op (Zl 31 true 2 3) (.both (.op (Zc 30 178 [(.k (.int .i64 (-1))),.t 29]) (.both (.op (Zc 32 193 [.t 30,(.k (.int .i64 (-1))),.t 31]) (.op (Zv 27 32) (.op (Ze 33 27 0) (.op (Ze 34 27 1) (.op (Zo 6 (.box [(.int .i64 0),(.nil 1)])) (.hop ⟨no,.st 2 (.t 6) (.t 33),no⟩ [] (.op (Zv 7 34) .fin))))))) (.op (Zo 6 (.box [(.int .i64 0),(.nil 1)])) (.op (Zc 32 193 [.t 30,(.k (.int .i64 (-1))),.t 31]) (.op (Zv 27 32) (.op (Ze 33 27 0) (.op (Ze 34 27 1) (.hop ⟨no,.st 2 (.t 6) (.t 33),no⟩ [] (.op (Zv 7 34) .fin))))))))) (.op (Zo 6 (.box [(.int .i64 0),(.nil 1)])) (.op (Zc 30 178 [(.k (.int .i64 (-1))),.t 29]) (.op (Zc 32 193 [.t 30,(.k (.int .i64 (-1))),.t 31]) (.op (Zv 27 32) (.op (Ze 33 27 0) (.op (Ze 34 27 1) (.hop ⟨no,.st 2 (.t 6) (.t 33),no⟩ [] (.op (Zv 7 34) .fin)))))))))))))
def fk3:AC:=(Zq [Zv 35 7,ZN 36 35] (.cond (.t 36) (Zq [Zo 37 (.build [(.int .i64 0),(.nil 1)] []),⟨no,.st 2 (.t 4) (.t 37),no⟩,Zt 5 false] .ret) .skip))
def fk4:AC:=(.reg [Zo 8 (.mv (.k (.nil 4)))])
def fa:AC:=(.reg [Zv 43 41,Zx 44 2 39 41,Zl 45 true 2 44,Zo 10 (.box [(.int .i64 0),(.nil 1)]),Zv 9 43,⟨no,.st 2 (.t 10) (.t 45),no⟩])
def fb:AC:=(.reg [Zf 46 1 2,Zl 47 false 1 46,Zn 48 47,Zo 49 (.mks 8 [(.int .i64 0)] (.t 48) (.t 48)),Zv 11 49])
def fc:AC:=(.reg [Zv 50 11,Zv 51 9,Zx 52 1 50 51,⟨no,.st 1 (.t 52) (.k (.int .i64 1)),no⟩])
def fd:AC:=(.reg [Zv 53 8,Zl 54 true 2 10,Zv 55 11,Zo 56 (.build [(.int .i64 0),(.nil 1),(.nil 1),(.int .i64 0)] [(0,(2,(.t 54))),(2,(1,(.t 55))),(3,(1,(.k (.int .i64 0))))]),Zo 57 (.bslb 4 [.t 56]),Zo 58 (.appb 64 4 (.t 53) (.t 57)),Zv 8 58])
def fk5:AC:=(Zq [Zf 38 1 2,Zl 39 false 1 38,Zn 40 39,Zi 41 0] (.blk 0 (.loop (Zq [Zb 42 .lss 41 40] (.seq (Zw 42 0) (.seq (.blk 1 (.seq  fa (.seq  fb (.seq  fc  fd)))) (.reg [Zk 59 .add 41 1,Zv 41 59])))))))
def fk6:AC:=(.draw (.op (Zv 60 8) (.op (Zl 61 true 2 6) (.op (Zf 62 1 2) (.op (Zl 63 false 1 62) (.op (Zn 64 63) (.op (Zo 65 (.mks 8 [(.int .i64 0)] (.t 64) (.t 64))) (.op (Zo 66 (.build [(.int .i64 0),(.nil 1),(.nil 1),(.int .i64 0)] [(0,(2,(.t 61))),(2,(1,(.t 65))),(3,(1,(.k (.int .i64 1))))])) (.hop (Zo 67 (.bslb 4 [.t 66])) [] (.hop (Zo 68 (.appb 64 4 (.t 60) (.t 67))) [] (.hop (Zv 8 68) [] .fin)))))))))))
def fk7:AC:=(Zq [Zi 12 0] (.blk 2 (.loop (.seq (Zq [Zv 69 12,Zf 70 0 2,Zl 71 false 1 70,Zb 72 .lss 69 71] (Zw 72 2)) (.seq (.blk 3 (Zq [Zv 75 8,Zv 76 12,Zc 77 281 [.t 75,.t 76],Zv 8 77] (Zq [Zv 78 8,Zn 79 78,Zk 80 .gtr 79 60] (.cond (.t 80) (Zq [Zo 81 (.build [(.int .i64 0),(.nil 1)] []),⟨no,.st 2 (.t 4) (.t 81),no⟩,Zt 5 false] .ret) .skip)))) (.reg [Zv 73 12,Zk 74 .add 73 1,Zv 12 74]))))))
def ga:AC:=(.reg [Zx 86 4 82 84,Zl 87 true 4 86,Zo 14 (.box [(.int .i64 0),(.nil 1),(.nil 1),(.int .i64 0)]),⟨no,.st 4 (.t 14) (.t 87),no⟩])
def gb:AC:=(Zq [Zf 92 3 14,Zl 93 false 1 92,Zf 94 2 14,Zl 95 false 1 94,Zo 96 (.build [(.int .i64 0),(.nil 1)] [(0,(1,(.t 93))),(1,(1,(.t 95)))]),Zo 15 (.box [(.int .i64 0),(.nil 1)]),⟨no,.st 2 (.t 15) (.t 96),no⟩] (.seq (Zq [Zl 97 true 2 2,Zl 98 true 2 3,Zl 99 true 2 15,Zc 100 196 [.t 97,.t 98,.t 99],ZN 101 100] (.cond (.t 101) (Zq [Zo 102 (.build [(.int .i64 0),(.nil 1)] []),⟨no,.st 2 (.t 4) (.t 102),no⟩,Zt 5 false] .ret) .skip)) (Zq [Zl 103 true 2 15,⟨no,.st 2 (.t 4) (.t 103),no⟩,Zt 5 true] .ret)))
def fk8:AC:=(Zq [Zv 82 8,Zn 83 82,Zi 84 0] (.blk 4 (.loop (Zq [Zb 85 .lss 84 83] (.seq (Zw 85 4) (.seq (.blk 5 (.seq  ga (Zq [Zf 88 0 14,Zf 89 0 88,Zl 90 false 1 89,Zk 91 .lss 90 0] (.cond (.t 91) gb .skip)))) (.reg [Zk 104 .add 84 1,Zv 84 104])))))))
def fk9:AC:=(.reg [Zo 105 (.build [(.int .i64 0),(.nil 1)] []),⟨no,.st 2 (.t 4) (.t 105),no⟩,Zt 5 false])
def a210:Jk:=⟨106,[(.c 4 true 2),.t 5],(.seq fk0 (.seq fk1 (.seq fk2 (.seq fk3 (.seq fk4 (.seq fk5 (.seq fk6 (.seq fk7 (.seq fk8 (.seq fk9 .ret))))))))))⟩
theorem a210_ok:Gh true prog Tryz.f210=some a210:=by kernel_rfl
theorem Sr{x:Xm}{t:Jc}(h:(Q4 x&&K4 t x.N)=false):Oh x t=Option.none:=by unfold Oh;rw[h];rfl
theorem Jcx{x:Xm}{t:Jc}(h:Kg (Jo (-1) x.N) (-1) t=Option.none):Oh x t=Option.none:=by unfold Oh;rw[h];split <;>rfl
theorem Jcf{x:Xm}{t last:Jc}(h0:(Q4 x&&K4 t x.N)=true)(h:Kg (Jo (-1) x.N) (-1) t=some last):Oh x t=(Qa 0 x.N.toNat (Hj x.Rows last)).bind (Q1 x t):=by unfold Oh;rw[h0,h];simp only[if_true];cases Qa 0 x.N.toNat (Hj x.Rows last) <;>rfl
theorem J6s{m k:Nat} : (List.replicate m [i64 0]).set k [i64 1]=Jg (Qe m k):=by unfold Qe Jg;rw[List.map_set,List.map_replicate]
theorem Je3{m:Nat} : List.replicate m [i64 0]=Jg (List.replicate m 0):=by unfold Jg;rw[List.map_replicate]
section
variable {ks:List Kt}{s:Jm}{h h':J8}{n:Nat}{Q:Xc}
theorem Jmf{x:Xm}{t:Jc}(s2:s 2 = .ptr 0 0 0)(s3:s 3 = .ptr 1 0 0)(e0:h 0=some ⟨true,2,[Kv x]⟩)(e1:h 1=some ⟨true,2,[Ja t]⟩)
 (hK:∀s' h' n' k q,(∀i∈[2,3,4],s' i=s i)->n<=n'->(∀id,id<n->h' id=h id)->s' 7 = .bool (Kg (Jo (-1) x.N) (-1) t).isSome->s' 6 = .ptr k 0 0->Hp ((Kg (Jo (-1) x.N) (-1) t).getD Jl) k q h' n n'->Ju prog ks .normal s' h' n' Q):rC prog fk2 ks s h n Q:=by
 have fr:∀id,id<n->¬id=n/\¬id=n+1/\¬id=n+2/\¬id=n+1+1:=by intro id _;omega
 have ne:¬n=n+1/\¬n+1=n/\¬n=n+1+1/\¬n+1+1=n/\¬n+1=n+1+1/\¬n+1+1=n+1:=by omega
 simp[fk2,s2,s3,e0,e1,Kv,Ja];refine⟨?_,?_⟩
 ·skip;refine Jw (On (-1) x.N) (by simp) ?_;rintro r rfl;simp[J9];refine⟨?_,?_⟩
  ·skip;refine Jw (Ih (Jo (-1) x.N) (-1) t) (by simp[Ja]) ?_;rintro r rfl;rw[Xd];generalize Kg (Jo (-1) x.N) (-1) t=T at *;simp[J9];exact hK _ _ _ (n+1+1) (n+1) (by simp) (by omega) (λid hid=>by simp[fr id hid]) (by simp) (by simp) ⟨by omega,by omega,by omega,by omega,by omega,by simp,by simp⟩
  ·skip;refine Jw (Ih (Jo (-1) x.N) (-1) t) (by simp[Ja]) ?_;rintro r rfl;rw[Xd];generalize Kg (Jo (-1) x.N) (-1) t=T at *;simp[J9];exact hK _ _ _ (n+1) (n+1+1) (by simp) (by omega) (λid hid=>by simp[fr id hid]) (by simp) (by simp) ⟨by omega,by omega,by omega,by omega,by omega,by simp,by simp⟩
 ·skip;refine Jw (On (-1) x.N) (by simp) ?_;rintro r rfl;simp[J9];refine Jw (Ih (Jo (-1) x.N) (-1) t) (by simp[Ja]) ?_;rintro r rfl;rw[Xd];generalize Kg (Jo (-1) x.N) (-1) t=T at *;simp[J9,ne];exact hK _ _ _ n (n+1+1) (by simp) (by omega) (λid hid=>by simp[fr id hid]) (by simp) (by simp) ⟨by omega,by omega,by omega,by omega,by omega,by simp,by simp[ne]⟩
theorem Jgj{x:Xm}{acc:List Kd}{i lo:Nat}(hi:i<x.Rows.length)(hm:x.Rows.length<=20)(s2:s 2 = .ptr 0 0 0)(s39:s 39 = .sl 2 (x.Rows.map Ja))(s41:s 41 = .int .i64 i)(e0:h 0=some ⟨true,2,[Kv x]⟩)(h0:0<n)(hlo:lo<=n)(B:K6 Kz 4 lo acc (s 8) h n)(hl:acc.length<=4000)
 (hK:∀s' h' n',(∀j∈[2,3,4,6,39,40,41],s' j=s j)->n<=n'->Ko h h' n->(∀id,id<n->(∀k,s 8 ≠ .ref id 0 k)->h' id=h id)->K6 Kz 4 lo (acc++[⟨x.Rows[i],Qe x.Rows.length i,0⟩]) (s' 8) h' n'->Ju prog ks .normal s' h' n' Q):rC prog (.seq fa (.seq fb (.seq fc fd))) ks s h n Q:=by
 have ne:¬n=n+1/\¬n+1=n/\¬n=n+1+1/\¬n+1+1=n/\¬n+1=n+1+1/\¬n+1+1=n+1/\¬0=n/\¬0=n+1:=by omega
 have fr:∀id,id<n->¬id=n/\¬id=n+1/\¬id=n+1+1:=by intro id _;omega
 have hlim:(x.Rows.length:Int)*8<=Jb:=by unfold Jb;omega
 simp[fa,fb,fc,s2,s39,s41,e0,hi,ne,Kv,Ja];intro _;refine⟨by unfold Jb at *;omega,?_⟩;have hu:=J6s (m:=x.Rows.length) (k:=i);simp only[i64]at hu;rw[hu];have kp:Ko h (upd (upd h n (some ⟨true,2,[[.int .i64 x.Rows[i].Const,.sl 1 (Jg x.Rows[i].Coeffs)]]⟩)) (n+1) (some ⟨false,1,Jg (Qe x.Rows.length i)⟩)) n:=Ko.of λid hid=>by simp[fr id hid]
 have hul:(Qe x.Rows.length i).length=x.Rows.length:=by simp[Qe]
 simp[fd];have kp2:Ko h (upd (upd (upd h n (some ⟨true,2,[[.int .i64 x.Rows[i].Const,.sl 1 (Jg x.Rows[i].Coeffs)]]⟩)) (n+1) (some ⟨false,1,Jg (Qe x.Rows.length i)⟩)) (n+1+1) (some ⟨true,4,[[.int .i64 x.Rows[i].Const,.sl 1 (Jg x.Rows[i].Coeffs),.ref (n+1) 0 x.Rows.length,.int .i64 0]]⟩)) n:=Ko.of λid hid=>by simp[fr id hid]
 have B':=K6.keep (R:=Kz) (n':=n+1+1+1) (λ_ _ _ _ _ _=>Kz.keep) B (by omega) kp2 λid rows _ hid _ e=>by simp[fr id hid,e]
 refine Fv (R:=Kz) (λ_ _ _ _ _ _=>Kz.keep) B' (r:=[.int .i64 x.Rows[i].Const,.sl 1 (Jg x.Rows[i].Coeffs),.ref (n+1) 0 x.Rows.length,.int .i64 0]) (d:=⟨x.Rows[i],Qe x.Rows.length i,0⟩) (by simp[Iq]) ⟨_,_,rfl,.inl rfl,.inr ⟨n+1,by omega,by rw[hul],by simp⟩⟩ (by omega) (by unfold Jb;omega) ?_;intro h' k1 k2 k3;simp;refine hK _ _ _ (by simp) (by omega) (kp2.trans k1 (by omega)) (λid hid hv=>by rw[k2 id (by omega) hv];simp[fr id hid]) (by simpa using k3)
def Wz(rows:List Jc):List Kd:=(List.range rows.length).map λk=>(⟨rows.getD k Jl,Qe rows.length k,0⟩:Kd)
theorem Ja1{rows:List Jc}{i:Nat}(hi:i<rows.length):(Wz rows).take (i+1)=(Wz rows).take i++[⟨rows[i],Qe rows.length i,0⟩]:=by
 have hl:i<(Wz rows).length:=by simpa[Wz]using hi
 rw[List.take_succ_eq_append_getElem hl];congr 2;simp[Wz,hi]
theorem Jna{x:Xm}{n0:Nat}{h0:J8}(hm:x.Rows.length<=20)(s2:s 2 = .ptr 0 0 0)(s8:s 8 = .nil 4)(e0:h0 0=some ⟨true,2,[Kv x]⟩)(hn0:0<n0)(hn:n0<=n)(hf:∀id,id<n0->h id=h0 id)
 (hK:∀s' h' n',(∀j∈[2,3,4,6],s' j=s j)->n0<=n'->(∀id,id<n0->h' id=h0 id)->K6 Kz 4 n0 (Wz x.Rows) (s' 8) h' n'->Ju prog ks .normal s' h' n' Q):rC prog fk5 ks s h n Q:=by
 have e0':h 0=some ⟨true,2,[[.int .i64 x.N,.sl 2 (x.Rows.map Ja)]]⟩:=by rw[hf 0 hn0,e0];rfl
 simp[fk5,s2,e0'];intro _;refine Ki [2,3,4,6,39,40] 41 x.Rows.length (λi s h m=>n0<=m/\(∀id,id<n0->h id=h0 id)/\K6 Kz 4 n0 ((Wz x.Rows).take i) (s 8) h m) (by unfold Jb;omega) (by simp) ⟨hn,hf,.inl ⟨by simp[s8],by simp⟩⟩ ?_ ?_
 ·rintro i st h1 m1 R hi hgi hk s41 hw ⟨hm1,hf1,B⟩ hR hret _;simp at hk;refine Js [2,3,4,6,8,39,40,41] (λs=>s 42 = .bool true) (by simp[hk,s41,hi]) ?_;intro Jv hk1 s42;simp at hk1;refine W9 s42 (Jn (Xg ?_));refine Jgj (acc:=(Wz x.Rows).take i) (lo:=n0) hi hm (by simp[hk1,hk,s2]) (by simp[hk1,hk]) (by simp[hk1,s41]) (by rw[hf1 0 hn0,e0]) (by omega) hm1 (by simpa[hk1]using B) (by simp[Wz];omega) ?_;intro st2 h2 m2 hk2 hm2 kp2 hf2 B2;simp at hk2;simp[hk2,hk1,s41,hw];refine hR _ _ _ (by simp[hk2,hk1,hk]) (by simp) ⟨by omega,λid hid=>?_,?_⟩
  ·rw[hf2 id (by omega) λk e=>?_,hf1 id hid];have:=B.from id k (by simpa[hk1]using e);omega
  ·rw[Ja1 hi];simpa using B2
 ·rintro st h1 m1 R hk s41 ⟨hm1,hf1,B⟩ hret hX;simp at hk;have ht:(Wz x.Rows).take x.Rows.length=Wz x.Rows:=take_of_length_le (by simp[Wz]);rw[ht]at B;refine Js [2,3,4,6,8] (λs=>s 42 = .bool false) (by simp[hk,s41]) ?_;intro Jv hk1 s42;simp at hk1;refine Ut s42 ?_;refine hX _ _ _ _ ?_;simp;exact hK _ _ _ (by simp[hk1,hk]) hm1 hf1 (by simpa[hk1]using B)
end
section
variable {ks:List Kt}{s:Jm}{h h':J8}{n:Nat}{Q:Xc}
theorem Jlz{x:Xm}{last:Jc}{acc:List Kd}{lo k6 q6:Nat}(hm:x.Rows.length<=20)(s2:s 2 = .ptr 0 0 0)(s6:s 6 = .ptr k6 0 0)(e0:h 0=some ⟨true,2,[Kv x]⟩)(h0:0<n)(L:Hp last k6 q6 h 3 n)(hlo:lo<=n)(B:K6 Kz 4 lo acc (s 8) h n)(hl:acc.length<=4000)
 (hK:∀s' h' n',(∀j∈[2,3,4],s' j=s j)->n<=n'->(∀id,id<n->(∀k,s 8 ≠ .ref id 0 k)->h' id=h id)->K6 Kz 4 lo (acc++[⟨last,List.replicate x.Rows.length 0,1⟩]) (s' 8) h' n'->Ju prog ks .normal s' h' n' Q):rC prog fk6 ks s h n Q:=by
 obtain⟨q1,q2,q3,q4,q5,e6,eq⟩:=L;have ne:¬n=n+1/\¬n+1=n/\¬n=n+1+1/\¬n+1+1=n/\¬n+1=n+1+1/\¬n+1+1=n+1/\¬0=n/\¬0=n+1:=by omega
 have fr:∀id,id<n->¬id=n/\¬id=n+1/\¬id=n+1+1:=by intro id _;omega
 have hz:=Je3 (m:=x.Rows.length);simp only[i64]at hz;simp[fk6,s2,s6,e0,e6,Kv];rw[hz];refine⟨by unfold Jb;omega,?_⟩;have kp2:Ko h (upd (upd h n (some ⟨false,1,Jg (List.replicate x.Rows.length 0)⟩)) (n+1) (some ⟨true,4,[[.int .i64 last.Const,.ref q6 0 last.Coeffs.length,.ref n 0 x.Rows.length,.int .i64 1]]⟩)) n:=Ko.of λid hid=>by simp[fr id hid]
 have B':=K6.keep (R:=Kz) (n':=n+1+1) (λ_ _ _ _ _ _=>Kz.keep) B (by omega) kp2 λid rows _ hid _ e=>by simp[fr id hid,e]
 refine Fv (R:=Kz) (λ_ _ _ _ _ _=>Kz.keep) B' (r:=[.int .i64 last.Const,.ref q6 0 last.Coeffs.length,.ref n 0 x.Rows.length,.int .i64 1]) (d:=⟨last,List.replicate x.Rows.length 0,1⟩) (by simp[Iq]) ⟨_,_,rfl,.inr (.inr ⟨q6,by omega,rfl,by simp[fr q6 q4,eq]⟩),.inr ⟨n,by omega,by simp,by simp⟩⟩ (by omega) (by unfold Jb;omega) ?_;intro h' k1 k2 k3;simp;exact hK _ _ _ (by simp) (by omega) (λid hid hv=>by rw[k2 id (by omega) hv];simp[fr id hid]) (by simpa using k3)
theorem J9w{v n:Nat}{l:List Kd}(h:¬(Vh v l).length<=60):Qa v (n+1) l=Option.none:=by simp only[Qa];rw[if_neg h]
theorem J9y{v n:Nat}{l:List Kd}(h:(Vh v l).length<=60):Qa v (n+1) l=Qa (v+1) n (Vh v l):=by simp only[Qa];rw[if_pos h]
theorem Jlq{x:Xm}{m n0:Nat}{h0:J8}{F:Option (List Kd)}{l0:List Kd}(hm:m<=20)(hx:0<=x.N/\x.N<=8)(s2:s 2 = .ptr 0 0 0)(s4:s 4 = .ptr 2 0 0)(e0:h0 0=some ⟨true,2,[Kv x]⟩)(e2:h0 2=some ⟨true,2,[[.int .i64 0,.nil 1]]⟩)(hn0:2<n0)(hn:n0<=n)(hf:∀id,id<n0->h id=h0 id)
 (hg0:∀d∈l0,GD x.N.toNat m d) (hl0:l0.length<=60) (B0:K6 Kz 4 n0 l0 (s 8) h n) (hF:Qa 0 x.N.toNat l0=F)
 (hret:F=Option.none->∀s' h' n',s' 4 = .ptr 2 0 0->s' 5 = .bool false->h' 2=some ⟨true,2,[[.int .i64 0,.nil 1]]⟩->Ju prog ks .ret s' h' n' Q)
 (hK:∀s' h' n' L,(∀j∈[2,3,4],s' j=s j)->n0<=n'->(∀id,id<n0->h' id=h0 id)->F=some L->L.length<=60->K6 Kz 4 n0 L (s' 8) h' n'->Ju prog ks .normal s' h' n' Q):rC prog fk7 ks s h n Q:=by
 have e0':∀{h':J8},(∀id,id<n0->h' id=h0 id)->h' 0=some ⟨true,2,[[.int .i64 x.N,.sl 2 (x.Rows.map Ja)]]⟩:=λhh=>by rw[hh 0 (by omega),e0];rfl
 have hN:((x.N.toNat:Nat):Int)=x.N:=by omega
 simp[fk7];refine Ki [2,3,4] 12 x.N.toNat (λi s h m'=>n0<=m'/\(∀id,id<n0->h id=h0 id)/\∃l,(∀d∈l,GD x.N.toNat m d)/\l.length<=60/\K6 Kz 4 n0 l (s 8) h m'/\Qa i (x.N.toNat - i) l=F) (by unfold Jb;omega) (by simp) ⟨hn,hf,l0,hg0,hl0,by simpa using B0,by simpa using hF⟩ ?_ ?_
 ·rintro i st h1 m1 R hi hgi hk s12 hw ⟨hm1,hf1,l,hg,hl,B,hJ⟩ hR hrt _;simp at hk;have hiN:(i:Int)<x.N:=by omega
  refine Jn (Js [2,3,4,8,12] (λs=>s 72 = .bool true) (by simp[hk,s12,s2,e0' hf1,hiN]) ?_);intro Jv hk1 s72;simp at hk1;refine Uh s72 (Jn (Xg ?_));have hl2:=Ri (v:=i) (l:=l);have h60:l.length*l.length<=60*60:=Nat.mul_le_mul hl hl;refine Xo [2,3,4,12] (λs h' m'=>m1<=m'/\(∀id,id<m1->h' id=h1 id)/\K6 Kz 4 m1 (Vh i l) (s 8) h' m') ?_ ?_
  ·simp[hk1,s12];refine J71 hg hm hi hl (B.low (Nat.zero_le _)) ?_;intro a h' n' g1 g2 g3;simp;exact⟨g1,g2,g3⟩
  rintro st2 h2 m2 hk2 ⟨hm2,hf2,B2⟩;simp at hk2;have hf20:∀id,id<n0->h2 id=h0 id:=λid hid=>by rw[hf2 id (by omega),hf1 id hid]
  have hs:x.N.toNat - i=(x.N.toNat - (i+1))+1:=by omega
  rw[hs]at hJ;refine Js [2,3,4,8,12] (λs=>s 80 = .bool (decide (60<(Vh i l).length))) ?_ ?_
  ·simp;refine Gd B2 (by unfold Jb;omega) ?_;simp;omega
  intro Kl hk3 s80;simp at hk3;by_cases h6:(Vh i l).length<=60
  ·rw[J9y h6]at hJ;have h6':¬60<(Vh i l).length:=by omega
   simp[s80,h6',hk3,hk2,hk1,s12,hw];exact hR _ _ _ (by simp[hk3,hk2,hk1,hk]) (by simp) ⟨by omega,hf20,_,J5b hg,h6,by simpa[hk3]using B2.low hm1,hJ⟩
  ·rw[J9w h6]at hJ;have h6':60<(Vh i l).length:=by omega
   have x4:h2 2=some ⟨true,2,[[.int .i64 0,.nil 1]]⟩:=by rw[hf20 2 hn0,e2]
   simp[s80,h6',hk3,hk2,hk1,hk,s4,x4];refine hrt _ _ _ (hret hJ.symm _ _ _ (by simp[hk3,hk2,hk1,hk,s4]) (by simp) (by simp))
 ·rintro st h1 m1 R hk s12 ⟨hm1,hf1,l,hg,hl,B,hJ⟩ hrt hX;simp at hk;rw[Nat.sub_self]at hJ;simp only[Qa]at hJ;have hiN:¬((x.N.toNat:Nat):Int)<x.N:=by omega
  refine Jn (Js [2,3,4,8] (λs=>s 72 = .bool false) (by simp[hk,s12,s2,e0' hf1];omega) ?_);intro Jv hk1 s72;simp at hk1;refine U3 s72 ?_;refine hX _ _ _ _ ?_;simp;exact hK _ _ _ l (by simp[hk1,hk]) hm1 hf1 hJ.symm hl (by simpa[hk1]using B)
end
section
variable {ks:List Kt}{s:Jm}{h h':J8}{n:Nat}{Q:Xc}
def Bv(o:Option Xz)(s:Jm)(h:J8)(n:Nat):Prop:=s 4 = .ptr 2 0 0/\s 5 = .bool o.isSome/\∃vm,h 2=some ⟨true,2,[[.int .i64 (o.getD Gl).Scale,vm]]⟩/\Vd (o.getD Gl).Mult vm h n
theorem Bv.fin {o:Option Xz}(x:Bv o s h n):Cv [.c 4 true 2,.t 5] (λr=>r=O7 o) .ret s h n:=by
 obtain⟨s4,s5,vm,e,hv⟩:=x;rcases hv with ⟨rfl,hz⟩|⟨id,_,rfl,ei⟩
 ·simp[s4,s5,e,O7,Y9,hz,Jg]
 ·simp[s4,s5,e,ei,O7,Y9]
theorem Bv.no (s4:s 4 = .ptr 2 0 0) (s5:s 5 = .bool false) (e:h 2=some ⟨true,2,[[.int .i64 0,.nil 1]]⟩):Bv Option.none s h n:=⟨s4,s5,.nil 1,e,.inl ⟨rfl,rfl⟩⟩
theorem Jlh{x:Xm}{t:Jc}{L:List Kd}{n0:Nat}(hL:L.length<=60)(hn0:2<n0)(hn:n0<=n)(s2:s 2 = .ptr 0 0 0)(s3:s 3 = .ptr 1 0 0)(s4:s 4 = .ptr 2 0 0)(e0:h 0=some ⟨true,2,[Kv x]⟩)(e1:h 1=some ⟨true,2,[Ja t]⟩)(e2:h 2=some ⟨true,2,[[.int .i64 0,.nil 1]]⟩)(B0:K6 Kz 4 n0 L (s 8) h n)
 (hret:∀s' h' n',Bv (Q1 x t L) s' h' n'->Ju prog ks .ret s' h' n' Q)
 (hK:∀s' h' n',Q1 x t L=Option.none->s' 4 = .ptr 2 0 0->h' 2=some ⟨true,2,[[.int .i64 0,.nil 1]]⟩->Ju prog ks .normal s' h' n' Q):rC prog fk8 ks s h n Q:=by
 simp[fk8];refine Gd B0 (by unfold Jb;omega) ?_;simp;refine Ki [2,3,4,82,83] 84 L.length (λi s h' m=>n<=m/\(∀id,id<n->h' id=h id)/\Q1 x t (L.drop i)=Q1 x t L) (by unfold Jb;omega) (by simp) ⟨Nat.le_refl _,λ_ _=>rfl,by simp⟩ ?_ ?_
 ·rintro i st h1 m1 R hi hgi hk s84 hw ⟨hm1,hf1,hJ⟩ hR hrt _;simp at hk;rw[drop_eq_getElem_cons hi]at hJ
  have B1:K6 Kz 4 n0 L (st 82) h1 m1:=by rw[hk.2.2.2.1];exact K6.keep (R:=Kz) (λ_ _ _ _ _ _=>Kz.keep) B0 hm1 (Ko.of hf1) λid rows _ hid _ e=>by rw[hf1 id hid,e]
  refine Js [2,3,4,82,83,84] (λs=>s 85 = .bool true) (by simp[hk,s84,hi]) ?_;intro Jv hk1 s85;simp at hk1;refine W9 s85 (Jn (Xg ?_));have fr:∀id,id<m1->¬id=m1:=by intro id _;omega
  refine Xo [2,3,4,82,83,84] (λs h' m'=>m'=m1+1/\s 14 = .ptr m1 0 0/\(∀id,id<m1->h' id=h1 id)/\∃r,h' m1=some ⟨true,4,[r]⟩/\Kz L[i] r h' (m1+1)) ?_ ?_
  ·simp[-K8,ga,hk1,s84];refine E1 B1 hi ?_;intro id rows r hid e hl hr hD;have hne:¬id=m1:=by omega
   have hD':=hD;obtain⟨v1,v2,rfl,g1,g2⟩:=hD;have c1:=g1.cell;have c2:=g2.cell;simp[-K8,e,hl,hr,c1,c2];simp[K8];exact⟨λid hid=>by simp[fr id hid],hD'.keep (Nat.le_succ m1) (Ko.of λid hid=>by simp[fr id hid])⟩
  rintro st2 h2 m2 hk2 ⟨rfl,s14,hf2,r,e14,hD⟩;simp at hk2;have hf20:∀id,id<n->h2 id=h id:=λid hid=>by rw[hf2 id (by omega),hf1 id hid]
  have e0':h2 0=some ⟨true,2,[Kv x]⟩:=by rw[hf20 0 (by omega),e0]
  have e1':h2 1=some ⟨true,2,[Ja t]⟩:=by rw[hf20 1 (by omega),e1]
  have e2':h2 2=some ⟨true,2,[[.int .i64 0,.nil 1]]⟩:=by rw[hf20 2 (by omega),e2]
  obtain⟨v1,vm,rfl,g1,g2⟩:=hD;have c2:=g2.cell;have n2:¬2=m1+1/\¬1=m1+1/\¬0=m1+1/\¬m1=0:=by omega
  by_cases hc:(L[i]).l.Const<0
  ·have hfind:Q1 x t (L[i]::L.drop (i+1))=if Qz x t ⟨L[i].scale,L[i].mult⟩then some ⟨L[i].scale,L[i].mult⟩else Option.none:=by
    unfold Q1;rw[List.find?_cons,decide_eq_true hc]
   rw[hfind]at hJ;have g2':Vd L[i].mult vm (upd h2 (m1+1) (some ⟨true,2,[[.int .i64 L[i].scale,vm]]⟩)) (m1+1+1):=g2.keep (Nat.le_succ _) (Ko.of λid hid=>by rw[Ye];omega)
   have hcall:∀{K:AV->J8->Nat->Prop},K (.bool (Qz x t ⟨L[i].scale,L[i].mult⟩)) (upd h2 (m1+1) (some ⟨true,2,[[.int .i64 L[i].scale,vm]]⟩)) (m1+1+1)->X7 prog 196 [.agg (Kv x),.agg (Ja t),.agg [.int .i64 L[i].scale,vm]] (upd h2 (m1+1) (some ⟨true,2,[[.int .i64 L[i].scale,vm]]⟩)) (m1+1+1) K:=by
    intro K hk;have hb:=g2'.bw;refine Jd (J0y x t ⟨L[i].scale,L[i].mult⟩) ?_ ?_
    ·simp only[U0,bw];rw[hb];simp[Kv,Ja,Up]
    ·rintro r rfl;simpa using hk
   have fin:∀{st':Jm}{h':J8}{m':Nat},st' 4 = .ptr 2 0 0->st' 5 = .bool (Qz x t ⟨L[i].scale,L[i].mult⟩)->(Qz x t ⟨L[i].scale,L[i].mult⟩=true->Vd L[i].mult vm h' m'/\h' 2=some ⟨true,2,[[.int .i64 L[i].scale,vm]]⟩)->(Qz x t ⟨L[i].scale,L[i].mult⟩=false->h' 2=some ⟨true,2,[[.int .i64 0,.nil 1]]⟩)->R .ret st' h' m':=by
    intro st' h' m' x4 x5 y1 y2;refine hrt _ _ _ (hret _ _ _ ?_);rw[<-hJ];cases hch:Qz x t ⟨L[i].scale,L[i].mult⟩
    ·rw[hch]at x5;exact Bv.no x4 x5 (y2 hch)
    ·rw[hch]at x5;exact⟨x4,x5,vm,(y1 hch).2,(y1 hch).1⟩
   have kp2:∀B,Ko (upd h2 (m1+1) (some ⟨true,2,[[.int .i64 L[i].scale,vm]]⟩)) (upd (upd h2 (m1+1) (some ⟨true,2,[[.int .i64 L[i].scale,vm]]⟩)) 2 B) (m1+1+1):=λB id z rows hid e=>by
    have:¬id=2:=by rintro rfl;simp[n2,e2']at e
    rw[Ye _ _ _ _ this];exact e
   have hcase:vm = .nil 1\/∃id l,vm = .ref id 0 l:=by
    rcases g2 with ⟨rfl,_⟩|⟨id,_,rfl,_⟩
    ·exact .inl rfl
    ·exact .inr ⟨_,_,rfl⟩
   rcases hcase with rfl|⟨id',l',rfl⟩
   all_goals
    simp[gb,s14,e14,hc,hk2,hk1,hk,s2,s3,e0',e1',n2,Kv,Ja];refine hcall ?_;cases hch:Qz x t ⟨L[i].scale,L[i].mult⟩
    ·simp[hk2,hk1,hk,s4,e2',n2];exact fin (by simp[hk2,hk1,hk,s4]) (by simp[hch]) (λe=>by rw[hch]at e;cases e) (λ_=>by simp)
    ·simp[hk2,hk1,hk,s4,e2',n2];exact fin (by simp[hk2,hk1,hk,s4]) (by simp[hch]) (λ_=>⟨g2'.keep (Nat.le_refl _) (kp2 _),by simp⟩) (λe=>by rw[hch]at e;cases e)
  ·have hfind:Q1 x t (L[i]::L.drop (i+1))=Q1 x t (L.drop (i+1)):=by
    unfold Q1;rw[List.find?_cons,decide_eq_false hc]
   rw[hfind]at hJ;simp[s14,e14,hc,hk2,hk1,s84,hw];exact hR _ _ _ (by simp[hk2,hk1,hk]) (by simp) ⟨by omega,hf20,hJ⟩
 ·rintro st h1 m1 R hk s84 ⟨hm1,hf1,hJ⟩ hrt hX;simp at hk;rw[drop_eq_nil_of_le (by omega)]at hJ;refine Js [2,3,4,82,83] (λs=>s 85 = .bool false) (by simp[hk,s84]) ?_;intro Jv hk1 s85;simp at hk1;refine Ut s85 ?_;refine hX _ _ _ _ ?_;simp;exact hK _ _ _ hJ.symm (by simp[hk1,hk,s4]) (by rw[hf1 2 (by omega),e2])
end
theorem J6z(x:Xm)(t:Jc):Holds prog 210 [.agg (Kv x),.agg (Ja t)] (λr=>r=O7 (Oh x t)):=by
 refine Jp Tryz.func210 a210_ok rfl (by simp[a210]) ?_;simp[a210,fk0,fk1];refine Jd (J00 x) (by simp) ?_;rintro r rfl;generalize hF:Oh x t=F;cases h1:Q4 x
 ·have:=Sr (x:=x) (t:=t) (by rw[h1];rfl);rw[this]at hF;subst hF;simp[O7,Gl,Y9,Jg]
 simp[Kv];refine Jd (Gx t x.N) (by simp) ?_;rintro r rfl;cases h2:K4 t x.N
 ·have:=Sr (x:=x) (t:=t) (by rw[h1,h2];rfl);rw[this]at hF;subst hF;simp[O7,Gl,Y9,Jg]
 simp;refine Jmf (x:=x) (t:=t) (by simp) (by simp) (by simp[Kv]) (by simp[Ja]) ?_;intro s1 h3 n1 k6 q6 hk1 hn1 hf1 s7 s6 L6;simp at hk1;have hf1:∀id,id<3->h3 id=_:=hf1;have z0:h3 0=some ⟨true,2,[Kv x]⟩:=by rw[hf1 0 (by omega)];simp[Kv]
 have z1:h3 1=some ⟨true,2,[Ja t]⟩:=by rw[hf1 1 (by omega)];simp[Ja]
 have z2:h3 2=some ⟨true,2,[[.int .i64 0,.nil 1]]⟩:=by rw[hf1 2 (by omega)];simp
 cases hT:Kg (Jo (-1) x.N) (-1) t with
 |none=>
  rw[Jcx hT]at hF;subst hF
  simp[fk3,s7,hT,hk1,z2,O7,Gl,Y9,Jg]
 |some last=>
  rw[Jcf (by rw[h1,h2];rfl) hT]at hF;rw[hT]at s7 L6;simp only[Option.getD_some]at L6;have hsys:=Md h1;simp[fk3,s7,fk4];refine Jna (n0:=n1) (h0:=h3) hsys.1 (by simp[hk1]) (by simp) z0 (by omega) (Nat.le_refl _) (λ_ _=>rfl) ?_;intro s4 h4 n4 hk4 hn4 hf4 B4;simp at hk4;simp
  have L6':Hp last k6 q6 h4 3 n4:=by obtain⟨q1,q2,q3,q4,q5,e6,eq⟩:=L6;exact⟨q1,by omega,q3,by omega,q5,by rw[hf4 k6 q2,e6],by rw[hf4 q6 q4,eq]⟩
  refine Jlz (last:=last) hsys.1 (by simp[hk4,hk1]) (by simp[hk4,s6]) (by rw[hf4 0 (by omega),z0]) (by omega) L6' hn4 B4 (by simp[Wz];omega) ?_;intro s5 h5 n5 hk5 hn5 hf5 B5;simp at hk5;simp
  have hf50:∀id,id<n1->h5 id=h3 id:=λid hid=>by rw[hf5 id (by omega) λk e=>?_,hf4 id hid];have:=B4.from id k e;omega
  rw[show Wz x.Rows++[⟨last,List.replicate x.Rows.length 0,1⟩]=Hj x.Rows last from rfl]at B5;refine Jlq (x:=x) (n0:=n1) (h0:=h3) (F:=Qa 0 x.N.toNat (Hj x.Rows last)) hsys.1 hsys.2.1 (by simp[hk5,hk4,hk1]) (by simp[hk5,hk4,hk1]) z0 z2 (by omega) (by omega) hf50 (Rg h1 hT) (by rw[J4n];omega) B5 rfl ?_ ?_
  ·intro hn s' h' n' x4 x5 x2;rw[hn]at hF;simp at hF;subst hF;simp only[Pv,Rw];exact(Bv.no (n:=n') x4 x5 x2).fin
  ·intro s7' h7 n7 L hk7 hn7 hf7 hL hLl B7;rw[hL]at hF;simp only[Option.bind_some]at hF;simp at hk7;simp;refine Jlh (x:=x) (t:=t) (n0:=n1) hLl (by omega) hn7 (by simp[hk7,hk5,hk4,hk1]) (by simp[hk7,hk5,hk4,hk1]) (by simp[hk7,hk5,hk4,hk1]) (by rw[hf7 0 (by omega),z0]) (by rw[hf7 1 (by omega),z1]) (by rw[hf7 2 (by omega),z2]) B7 ?_ ?_
   ·intro s' h' n' hr;rw[hF]at hr;simp only[Pv,Rw];exact hr.fin
   ·intro s' h' n' hno x4 x2;rw[hno]at hF;subst hF;simp[fk9,x4,x2,O7,Gl,Y9,Jg]
def sk0:AC:=(.reg [ZB 2 0,ZB 3 1,Zo 4 (.box [(.int .i64 0),(.nil 1)]),Zt 5 false])
def sk1:AC:=(Zq [Zl 16 true 2 2,Zc 17 258 [.t 16],ZN 18 17,Zv 19 18,Zg 20 19 false (.ld true 2 (.t 3)),Zg 21 19 false (.fld 0 (.t 2)),Zg 22 19 false (.ld false 1 (.t 21)),Zg 23 19 false (.call (.k (.fn (.func 179) [] [])) [.t 20,.t 22]),Zg 24 19 false (.un .not (.t 23)),ZP 25 19 24] (.cond (.t 25) (Zq [Zo 26 (.build [(.int .i64 0),(.nil 1)] []),⟨no,.st 2 (.t 4) (.t 26),no⟩,Zt 5 false] .ret) .skip))
def sk2:AC:=(.reg [Zf 27 1 2,Zl 28 false 1 27,Zn 29 28,Zv 6 29])
def sk3:AC:=(.reg [Zo 30 (.bslb 3 []),Zv 7 30])
def ska:AC:=(.reg [Zv 36 6,Zk 37 .add 36 1,Zo 38 (.mks 8 [(.int .i64 0)] (.t 37) (.t 37)),Zv 9 38])
def skb:AC:=(.reg [Zv 39 9,Zv 40 8,Zx 41 1 39 40,⟨no,.st 1 (.t 41) (.k (.int .i64 1)),no⟩])
def skc:AC:=(.reg [Zv 42 7,Zf 43 1 2,Zl 44 false 1 43,Zv 45 8,Zx 46 2 44 45,Zl 47 true 2 46,Zv 48 9,Zo 49 (.build [(.int .i64 0),(.nil 1),(.nil 1)] [(0,(2,(.t 47))),(2,(1,(.t 48)))]),Zo 50 (.bslb 3 [.t 49]),Zo 51 (.appb 56 3 (.t 42) (.t 50)),Zv 7 51])
def sk4:AC:=(Zq [Zi 8 0] (.blk 0 (.loop (.seq (Zq [Zv 31 8,Zv 32 6,Zb 33 .lss 31 32] (Zw 33 0)) (.seq (.blk 1 (.seq  ska (.seq  skb  skc))) (.reg [Zv 34 8,Zk 35 .add 34 1,Zv 8 35]))))))
def sk5:AC:=(.draw (.op (Zf 53 0 2) (.op (Zl 54 false 1 53) (.op (Zl 56 true 2 3) (.both (.op (Zc 55 99 [(.k (.int .i64 (-1))),.t 54]) (.both (.op (Zc 57 98 [.t 55,(.k (.int .i64 (-1))),.t 56]) (.op (Zv 52 57) (.op (Ze 58 52 0) (.op (Ze 59 52 1) (.op (Zo 10 (.box [(.int .i64 0),(.nil 1)])) (.hop ⟨no,.st 2 (.t 10) (.t 58),no⟩ [] (.op (Zv 11 59) .fin))))))) (.op (Zo 10 (.box [(.int .i64 0),(.nil 1)])) (.op (Zc 57 98 [.t 55,(.k (.int .i64 (-1))),.t 56]) (.op (Zv 52 57) (.op (Ze 58 52 0) (.op (Ze 59 52 1) (.hop ⟨no,.st 2 (.t 10) (.t 58),no⟩ [] (.op (Zv 11 59) .fin))))))))) (.op (Zo 10 (.box [(.int .i64 0),(.nil 1)])) (.op (Zc 55 99 [(.k (.int .i64 (-1))),.t 54]) (.op (Zc 57 98 [.t 55,(.k (.int .i64 (-1))),.t 56]) (.op (Zv 52 57) (.op (Ze 58 52 0) (.op (Ze 59 52 1) (.hop ⟨no,.st 2 (.t 10) (.t 58),no⟩ [] (.op (Zv 11 59) .fin)))))))))))))
def sk6:AC:=(Zq [Zv 60 11,ZN 61 60] (.cond (.t 61) (Zq [Zo 62 (.build [(.int .i64 0),(.nil 1)] []),⟨no,.st 2 (.t 4) (.t 62),no⟩,Zt 5 false] .ret) .skip))
def Sw:AC:=(.reg [Zv 63 6,Zk 64 .add 63 1,Zo 65 (.mks 8 [(.int .i64 0)] (.t 64) (.t 64)),Zv 12 65])
def sk8:AC:=(.reg [Zv 66 12,Zv 67 6,Zx 68 1 66 67,⟨no,.st 1 (.t 68) (.k (.int .i64 1)),no⟩])
def Ts:AC:=(.reg [Zv 69 7,Zl 70 true 2 10,Zv 71 12,Zo 72 (.build [(.int .i64 0),(.nil 1),(.nil 1)] [(0,(2,(.t 70))),(2,(1,(.t 71)))]),Zo 73 (.bslb 3 [.t 72]),Zo 74 (.appb 56 3 (.t 69) (.t 73)),Zv 7 74])
def Sy:AC:=(Zq [Zi 13 0] (.blk 2 (.loop (.seq (Zq [Zv 75 13,Zf 76 0 2,Zl 77 false 1 76,Zb 78 .lss 75 77] (Zw 78 2)) (.seq (.blk 3 (Zq [Zv 81 7,Zv 82 13,Zc 83 259 [.t 81,.t 82],Zv 7 83] (Zq [Zv 84 7,Zn 85 84,Zk 86 .gtr 85 60] (.cond (.t 86) (Zq [Zo 87 (.build [(.int .i64 0),(.nil 1)] []),⟨no,.st 2 (.t 4) (.t 87),no⟩,Zt 5 false] .ret) .skip)))) (.reg [Zv 79 13,Zk 80 .add 79 1,Zv 13 80]))))))
def skg:AC:=(.reg [Zv 94 7,Zv 95 14,Zx 96 3 94 95,Zf 97 0 96,Zf 98 0 97,Zl 99 false 1 98,Zk 100 .lss 99 0])
def skh:AC:=(.draw (.op (Zv 101 7) (.op (Zv 102 14) (.op (Zx 103 3 101 102) (.op (Zf 104 2 103) (.op (Zl 105 false 1 104) (.op (Zv 106 6) (.op (Zx 107 1 105 106) (.op (Zl 108 false 1 107) (.op (Zv 110 7) (.op (Zv 111 14) (.op (Zx 112 3 110 111) (.op (Zf 113 2 112) (.op (Zl 114 false 1 113) (.op (Zv 115 6) (.op (Zo 116 (.slc false 1 (.t 114) Option.none (some (.t 115)))) (.both (.hop (Zo 109 (.bsl 1 [])) [(.slc false 1 (.t 114) Option.none (some (.t 115))),(.ld false 1 (.t 113)),(.fld 2 (.t 112)),(.ixa 3 (.t 110) (.t 111)),(.ld false 1 (.t 107)),(.ixa 1 (.t 105) (.t 106)),(.ld false 1 (.t 104)),(.fld 2 (.t 103)),(.ixa 3 (.t 101) (.t 102))] (.both (.hop (ZA 117 8 1 109 116) [(.ld false 1 (.t 107)),(.ixa 1 (.t 105) (.t 106)),(.ld false 1 (.t 104)),(.fld 2 (.t 103)),(.ixa 3 (.t 101) (.t 102))] (.op (Zo 118 (.build [(.int .i64 0),(.nil 1)] [(0,(1,(.t 108))),(1,(1,(.t 117)))])) (.op (Zo 15 (.box [(.int .i64 0),(.nil 1)])) (.hop ⟨no,.st 2 (.t 15) (.t 118),no⟩ [] .fin)))) (.op (Zo 15 (.box [(.int .i64 0),(.nil 1)])) (.hop (ZA 117 8 1 109 116) [(.ld false 1 (.t 107)),(.ixa 1 (.t 105) (.t 106)),(.ld false 1 (.t 104)),(.fld 2 (.t 103)),(.ixa 3 (.t 101) (.t 102))] (.op (Zo 118 (.build [(.int .i64 0),(.nil 1)] [(0,(1,(.t 108))),(1,(1,(.t 117)))])) (.hop ⟨no,.st 2 (.t 15) (.t 118),no⟩ [] .fin)))))) (.op (Zo 15 (.box [(.int .i64 0),(.nil 1)])) (.hop (Zo 109 (.bsl 1 [])) [(.slc false 1 (.t 114) Option.none (some (.t 115))),(.ld false 1 (.t 113)),(.fld 2 (.t 112)),(.ixa 3 (.t 110) (.t 111)),(.ld false 1 (.t 107)),(.ixa 1 (.t 105) (.t 106)),(.ld false 1 (.t 104)),(.fld 2 (.t 103)),(.ixa 3 (.t 101) (.t 102))] (.hop (ZA 117 8 1 109 116) [(.ld false 1 (.t 107)),(.ixa 1 (.t 105) (.t 106)),(.ld false 1 (.t 104)),(.fld 2 (.t 103)),(.ixa 3 (.t 101) (.t 102))] (.op (Zo 118 (.build [(.int .i64 0),(.nil 1)] [(0,(1,(.t 108))),(1,(1,(.t 117)))])) (.hop ⟨no,.st 2 (.t 15) (.t 118),no⟩ [] .fin))))))))))))))))))))))
def ski:AC:=(.seq skh (.seq (Zq [Zl 119 true 2 2,Zl 120 true 2 3,Zl 121 true 2 15,Zc 122 195 [.t 119,.t 120,.t 121],ZN 123 122] (.cond (.t 123) (Zq [Zo 124 (.build [(.int .i64 0),(.nil 1)] []),⟨no,.st 2 (.t 4) (.t 124),no⟩,Zt 5 false] .ret) .skip)) (Zq [Zl 125 true 2 15,⟨no,.st 2 (.t 4) (.t 125),no⟩,Zt 5 true] .ret)))
def Jw7:AC:=(Zq [Zi 14 0] (.blk 4 (.loop (.seq (Zq [Zv 88 14,Zv 89 7,Zn 90 89,Zb 91 .lss 88 90] (Zw 91 4)) (.seq (.blk 5 (.seq  skg (.cond (.t 100) ski .skip))) (.reg [Zv 92 14,Zk 93 .add 92 1,Zv 14 93]))))))
def Jzn:AC:=(.reg [Zo 126 (.build [(.int .i64 0),(.nil 1)] []),⟨no,.st 2 (.t 4) (.t 126),no⟩,Zt 5 false])
def a170:Jk:=⟨127,[(.c 4 true 2),.t 5],(.seq sk0 (.seq sk1 (.seq sk2 (.seq sk3 (.seq sk4 (.seq sk5 (.seq sk6 (.seq Sw (.seq sk8 (.seq Ts (.seq Sy (.seq Jw7 (.seq Jzn .ret)))))))))))))⟩
theorem a170_ok:Gh true prog Tryz.f170=some a170:=by kernel_rfl
theorem Ji7{m k:Nat}(hk:k<m):(List.replicate (m+1) (0:Int)).set k 1=Qe m k++[0]:=by rw[List.replicate_succ',List.set_append_left _ _ (by simpa using hk)];rfl
theorem Jfn{m:Nat} : (List.replicate (m+1) (0:Int)).set m 1=List.replicate m 0++[1]:=by rw[List.replicate_succ',List.set_append_right _ _ (by simp)];simp
theorem Ja3{m k:Nat} : (List.replicate m [i64 0]).set k [i64 1]=Jg ((List.replicate m 0).set k 1):=J6s
section
variable {ks:List Kt}{s:Jm}{h h':J8}{n:Nat}{Q:Xc}
theorem Jne{x:Xm}{t:Jc}(s2:s 2 = .ptr 0 0 0)(s3:s 3 = .ptr 1 0 0)(e0:h 0=some ⟨true,2,[Kv x]⟩)(e1:h 1=some ⟨true,2,[Ja t]⟩)
 (hK:∀s' h' n' k q,(∀i∈[2,3,4,6,7],s' i=s i)->n<=n'->(∀id,id<n->h' id=h id)->s' 11 = .bool (Kg (Jo (-1) x.N) (-1) t).isSome->s' 10 = .ptr k 0 0->Hp ((Kg (Jo (-1) x.N) (-1) t).getD Jl) k q h' n n'->Ju prog ks .normal s' h' n' Q):rC prog sk5 ks s h n Q:=by
 have fr:∀id,id<n->¬id=n/\¬id=n+1/\¬id=n+2/\¬id=n+1+1:=by intro id _;omega
 have ne:¬n=n+1/\¬n+1=n/\¬n=n+1+1/\¬n+1+1=n/\¬n+1=n+1+1/\¬n+1+1=n+1:=by omega
 simp[sk5,s2,s3,e0,e1,Kv,Ja];refine⟨?_,?_⟩
 ·skip;refine Jw (O4 (-1) x.N) (by simp) ?_;rintro r rfl;simp[J9];refine⟨?_,?_⟩
  ·skip;refine Jw (Ve (Jo (-1) x.N) (-1) t) (by simp[Ja]) ?_;rintro r rfl;rw[Xd];generalize Kg (Jo (-1) x.N) (-1) t=T at *;simp[J9];exact hK _ _ _ (n+1+1) (n+1) (by simp) (by omega) (λid hid=>by simp[fr id hid]) (by simp) (by simp) ⟨by omega,by omega,by omega,by omega,by omega,by simp,by simp⟩
  ·skip;refine Jw (Ve (Jo (-1) x.N) (-1) t) (by simp[Ja]) ?_;rintro r rfl;rw[Xd];generalize Kg (Jo (-1) x.N) (-1) t=T at *;simp[J9];exact hK _ _ _ (n+1) (n+1+1) (by simp) (by omega) (λid hid=>by simp[fr id hid]) (by simp) (by simp) ⟨by omega,by omega,by omega,by omega,by omega,by simp,by simp⟩
 ·skip;refine Jw (O4 (-1) x.N) (by simp) ?_;rintro r rfl;simp[J9];refine Jw (Ve (Jo (-1) x.N) (-1) t) (by simp[Ja]) ?_;rintro r rfl;rw[Xd];generalize Kg (Jo (-1) x.N) (-1) t=T at *;simp[J9,ne];exact hK _ _ _ n (n+1+1) (by simp) (by omega) (λid hid=>by simp[fr id hid]) (by simp) (by simp) ⟨by omega,by omega,by omega,by omega,by omega,by simp,by simp[ne]⟩
theorem Jhy{x:Xm}{acc:List Kd}{i lo:Nat}(hi:i<x.Rows.length)(hm:x.Rows.length<=20)(s2:s 2 = .ptr 0 0 0)(s6:s 6 = .int .i64 x.Rows.length)(s8:s 8 = .int .i64 i)(e0:h 0=some ⟨true,2,[Kv x]⟩)(h0:0<n)(hlo:lo<=n)(B:K6 X6 3 lo acc (s 7) h n)(hl:acc.length<=4000)
 (hK:∀s' h' n',(∀j∈[2,3,4,6,8],s' j=s j)->n<=n'->Ko h h' n->(∀id,id<n->(∀k,s 7 ≠ .ref id 0 k)->h' id=h id)->K6 X6 3 lo (acc++[⟨x.Rows[i],Qe x.Rows.length i,0⟩]) (s' 7) h' n'->Ju prog ks .normal s' h' n' Q):rC prog (.seq ska (.seq skb skc)) ks s h n Q:=by
 have ne:¬n=n+1/\¬n+1=n/\¬n=n+1+1/\¬n+1+1=n/\¬n+1=n+1+1/\¬n+1+1=n+1/\¬0=n/\¬0=n+1:=by omega
 have fr:∀id,id<n->¬id=n/\¬id=n+1/\¬id=n+1+1:=by intro id _;omega
 have hw:IntKind.i64.wrap ((x.Rows.length:Int)+1)=(x.Rows.length:Int)+1:=Kk (by omega);have hi2:i<x.Rows.length+1:=by omega
 have hnn:¬((x.Rows.length:Int)+1<0):=by omega
 have hi3:(i:Int)<(x.Rows.length:Int)+1:=by omega
 simp[ska,skb,s6,s8,hw,List.getElem?_replicate,hi3];refine⟨by omega,by unfold Jb;omega,by omega,?_⟩;have hu:=Ja3 (m:=x.Rows.length+1) (k:=i);rw[Ji7 hi]at hu;simp only[i64]at hu;rw[hu];have kp:Ko h (upd h n (some ⟨false,1,Jg (Qe x.Rows.length i++[0])⟩)) n:=Ko.of λid hid=>by simp[fr id hid]
 have hul:(Qe x.Rows.length i++[0]).length=x.Rows.length+1:=by simp[Qe]
 simp[skc,ne,s2,s8,e0,hi,Kv,Ja];have kp2:Ko h (upd (upd h n (some ⟨false,1,Jg (Qe x.Rows.length i++[0])⟩)) (n+1) (some ⟨true,3,[[.int .i64 x.Rows[i].Const,.sl 1 (Jg x.Rows[i].Coeffs),.ref n 0 (x.Rows.length+1)]]⟩)) n:=Ko.of λid hid=>by simp[fr id hid]
 have B':=K6.keep (R:=X6) (n':=n+1+1) (λ_ _ _ _ _ _=>X6.keep) B (by omega) kp2 λid rows _ hid _ e=>by simp[fr id hid,e]
 refine Fv (R:=X6) (λ_ _ _ _ _ _=>X6.keep) B' (r:=[.int .i64 x.Rows[i].Const,.sl 1 (Jg x.Rows[i].Coeffs),.ref n 0 (x.Rows.length+1)]) (d:=⟨x.Rows[i],Qe x.Rows.length i,0⟩) (by simp[Iq]) ⟨_,_,rfl,.inl rfl,.inr ⟨n,by omega,by rw[hul],by simp⟩⟩ (by omega) (by unfold Jb;omega) ?_;intro h' k1 k2 k3;simp;refine hK _ _ _ (by simp) (by omega) (kp2.trans k1 (by omega)) (λid hid hv=>by rw[k2 id (by omega) hv];simp[fr id hid]) (by simpa using k3)
theorem Jl5{x:Xm}{n0:Nat}{h0:J8}(hm:x.Rows.length<=20)(s2:s 2 = .ptr 0 0 0)(s6:s 6 = .int .i64 x.Rows.length)(e0:h0 0=some ⟨true,2,[Kv x]⟩)(hn0:0<n0)(hn:n0<=n)(hf:∀id,id<n0->h id=h0 id)(B0:K6 X6 3 n0 [] (s 7) h n)
 (hK:∀s' h' n',(∀j∈[2,3,4,6],s' j=s j)->n0<=n'->(∀id,id<n0->h' id=h0 id)->K6 X6 3 n0 (Wz x.Rows) (s' 7) h' n'->Ju prog ks .normal s' h' n' Q):rC prog sk4 ks s h n Q:=by
 simp[sk4];refine Ki [2,3,4,6] 8 x.Rows.length (λi s h m=>n0<=m/\(∀id,id<n0->h id=h0 id)/\K6 X6 3 n0 ((Wz x.Rows).take i) (s 7) h m) (by unfold Jb;omega) (by simp) ⟨hn,hf,by simpa using B0⟩ ?_ ?_
 ·rintro i st h1 m1 R hi hgi hk s8 hw ⟨hm1,hf1,B⟩ hR hret _;simp at hk;refine Jn (Js [2,3,4,6,7,8] (λs=>s 33 = .bool true) (by simp[hk,s8,hi,s6]) ?_);intro Jv hk1 s33;simp at hk1;refine Uh s33 (Jn (Xg ?_));refine Jhy (acc:=(Wz x.Rows).take i) (lo:=n0) hi hm (by simp[hk1,hk,s2]) (by simp[hk1,hk,s6]) (by simp[hk1,s8]) (by rw[hf1 0 hn0,e0]) (by omega) hm1 (by simpa[hk1]using B) (by simp[Wz];omega) ?_;intro st2 h2 m2 hk2 hm2 kp2 hf2 B2;simp at hk2;simp[hk2,hk1,s8,hw];refine hR _ _ _ (by simp[hk2,hk1,hk]) (by simp) ⟨by omega,λid hid=>?_,?_⟩
  ·rw[hf2 id (by omega) λk e=>?_,hf1 id hid];have:=B.from id k (by simpa[hk1]using e);omega
  ·rw[Ja1 hi];simpa using B2
 ·rintro st h1 m1 R hk s8 ⟨hm1,hf1,B⟩ hret hX;simp at hk;have ht:(Wz x.Rows).take x.Rows.length=Wz x.Rows:=take_of_length_le (by simp[Wz]);rw[ht]at B;refine Jn (Js [2,3,4,6,7] (λs=>s 33 = .bool false) (by simp[hk,s8,s6]) ?_);intro Jv hk1 s33;simp at hk1;refine U3 s33 ?_;refine hX _ _ _ _ ?_;simp;exact hK _ _ _ (by simp[hk1,hk]) hm1 hf1 (by simpa[hk1]using B)
theorem Jf2{b:AC}{x:Xm}{last:Jc}{acc:List Kd}{lo k10 q10 l3:Nat}(hm:x.Rows.length<=20)(s6:s 6 = .int .i64 x.Rows.length)(s10:s 10 = .ptr k10 0 0)(L:Hp last k10 q10 h l3 n)(hlo:lo<=n)(B:K6 X6 3 lo acc (s 7) h n)(hl:acc.length<=4000)
 (hK:∀s' h' n',(∀j∈[2,3,4,6],s' j=s j)->n<=n'->(∀id,id<n->(∀k,s 7 ≠ .ref id 0 k)->h' id=h id)->K6 X6 3 lo (acc++[⟨last,List.replicate x.Rows.length 0,1⟩]) (s' 7) h' n'->rC prog b ks s' h' n' Q):rC prog (.seq Sw (.seq sk8 (.seq Ts b))) ks s h n Q:=by
 obtain⟨q1,q2,q3,q4,q5,e6,eq⟩:=L;have ne:¬n=n+1/\¬n+1=n/\¬n=n+1+1/\¬n+1+1=n/\¬n+1=n+1+1/\¬n+1+1=n+1/\¬k10=n:=by omega
 have fr:∀id,id<n->¬id=n/\¬id=n+1/\¬id=n+1+1:=by intro id _;omega
 have hw:IntKind.i64.wrap ((x.Rows.length:Int)+1)=(x.Rows.length:Int)+1:=Kk (by omega);have hi3:(x.Rows.length:Int)<(x.Rows.length:Int)+1:=by omega
 simp[Sw,sk8,s6,hw,List.getElem?_replicate,hi3];refine⟨by omega,by unfold Jb;omega,by omega,?_⟩;have hu:=Ja3 (m:=x.Rows.length+1) (k:=x.Rows.length);rw[Jfn]at hu;simp only[i64]at hu;rw[hu];have hul:(List.replicate x.Rows.length (0:Int)++[1]).length=x.Rows.length+1:=by simp
 simp[Ts,ne,s10,e6];have kp2:Ko h (upd (upd h n (some ⟨false,1,Jg (List.replicate x.Rows.length 0++[1])⟩)) (n+1) (some ⟨true,3,[[.int .i64 last.Const,.ref q10 0 last.Coeffs.length,.ref n 0 (x.Rows.length+1)]]⟩)) n:=Ko.of λid hid=>by simp[fr id hid]
 have B':=K6.keep (R:=X6) (n':=n+1+1) (λ_ _ _ _ _ _=>X6.keep) B (by omega) kp2 λid rows _ hid _ e=>by simp[fr id hid,e]
 refine Fv (R:=X6) (λ_ _ _ _ _ _=>X6.keep) B' (r:=[.int .i64 last.Const,.ref q10 0 last.Coeffs.length,.ref n 0 (x.Rows.length+1)]) (d:=⟨last,List.replicate x.Rows.length 0,1⟩) (by simp[Iq]) ⟨_,_,rfl,.inr (.inr ⟨q10,by omega,rfl,by simp[fr q10 q4,eq]⟩),.inr ⟨n,by omega,by rw[hul],by simp⟩⟩ (by omega) (by unfold Jb;omega) ?_;intro h' k1 k2 k3;simp;exact hK _ _ _ (by simp) (by omega) (λid hid hv=>by rw[k2 id (by omega) hv];simp[fr id hid]) (by simpa using k3)
end
section
variable {ks:List Kt}{s:Jm}{h h':J8}{n:Nat}{Q:Xc}
theorem Jge{x:Xm}{m n0:Nat}{h0:J8}{F:Option (List Kd)}{l0:List Kd}(hm:m<=20)(hx:0<=x.N/\x.N<=8)(s2:s 2 = .ptr 0 0 0)(s4:s 4 = .ptr 2 0 0)(e0:h0 0=some ⟨true,2,[Kv x]⟩)(e2:h0 2=some ⟨true,2,[[.int .i64 0,.nil 1]]⟩)(hn0:2<n0)(hn:n0<=n)(hf:∀id,id<n0->h id=h0 id)
 (hg0:∀d∈l0,GD x.N.toNat m d) (hl0:l0.length<=60) (B0:K6 X6 3 n0 l0 (s 7) h n) (hF:Qa 0 x.N.toNat l0=F)
 (hret:F=Option.none->∀s' h' n',s' 4 = .ptr 2 0 0->s' 5 = .bool false->h' 2=some ⟨true,2,[[.int .i64 0,.nil 1]]⟩->Ju prog ks .ret s' h' n' Q)
 (hK:∀s' h' n' L,(∀j∈[2,3,4,6],s' j=s j)->n0<=n'->(∀id,id<n0->h' id=h0 id)->F=some L->L.length<=60->K6 X6 3 n0 L (s' 7) h' n'->Ju prog ks .normal s' h' n' Q):rC prog Sy ks s h n Q:=by
 have e0':∀{h':J8},(∀id,id<n0->h' id=h0 id)->h' 0=some ⟨true,2,[[.int .i64 x.N,.sl 2 (x.Rows.map Ja)]]⟩:=λhh=>by rw[hh 0 (by omega),e0];rfl
 have hN:((x.N.toNat:Nat):Int)=x.N:=by omega
 simp[Sy];refine Ki [2,3,4,6] 13 x.N.toNat (λi s h m'=>n0<=m'/\(∀id,id<n0->h id=h0 id)/\∃l,(∀d∈l,GD x.N.toNat m d)/\l.length<=60/\K6 X6 3 n0 l (s 7) h m'/\Qa i (x.N.toNat - i) l=F) (by unfold Jb;omega) (by simp) ⟨hn,hf,l0,hg0,hl0,by simpa using B0,by simpa using hF⟩ ?_ ?_
 ·rintro i st h1 m1 R hi hgi hk s13 hw ⟨hm1,hf1,l,hg,hl,B,hJ⟩ hR hrt _;simp at hk;have hiN:(i:Int)<x.N:=by omega
  refine Jn (Js [2,3,4,6,7,13] (λs=>s 78 = .bool true) (by simp[hk,s13,s2,e0' hf1,hiN]) ?_);intro Jv hk1 s78;simp at hk1;refine Uh s78 (Jn (Xg ?_));have hl2:=Ri (v:=i) (l:=l);have h60:l.length*l.length<=60*60:=Nat.mul_le_mul hl hl;refine Xo [2,3,4,6,13] (λs h' m'=>m1<=m'/\(∀id,id<m1->h' id=h1 id)/\K6 X6 3 m1 (Vh i l) (s 7) h' m') ?_ ?_
  ·simp[hk1,s13];refine J2e hg hm hi hl (B.low (Nat.zero_le _)) ?_;intro a h' n' g1 g2 g3;simp;exact⟨g1,g2,g3⟩
  rintro st2 h2 m2 hk2 ⟨hm2,hf2,B2⟩;simp at hk2;have hf20:∀id,id<n0->h2 id=h0 id:=λid hid=>by rw[hf2 id (by omega),hf1 id hid]
  have hs:x.N.toNat - i=(x.N.toNat - (i+1))+1:=by omega
  rw[hs]at hJ;refine Js [2,3,4,6,7,13] (λs=>s 86 = .bool (decide (60<(Vh i l).length))) ?_ ?_
  ·simp;refine Gd B2 (by unfold Jb;omega) ?_;simp;omega
  intro Kl hk3 s86;simp at hk3;by_cases h6:(Vh i l).length<=60
  ·rw[J9y h6]at hJ;have h6':¬60<(Vh i l).length:=by omega
   simp[s86,h6',hk3,hk2,hk1,s13,hw];exact hR _ _ _ (by simp[hk3,hk2,hk1,hk]) (by simp) ⟨by omega,hf20,_,J5b hg,h6,by simpa[hk3]using B2.low hm1,hJ⟩
  ·rw[J9w h6]at hJ;have h6':60<(Vh i l).length:=by omega
   have x4:h2 2=some ⟨true,2,[[.int .i64 0,.nil 1]]⟩:=by rw[hf20 2 hn0,e2]
   simp[s86,h6',hk3,hk2,hk1,hk,s4,x4];refine hrt _ _ _ (hret hJ.symm _ _ _ (by simp[hk3,hk2,hk1,hk,s4]) (by simp) (by simp))
 ·rintro st h1 m1 R hk s13 ⟨hm1,hf1,l,hg,hl,B,hJ⟩ hrt hX;simp at hk;rw[Nat.sub_self]at hJ;simp only[Qa]at hJ;have hiN:¬((x.N.toNat:Nat):Int)<x.N:=by omega
  refine Jn (Js [2,3,4,6,7] (λs=>s 78 = .bool false) (by simp[hk,s13,s2,e0' hf1];omega) ?_);intro Jv hk1 s78;simp at hk1;refine U3 s78 ?_;refine hX _ _ _ _ ?_;simp;exact hK _ _ _ l (by simp[hk1,hk]) hm1 hf1 hJ.symm hl (by simpa[hk1]using B)
theorem Jn5{L:List Kd}{v:AV}{i lo:Nat}(B:K6 X6 3 lo L v h n)(hi:i<L.length)(h20:L[i].mult.length<=20)(s7:s 7=v)(s14:s 14 = .int .i64 i)(s6:s 6 = .int .i64 L[i].mult.length)
 (hK:∀s' h' n' k q,(∀j∈[2,3,4,6,7,14],s' j=s j)->n<=n'->(∀id,id<n->h' id=h id)->s' 15 = .ptr k 0 0->n<=k->k<n'->n<=q->q<n'->¬k=q->h' k=some ⟨true,2,[[.int .i64 L[i].scale,.ref q 0 L[i].mult.length]]⟩->h' q=some ⟨false,1,Jg L[i].mult⟩->Ju prog ks .normal s' h' n' Q):rC prog skh ks s h n Q:=by
 have fr:∀id,id<n->¬id=n/\¬id=n+1/\¬id=n+1+1:=by intro id _;omega
 have ne:¬n=n+1/\¬n+1=n/\¬n=n+1+1/\¬n+1+1=n/\¬n+1=n+1+1/\¬n+1+1=n+1:=by omega
 rcases B with ⟨_,rfl⟩|⟨id,rows,_,hid,rfl,e,hl,hx⟩
 ·simp at hi
 obtain⟨r,g1,v1,v2,rfl,_,g2⟩:=hx i L[i] (List.getElem?_eq_getElem hi);have hir:i<rows.length:=by omega
 rw[List.getElem?_eq_getElem hir]at g1;have hr:=Option.some.inj g1;rcases g2 with ⟨_,hz⟩|⟨im,him,rfl,eim⟩
 ·simp at hz
 generalize hmu:L[i].mult=mu at *;generalize hsc:L[i].scale=sc at *;have f1:=fr id hid;have f2:=fr im him;have hii:¬im=id:=by rintro rfl;rw[e]at eim;simp at eim
 have hlt:(mu.length:Int)<(mu.length:Int)+1:=by omega
 have ht:List.take mu.length (Jg (mu++[sc]))=Jg mu:=by simp[Jg]
 have hii2:¬id=im:=λe=>hii e.symm
 have f3:¬n=im/\¬n+1=im/\¬n+1+1=im:=by omega
 have hl8:mu.length*8<=Jb:=by unfold Jb;omega
 have hl9:(mu.length:Int)<=(mu.length:Int)+1:=by omega
 have hfr:∀j,(if j=im then some (⟨false,1,Jg (mu++[sc])⟩:Yd)else h j)=h j:=λj=>by
  by_cases hj:j=im
  ·subst hj;simp[eim]
  ·simp[hj]
 simp[skh,s7,s14,s6,e,hi,hir,hr,eim,Yx,hlt,f1,f2,f3,hii2,ht,ne,hl8,hl9];refine⟨⟨?_,?_⟩,?_⟩
 ·exact hK _ _ _ (n+1+1) (n+1) (by simp[s7,s14,s6]) (by omega) (λj hj=>by simp[fr j hj,hfr j]) (by simp) (by omega) (by omega) (by omega) (by omega) (by omega) (by simp) (by simp)
 ·exact hK _ _ _ (n+1) (n+1+1) (by simp[s7,s14,s6]) (by omega) (λj hj=>by simp[fr j hj,hfr j]) (by simp) (by omega) (by omega) (by omega) (by omega) (by omega) (by simp) (by simp)
 ·exact hK _ _ _ n (n+1+1) (by simp[s7,s14,s6]) (by omega) (λj hj=>by simp[fr j hj,hfr j]) (by simp) (by omega) (by omega) (by omega) (by omega) (by omega) (by simp) (by simp[ne])
theorem Jhs{x:Xm}{t:Jc}{L:List Kd}{n0:Nat}(hgL:∀d∈L,d.mult.length=x.Rows.length)(hm:x.Rows.length<=20)(hL:L.length<=60)(hn0:2<n0)(hn:n0<=n)(s2:s 2 = .ptr 0 0 0)(s3:s 3 = .ptr 1 0 0)(s4:s 4 = .ptr 2 0 0)(s6:s 6 = .int .i64 x.Rows.length)(e0:h 0=some ⟨true,2,[Kv x]⟩)(e1:h 1=some ⟨true,2,[Ja t]⟩)(e2:h 2=some ⟨true,2,[[.int .i64 0,.nil 1]]⟩)(B0:K6 X6 3 n0 L (s 7) h n)
 (hret:∀s' h' n',Bv (Q1 x t L) s' h' n'->Ju prog ks .ret s' h' n' Q)
 (hK:∀s' h' n',Q1 x t L=Option.none->s' 4 = .ptr 2 0 0->h' 2=some ⟨true,2,[[.int .i64 0,.nil 1]]⟩->Ju prog ks .normal s' h' n' Q):rC prog Jw7 ks s h n Q:=by
 simp[Jw7];refine Ki [2,3,4,6,7] 14 L.length (λi s h' m=>h'=h/\m=n/\Q1 x t (L.drop i)=Q1 x t L) (by unfold Jb;omega) (by simp) ⟨rfl,rfl,by simp⟩ ?_ ?_
 ·rintro i st h1 m1 R hi hgi hk s14 hw ⟨rfl,rfl,hJ⟩ hR hrt _;simp at hk;rw[drop_eq_getElem_cons hi]at hJ;have hmi:=hgL _ (List.getElem_mem hi);refine Jn (Js [2,3,4,6,7,14] (λs=>s 91 = .bool true) ?_ ?_)
  ·simp[hk,s14];refine Gd B0 (by unfold Jb;omega) ?_;simp[hk,s14,hi]
  intro Jv hk1 s91;simp at hk1;refine Uh s91 (Jn (Xg ?_));refine Js [2,3,4,6,7,14] (λs=>s 100 = .bool (decide ((L[i]).l.Const<0))) ?_ ?_
  ·simp[skg,hk1,hk,s14];refine E1 B0 hi ?_;intro id rows r hid e hl hr hD;obtain⟨v1,v2,rfl,g1,g2⟩:=hD;simp[e,hl,hr]
  intro st2 hk2 s100;simp at hk2;by_cases hc:(L[i]).l.Const<0
  ·have hfind:Q1 x t (L[i]::L.drop (i+1))=if Qz x t ⟨L[i].scale,L[i].mult⟩then some ⟨L[i].scale,L[i].mult⟩else Option.none:=by
    unfold Q1;rw[List.find?_cons,decide_eq_true hc]
   rw[hfind]at hJ;simp[s100,hc,ski];refine Jn5 B0 hi (by rw[hmi];exact hm) (by simp[hk2,hk1,hk]) (by simp[hk2,hk1,s14]) (by rw[hk2.2.2.2.1,hk1.2.2.2.1,hk.2.2.2.1,s6,hmi]) ?_;intro Kl h3 m3 k q hk3 hm3 hf3 s15 hk15 hkm hq hqm hkq ek eq;simp at hk3;have e0':h3 0=some ⟨true,2,[Kv x]⟩:=by rw[hf3 0 (by omega),e0]
   have e1':h3 1=some ⟨true,2,[Ja t]⟩:=by rw[hf3 1 (by omega),e1]
   have e2':h3 2=some ⟨true,2,[[.int .i64 0,.nil 1]]⟩:=by rw[hf3 2 (by omega),e2]
   have y2:Kl 2 = .ptr 0 0 0:=by rw[hk3.1,hk2.1,hk1.1,hk.1,s2]
   have y3:Kl 3 = .ptr 1 0 0:=by rw[hk3.2.1,hk2.2.1,hk1.2.1,hk.2.1,s3]
   have y4:Kl 4 = .ptr 2 0 0:=by rw[hk3.2.2.1,hk2.2.2.1,hk1.2.2.1,hk.2.2.1,s4]
   have n2:¬k=2:=by omega
   have hb:∀H:J8,H q=some ⟨false,1,Jg L[i].mult⟩->bw (.ref q 0 L[i].mult.length) H=some (.sl 1 (Jg L[i].mult)):=λH hH=>by simp[hH]
   simp[y2,y3,s15,e0',e1',ek,Kv,Ja];refine Jd (J43 x t ⟨L[i].scale,L[i].mult⟩) ?_ ?_
   ·simp only[U0,bw];simp[eq,Kv,Ja,Up]
   rintro r rfl;cases hch:Qz x t ⟨L[i].scale,L[i].mult⟩
   ·rw[hch]at hJ;simp[y4,e2'];refine hrt _ _ _ (hret _ _ _ ?_);rw[<-hJ];exact Bv.no (by simp[y4]) (by simp) (by simp)
   ·rw[hch]at hJ;simp[y4,e2',s15,ek];refine hrt _ _ _ (hret _ _ _ ?_);rw[<-hJ];refine⟨by simp[y4],by simp,.ref q 0 L[i].mult.length,by simp,.inr ⟨q,hqm,rfl,?_⟩⟩;have:¬q=2:=by omega
    simp[this,eq]
  ·have hfind:Q1 x t (L[i]::L.drop (i+1))=Q1 x t (L.drop (i+1)):=by
    unfold Q1;rw[List.find?_cons,decide_eq_false hc]
   rw[hfind]at hJ;simp[s100,hc,hk2,hk1,s14,hw];exact hR _ _ _ (by simp[hk2,hk1,hk]) (by simp) ⟨rfl,rfl,hJ⟩
 ·rintro st h1 m1 R hk s14 ⟨rfl,rfl,hJ⟩ hrt hX;simp at hk;rw[drop_eq_nil_of_le (by omega)]at hJ;refine Jn (Js [2,3,4] (λs=>s 91 = .bool false) ?_ ?_)
  ·simp[hk,s14];refine Gd B0 (by unfold Jb;omega) ?_;simp[hk]
  intro Jv hk1 s91;simp at hk1;refine U3 s91 ?_;refine hX _ _ _ _ ?_;simp;exact hK _ _ _ hJ.symm (by simp[hk1,hk,s4]) e2
end
theorem J0v(x:Xm)(t:Jc):Holds prog 170 [.agg (Kv x),.agg (Ja t)] (λr=>r=O7 (Oh x t)):=by
 refine Jp Tryz.func170 a170_ok rfl (by simp[a170]) ?_;simp[a170,sk0,sk1];refine Jd (J0a x) (by simp) ?_;rintro r rfl;generalize hF:Oh x t=F;cases h1:Q4 x
 ·have:=Sr (x:=x) (t:=t) (by rw[h1];rfl);rw[this]at hF;subst hF;simp[O7,Gl,Y9,Jg]
 simp[Kv];refine Jd (Ge t x.N) (by simp) ?_;rintro r rfl;cases h2:K4 t x.N
 ·have:=Sr (x:=x) (t:=t) (by rw[h1,h2];rfl);rw[this]at hF;subst hF;simp[O7,Gl,Y9,Jg]
 have hsys:=Md h1;simp[sk2,sk3];intro _;refine Jl5 (x:=x) (n0:=3) (h0:=upd (upd (upd Ga 0 (some ⟨true,2,[Kv x]⟩)) 1 (some ⟨true,2,[Ja t]⟩)) 2 (some ⟨true,2,[[.int .i64 0,.nil 1]]⟩)) hsys.1 (by simp) (by simp) (by simp) (by omega) (by omega) ?_ ?_ ?_
 ·intro id hid;have:¬id=3:=by omega
  simp[this,Kv,Ja]
 ·exact .inr ⟨3,[],Nat.le_refl _,by omega,by simp,by simp,rfl,by simp⟩
 intro s4 h4 n4 hk4 hn4 hf4 B4;simp at hk4;simp;have z0:h4 0=some ⟨true,2,[Kv x]⟩:=by rw[hf4 0 (by omega)];simp
 have z1:h4 1=some ⟨true,2,[Ja t]⟩:=by rw[hf4 1 (by omega)];simp
 have z2:h4 2=some ⟨true,2,[[.int .i64 0,.nil 1]]⟩:=by rw[hf4 2 (by omega)];simp
 refine Jne (x:=x) (t:=t) (by simp[hk4]) (by simp[hk4]) z0 z1 ?_;intro s5 h5 n5 k10 q10 hk5 hn5 hf5 s11 s10 L5;simp at hk5;simp;have B5:K6 X6 3 3 (Wz x.Rows) (s4 7) h5 n5:=K6.keep (R:=X6) (λ_ _ _ _ _ _=>X6.keep) B4 hn5 (Ko.of hf5) λid rows _ hid _ e=>by rw[hf5 id hid,e]
 have y0:h5 0=some ⟨true,2,[Kv x]⟩:=by rw[hf5 0 (by omega),z0]
 have y1:h5 1=some ⟨true,2,[Ja t]⟩:=by rw[hf5 1 (by omega),z1]
 have y2:h5 2=some ⟨true,2,[[.int .i64 0,.nil 1]]⟩:=by rw[hf5 2 (by omega),z2]
 cases hT:Kg (Jo (-1) x.N) (-1) t with
 |none=>
  rw[Jcx hT]at hF;subst hF
  simp[sk6,s11,hT,hk5,hk4,y2,O7,Gl,Y9,Jg]
 |some last=>
  rw[Jcf (by rw[h1,h2];rfl) hT]at hF;rw[hT]at s11 L5;simp only[Option.getD_some]at L5;simp[sk6,s11];rw[<-Gg];refine Jf2 (x:=x) (last:=last) (acc:=Wz x.Rows) (lo:=3) hsys.1 (by simp[hk5,hk4]) (by simp[s10]) L5 (by omega) (by simpa[hk5]using B5) (by simp[Wz];omega) ?_;intro s6 h6 n6 hk6 hn6 hf6 B6;simp at hk6;rw[Gg]
  have hne:∀id,id<3->∀k,s5 7 ≠ .ref id 0 k:=λid hid k e=>by have:=B4.from id k (by rw[<-hk5.2.2.2.2];exact e);omega
  have hf60:∀id,id<3->h6 id=h4 id:=λid hid=>by rw[hf6 id (by omega) (by simpa using hne id hid),hf5 id (by omega)]
  rw[show Wz x.Rows++[⟨last,List.replicate x.Rows.length 0,1⟩]=Hj x.Rows last from rfl]at B6;refine Jge (x:=x) (n0:=3) (h0:=h4) (F:=Qa 0 x.N.toNat (Hj x.Rows last)) hsys.1 hsys.2.1 (by simp[hk6,hk5,hk4]) (by simp[hk6,hk5,hk4]) z0 z2 (by omega) (by omega) hf60 (Rg h1 hT) (by rw[J4n];omega) B6 rfl ?_ ?_
  ·intro hn s' h' n' x4 x5 x2;rw[hn]at hF;simp at hF;subst hF;simp only[Pv,Rw];exact(Bv.no (n:=n') x4 x5 x2).fin
  ·intro s7' h7 n7 L hk7 hn7 hf7 hL hLl B7;have hgd:=Jbw (Rg h1 hT) hL;rw[hL]at hF;simp only[Option.bind_some]at hF;simp at hk7;simp;refine Jhs (x:=x) (t:=t) (n0:=3) (λd hd=>(hgd d hd).len) hsys.1 hLl (by omega) hn7 (by simp[hk7,hk6,hk5,hk4]) (by simp[hk7,hk6,hk5,hk4]) (by simp[hk7,hk6,hk5,hk4]) (by simp[hk7,hk6,hk5,hk4]) (by rw[hf7 0 (by omega),z0]) (by rw[hf7 1 (by omega),z1]) (by rw[hf7 2 (by omega),z2]) B7 ?_ ?_
   ·intro s' h' n' hr;rw[hF]at hr;simp only[Pv,Rw];exact hr.fin
   ·intro s' h' n' hno x4 x2;rw[hno]at hF;subst hF;simp[Jzn,x4,x2,O7,Gl,Y9,Jg]
def a131:Jk:= ⟨31,[.t 2,.t 3],(Zq [Zo 2 (.mv (.k (.nil 2))),Zt 3 false] (Zq [Zo 4 (.mv (.k (.nil 2)))] (.seq (Zq [Zv 9 0,Zn 10 9,Zi 11 0] (.blk 0 (.loop (Zq [Zb 12 .lss 11 10] (.seq (Zw 12 0) (.seq (.blk 1 (Zq [Zx 13 4 9 11,Zl 14 true 4 13,Zo 6 (.box [(.int .i64 0),(.nil 2),(.int .i64 0),(.nil 1)]),⟨no,.st 4 (.t 6) (.t 14),no⟩] (Zq [Zf 16 0 6,Zl 17 true 2 16,Zf 18 2 6,Zl 19 true 2 18,Zc 20 210 [.t 17,.t 19],Zv 15 20,Ze 21 15 0,Ze 22 15 1,Zo 7 (.box [(.int .i64 0),(.nil 1)]),⟨no,.st 2 (.t 7) (.t 21),no⟩,Zv 8 22] (.seq (Zq [Zv 23 8,ZN 24 23] (.cond (.t 24) (Zq [Zo 2 (.mv (.k (.nil 2))),Zt 3 false] .ret) .skip)) (.reg [Zv 25 4,Zl 26 true 2 7,Zo 27 (.bsl 2 [.t 26]),ZA 28 32 2 25 27,Zv 4 28]))))) (.reg [Zk 29 .add 11 1,Zv 11 29]))))))) (Zq [Zv 30 4,Zv 2 30,Zt 3 true] .ret))))⟩
theorem a131_ok:Jf prog Tryz.f131=some a131:=by kernel_rfl
def a91:Jk:= ⟨37,[.t 2,.t 3],(Zq [Zo 2 (.mv (.k (.nil 2))),Zt 3 false] (Zq [Zo 8 (.bsl 2 []),Zv 4 8] (.seq (Zq [Zi 5 0] (.blk 0 (.loop (.seq (Zq [Zv 9 5,Zv 10 0,Zn 11 10,Zb 12 .lss 9 11] (Zw 12 0)) (.seq (.blk 1 (.seq (.draw (.op (Zv 16 0) (.op (Zv 17 5) (.op (Zx 18 4 16 17) (.op (Zf 19 0 18) (.op (Zl 20 true 2 19) (.op (Zv 21 0) (.op (Zv 22 5) (.op (Zx 23 4 21 22) (.op (Zf 24 2 23) (.op (Zl 25 true 2 24) (.both (.op (Zc 26 170 [.t 20,.t 25]) (.op (Zv 15 26) (.op (Ze 27 15 0) (.op (Ze 28 15 1) (.op (Zo 6 (.box [(.int .i64 0),(.nil 1)])) (.hop ⟨no,.st 2 (.t 6) (.t 27),no⟩ [] (.op (Zv 7 28) .fin))))))) (.op (Zo 6 (.box [(.int .i64 0),(.nil 1)])) (.op (Zc 26 170 [.t 20,.t 25]) (.op (Zv 15 26) (.op (Ze 27 15 0) (.op (Ze 28 15 1) (.hop ⟨no,.st 2 (.t 6) (.t 27),no⟩ [] (.op (Zv 7 28) .fin))))))))))))))))))) (.seq (Zq [Zv 29 7,ZN 30 29] (.cond (.t 30) (Zq [Zo 31 (.bsl 2 []),Zv 2 31,Zt 3 false] .ret) .skip)) (.reg [Zv 32 4,Zl 33 true 2 6,Zo 34 (.bsl 2 [.t 33]),ZA 35 32 2 32 34,Zv 4 35])))) (.reg [Zv 13 5,Zk 14 .add 13 1,Zv 5 14])))))) (Zq [Zv 36 4,Zv 2 36,Zt 3 true] .ret))))⟩
theorem a91_ok:Jf prog Tryz.f91=some a91:=by kernel_rfl
theorem Jb7(os:List X5)(hol:os.length<=3000000):Holds prog 131 [.sl 4 (os.map Wu)] (λr=>r=E9 (Bc os)):=by
 refine Jp Tryz.func131 a131_ok rfl (by simp[a131]) ?_;simp[a131];intro _;generalize hF:Bc os=F;refine Ki [9,10] 11 os.length (λi s h m=>∃acc,acc.length=i/\Kn 0 2 (acc.map Y9) (s 4) h m/\Hu acc (os.drop i)=F) (by unfold Jb;omega) (by simp) ⟨[],rfl,.inl ⟨rfl,by simp⟩,by simpa[Bc]using hF⟩ ?_ ?_
 ·rintro i st h m R hi hg hk s11 hw ⟨acc,hal,B,hJ⟩ hR hret _;simp at hk;rw[drop_eq_getElem_cons hi]at hJ;simp only[Hu]at hJ;refine Js [4,9,10,11] (λs=>s 12 = .bool true) (by simp[hk,s11,hi]) ?_;intro Jv hk1 s12;simp at hk1;refine W9 s12 (Jn (Xg ?_));have fr:∀id,id<m->¬id=m/\¬id=m+1/\¬id=m+1+1/\¬id=m+1+1+1:=by intro id _;omega
  have ne:¬m=m+1/\¬m+1=m/\¬m=m+1+1/\¬m+1+1=m/\¬m+1=m+1+1/\¬m+1+1=m+1/\¬m+1=m+1+1+1/\¬m=m+1+1+1/\¬m+1+1=m+1+1+1:=by omega
  simp[hk1,hk,s11,hi,Wu];refine Jd (J6z (os[i]'hi).System (os[i]'hi).Target) (by simp[Kv,Ja]) ?_;rintro r rfl;unfold O7
  cases hf:Oh (os[i]).System (os[i]).Target with
  |none=>
   rw[hf]at hJ;simp only at hJ;simp[Gl,Y9];refine hret _ _ _ ?_
   simp[<-hJ,E9]
  |some f=>
   rw[hf]at hJ;simp only at hJ;simp[Y9,hk1];refine Vw (rows:=acc.map Y9) (rows2:=[[.int .i64 f.Scale,.us 1 (Jg f.Mult)]]) (B.keep (n':=m+1+1+1+1) (by omega) λid _ hid e=>by simp[fr id hid]) (by simp) (λl e=>by have:=(B.lt e).2.1;omega) (by omega) (by simp;unfold Jb;omega) ?_;intro h1 f1 f2;simp[hk1,s11,hw];refine hR _ _ _ (by simp[hk1,hk]) (by simp) ⟨acc++[f],by simp[hal],?_,hJ⟩;simp;exact .inr ⟨m+1+1+1+1,by omega,by omega,by simp,by simp[f1,Y9]⟩
 ·rintro st h m R hk s11 ⟨acc,hal,B,hJ⟩ hret hX;simp at hk;rw[drop_eq_nil_of_le (by omega)]at hJ;simp only[Hu]at hJ;refine Js [4] (λs=>s 12 = .bool false) (by simp[hk,s11]) ?_;intro Jv hk1 s12;simp at hk1;refine Ut s12 ?_;refine hX _ _ _ _ ?_;obtain⟨h',hd,_⟩:=B.dt;rw[<-hJ];simp[hk1,hd,E9]
theorem J80(os:List X5)(hol:os.length<=3000000):Holds prog 91 [.sl 4 (os.map Wu)] (λr=>r=E9 (Bc os)):=by
 refine Jp Tryz.func91 a91_ok rfl (by simp[a91]) ?_;simp[a91];generalize hF:Bc os=F;refine Ki [0] 5 os.length (λi s h m=>∃acc,acc.length=i/\(∃id,id<m/\s 4 = .ref id 0 acc.length/\h id=some ⟨false,2,acc.map Y9⟩)/\Hu acc (os.drop i)=F) (by unfold Jb;omega) (by simp) ⟨[],rfl,⟨0,by simp,by simp,by simp⟩,by simpa[Bc]using hF⟩ ?_ ?_
 ·rintro i st h m R hi hg hk s5 hw ⟨acc,hal,⟨id,hid,s4,eid⟩,hJ⟩ hR hret _;simp at hk;rw[drop_eq_getElem_cons hi]at hJ;simp only[Hu]at hJ;refine Jn (Js [0,4,5] (λs=>s 12 = .bool true) (by simp[hk,s5,hi];try(intro _;exact hi)) ?_);intro Jv hk1 s12;simp at hk1;refine Uh s12 (Jn (Xg ?_));have ne:¬m=m+1/\¬m+1=m/\¬m=m+1+1/\¬m+1+1=m/\¬m+1=m+1+1/\¬m+1+1=m+1/\¬id=m/\¬id=m+1/\¬id=m+1+1/\¬m=id/\¬m+1=id/\¬m+1+1=id:=by omega
  have ht:List.take acc.length (acc.map Y9)=acc.map Y9:=take_of_length_le (by simp)
  cases hf:Oh (os[i]).System (os[i]).Target with
  |none=>
   rw[hf]at hJ;simp only at hJ;simp[hk1,hk,s5,hi,Wu];refine⟨?_,?_⟩
   all_goals
    first|refine Jw (J0v (os[i]'hi).System (os[i]'hi).Target) (by simp[Kv,Ja]) ?_
    rintro r rfl;unfold O7;simp[hf,Gl,Y9];refine hret _ _ _ ?_
    simp[<-hJ,E9]
  |some f=>
   rw[hf]at hJ;simp only at hJ;simp[hk1,hk,s5,hi,Wu];refine⟨?_,?_⟩
   all_goals
    first|refine Jw (J0v (os[i]'hi).System (os[i]'hi).Target) (by simp[Kv,Ja]) ?_
    rintro r rfl;unfold O7;simp[hf,Y9,hk1,s5,hw,ne,s4,eid,ht];refine⟨by unfold Jb;omega,?_⟩;refine hR _ _ _ (by simp[hk1,hk]) (by simp) ⟨acc++[f],by simp[hal],⟨m+1+1+1,by omega,by simp,by simp[Y9]⟩,hJ⟩
 ·rintro st h m R hk s5 ⟨acc,hal,⟨id,hid,s4,eid⟩,hJ⟩ hret hX;simp at hk;rw[drop_eq_nil_of_le (by omega)]at hJ;simp only[Hu]at hJ;have ht:List.take acc.length (acc.map Y9)=acc.map Y9:=take_of_length_le (by simp);refine Jn (Js [4] (λs=>s 12 = .bool false) (by simp[hk,s5]) ?_);intro Jv hk1 s12;simp at hk1;refine U3 s12 ?_;refine hX _ _ _ _ ?_;rw[<-hJ];simp[hk1,s4,eid,ht,E9]
def uz0:AC:=(.reg [ZB 2 0,ZB 3 1,Zt 4 false])
def uz1:AC:=(Zq [Zl 6 true 2 2,Zc 7 61 [.t 6],ZN 8 7,Zv 9 8,Zg 10 9 false (.fld 0 (.t 3)),Zg 11 9 false (.ld false 1 (.t 10)),Zg 12 9 false (.bin .neq (.t 11) (.k (.int .i64 1))),Zg 13 9 false (.mv (.t 12)),Zg 14 13 true (.fld 0 (.t 3)),Zg 15 13 true (.ld false 1 (.t 14)),Zg 16 13 true (.bin .neq (.t 15) (.k (.int .i64 2))),Zg 17 9 false (.pick (.t 13) (.t 16) (.k (.bool false))),ZP 18 9 17,Zv 19 18,Zg 20 19 false (.fld 1 (.t 3)),Zg 21 19 false (.ld false 1 (.t 20)),Zg 22 19 false (.len false (.t 21)),Zg 23 19 false (.fld 0 (.t 2)),Zg 24 19 false (.ld false 1 (.t 23)),Zg 25 19 false (.len false (.t 24)),Zg 26 19 false (.bin .neq (.t 22) (.t 25)),ZP 27 19 26] (.cond (.t 27) (Zq [Zt 4 false] .ret) .skip))
def uz2:AC:=(Zq [Zi 5 0] (.blk 0 (.loop (.seq (Zq [Zv 28 5,Zf 29 1 3,Zl 30 false 1 29,Zn 31 30,Zb 32 .lss 28 31] (Zw 32 0)) (.seq (.blk 1 (.seq (.draw (.op (Zf 35 1 3) (.op (Zl 36 false 1 35) (.op (Zv 37 5) (.op (Zx 38 2 36 37) (.op (Zl 39 true 2 38) (.op (Zf 40 0 2) (.op (Zl 41 false 1 40) (.op (Zv 42 5) (.op (Zx 43 4 41 42) (.op (Zf 44 1 43) (.op (Zl 45 false 1 44) (.op (Zn 46 45) (.op (Zc 47 179 [.t 39,.t 46]) (.op (ZN 48 47) .fin))))))))))))))) (.cond (.t 48) (Zq [Zt 4 false] .ret) .skip))) (.reg [Zv 33 5,Zk 34 .add 33 1,Zv 5 34]))))))
def uz3:AC:=(.reg [Zt 4 true])
def a96:Jk:=⟨49,[.t 4],(.seq uz0 (.seq uz1 (.seq uz2 (.seq uz3 .ret))))⟩
theorem a96_ok:Jf prog Tryz.f96=some a96:=by kernel_rfl
theorem Jd6{k:Int} : K9 k 1 2=true↔k=1\/k=2:=by simp[K9];omega
theorem Jat(p:Jq)(hp:Ks p<=1048576)(b:X0):Holds prog 96 [.agg (Jh p),.agg (Kr b)] (λx=>x = .bool (W1 p b)):=by
 refine Vv Tryz.func96 rfl rfl λhlm=>?_
 simp[Jh,Kr]at hlm;refine Jp Tryz.func96 a96_ok rfl (by simp[a96]) ?_;simp[a96,uz0];rw[<-Gg];refine Xo [2,3,4] (λs h2 n2=>Ym p=true/\K9 b.Kind 1 2=true/\b.Lins.length=p.Functions.length/\n2=2/\h2 0=some ⟨true,2,[Jh p]⟩/\h2 1=some ⟨true,2,[Kr b]⟩) ?_ ?_
 ·simp[uz1];refine Jd (Pd p hp) (by simp) ?_;rintro r rfl;cases hpo:Ym p
  ·simp[W1,hpo]
  by_cases hk:b.Kind=1\/b.Kind=2
  ·have hin:=Jd6.2 hk;by_cases hl:b.Lins.length=p.Functions.length
   ·rcases hk with hk|hk
    ·simp[Kr,Jh,hk,hl];simp[K9]
    ·simp[Kr,Jh,hk,hl];simp[K9]
   ·have hb:W1 p b=false:=by simp[W1,Ek,hl]
    have hl':¬(b.Lins.length:Int)=p.Functions.length:=by omega
    rcases hk with hk|hk
    ·simp[Kr,Jh,hk,hl,hl',hb]
    ·simp[Kr,Jh,hk,hl,hl',hb]
  ·have hin:K9 b.Kind 1 2=false:=by
    cases h:K9 b.Kind 1 2
    ·rfl
    ·exact absurd (Jd6.1 h) hk
   have hb:W1 p b=false:=by simp[W1,hin]
   have h1:¬b.Kind=1:=λh=>hk (.inl h)
   have h2:¬b.Kind=2:=λh=>hk (.inr h)
   simp[Kr,h1,h2,hb]
 rintro Jv h1 _ hk1 ⟨hpo,hin,hbl,rfl,e0,e1⟩;simp at hk1
 have hb:W1 p b=(b.Lins.zip p.Functions).all λx=>K4 x.1 x.2.Params.length:=by simp[W1,Ek,hpo,hin,hbl]
 simp[uz2];refine Qm [2,3] 5 b.Lins.length (λi _=>((b.Lins.drop i).zip (p.Functions.drop i)).all (λx=>K4 x.1 x.2.Params.length)=W1 p b) hlm.2 (by simp) (by rw[hb];rfl) ?_ ?_
 ·rintro i s h R hi hg hk s5 hw hJ hh hR hret _;have hi':i<p.Functions.length:=by omega
  simp at hk;have d0:=hh 0;have d1:=hh 1;rw[e0]at d0;rw[e1]at d1;rw[drop_eq_getElem_cons hi,drop_eq_getElem_cons hi',List.zip_cons_cons,List.all_cons]at hJ;simp[hk,hk1,s5,hi,hi',d0,d1,Kr,Jh,K5,Ja];intro _;refine Jw (Ge (b.Lins[i]'hi) (p.Functions[i]'hi').Params.length) (by simp[Ja]) ?_;rintro r rfl;cases h0:K4 b.Lins[i] (p.Functions[i]).Params.length
  ·rw[h0]at hJ;have hJ:W1 p b=false:=by rw[<-hJ];rfl
   simp;refine hret _ _ _ ?_;simp[hJ]
  ·rw[h0,Bool.true_and]at hJ;simp[s5,hw];exact hR _ (by simp[hk]) (by simp) hJ
 ·rintro s h R hk s5 hJ hh _ hX;simp at hk;have d0:=hh 0;have d1:=hh 1;rw[e0]at d0;rw[e1]at d1;rw[drop_eq_nil_of_le (Nat.le_refl _)]at hJ;simp[hk,hk1,s5,d1,Kr];intro _;refine hX _ _ ?_;simp[uz3,<-hJ]
end Go.Proofs.YtoclolkigjbcgaaGreat
