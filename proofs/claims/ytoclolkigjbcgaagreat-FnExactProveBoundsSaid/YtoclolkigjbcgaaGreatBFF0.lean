/- Elimination: what FindFarkas computes. Plain laws. -/
import Derived.Test.YtoclolkigjbcgaaGreatBC1
import Derived.Test.YtoclolkigjbcgaaGreatBRE
namespace Go.Proofs.YtoclolkigjbcgaaGreat
open Tryz(prog)
open List(all_eq_true mem_map getElem_mem mem_append length_append take_take drop_eq_getElem_cons drop_eq_nil_of_le append_nil)
set_option maxRecDepth 40000
set_option maxHeartbeats 4000000
open Go Go.RowKit Go.Proofs
set_option linter.all false
structure Kd where
 l:Jc
 mult:List Int
 scale:Int
def Wx(j x k y:Int):Int×Bool:=((Ol (Xw j x).1 k y).1,(Xw j x).2&&(Ol (Xw j x).1 k y).2)
def Yp(j:Int)(xs:List Int)(k:Int)(ys:List Int):List (Int×Bool):=List.zipWith (λx y=>Wx j x k y) xs ys
def Qi(a:Kd)(j:Int)(b:Kd)(k:Int):Option Kd:=
 match Kg (Jo 0 a.l.Coeffs.length) j a.l with
 |Option.none=>Option.none
 |some l1=>match Kg l1 k b.l with
  |Option.none=>Option.none
  |some l2=>if (Wx j a.scale k b.scale).2&&(Yp j a.mult k b.mult).all (·.2)then some ⟨l2,(Yp j a.mult k b.mult).map (·.1),(Wx j a.scale k b.scale).1⟩else Option.none
def Kc(v:Nat)(d:Kd):Int:=d.l.Coeffs.getD v 0
def Gr(p q:Int):Nat:=Nat.gcd p.toNat q.toNat
def Gp(v:Nat)(a b:Kd):Option Kd:=
 Qi a ((-(Kc v b)).tdiv (Gr (Kc v a) (-(Kc v b)))) b ((Kc v a).tdiv (Gr (Kc v a) (-(Kc v b))))
def Io(v:Nat)(l:List Kd)(a:Kd):List Kd:=
 if Kc v a<=0 then []else l.filterMap λb=>if -(Kc v b)<=0 then Option.none else Gp v a b
def Vh(v:Nat)(l:List Kd):List Kd:=l.filter (λd=>Kc v d==0)++l.flatMap (Io v l)
def Qa:Nat->Nat->List Kd->Option (List Kd)
 |_,0,l=>some l
 |v,n+1,l=>if (Vh v l).length<=60 then Qa (v+1) n (Vh v l)else Option.none
def Qe(m k:Nat):List Int:=(List.replicate m 0).set k 1
def Hj(rows:List Jc)(last:Jc):List Kd:=
 (List.range rows.length).map (λk=>(⟨rows.getD k Jl,Qe rows.length k,0⟩:Kd))++[⟨last,List.replicate rows.length 0,1⟩]
def Gl:Xz:=⟨0,[]⟩
def Q1(s:Xm)(t:Jc)(L:List Kd):Option Xz:=
 match L.find? λd=>decide (d.l.Const<0)with
 |Option.none=>Option.none
 |some d=>if Qz s t ⟨d.scale,d.mult⟩then some ⟨d.scale,d.mult⟩else Option.none
def Oh(s:Xm)(t:Jc):Option Xz:=
 if Q4 s&&K4 t s.N then
  match Kg (Jo (-1) s.N) (-1) t with
  |Option.none=>Option.none
  |some last=>match Qa 0 s.N.toNat (Hj s.Rows last)with
   |Option.none=>Option.none
   |some L=>Q1 s t L
 else Option.none
def O7(o:Option Xz):AV := .tup [.agg (Y9 (o.getD Gl)),.bool o.isSome]
theorem Jl3{x y:Int}(h:(Uv x y).2=true):Ky (Uv x y).1=true:=by
 unfold Uv at h⊢;split at h
 ·rename_i hc;simp only[Bool.and_eq_true]at hc;rw[if_pos (by simp[hc])];exact hc.2
 ·cases h
theorem J4t{x k y v:Int}(h:U1 x k y=some v):Ky v=true:=by
 unfold U1 at h;split at h
 ·rename_i hc;simp only[Bool.and_eq_true]at hc;cases h;exact Jl3 hc.2
 ·cases h
theorem J0b{a b o:Jc}{k:Int}(h:Kg a k b=some o):K4 o a.Coeffs.length=true:=by
 obtain⟨hl,_⟩:=Rc h;unfold Kg at h;split at h
 ·rename_i hc;simp only[Bool.and_eq_true]at hc;have h1:=hc.1.1.1.1;have h4:=hc.1.2;have h5:=hc.2;have h6:=W0 h1;cases h;unfold K4;simp only[Bool.and_eq_true,decide_eq_true_eq,all_eq_true];refine⟨⟨⟨by simp[K9];omega,by simp only at hl⊢;omega⟩,?_⟩,?_⟩
  ·obtain⟨v,hv⟩:=Option.isSome_iff_exists.1 h4;rw[hv];exact J4t hv
  ·intro y hy;simp only[mem_map]at hy;obtain⟨z,hz,rfl⟩:=hy;have h7:=all_eq_true.1 h5 z hz;obtain⟨v,rfl⟩:=Option.isSome_iff_exists.1 h7;unfold Yy at hz;rw[List.mem_iff_getElem]at hz;obtain⟨i,hi,he⟩:=hz;simp only[List.getElem_zipWith]at he;exact J4t he
 ·cases h
structure GD (N m:Nat) (d:Kd):Prop where
 ok:K4 d.l N=true
 len:d.mult.length=m
theorem GD.cl {N m:Nat}{d:Kd}(g:GD N m d):d.l.Coeffs.length=N:=by have:=W0 g.ok;omega
theorem GD.coef {N m:Nat}{d:Kd}(g:GD N m d) {v:Nat}(hv:v<N):Ky (Kc v d)=true:=by
 have h:=g.ok;have hl:=g.cl;unfold K4 at h;simp only[Bool.and_eq_true,all_eq_true]at h;have hlt:v<d.l.Coeffs.length:=by omega
 have e:Kc v d=d.l.Coeffs[v]:=by simp[Kc,hlt]
 rw[e];exact h.2 _ (getElem_mem _)
theorem Jg0{N m:Nat}{a b d:Kd}{j k:Int}(ga:GD N m a)(gb:GD N m b)(h:Qi a j b k=some d):GD N m d:=by
 unfold Qi at h;have hc:=ga.cl;have h8:=W0 ga.ok
 have hk0:(Jo 0 (a.l.Coeffs.length:Int)).Coeffs.length=N:=by rw[(Eg (by decide) (by omega)).1];simp[hc]
 split at h
 ·cases h
 rename_i l1 e1;split at h
 ·cases h
 rename_i l2 e2;split at h
 ·cases h;have k1:=J0b e1;rw[hk0]at k1;have k2:=J0b e2;have k3:=W0 k1;refine⟨?_,?_⟩
  ·have:l1.Coeffs.length=N:=by omega
   rw[this]at k2;exact k2
  ·simp[Yp,ga.len,gb.len]
 ·cases h
theorem J5b{N m v:Nat}{l:List Kd}(h:∀d∈l,GD N m d):∀d∈Vh v l,GD N m d:=by
 intro d hd;unfold Vh at hd;rcases mem_append.1 hd with hd|hd
 ·exact h d (List.mem_filter.1 hd).1
 ·obtain⟨a,ha,hd⟩:=List.mem_flatMap.1 hd;unfold Io at hd;split at hd
  ·cases hd
  ·obtain⟨b,hb,he⟩:=List.mem_filterMap.1 hd;split at he
   ·cases he
   ·exact Jg0 (h a ha) (h b hb) he
theorem Jf0{v:Nat}{l:List Kd}{a:Kd} : (Io v l a).length<=l.length:=by
 unfold Io;split
 ·simp
 ·exact List.length_filterMap_le _ _
theorem J9q{v:Nat}{L:List Kd} : ∀{l:List Kd},(l.flatMap (Io v L)).length<=l.length*L.length
 | []=>by simp
 |a::l=>by have h1:=J9q (v:=v) (L:=L) (l:=l);have h2:=Jf0 (v:=v) (l:=L) (a:=a);simp only[List.flatMap_cons,length_append,List.length_cons,Nat.succ_mul];omega
theorem Ri{v:Nat}{l:List Kd} : (Vh v l).length<=l.length+l.length*l.length:=by have h1:=List.length_filter_le (λd=>Kc v d==0) l;have h2:=J9q (v:=v) (L:=l) (l:=l);unfold Vh;rw[length_append];omega
theorem J4n(rows:List Jc)(last:Jc):(Hj rows last).length=rows.length+1:=by simp[Hj]
theorem Jez{N:Nat}{rows:List Jc}{last:Jc}(h:∀r∈rows,K4 r N=true)(hl:K4 last N=true):∀d∈Hj rows last,GD N rows.length d:=by
 intro d hd;unfold Hj at hd;rcases mem_append.1 hd with hd|hd
 ·obtain⟨k,hk,rfl⟩:=mem_map.1 hd;have hk:=List.mem_range.1 hk;refine⟨?_,by simp[Qe]⟩;have e:rows.getD k Jl=rows[k]:=by simp[hk]
  show K4 (rows.getD k Jl) N=true
  rw[e];exact h _ (getElem_mem hk)
 ·simp only[List.mem_singleton]at hd;subst hd;exact⟨hl,by simp⟩
theorem Md{s:Xm}(h:Q4 s=true):s.Rows.length<=20/\(0<=s.N/\s.N<=8)/\∀r∈s.Rows,K4 r (s.N.toNat:Nat)=true:=by
 unfold Q4 at h;simp only[Bool.and_eq_true,decide_eq_true_eq,all_eq_true]at h;have h1:=h.1.1;simp[K9]at h1;refine⟨h.1.2,h1,λr hr=>?_⟩;have:((s.N.toNat:Nat):Int)=s.N:=by omega
 rw[this];exact h.2 r hr
theorem Jma{s:Xm}{t last:Jc}(hs:Q4 s=true)(h:Kg (Jo (-1) s.N) (-1) t=some last):K4 last (s.N.toNat:Nat)=true:=by
 obtain⟨_,h1,_⟩:=Md hs;have h2:=J0b h;have:s.N=(s.N.toNat:Nat):=by omega
 rw[this]at h2;rw[(Eg (by decide) (by omega)).1]at h2;simpa using h2
theorem Jai{p q:Int}(hp:0<p):0<Gr p q:=Nat.gcd_pos_of_pos_left _ (by omega)
theorem Jcc{p q:Int}(hp:0<p)(hb:p<=1000000000):Gr p q<=1000000000:=by have:=Nat.gcd_le_left (n:=q.toNat) (m:=p.toNat) (by omega);unfold Gr;omega
theorem Cr{p g:Int}(hp:0<=p)(hb:p<=1000000000)(hg:0<=g):0<=p.tdiv g/\p.tdiv g<=1000000000:=by have h1:=Int.tdiv_nonneg hp hg;have h2:=Int.tdiv_le_self g hp;omega
theorem Jbw{N m:Nat} : ∀{n v:Nat}{l L:List Kd},(∀d∈l,GD N m d)->Qa v n l=some L->∀d∈L,GD N m d
 |0,v,l,L,h,e=>by simp only[Qa,Option.some.injEq]at e;subst e;exact h
 |n+1,v,l,L,h,e=>by
  simp only[Qa]at e;split at e
  ·exact Jbw (J5b h) e
  ·cases e
theorem Rg{s:Xm}{t last:Jc}(hs:Q4 s=true)(h:Kg (Jo (-1) s.N) (-1) t=some last):∀d∈Hj s.Rows last,GD s.N.toNat s.Rows.length d:=
 Jez (Md hs).2.2 (Jma hs h)
theorem Jdn{s:Xm}{t:Jc}{f:Xz}(h:Oh s t=some f):f.Mult.length<=20:=by
 unfold Oh at h;split at h
 case isFalse=>cases h
 rename_i hc;simp only[Bool.and_eq_true]at hc;split at h
 ·cases h
 rename_i last hl;split at h
 ·cases h
 rename_i L hL;unfold Q1 at h;split at h
 ·cases h
 rename_i d hd;have hm:=List.mem_of_find?_eq_some hd;have hg:=Jbw (Rg hc.1 hl) hL d hm;have h20:=(Md hc.1).1;split at h
 ·cases h;have:=hg.len;simp only;omega
 ·cases h
def Hu:List Xz->List X5->Option (List Xz)
 |acc,[]=>some acc
 |acc,o::l=>match Oh o.System o.Target with
  |Option.none=>Option.none
  |some f=>Hu (acc++[f]) l
def Bc(os:List X5):Option (List Xz):=Hu [] os
def E9(o:Option (List Xz)):AV := .tup [.us 2 ((o.getD []).map Y9),.bool o.isSome]
theorem J6o:∀{os:List X5}{acc o:List Xz},Hu acc os=some o->(∀f∈acc,f.Mult.length<=20)->o.length=acc.length+os.length/\∀f∈o,f.Mult.length<=20
 | [],acc,o,h,ha=>by simp only[Hu,Option.some.injEq]at h;subst h;exact⟨rfl,ha⟩
 |x::os,acc,o,h,ha=>by
  simp only[Hu]at h;split at h
  ·cases h
  rename_i f hf
  have h1:=J6o h λg hg=>by
   rcases mem_append.1 hg with hg|hg
   ·exact ha g hg
   ·rw[List.mem_singleton.1 hg];exact Jdn hf
  refine⟨?_,h1.2⟩;have:=h1.1;simp at this⊢;omega
theorem J6w(os:List X5):((Bc os).getD []).length<=os.length/\∀f∈(Bc os).getD [],f.Mult.length<=20:=by
 cases h:Bc os with
 |none=>simp
 |some o=>
  have:=J6o h (by simp);simp only[Option.getD_some];exact⟨by have:=this.1;simp at this;omega,this.2⟩
theorem a162_ok:Jf prog Tryz.f162=some (Bf true 4):=by kernel_rfl
def a252:Jk:= ⟨8,[.t 2],(Zq [Zo 2 (.mv (.k (.nil 1)))] (.seq (Zq [Zv 3 0,Zo 4 (.inil false (.t 3))] (.cond (.t 4) (Zq [Zo 2 (.mv (.k (.nil 1)))] .ret) .skip)) (Zq [Zo 5 (.bsl 1 []),Zv 6 0,ZA 7 16 1 5 6,Zv 2 7] .ret)))⟩
theorem a252_ok:Jf prog Tryz.f252=some a252:=by kernel_rfl
def a209:Jk:= ⟨19,[.t 2],(Zq [Zo 2 (.mv (.k (.nil 2)))] (Zq [Zo 3 (.mv (.k (.nil 2)))] (.seq (Zq [Zv 6 0,Zn 7 6,Zi 8 0] (.blk 0 (.loop (Zq [Zb 9 .lss 8 7] (.seq (Zw 9 0) (.seq (.blk 1 (Zq [Zx 10 2 6 8,Zl 11 true 2 10,Zo 5 (.box [(.int .i64 0),(.nil 1)]),⟨no,.st 2 (.t 5) (.t 11),no⟩] (.reg [Zv 12 3,Zl 13 true 2 5,Zc 14 86 [.t 13],Zo 15 (.bsl 2 [.t 14]),ZA 16 32 2 12 15,Zv 3 16]))) (.reg [Zk 17 .add 8 1,Zv 8 17]))))))) (Zq [Zv 18 3,Zv 2 18] .ret))))⟩
theorem a209_ok:Jf prog Tryz.f209=some a209:=by kernel_rfl
def a164:Jk:= ⟨14,[(.c 2 true 4)],(Zq [ZB 1 0,Zo 2 (.box [(.str []),(.nil 1),(.bool false),(.nil 2)])] (.seq (.draw (.op (Zf 3 0 1) (.op (Zl 4 false 1 3) (.op (Zf 5 1 1) (.op (Zl 6 false 1 5) (.op (Zf 8 2 1) (.op (Zl 9 false 1 8) (.op (Zf 10 3 1) (.op (Zl 11 false 1 10) (.op (Zc 7 252 [.t 6]) (.op (Zc 12 209 [.t 11]) (.op (Zo 13 (.build [(.str []),(.nil 1),(.bool false),(.nil 2)] [(0,(1,(.t 4))),(1,(1,(.t 7))),(2,(1,(.t 9))),(3,(1,(.t 12)))])) (.hop ⟨no,.st 4 (.t 2) (.t 13),no⟩ [] .fin))))))))))))) .ret))⟩
theorem a164_ok:Jf prog Tryz.f164=some a164:=by kernel_rfl
def a163:Jk:= ⟨8,[.t 3],(Zq [ZB 2 0,Zt 3 false] (Zq [Zf 4 0 2,Zl 5 false 1 4,Zl 6 false 1 1,Zb 7 .eql 5 6,Zv 3 7] .ret))⟩
theorem a163_ok:Jf prog Tryz.f163=some a163:=by kernel_rfl
def a84:Jk:= ⟨9,[.t 4],(Zq [ZB 2 0,ZB 3 1,Zi 4 0] (Zq [Zf 5 0 2,Zl 6 false 1 5,Zo 7 (.mkf (.func 163) [] [.t 3]),Zc 8 162 [.t 6,.t 7],Zv 4 8] .ret))⟩
theorem a84_ok:Jf prog Tryz.f84=some a84:=by kernel_rfl
def a176:Jk:= ⟨19,[(.c 4 true 4),.t 5],(Zq [ZB 2 0,Zo 4 (.box [(.str []),(.nil 1),(.bool false),(.nil 2)]),Zt 5 false] (Zq [Zl 7 true 2 2,Zv 8 1,Zc 9 84 [.t 7,.t 8],Zv 6 9] (.seq (Zq [Zv 10 6,Zk 11 .lss 10 0] (.cond (.t 11) (Zq [Zo 12 (.build [(.str []),(.nil 1),(.bool false),(.nil 2)] []),⟨no,.st 4 (.t 4) (.t 12),no⟩,Zt 5 false] .ret) .skip)) (Zq [Zf 13 0 2,Zl 14 false 1 13,Zv 15 6,Zx 16 4 14 15,Zl 17 true 4 16,Zc 18 164 [.t 17],⟨no,.st 4 (.t 4) (.t 18),no⟩,Zt 5 true] .ret))))⟩
theorem a176_ok:Jf prog Tryz.f176=some a176:=by kernel_rfl
def a160:Jk:= ⟨33,[(.c 2 true 4)],(Zq [ZB 1 0,Zo 2 (.box [(.str []),(.nil 1),(.bool false),(.nil 2)])] (.seq (.draw (.op (Zf 5 0 1) (.op (Zl 6 false 1 5) (.op (Zf 8 1 1) (.op (Zl 9 false 1 8) (.op (Zf 11 2 1) (.op (Zl 12 false 1 11) (.both (.hop (Zo 7 (.bsl 1 [])) [(.ld false 1 (.t 11)),(.fld 2 (.t 1)),(.ld false 1 (.t 8)),(.fld 1 (.t 1)),(.ld false 1 (.t 5)),(.fld 0 (.t 1))] (.both (.hop (ZA 10 16 1 7 9) [(.ld false 1 (.t 11)),(.fld 2 (.t 1)),(.ld false 1 (.t 5)),(.fld 0 (.t 1))] (.op (Zo 13 (.build [(.str []),(.nil 1),(.bool false),(.nil 2)] [(0,(1,(.t 6))),(1,(1,(.t 10))),(2,(1,(.t 12)))])) (.op (Zo 3 (.box [(.str []),(.nil 1),(.bool false),(.nil 2)])) (.hop ⟨no,.st 4 (.t 3) (.t 13),no⟩ [] .fin)))) (.op (Zo 3 (.box [(.str []),(.nil 1),(.bool false),(.nil 2)])) (.hop (ZA 10 16 1 7 9) [(.ld false 1 (.t 11)),(.fld 2 (.t 1)),(.ld false 1 (.t 5)),(.fld 0 (.t 1))] (.op (Zo 13 (.build [(.str []),(.nil 1),(.bool false),(.nil 2)] [(0,(1,(.t 6))),(1,(1,(.t 10))),(2,(1,(.t 12)))])) (.hop ⟨no,.st 4 (.t 3) (.t 13),no⟩ [] .fin)))))) (.op (Zo 3 (.box [(.str []),(.nil 1),(.bool false),(.nil 2)])) (.hop (Zo 7 (.bsl 1 [])) [(.ld false 1 (.t 11)),(.fld 2 (.t 1)),(.ld false 1 (.t 8)),(.fld 1 (.t 1)),(.ld false 1 (.t 5)),(.fld 0 (.t 1))] (.hop (ZA 10 16 1 7 9) [(.ld false 1 (.t 11)),(.fld 2 (.t 1)),(.ld false 1 (.t 5)),(.fld 0 (.t 1))] (.op (Zo 13 (.build [(.str []),(.nil 1),(.bool false),(.nil 2)] [(0,(1,(.t 6))),(1,(1,(.t 10))),(2,(1,(.t 12)))])) (.hop ⟨no,.st 4 (.t 3) (.t 13),no⟩ [] .fin))))))))))))) (.seq (Zq [Zi 4 0] (.blk 0 (.loop (.seq (Zq [Zv 14 4,Zf 15 3 1,Zl 16 false 1 15,Zn 17 16,Zb 18 .lss 14 17] (Zw 18 0)) (.seq (.blk 1 (.draw (.op (Zf 21 3 3) (.op (Zl 22 false 1 21) (.op (Zf 23 3 1) (.op (Zl 24 false 1 23) (.op (Zv 25 4) (.op (Zx 26 2 24 25) (.op (Zl 27 true 2 26) (.op (Zc 28 82 [.t 27]) (.hop (Zo 29 (.bsl 2 [.t 28])) [(.ld false 1 (.t 21)),(.fld 3 (.t 3))] (.hop (ZA 30 32 2 22 29) [] (.op (Zf 31 3 3) (.hop ⟨no,.st 1 (.t 31) (.t 30),no⟩ [] .fin)))))))))))))) (.reg [Zv 19 4,Zk 20 .add 19 1,Zv 4 20])))))) (Zq [Zl 32 true 4 3,⟨no,.st 4 (.t 2) (.t 32),no⟩] .ret))))⟩
theorem a160_ok:Jf prog Tryz.f160=some a160:=by kernel_rfl
def a172:Jk:= ⟨29,[(.c 4 true 4),.t 5],(Zq [ZB 2 0,Zo 4 (.box [(.str []),(.nil 1),(.bool false),(.nil 2)]),Zt 5 false] (.seq (Zq [Zi 6 0] (.blk 0 (.loop (.seq (Zq [Zv 7 6,Zf 8 0 2,Zl 9 false 1 8,Zn 10 9,Zb 11 .lss 7 10] (Zw 11 0)) (.seq (.blk 1 (Zq [Zf 14 0 2,Zl 15 false 1 14,Zv 16 6,Zx 17 4 15 16,Zf 18 0 17,Zl 19 false 1 18,Zv 20 1,Zb 21 .eql 19 20] (.cond (.t 21) (Zq [Zf 22 0 2,Zl 23 false 1 22,Zv 24 6,Zx 25 4 23 24,Zl 26 true 4 25,Zc 27 160 [.t 26],⟨no,.st 4 (.t 4) (.t 27),no⟩,Zt 5 true] .ret) .skip))) (.reg [Zv 12 6,Zk 13 .add 12 1,Zv 6 13])))))) (Zq [Zo 28 (.build [(.str []),(.nil 1),(.bool false),(.nil 2)] []),⟨no,.st 4 (.t 4) (.t 28),no⟩,Zt 5 false] .ret)))⟩
theorem a172_ok:Jf prog Tryz.f172=some a172:=by kernel_rfl
theorem J50(l:List Je)(hl:l.length<=1048576):Holds prog 252 [.sl 1 (Ji l)] (λr=>r = .us 1 (Ji l)):=by refine Jp Tryz.func252 a252_ok rfl (by simp[a252]) ?_;simp[a252];unfold Jb;omega
theorem J46(l:List Jc)(hw:W5 l<=1048576):Holds prog 209 [.sl 2 (l.map Ja)] (λr=>r = .us 2 (l.map J9)):=by
 have hlen:l.length<=1048576:=Nat.le_trans (Yk U9 l) hw;refine Jp Tryz.func209 a209_ok rfl (by simp[a209]) ?_;simp[a209];intro hlm;refine Ki [6,7] 8 l.length (λi s h n=>(i=0/\s 3 = .nil 2)\/∃id,id<n/\s 3 = .ref id 0 i/\h id=some ⟨false,2,(l.map J9).take i⟩) hlm (by simp) (by simp) ?_ ?_
 ·rintro i s h n R hi hg hk s8 hw8 hJ hR _ _;simp at hk
  have hwi:(l[i]).Coeffs.length<=1048576:=by have:=W6 (w:=U9) (getElem_mem hi);unfold W5 at hw;rw[show U9 l[i]=(l[i]).Coeffs.length from rfl]at this;omega
  have htk:(l.map J9).take (i+1)=(l.map J9).take i++[J9 l[i]]:=by rw[List.take_succ_eq_append_getElem (by simpa using hi)];simp
  rcases hJ with ⟨rfl,s3⟩|⟨id,hid,s3,eid⟩
  ·simp[hk,s8,hi,s3,Ja];refine Jd (Nu (l[0]'hi) hwi) (by simp[Ja]) ?_;rintro r rfl;simp[s8,J9];refine⟨by unfold Jb;omega,?_⟩;exact hR _ _ _ (by simp[hk]) (by simp;exact Kk (by omega)) (.inr ⟨n+3,by omega,by simp,by simp[htk,J9]⟩)
  ·have n0:¬id=n:=by omega
   have n1:¬id=n+1:=by omega
   have n2:¬id=n+1+1:=by omega
   have n3:¬n+1+1=id:=by omega
   have n4:¬n+1=id:=by omega
   simp[hk,s8,hi,s3,Ja];refine Jd (Nu (l[i]'hi) hwi) (by simp[Ja]) ?_;rintro r rfl;simp[s8,hw8,J9,eid,n0,n1,n2,n3];refine⟨by omega,by unfold Jb;omega,?_⟩;exact hR _ _ _ (by simp[hk]) (by simp) (.inr ⟨n+3,by omega,by simp,by simp[htk,J9,take_take]⟩)
 ·rintro s h n R hk s8 hJ hret hX;simp at hk;simp[hk,s8];refine hX _ _ _ _ ?_;rcases hJ with ⟨h0,s3⟩|⟨id,hid,s3,eid⟩
  ·have:l=[]:=List.eq_nil_of_length_eq_zero h0;subst this;simp[s3]
  ·simp[s3,eid]
theorem J44(f:K3)(hw:Ys f<=1048576):Holds prog 164 [.agg (K5 f)] (λr=>r = .agg (Xk f)):=by
 have hw':=hw;unfold Ys at hw';have hl:f.Params.length<=1048576:=by have:=Yk List.length f.Params;unfold Ir at hw';omega
 refine Jp Tryz.func164 a164_ok rfl (by simp[a164]) ?_;simp[a164,K5];refine Jw (J50 f.Params hl) (by simp) ?_;rintro r rfl;simp;refine Jw (J46 f.Pre (by omega)) (by simp) ?_;rintro r rfl;simp[Xk]
def Kw(l:List K3)(name:Je):Option K3:=l.find? λf=>f.Name==name
def Yf:K3:=⟨[],[],false,[]⟩
def Q7(o:Option K3):AV := .tup [.agg (Xk (o.getD Yf)),.bool o.isSome]
theorem Rx{α:Type}{p:α->Bool} : ∀{l:List α}{k:Nat},(l.find? p=Option.none/\Y6 p l k = -1)\/∃j:Nat,∃hj:j<l.length,Y6 p l k=(k:Int)+j/\l.find? p=some l[j]
 | [],k=>.inl ⟨rfl,rfl⟩
 |x::l,k=>by
  simp only[Y6];cases hp:p x
  ·simp only[Bool.false_eq_true,if_false,List.find?_cons,hp];rcases Rx (p:=p) (l:=l) (k:=k+1)with ⟨h1,h2⟩|⟨j,hj,h1,h2⟩
   ·exact .inl ⟨h1,h2⟩
   ·exact .inr ⟨j+1,by simp;omega,by rw[h1];omega,by simpa using h2⟩
  ·exact .inr ⟨0,by simp,by simp,by simp[hp]⟩
theorem J8c{h:J8}{n id:Nat}{name:Je}(x:K3)(hv:h id=some ⟨true,1,[[.str name]]⟩)(hid:id<n):Bu prog 163 [] [.ptr id 0 0] h n (.agg (K5 x)) (.bool (x.Name==name)):=by
 intro K hK;refine Ck ?_;refine U8 Tryz.func163 a163_ok rfl (by simp[a163]) ?_;have n1:¬id=n:=by omega
 simp[a163,hv,n1,K5,Vk,hK];intro j hj hj';omega
theorem Cp(p:Jq)(name:Je):Holds prog 84 [.agg (Jh p),.str name] (λr=>r=i64 (Y6 (λf=>f.Name==name) p.Functions 0)):=by
 refine Jp Tryz.func84 a84_ok rfl (by simp[a84]) ?_;simp[a84,Jh]
 refine J07 (p:=λf=>f.Name==name) (rowOf:=K5) (eltOf:=λx=>.agg (K5 x)) Tryz.func162 a162_ok rfl (λx=>by simp) p.Functions
  (λx _=>J8c x (by simp) (by omega)) ?_
 simp
theorem Fg(p:Jq)(name:Je)(hw:Ks p<=1048576):Holds prog 176 [.agg (Jh p),.str name] (λr=>r=Q7 (Kw p.Functions name)):=by
 have hw':=hw;unfold Ks I4 at hw';refine Jp Tryz.func176 a176_ok rfl (by simp[a176]) ?_;simp[a176,Jh];refine Jd (Cp p name) (by simp[Jh]) ?_;rintro r rfl;unfold Q7 Kw;rcases Rx (p:=λf:K3=>f.Name==name) (l:=p.Functions) (k:=0)with ⟨h1,h2⟩|⟨j,hj,h1,h2⟩
 ·rw[h1,h2];simp[Yf,Xk,Ji]
 ·rw[h1,h2];have hwf:Ys p.Functions[j]<=1048576:=by have:=W6 (w:=Ys) (getElem_mem hj);omega
  simp[hj];refine Jd (J44 (p.Functions[j]'hj) hwf) (by simp) ?_;rintro r rfl;simp[Xk]
set_option maxHeartbeats 1000000 in
theorem J42(f:K3)(hw:Ys f<=1048576):Holds prog 160 [.agg (K5 f)] (λr=>r = .agg (Xk f)):=by
 have hw':=hw;unfold Ys W5 at hw';have hl:f.Params.length<=1048576:=by have:=Yk List.length f.Params;unfold Ir at hw';omega
 have hlp:f.Pre.length<=1048576:=by have:=Yk U9 f.Pre;omega
 refine Jp Tryz.func160 a160_ok rfl (by simp[a160]) ?_;simp[a160,K5];have hA:f.Params.length*16<=Jb:=by unfold Jb;omega
 refine⟨⟨⟨hA,?_⟩,hA,?_⟩,hA,?_⟩
 ·skip
  refine Ki [1,2] 4 f.Pre.length (λi s h n=>h 0=some ⟨true,4,[[.str f.Name,.sl 1 (Ji f.Params),.bool f.ListResult,.sl 2 (f.Pre.map Ja)]]⟩/\h 1=some ⟨true,4,[[.str [],.nil 1,.bool false,.nil 2]]⟩/\4<n/\s 3 = .ptr 4 0 0 /\
   h 3=some ⟨false,1,Ji f.Params⟩/\((i=0/\h 4=some ⟨true,4,[[.str f.Name,.ref 3 0 f.Params.length,.bool f.ListResult,.nil 2]]⟩)\/∃id,4<id/\id<n/\h 4=some ⟨true,4,[[.str f.Name,.ref 3 0 f.Params.length,.bool f.ListResult,.ref id 0 i]]⟩/\h id=some ⟨false,2,(f.Pre.map J9).take i⟩))
   (by unfold Jb;omega) (by simp) ⟨by simp,by simp,by simp,by simp,by simp,.inl ⟨rfl,by simp⟩⟩ ?_ ?_
  ·rintro i s h n R hi hg hk s4 hw4 ⟨e0,e1,hn,s3,ep,hJ⟩ hR _ _;simp at hk
   have hwi:(f.Pre[i]).Coeffs.length<=1048576:=by have:=W6 (w:=U9) (getElem_mem hi);rw[show U9 f.Pre[i]=(f.Pre[i]).Coeffs.length from rfl]at this;omega
   have htk:(f.Pre.map J9).take (i+1)=(f.Pre.map J9).take i++[J9 f.Pre[i]]:=by rw[List.take_succ_eq_append_getElem (by simpa using hi)];simp
   have n0:¬0=n:=by omega
   have n1:¬1=n:=by omega
   have n2:¬4=n:=by omega
   have n3:¬3=n:=by omega
   have m0:¬0=n+1:=by omega
   have m1:¬1=n+1:=by omega
   have m2:¬4=n+1:=by omega
   have m3:¬3=n+1:=by omega
   have q0:¬0=n+1+1:=by omega
   have q1:¬1=n+1+1:=by omega
   have q2:¬4=n+1+1:=by omega
   have q3:¬3=n+1+1:=by omega
   have z0:¬n=0:=by omega
   have z1:¬n=1:=by omega
   have z2:¬n=2:=by omega
   have z3:¬n=3:=by omega
   have z4:¬n=4:=by omega
   rcases hJ with ⟨rfl,eb⟩|⟨id,hid4,hid,eb,eid⟩
   ·simp[hk,s4,s3,hi,e0,eb];intro _;refine Jw (E7 (f.Pre[0]'hi) hwi) (by simp) ?_;rintro r rfl;simp[s4,s3,J9,eb,n2,m2,q2];refine⟨by unfold Jb;omega,?_⟩;exact hR _ _ _ (by simp[hk]) (by simp;exact Kk (by omega)) ⟨by simp[e0,n0,z0],by simp[e1,n1,z0],by omega,by simp[s3],by simp[ep,n3,m3,q3],.inr ⟨n+2,by omega,by omega,by simp,by simp[htk,J9,z2]⟩⟩
   ·have i0:¬0=id:=by omega
    have i1:¬1=id:=by omega
    have i2:¬4=id:=by omega
    have i3:¬3=id:=by omega
    have i4:¬id=n:=by omega
    have i5:¬id=n+1:=by omega
    have i6:¬id=n+1+1:=by omega
    have i7:¬n=id:=by omega
    have i8:¬n+1=id:=by omega
    have i9:¬n+1+1=id:=by omega
    have j2:¬id=2:=by omega
    have j3:¬id=3:=by omega
    have j4:¬id=4:=by omega
    simp[hk,s4,s3,hi,e0,eb];intro _;refine Jw (E7 (f.Pre[i]'hi) hwi) (by simp) ?_;rintro r rfl;simp[s4,s3,hw4,J9,eb,eid,n2,m2,q2,i2,i4,i5,i8];refine⟨by omega,by unfold Jb;omega,?_⟩;exact hR _ _ _ (by simp[hk]) (by simp) ⟨by simp[e0,n0,z0,i0],by simp[e1,n1,z0,i1],by omega,by simp[s3],by simp[ep,n3,m3,q3,i3],.inr ⟨n+2,by omega,by omega,by simp,by simp[htk,J9,take_take,z2]⟩⟩
  ·rintro s h n R hk s4 ⟨e0,e1,hn,s3,ep,hJ⟩ hret hX;simp at hk;simp[hk,s4,e0];intro _;refine hX _ _ _ _ ?_;rcases hJ with ⟨h0,eb⟩|⟨id,hid4,hid,eb,eid⟩
   ·have:f.Pre=[]:=List.eq_nil_of_length_eq_zero h0;simp[hk,s3,eb,e1,ep,this,Xk]
   ·have i1:¬1=id:=by omega
    have i3:¬3=id:=by omega
    have i4:¬id=1:=by omega
    have i5:¬id=3:=by omega
    simp[hk,s3,eb,e1,ep,eid,Xk,i4,i5]
 ·skip
  refine Ki [1,2] 4 f.Pre.length (λi s h n=>h 0=some ⟨true,4,[[.str f.Name,.sl 1 (Ji f.Params),.bool f.ListResult,.sl 2 (f.Pre.map Ja)]]⟩/\h 1=some ⟨true,4,[[.str [],.nil 1,.bool false,.nil 2]]⟩/\4<n/\s 3 = .ptr 3 0 0 /\
   h 4=some ⟨false,1,Ji f.Params⟩/\((i=0/\h 3=some ⟨true,4,[[.str f.Name,.ref 4 0 f.Params.length,.bool f.ListResult,.nil 2]]⟩)\/∃id,4<id/\id<n/\h 3=some ⟨true,4,[[.str f.Name,.ref 4 0 f.Params.length,.bool f.ListResult,.ref id 0 i]]⟩/\h id=some ⟨false,2,(f.Pre.map J9).take i⟩))
   (by unfold Jb;omega) (by simp) ⟨by simp,by simp,by simp,by simp,by simp,.inl ⟨rfl,by simp⟩⟩ ?_ ?_
  ·rintro i s h n R hi hg hk s4 hw4 ⟨e0,e1,hn,s3,ep,hJ⟩ hR _ _;simp at hk
   have hwi:(f.Pre[i]).Coeffs.length<=1048576:=by have:=W6 (w:=U9) (getElem_mem hi);rw[show U9 f.Pre[i]=(f.Pre[i]).Coeffs.length from rfl]at this;omega
   have htk:(f.Pre.map J9).take (i+1)=(f.Pre.map J9).take i++[J9 f.Pre[i]]:=by rw[List.take_succ_eq_append_getElem (by simpa using hi)];simp
   have n0:¬0=n:=by omega
   have n1:¬1=n:=by omega
   have n2:¬3=n:=by omega
   have n3:¬4=n:=by omega
   have m0:¬0=n+1:=by omega
   have m1:¬1=n+1:=by omega
   have m2:¬3=n+1:=by omega
   have m3:¬4=n+1:=by omega
   have q0:¬0=n+1+1:=by omega
   have q1:¬1=n+1+1:=by omega
   have q2:¬3=n+1+1:=by omega
   have q3:¬4=n+1+1:=by omega
   have z0:¬n=0:=by omega
   have z1:¬n=1:=by omega
   have z2:¬n=2:=by omega
   have z3:¬n=3:=by omega
   have z4:¬n=4:=by omega
   rcases hJ with ⟨rfl,eb⟩|⟨id,hid4,hid,eb,eid⟩
   ·simp[hk,s4,s3,hi,e0,eb];intro _;refine Jw (E7 (f.Pre[0]'hi) hwi) (by simp) ?_;rintro r rfl;simp[s4,s3,J9,eb,n2,m2,q2];refine⟨by unfold Jb;omega,?_⟩;exact hR _ _ _ (by simp[hk]) (by simp;exact Kk (by omega)) ⟨by simp[e0,n0,z0],by simp[e1,n1,z0],by omega,by simp[s3],by simp[ep,n3,m3,q3],.inr ⟨n+2,by omega,by omega,by simp,by simp[htk,J9,z1]⟩⟩
   ·have i0:¬0=id:=by omega
    have i1:¬1=id:=by omega
    have i2:¬3=id:=by omega
    have i3:¬4=id:=by omega
    have i4:¬id=n:=by omega
    have i5:¬id=n+1:=by omega
    have i6:¬id=n+1+1:=by omega
    have i7:¬n=id:=by omega
    have i8:¬n+1=id:=by omega
    have i9:¬n+1+1=id:=by omega
    have j2:¬id=2:=by omega
    have j3:¬id=3:=by omega
    have j4:¬id=4:=by omega
    simp[hk,s4,s3,hi,e0,eb];intro _;refine Jw (E7 (f.Pre[i]'hi) hwi) (by simp) ?_;rintro r rfl;simp[s4,s3,hw4,J9,eb,eid,n2,m2,q2,i2,i4,i5,i8];refine⟨by omega,by unfold Jb;omega,?_⟩;exact hR _ _ _ (by simp[hk]) (by simp) ⟨by simp[e0,n0,z0,i0],by simp[e1,n1,z0,i1],by omega,by simp[s3],by simp[ep,n3,m3,q3,i3],.inr ⟨n+2,by omega,by omega,by simp,by simp[htk,J9,take_take,z1]⟩⟩
  ·rintro s h n R hk s4 ⟨e0,e1,hn,s3,ep,hJ⟩ hret hX;simp at hk;simp[hk,s4,e0];intro _;refine hX _ _ _ _ ?_;rcases hJ with ⟨h0,eb⟩|⟨id,hid4,hid,eb,eid⟩
   ·have:f.Pre=[]:=List.eq_nil_of_length_eq_zero h0;simp[hk,s3,eb,e1,ep,this,Xk]
   ·have i1:¬1=id:=by omega
    have i3:¬4=id:=by omega
    have i4:¬id=1:=by omega
    have i5:¬id=4:=by omega
    simp[hk,s3,eb,e1,ep,eid,Xk,i4,i5]
 ·skip
  refine Ki [1,2] 4 f.Pre.length (λi s h n=>h 0=some ⟨true,4,[[.str f.Name,.sl 1 (Ji f.Params),.bool f.ListResult,.sl 2 (f.Pre.map Ja)]]⟩/\h 1=some ⟨true,4,[[.str [],.nil 1,.bool false,.nil 2]]⟩/\4<n/\s 3 = .ptr 2 0 0 /\
   h 4=some ⟨false,1,Ji f.Params⟩/\((i=0/\h 2=some ⟨true,4,[[.str f.Name,.ref 4 0 f.Params.length,.bool f.ListResult,.nil 2]]⟩)\/∃id,4<id/\id<n/\h 2=some ⟨true,4,[[.str f.Name,.ref 4 0 f.Params.length,.bool f.ListResult,.ref id 0 i]]⟩/\h id=some ⟨false,2,(f.Pre.map J9).take i⟩))
   (by unfold Jb;omega) (by simp) ⟨by simp,by simp,by simp,by simp,by simp,.inl ⟨rfl,by simp⟩⟩ ?_ ?_
  ·rintro i s h n R hi hg hk s4 hw4 ⟨e0,e1,hn,s3,ep,hJ⟩ hR _ _;simp at hk
   have hwi:(f.Pre[i]).Coeffs.length<=1048576:=by have:=W6 (w:=U9) (getElem_mem hi);rw[show U9 f.Pre[i]=(f.Pre[i]).Coeffs.length from rfl]at this;omega
   have htk:(f.Pre.map J9).take (i+1)=(f.Pre.map J9).take i++[J9 f.Pre[i]]:=by rw[List.take_succ_eq_append_getElem (by simpa using hi)];simp
   have n0:¬0=n:=by omega
   have n1:¬1=n:=by omega
   have n2:¬2=n:=by omega
   have n3:¬4=n:=by omega
   have m0:¬0=n+1:=by omega
   have m1:¬1=n+1:=by omega
   have m2:¬2=n+1:=by omega
   have m3:¬4=n+1:=by omega
   have q0:¬0=n+1+1:=by omega
   have q1:¬1=n+1+1:=by omega
   have q2:¬2=n+1+1:=by omega
   have q3:¬4=n+1+1:=by omega
   have z0:¬n=0:=by omega
   have z1:¬n=1:=by omega
   have z2:¬n=2:=by omega
   have z3:¬n=3:=by omega
   have z4:¬n=4:=by omega
   rcases hJ with ⟨rfl,eb⟩|⟨id,hid4,hid,eb,eid⟩
   ·simp[hk,s4,s3,hi,e0,eb];intro _;refine Jw (E7 (f.Pre[0]'hi) hwi) (by simp) ?_;rintro r rfl;simp[s4,s3,J9,eb,n2,m2,z0];refine⟨by unfold Jb;omega,?_⟩;exact hR _ _ _ (by simp[hk]) (by simp;exact Kk (by omega)) ⟨by simp[e0,n0,z0],by simp[e1,n1,z0],by omega,by simp[s3],by simp[ep,n3,m3,q3],.inr ⟨n+2,by omega,by omega,by simp,by simp[htk,J9,z0]⟩⟩
   ·have i0:¬0=id:=by omega
    have i1:¬1=id:=by omega
    have i2:¬2=id:=by omega
    have i3:¬4=id:=by omega
    have i4:¬id=n:=by omega
    have i5:¬id=n+1:=by omega
    have i6:¬id=n+1+1:=by omega
    have i7:¬n=id:=by omega
    have i8:¬n+1=id:=by omega
    have i9:¬n+1+1=id:=by omega
    have j2:¬id=2:=by omega
    have j3:¬id=3:=by omega
    have j4:¬id=4:=by omega
    simp[hk,s4,s3,hi,e0,eb];intro _;refine Jw (E7 (f.Pre[i]'hi) hwi) (by simp) ?_;rintro r rfl;simp[s4,s3,hw4,J9,eb,eid,n2,m2,z0,i2,i4,i5,i8];refine⟨by omega,by unfold Jb;omega,?_⟩;exact hR _ _ _ (by simp[hk]) (by simp) ⟨by simp[e0,n0,z0,i0],by simp[e1,n1,z0,i1],by omega,by simp[s3],by simp[ep,n3,m3,q3,i3],.inr ⟨n+2,by omega,by omega,by simp,by simp[htk,J9,take_take,z0]⟩⟩
  ·rintro s h n R hk s4 ⟨e0,e1,hn,s3,ep,hJ⟩ hret hX;simp at hk;simp[hk,s4,e0];intro _;refine hX _ _ _ _ ?_;rcases hJ with ⟨h0,eb⟩|⟨id,hid4,hid,eb,eid⟩
   ·have:f.Pre=[]:=List.eq_nil_of_length_eq_zero h0;simp[hk,s3,eb,e1,ep,this,Xk]
   ·have i1:¬1=id:=by omega
    have i3:¬4=id:=by omega
    have i4:¬id=1:=by omega
    have i5:¬id=4:=by omega
    simp[hk,s3,eb,e1,ep,eid,Xk,i4,i5]
theorem Ej(p:Jq)(name:Je)(hw:Ks p<=1048576):Holds prog 172 [.agg (Jh p),.str name] (λr=>r=Q7 (Kw p.Functions name)):=by
 have hw':=hw;unfold Ks I4 at hw';have hl:p.Functions.length<=Jb:=by have:=Yk Ys p.Functions;unfold Jb;omega
 refine Jp Tryz.func172 a172_ok rfl (by simp[a172]) ?_;simp[a172,Jh];generalize hG:Kw p.Functions name=G;refine Qm [1,2,4] 6 p.Functions.length (λi _=>(p.Functions.drop i).find? (λf=>f.Name==name)=G) hl (by simp) (by simpa[Kw]using hG) ?_ ?_
 ·rintro i s h R hi hg hk s6 hw6 hJ hh hR hret _;simp at hk hh;rw[drop_eq_getElem_cons hi,List.find?_cons]at hJ;have hwf:Ys p.Functions[i]<=1048576:=by have:=W6 (w:=Ys) (getElem_mem hi);omega
  simp[hk,s6,hi,hh,hw6,K5];intro _;by_cases hn:(p.Functions[i]).Name=name
  ·simp[hn]at hJ;simp[hn];refine Jd (J42 (p.Functions[i]'hi) hwf) (by simp[K5,hn]) ?_;rintro r rfl;simp[Xk,hk,hh];refine hret _ _ _ ?_;simp[hk,<-hJ,Q7,Xk]
  ·have hn':((p.Functions[i]).Name==name)=false:=by simpa using hn
   simp only[hn']at hJ;simp[hn];exact hR _ (by simp[hk]) (by simp) hJ
 ·rintro s h R hk s6 hJ hh _ hX;simp at hk hh;rw[drop_eq_nil_of_le (by omega)]at hJ;simp only[List.find?_nil]at hJ;simp[hk,s6,hh];intro _;refine hX _ _ ?_;simp[hk,<-hJ,Q7,Yf,Xk,Ji]
def a240:Jk:= ⟨66,[.t 6],(Zq [ZB 3 0,ZB 4 1,Zo 6 (.mv (.k (.nil 1)))] (Zq [Zl 15 true 2 3,Zf 16 0 4,Zl 17 false 1 16,Zc 18 176 [.t 15,.t 17],Zv 14 18,Ze 19 14 0,Ze 20 14 1,Zo 7 (.box [(.str []),(.nil 1),(.bool false),(.nil 2)]),⟨no,.st 4 (.t 7) (.t 19),no⟩,Zv 8 20] (.seq (Zq [Zv 21 8,ZN 22 21,Zv 23 22,Zg 24 23 false (.mv (.t 2)),Zg 25 23 false (.fld 3 (.t 4)),Zg 26 23 false (.ld false 1 (.t 25)),Zg 27 23 false (.len false (.t 26)),Zg 28 23 false (.call (.k (.fn (.func 102) [] [])) [.t 24,(.k (.int .i64 0)),.t 27]),Zg 29 23 false (.un .not (.t 28)),ZP 30 23 29] (.cond (.t 30) (Zq [Zo 6 (.mv (.k (.nil 1)))] .ret) .skip)) (Zq [Zf 31 1 7,Zl 32 false 1 31,Zv 9 32] (.seq (Zq [Zf 33 1 4,Zl 34 false 1 33,Zn 35 34,Zi 36 0] (.blk 0 (.loop (Zq [Zb 37 .lss 36 35] (.seq (Zw 37 0) (.seq (.blk 1 (Zq [Zx 38 4 34 36,Zl 39 true 4 38,Zo 11 (.box [(.str []),(.bool false),(.str []),(.str [])]),⟨no,.st 4 (.t 11) (.t 39),no⟩] (Zq [Zf 40 1 11,Zl 41 false 1 40] (.cond (.t 41) (.reg [Zv 42 9,Zf 43 2 11,Zl 44 false 1 43,Zf 45 3 11,Zl 46 false 1 45,Zo 47 (.bsl 1 [.t 44,.t 46]),ZA 48 16 1 42 47,Zv 9 48]) .skip)))) (.reg [Zk 49 .add 36 1,Zv 36 49]))))))) (.seq (Zq [Zf 50 3 4,Zl 51 false 1 50,Zv 52 2,Zo 53 (.slc false 3 (.t 51) Option.none (some (.t 52))),Zn 54 53,Zi 55 0] (.blk 2 (.loop (Zq [Zb 56 .lss 55 54] (.seq (Zw 56 2) (.seq (.blk 3 (Zq [Zx 57 3 53 55,Zl 58 true 3 57,Zo 13 (.box [(.str []),(.str []),(.nil 3)]),⟨no,.st 3 (.t 13) (.t 58),no⟩] (.reg [Zv 59 9,Zf 60 0 13,Zl 61 false 1 60,Zo 62 (.bsl 1 [.t 61]),ZA 63 16 1 59 62,Zv 9 63]))) (.reg [Zk 64 .add 55 1,Zv 55 64]))))))) (Zq [Zv 65 9,Zv 6 65] .ret)))))))⟩
theorem a240_ok:Jf prog Tryz.f240=some a240:=by kernel_rfl
def a221:Jk:= ⟨78,[.t 6],(Zq [ZB 3 0,ZB 4 1,Zo 6 (.mv (.k (.nil 1)))] (Zq [Zl 13 true 2 3,Zf 14 0 4,Zl 15 false 1 14,Zc 16 172 [.t 13,.t 15],Zv 12 16,Ze 17 12 0,Ze 18 12 1,Zo 7 (.box [(.str []),(.nil 1),(.bool false),(.nil 2)]),⟨no,.st 4 (.t 7) (.t 17),no⟩,Zv 8 18] (Zq [Zo 19 (.bsl 1 []),Zv 9 19] (.seq (Zq [Zv 20 8,ZN 21 20,Zv 22 21,Zg 23 22 false (.mv (.t 2)),Zg 24 22 false (.fld 3 (.t 4)),Zg 25 22 false (.ld false 1 (.t 24)),Zg 26 22 false (.len false (.t 25)),Zg 27 22 false (.call (.k (.fn (.func 183) [] [])) [.t 23,(.k (.int .i64 0)),.t 26]),Zg 28 22 false (.un .not (.t 27)),ZP 29 22 28] (.cond (.t 29) (Zq [Zv 30 9,Zv 6 30] .ret) .skip)) (Zq [Zv 31 9,Zf 32 1 7,Zl 33 false 1 32,ZA 34 16 1 31 33,Zv 9 34] (.seq (Zq [Zi 10 0] (.blk 0 (.loop (.seq (Zq [Zv 35 10,Zf 36 1 4,Zl 37 false 1 36,Zn 38 37,Zb 39 .lss 35 38] (Zw 39 0)) (.seq (.blk 1 (Zq [Zf 42 1 4,Zl 43 false 1 42,Zv 44 10,Zx 45 4 43 44,Zf 46 1 45,Zl 47 false 1 46] (.cond (.t 47) (.draw (.op (Zv 48 9) (.op (Zf 49 1 4) (.op (Zl 50 false 1 49) (.op (Zv 51 10) (.op (Zx 52 4 50 51) (.op (Zf 53 2 52) (.op (Zl 54 false 1 53) (.op (Zf 55 1 4) (.op (Zl 56 false 1 55) (.op (Zv 57 10) (.op (Zx 58 4 56 57) (.op (Zf 59 3 58) (.op (Zl 60 false 1 59) (.hop (Zo 61 (.bsl 1 [.t 54,.t 60])) [] (.hop (ZA 62 16 1 48 61) [] (.hop (Zv 9 62) [] .fin))))))))))))))))) .skip))) (.reg [Zv 40 10,Zk 41 .add 40 1,Zv 10 41])))))) (.seq (Zq [Zi 11 0] (.blk 2 (.loop (.seq (Zq [Zv 63 11,Zv 64 2,Zb 65 .lss 63 64] (Zw 65 2)) (.seq (.blk 3 (.reg [Zv 68 9,Zf 69 3 4,Zl 70 false 1 69,Zv 71 11,Zx 72 3 70 71,Zf 73 0 72,Zl 74 false 1 73,Zo 75 (.bsl 1 [.t 74]),ZA 76 16 1 68 75,Zv 9 76])) (.reg [Zv 66 11,Zk 67 .add 66 1,Zv 11 67])))))) (Zq [Zv 77 9,Zv 6 77] .ret))))))))⟩
theorem a221_ok:Jf prog Tryz.f221=some a221:=by kernel_rfl
def Ui:List X2->List Je
 | []=>[]
 |q::l=>(if q.Cons then [q.Head,q.Tail]else [])++Ui l
def Uf(p:Jq)(r:Jy)(n:Int):List Je:=
 if (Kw p.Functions r.Func).isSome&&K9 n 0 r.Calls.length then((Kw p.Functions r.Func).getD Yf).Params++Ui r.Patterns++(r.Calls.take n.toNat).map (·.Bind)else []
theorem J58:∀l:List X2,(Ui l).length<=2*l.length
 | []=>Nat.le_refl _
 |q::l=>by have:=J58 l;simp only[Ui,length_append,List.length_cons];split <;>simp <;>omega
theorem J6i(p:Jq)(r:Jy)(hp:Ks p<=1048576)(hr:Y0 r<=1048576):((Kw p.Functions r.Func).getD Yf).Params.length<=1048576/\r.Patterns.length<=1048576/\r.Calls.length<=1048576:=by
 have h1:=Yk Qf r.Patterns;have h2:=Yk Ub r.Calls;unfold Y0 O6 Iw at hr;refine⟨?_,by omega,by omega⟩
 cases hf:Kw p.Functions r.Func with
 |none=>simp[Yf]
 |some f=>
  have h3:=W6 (w:=Ys) (List.mem_of_find?_eq_some hf);have h4:=Yk List.length f.Params;unfold Ks I4 at hp;rw[show Ys f=f.Name.length+Ir f.Params+W5 f.Pre from rfl]at h3;unfold Ir at h3;simp only[Option.getD_some];omega
set_option maxHeartbeats 1000000 in
theorem J2p(p:Jq)(r:Jy)(k:Int)(hp:Ks p<=1048576)(hr:Y0 r<=1048576):Holds prog 240 [.agg (Jh p),.agg (Jr r),i64 k] (λx=>x = .us 1 (Ji (Uf p r k))):=by
 obtain⟨hl1,hl2,hl3⟩:=J6i p r hp hr;refine Jp Tryz.func240 a240_ok rfl (by simp[a240]) ?_;simp[a240,Jh,Jr];refine Jd (Fg p r.Func hp) (by simp[Jh]) ?_;rintro r rfl;unfold Uf;generalize hG:(Kw p.Functions r.Func).getD Yf=G at *;simp only[Q7,hG];generalize hb1:(Kw p.Functions r.Func).isSome=b1;simp[Xk];cases b1
 ·simp[Ji]
 simp;intro _;refine Jd (O0 k 0 r.Calls.length) (by simp) ?_;rintro r rfl;cases h2:K9 k 0 r.Calls.length
 ·simp[Ji]
 have hk0:0<=k/\k<=r.Calls.length:=by simpa[K9]using h2
 obtain⟨m,rfl⟩:∃m:Nat,k=m:=⟨k.toNat,by omega⟩;simp;intro _;have hpl:=J58 r.Patterns;generalize hT1:G.Params++Ui r.Patterns=T1;have hT1l:T1.length<=3145728:=by rw[<-hT1];simp;omega
 refine Ki [1,2,4,34,35] 36 r.Patterns.length (λi s h n=>h 1=some ⟨true,7,[Jr r]⟩/\4<n/\∃(acc:List Je) (id:Nat),s 9 = .ref id 0 acc.length/\h id=some ⟨false,1,Ji acc⟩/\(id=2\/4<id)/\id<n/\acc++Ui (r.Patterns.drop i)=T1)
  (by unfold Jb;omega) (by simp) ⟨by simp[Jr],by simp,G.Params,2,by simp,by simp,by omega,by omega,by simpa using hT1⟩ ?_ ?_
 ·rintro i s h n R hi hg hk s36 hw ⟨e1,hn,acc,id,s9,eid,hid2,hidn,hJ⟩ hR _ _;simp at hk;rw[drop_eq_getElem_cons hi]at hJ;simp only[Ui]at hJ;have hal:=congrArg List.length hJ;simp only[length_append]at hal;have n0:¬id=n:=by omega
  have n1:¬1=n:=by omega
  have n2:¬id=n+1:=by omega
  have n3:¬1=n+1:=by omega
  have n4:¬1=n+1+1:=by omega
  have n5:¬1=id:=by omega
  have n6:¬n=0:=by omega
  have n7:¬n+1=id:=by omega
  have n8:¬n=id:=by omega
  have n9:¬id=n+1+1:=by omega
  simp[hk,s36,hi,hw,Kb];cases hc:(r.Patterns[i]).Cons
  ·rw[hc]at hJ;simp only[Bool.false_eq_true,if_false,List.nil_append]at hJ;simp;exact hR _ _ _ (by simp[hk]) (by simp) ⟨by simp[e1,n1],by omega,acc,id,by simp[s9],by simp[eid,n0],hid2,by omega,hJ⟩
  ·rw[hc]at hJ hal;simp only[if_true]at hJ hal;simp[s9,eid,n0,n2,n7,s36,hw];refine⟨by simp at hal;unfold Jb;omega,?_⟩;exact hR _ _ _ (by simp[hk]) (by simp) ⟨by simp[e1,n1,n5,n6],by omega,acc++[(r.Patterns[i]).Head,(r.Patterns[i]).Tail],n+2,by simp,by simp[Ji],by omega,by omega,by rw[List.append_assoc];exact hJ⟩
 ·rintro s h n R hk s36 ⟨e1,hn,acc,id,s9,eid,hid2,hidn,hJ⟩ hret hX;simp at hk;rw[drop_eq_nil_of_le (by omega)]at hJ;simp only[Ui,append_nil]at hJ;subst hJ;simp[hk,s36];refine hX _ _ _ _ ?_;have hm:m<=r.Calls.length:=by omega
  simp[hk,e1,Jr,Yx,Vz,Nat.min_eq_left hm,hm];intro _;generalize hT2:G.Params++(Ui r.Patterns++List.take m (List.map (λx=>x.Bind) r.Calls))=T2;have hT2l:T2.length<=4194304:=by rw[<-hT2];simp;omega
  refine Ki [53,54] 55 m (λi s h n=>∃(acc:List Je) (id:Nat),s 9 = .ref id 0 acc.length/\h id=some ⟨false,1,Ji acc⟩/\id<n/\acc++((r.Calls.map (·.Bind)).take m).drop i=T2)
   (by unfold Jb;omega) (by simp) ⟨acc,id,by simp[s9],by simp[eid],hidn,by rw[<-hT2,<-hT1];simp⟩ ?_ ?_
  ·rintro i s h n R hi hg hk s55 hw ⟨acc,id,s9,eid,hidn,hJ⟩ hR _ _;simp at hk;have hir:i<r.Calls.length:=by omega
   rw[drop_eq_getElem_cons (by simp;omega)]at hJ;have hal:=congrArg List.length hJ;simp at hJ hal;have n0:¬id=n:=by omega
   have n2:¬id=n+1:=by omega
   have n7:¬n+1=id:=by omega
   have n8:¬n=id:=by omega
   simp[hk,s55,hi,hw,hir,Kx,s9,eid,n0,n2,n7];refine⟨by omega,by unfold Jb;omega,?_⟩;exact hR _ _ _ (by simp[hk]) (by simp) ⟨acc++[(r.Calls[i]).Bind],n+2,by simp,by simp[Ji],by omega,by simpa using hJ⟩
  ·rintro s h n R hk s55 ⟨acc,id,s9,eid,hidn,hJ⟩ hret hX;simp at hk;rw[drop_eq_nil_of_le (by simp;omega),append_nil]at hJ;subst hJ;simp[hk,s55];refine hX _ _ _ _ ?_;simp[s9,eid]
set_option maxHeartbeats 1000000 in
theorem Ta(p:Jq)(r:Jy)(k:Int)(hp:Ks p<=1048576)(hr:Y0 r<=1048576):Holds prog 221 [.agg (Jh p),.agg (Jr r),i64 k] (λx=>x = .us 1 (Ji (Uf p r k))):=by
 obtain⟨hl1,hl2,hl3⟩:=J6i p r hp hr;refine Jp Tryz.func221 a221_ok rfl (by simp[a221]) ?_;simp[a221,Jh,Jr];refine Jd (Ej p r.Func hp) (by simp[Jh]) ?_;rintro r rfl;unfold Uf;generalize hG:(Kw p.Functions r.Func).getD Yf=G at *;simp only[Q7,hG];generalize hb1:(Kw p.Functions r.Func).isSome=b1;simp[Xk];cases b1
 ·simp[Ji]
 simp;intro _;refine Jd (Hh k 0 r.Calls.length) (by simp) ?_;rintro r rfl;cases h2:K9 k 0 r.Calls.length
 ·simp[Ji]
 have hk0:0<=k/\k<=r.Calls.length:=by simpa[K9]using h2
 obtain⟨m,rfl⟩:∃m:Nat,k=m:=⟨k.toNat,by omega⟩;simp;refine⟨by unfold Jb;omega,?_⟩;have hpl:=J58 r.Patterns;generalize hT1:G.Params++Ui r.Patterns=T1;have hT1l:T1.length<=3145728:=by rw[<-hT1];simp;omega
 refine Ki [1,2,4] 10 r.Patterns.length (λi s h n=>h 1=some ⟨true,7,[Jr r]⟩/\4<n/\∃(acc:List Je) (id:Nat),s 9 = .ref id 0 acc.length/\h id=some ⟨false,1,Ji acc⟩/\4<id/\id<n/\acc++Ui (r.Patterns.drop i)=T1)
  (by unfold Jb;omega) (by simp) ⟨by simp[Jr],by simp,G.Params,6,by simp,by simp,by omega,by omega,by simpa using hT1⟩ ?_ ?_
 ·rintro i s h n R hi hg hk s10 hw ⟨e1,hn,acc,id,s9,eid,hid2,hidn,hJ⟩ hR _ _;simp at hk;rw[drop_eq_getElem_cons hi]at hJ;simp only[Ui]at hJ;have hal:=congrArg List.length hJ;simp only[length_append]at hal;have n0:¬id=n:=by omega
  have n1:¬1=n:=by omega
  have n2:¬id=n+1:=by omega
  have n3:¬1=n+1:=by omega
  have n5:¬1=id:=by omega
  have n5':¬id=1:=by omega
  have n6:¬n=0:=by omega
  have n7:¬n+1=id:=by omega
  have n8:¬n=id:=by omega
  simp[hk,s10,hi,hw,Kb,e1,Jr];intro _;cases hc:(r.Patterns[i]).Cons
  ·rw[hc]at hJ;simp only[Bool.false_eq_true,if_false,List.nil_append]at hJ;simp;exact hR _ _ _ (by simp[hk]) (by simp) ⟨by simp[e1],by omega,acc,id,by simp[s9],by simp[eid],hid2,by omega,hJ⟩
  ·rw[hc]at hJ hal;simp only[if_true]at hJ hal;simp[s9,eid,n0,n8,s10,hw];refine⟨by simp at hal;unfold Jb;omega,?_⟩;exact hR _ _ _ (by simp[hk]) (by simp) ⟨by simp[e1,n1,n5,n6],by omega,acc++[(r.Patterns[i]).Head,(r.Patterns[i]).Tail],n+1,by simp,by simp[Ji],by omega,by omega,by rw[List.append_assoc];exact hJ⟩
 ·rintro s h n R hkk s10 ⟨e1,hn,acc,id,s9,eid,hid2,hidn,hJ⟩ hret hX;simp at hkk;rw[drop_eq_nil_of_le (by omega)]at hJ;simp only[Ui,append_nil]at hJ;subst hJ;simp[hkk,s10,e1,Jr];intro _;refine hX _ _ _ _ ?_;have hm:m<=r.Calls.length:=by omega
  simp;generalize hT2:G.Params++(Ui r.Patterns++List.take m (List.map (λx=>x.Bind) r.Calls))=T2;have hT2l:T2.length<=4194304:=by rw[<-hT2];simp;omega
  refine Ki [2,4] 11 m (λi s h n=>h 1=some ⟨true,7,[Jr r]⟩/\4<n/\∃(acc:List Je) (id:Nat),s 9 = .ref id 0 acc.length/\h id=some ⟨false,1,Ji acc⟩/\4<id/\id<n/\acc++((r.Calls.map (·.Bind)).take m).drop i=T2)
   (by unfold Jb;omega) (by simp) ⟨by simp[e1],hn,acc,id,by simp[s9],by simp[eid],hid2,hidn,by rw[<-hT2,<-hT1];simp⟩ ?_ ?_
  ·rintro i s h n R hi hg hk s11 hw ⟨e1,hn,acc,id,s9,eid,hid2,hidn,hJ⟩ hR _ _;simp at hk;have hir:i<r.Calls.length:=by omega
   rw[drop_eq_getElem_cons (by simp;omega)]at hJ;have hal:=congrArg List.length hJ;simp at hJ hal;have n0:¬id=n:=by omega
   have n1:¬1=n:=by omega
   have n2:¬id=n+1:=by omega
   have n3:¬1=n+1:=by omega
   have n5:¬1=id:=by omega
   have n5':¬id=1:=by omega
   have n6:¬n=0:=by omega
   have n7:¬n+1=id:=by omega
   have n8:¬n=id:=by omega
   simp[hk,hkk,s11,hi,hw,hir,e1,Jr,Kx,s9,eid,n0,n8];refine⟨by unfold Jb;omega,?_⟩;exact hR _ _ _ (by simp[hk,hkk]) (by simp) ⟨by simp[e1,Jr,n1,n5,n6],by omega,acc++[(r.Calls[i]).Bind],n+1,by simp,by simp[Ji],by omega,by omega,by simpa using hJ⟩
  ·rintro s h n R hk s11 ⟨e1,hn,acc,id,s9,eid,hid2,hidn,hJ⟩ hret hX;simp at hk;rw[drop_eq_nil_of_le (by simp;omega),append_nil]at hJ;subst hJ;simp[hk,hkk,s11];refine hX _ _ _ _ ?_;simp[s9,eid]
end Go.Proofs.YtoclolkigjbcgaaGreat
