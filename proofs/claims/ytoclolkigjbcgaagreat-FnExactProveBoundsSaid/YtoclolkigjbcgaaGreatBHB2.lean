/- Contracts: BoundObligations of the program. -/
import Derived.Test.YtoclolkigjbcgaaGreatBE1
import Derived.Test.YtoclolkigjbcgaaGreatBC13
namespace Go.Proofs.YtoclolkigjbcgaaGreat
open Tryz(prog)
open List(drop_eq_getElem_cons drop_eq_nil_of_le getElem_mem length_append all_eq_true)
set_option maxRecDepth 40000
set_option maxHeartbeats 4000000
open Go Go.RowKit Go.Proofs
set_option linter.all false
def Jw1:AC:=(.reg [Zl 36 true 2 2,Zl 37 true 2 3,Zv 38 7,Zc 39 104 [.t 36,.t 37,.t 38],Zv 35 39,Ze 40 35 0,Ze 41 35 1,Zo 8 (.box [(.int .i64 0),(.nil 2),(.int .i64 0),(.nil 1)]),⟨no,.st 4 (.t 8) (.t 40),no⟩,Zv 9 41])
def Jw9:AC:=(.reg [Zv 44 6,Zl 45 true 4 8,Zo 46 (.bsl 4 [.t 45]),ZA 47 64 4 44 46,Zv 6 47])
def Jwj:AC:=(.reg [Zl 56 true 2 2,Zl 57 true 2 3,Zv 58 10,Zc 59 105 [.t 56,.t 57,.t 58],Zv 55 59,Ze 60 55 0,Ze 61 55 1,Zo 11 (.box [(.int .i64 0),(.nil 2),(.int .i64 0),(.nil 1)]),⟨no,.st 4 (.t 11) (.t 60),no⟩,Zv 12 61])
def Tf:AC:=(.reg [Zv 64 6,Zl 65 true 4 11,Zo 66 (.bsl 4 [.t 65]),ZA 67 64 4 64 66,Zv 6 67])
def bo0:AC:=(.reg [ZB 2 0,ZB 3 1,Zo 4 (.mv (.k (.nil 4))),Zt 5 false])
def bo1:AC:=(Zq [Zl 13 true 2 2,Zc 14 67 [.t 13],ZN 15 14,Zv 16 15,Zg 17 16 false (.fld 0 (.t 3)),Zg 18 16 false (.ld false 1 (.t 17)),Zg 19 16 false (.call (.k (.fn (.func 102) [] [])) [.t 18,(.k (.int .i64 1)),(.k (.int .i64 2))]),Zg 20 16 false (.un .not (.t 19)),ZP 21 16 20,Zv 22 21,Zg 23 22 false (.ld true 2 (.t 2)),Zg 24 22 false (.fld 1 (.t 3)),Zg 25 22 false (.ld false 1 (.t 24)),Zg 26 22 false (.call (.k (.fn (.func 103) [] [])) [.t 23,.t 25]),Zg 27 22 false (.un .not (.t 26)),ZP 28 22 27] (.cond (.t 28) (Zq [Zo 4 (.mv (.k (.nil 4))),Zt 5 false] .ret) .skip))
def bo2:AC:=(.reg [Zo 6 (.mv (.k (.nil 4)))])
def bo3:AC:=(Zq [Zf 29 0 2,Zl 30 false 1 29,Zn 31 30,Zi 32 0] (.blk 0 (.loop (Zq [Zb 33 .lss 32 31] (.seq (Zw 33 0) (.seq (.blk 1 (Zq [Zv 34 32,Zv 7 34] (.seq  Jw1 (.seq (Zq [Zv 42 9,ZN 43 42] (.cond (.t 43) (Zq [Zo 4 (.mv (.k (.nil 4))),Zt 5 false] .ret) .skip))  Jw9)))) (.reg [Zk 48 .add 32 1,Zv 32 48])))))))
def bo4:AC:=(Zq [Zf 49 1 2,Zl 50 false 1 49,Zn 51 50,Zi 52 0] (.blk 2 (.loop (Zq [Zb 53 .lss 52 51] (.seq (Zw 53 2) (.seq (.blk 3 (Zq [Zv 54 52,Zv 10 54] (.seq  Jwj (.seq (Zq [Zv 62 12,ZN 63 62] (.cond (.t 63) (Zq [Zo 4 (.mv (.k (.nil 4))),Zt 5 false] .ret) .skip))  Tf)))) (.reg [Zk 68 .add 52 1,Zv 52 68])))))))
def bo5:AC:=(.reg [Zv 69 6,Zv 4 69,Zt 5 true])
def a33:Jk:=⟨70,[.t 4,.t 5],(.seq bo0 (.seq bo1 (.seq bo2 (.seq bo3 (.seq bo4 (.seq bo5 .ret))))))⟩
theorem a33_ok:Jf prog Tryz.f33=some a33:=by kernel_rfl
def Et(o:X5)(q:Nat)(h:J8):Prop:=h (q+2)=some ⟨true,4,[[.int .i64 o.System.N,.ref q 0 o.System.Rows.length,.int .i64 o.Target.Const,.ref (q+1) 0 o.Target.Coeffs.length]]⟩/\h q=some ⟨false,2,o.System.Rows.map J9⟩/\h (q+1)=some ⟨false,1,Jg o.Target.Coeffs⟩
def We:List X5->List (Option X5)->Option (List X5)
 |acc,[]=>some acc
 |_,Option.none::_=>Option.none
 |acc,some x::l=>We (acc++[x]) l
def Wh(p:Jq)(i:Int):X9:=(Ie p i).getD Og
def Il(p:Jq)(b:X0):List (Option X5):=(List.range p.Functions.length).map λi:Nat=>(Vp b (b.Lins.getD i Jl)).map λt=>⟨Wd p (p.Functions.getD i Yf).Name,t⟩
def Qs(p:Jq)(b:X0):List (Option X5):=(List.range p.Rules.length).map λi:Nat=>(Om p b (Wh p i) (p.Rules.getD i Er)).map λt=>⟨(Wh p i).System,t⟩
def Uz(p:Jq)(b:X0):Option (List X5):=if W1 p b then We [] (Il p b++Qs p b)else Option.none
def Ob(o:Option (List X5)):AV := .tup [.us 4 ((o.getD []).map Km),.bool o.isSome]
theorem Jd0:∀{l:List (Option X5)}{acc o:List X5},We acc l=some o->o.length=acc.length+l.length
 | [],acc,o,h=>by simp only[We,Option.some.injEq]at h;subst h;simp
 |Option.none::_,_,_,h=>by simp[We]at h
 |some x::l,acc,o,h=>by simp only[We]at h;have:=Jd0 h;simp at this⊢;omega
theorem Ja6{p:Jq}{b:X0}{i:Nat}(hi:i<p.Functions.length)(hb:b.Lins.length=p.Functions.length):(Il p b).drop i=((Vp b (b.Lins[i]'(by omega))).map λt=>(⟨Wd p (p.Functions[i]).Name,t⟩:X5))::(Il p b).drop (i+1):=by
 have hl:i<(Il p b).length:=by simpa[Il]using hi
 rw[drop_eq_getElem_cons hl];congr 1;have hb':i<b.Lins.length:=by omega
 simp[Il,hi,hb']
theorem J9v{p:Jq}{b:X0}{i:Nat}(hi:i<p.Rules.length):(Qs p b).drop i=((Om p b (Wh p i) p.Rules[i]).map λt=>(⟨(Wh p i).System,t⟩:X5))::(Qs p b).drop (i+1):=by
 have hl:i<(Qs p b).length:=by simpa[Qs]using hi
 rw[drop_eq_getElem_cons hl];congr 1;simp[Qs,hi]
theorem F7{p:Jq}{b:X0}(h:W1 p b=true):Ym p=true/\K9 b.Kind 1 2=true/\b.Lins.length=p.Functions.length:=by unfold W1 Ek at h;simp only[Bool.and_eq_true,decide_eq_true_eq]at h;exact⟨h.1.1,h.1.2,h.2.1⟩
section
variable {ks:List Kt}{s:Jm}{h h':J8}{n:Nat}{Q:Xc}
theorem Jhe{p:Jq}(hp:Ks p<=1048576){b:X0}{i:Nat}(hi:i<p.Functions.length)(hb:i<b.Lins.length)(s2:s 2 = .ptr 0 0 0)(s3:s 3 = .ptr 1 0 0)(s7:s 7 = .int .i64 i)(e0:h 0=some ⟨true,2,[Jh p]⟩)(e1:h 1=some ⟨true,2,[Kr b]⟩)
 (hK:∀s' h',(∀j∈[2,3,4,5,6,30,31,32],s' j=s j)->s' 9 = .bool (Vp b b.Lins[i]).isSome->s' 8 = .ptr (n+2) 0 0->Et ⟨Wd p (p.Functions[i]).Name,(Vp b b.Lins[i]).getD Jl⟩ n h'->(∀id,id<n->h' id=h id)->Ju prog ks .normal s' h' (n+3) Q):rC prog Jw1 ks s h n Q:=by
 simp[Jw1,s2,s3,s7,e0,e1];refine Jd (J0e p hp b hi hb) (by simp) ?_;rintro r rfl;unfold Jka;generalize Wd p (p.Functions[i]).Name=S at *;generalize Vp b b.Lins[i]=T at *;simp[Km];refine hK _ _ (by simp) (by simp) (by simp) (by simp[Et]) ?_;intro id hid;have:¬id=n/\¬id=n+1/\¬id=n+2:=by omega
 simp[this]
theorem Jgo{p:Jq}(hp:Ks p<=1048576){b:X0}(hb:b.Lins.length=p.Functions.length){i:Nat}(hi:i<p.Rules.length)(hf:(Kw p.Functions (p.Rules[i]).Func).isSome=true)(hfc:∀c∈(p.Rules[i]).Calls,(Kw p.Functions c.Func).isSome=true)(hcl:(p.Rules[i]).Calls.length<=2)(s2:s 2 = .ptr 0 0 0)(s3:s 3 = .ptr 1 0 0)(s10:s 10 = .int .i64 i)(e0:h 0=some ⟨true,2,[Jh p]⟩)(e1:h 1=some ⟨true,2,[Kr b]⟩)
 (hK:∀s' h' o,(∀j∈[2,3,4,5,6,50,51,52],s' j=s j)->s' 12 = .bool (Om p b (Wh p i) p.Rules[i]).isSome->s' 11 = .ptr (n+2) 0 0->Et o n h'->(∀t,Om p b (Wh p i) p.Rules[i]=some t->o=⟨(Wh p i).System,t⟩)->(∀id,id<n->h' id=h id)->Ju prog ks .normal s' h' (n+3) Q):rC prog Jwj ks s h n Q:=by
 simp[Jwj,s2,s3,s10,e0,e1];refine Jd (J2h p hp b hb hi hf hfc hcl) (by simp) ?_;rintro _ ⟨o,rfl,ho⟩;rw[show(Ie p i).getD Og=Wh p i from rfl]at *;generalize Om p b (Wh p i) p.Rules[i]=T at *;simp[Km];refine hK _ _ o (by simp) (by simp) (by simp) (by simp[Et]) ho ?_;intro id hid;have:¬id=n/\¬id=n+1/\¬id=n+2:=by omega
 simp[this]
theorem Jpx{acc:List X5}{o:X5}{v:AV}{q:Nat}{a:AC}(hacc:a=Jw9/\s 8 = .ptr (q+2) 0 0\/a=Tf/\s 11 = .ptr (q+2) 0 0)(s6:s 6=v)(O:Et o q h)(B:Kn 1 4 (acc.map Km) v h q)(hq:n=q+3)(hl:acc.length<=3000000)
 (hK:∀s' h' n',(∀j∈[2,3,4,5,30,31,32,50,51,52],s' j=s j)->n<=n'->(∀id z rows,id<q->h id=some ⟨true,z,rows⟩->h' id=h id)->Kn 1 4 ((acc++[o]).map Km) (s' 6) h' n'->Ju prog ks .normal s' h' n' Q):rC prog a ks s h n Q:=by
 subst hq;obtain⟨o1,o2,o3⟩:=O;have fr:∀id,id<q->¬id=q/\¬id=q+1/\¬id=q+3:=by intro id _;omega
 rcases hacc with ⟨rfl,s8⟩|⟨rfl,s8⟩
 ·simp[Jw9,s6,s8,o1,o2,o3];refine Vw (rows:=acc.map Km) (rows2:=[[.int .i64 o.System.N,.us 2 (o.System.Rows.map J9),.int .i64 o.Target.Const,.us 1 (Jg o.Target.Coeffs)]]) (B.keep (n':=q+3+1) (by omega) λid _ hid e=>by simp[fr id hid]) (by simp) (λl e=>by have:=(B.lt e).2.1;omega) (by omega) (by simp;unfold Jb;omega) ?_;intro h1 f1 f2;simp;refine hK _ _ _ (by simp) (by omega) ?_ ?_
  ·intro id z rows h1' h3';rw[f2 id (by omega) (by omega) λl e=>B.not_box h3' e];simp[fr id h1']
  ·simp;exact .inr ⟨q+4,by omega,by omega,by simp,by simp[f1,Km]⟩
 ·simp[Tf,s6,s8,o1,o2,o3];refine Vw (rows:=acc.map Km) (rows2:=[[.int .i64 o.System.N,.us 2 (o.System.Rows.map J9),.int .i64 o.Target.Const,.us 1 (Jg o.Target.Coeffs)]]) (B.keep (n':=q+3+1) (by omega) λid _ hid e=>by simp[fr id hid]) (by simp) (λl e=>by have:=(B.lt e).2.1;omega) (by omega) (by simp;unfold Jb;omega) ?_;intro h1 f1 f2;simp;refine hK _ _ _ (by simp) (by omega) ?_ ?_
  ·intro id z rows h1' h3';rw[f2 id (by omega) (by omega) λl e=>B.not_box h3' e];simp[fr id h1']
  ·simp;exact .inr ⟨q+4,by omega,by omega,by simp,by simp[f1,Km]⟩
theorem Jmz{p:Jq}(hp:Ks p<=1048576){b:X0}(hb:b.Lins.length=p.Functions.length)(hpo:Ym p=true){l2:List (Option X5)}{F:Option (List X5)}(hn:1<n)(s2:s 2 = .ptr 0 0 0)(s3:s 3 = .ptr 1 0 0)(s6:s 6 = .nil 4)(e0:h 0=some ⟨true,2,[Jh p]⟩)(e1:h 1=some ⟨true,2,[Kr b]⟩)(hF:We [] (Il p b++l2)=F)
 (hret:F=Option.none->∀s' h' n',s' 4 = .nil 4->s' 5 = .bool false->Ju prog ks .ret s' h' n' Q)
 (hK:∀s' h' n',(∀j∈[2,3],s' j=s j)->1<n'->h' 0=some ⟨true,2,[Jh p]⟩->h' 1=some ⟨true,2,[Kr b]⟩->(∃acc,acc.length<=3/\Kn 1 4 (acc.map Km) (s' 6) h' n'/\We acc l2=F)->Ju prog ks .normal s' h' n' Q):rC prog bo3 ks s h n Q:=by
 have hfl:=(Cj hpo).2.2.1;simp[bo3,s2,e0,Jh];intro _;refine Ki [2,3,30,31] 32 p.Functions.length (λi s h m=>1<m/\h 0=some ⟨true,2,[Jh p]⟩/\h 1=some ⟨true,2,[Kr b]⟩/\∃acc,acc.length=i/\Kn 1 4 (acc.map Km) (s 6) h m/\We acc ((Il p b).drop i++l2)=F) (by unfold Jb;omega) (by simp) ⟨hn,e0,e1,[],rfl,.inl ⟨rfl,by simp[s6]⟩,by simpa using hF⟩ ?_ ?_
 ·rintro i st h m R hi hg hk s32 hw' ⟨m1,e0,e1,acc,hal,B,hJ⟩ hR hrt _;simp at hk;have hib:i<b.Lins.length:=by omega
  rw[Ja6 hi hb,List.cons_append]at hJ;refine Js [2,3,6,30,31,32] (λs=>s 33 = .bool true) (by simp[hk,s32,hi]) ?_;intro Jv hk1 s33;simp at hk1;refine W9 s33 (Jn (Xg ?_));refine Js [2,3,6,30,31,32] (λs=>s 7 = .int .i64 i) (by simp[hk1,s32]) ?_;intro st2 hk2 s7;simp at hk2;refine Jn (Jhe hp (b:=b) hi hib (by simp[hk2,hk1,hk,s2]) (by simp[hk2,hk1,hk,s3]) s7 e0 e1 ?_);intro Kl h3 hk3 s9 s8 O hfr;simp at hk3;generalize hT:Vp b b.Lins[i]=T at *
  cases T with
  |none=>
   simp only[Option.map_none,We]at hJ;simp[s9]
   exact hrt _ _ _ (hret hJ.symm _ _ _ (by simp) (by simp))
  |some t=>
   simp only[Option.map_some,We]at hJ;simp at O;simp[s9];refine Jpx (acc:=acc) (o:=⟨Wd p (p.Functions[i]).Name,t⟩) (v:=st 6) (q:=m) (.inl ⟨rfl,by simp[s8]⟩) (by simp[hk3,hk2,hk1]) O (B.keep (Nat.le_refl _) λid _ hid _=>hfr id hid) rfl (by omega) ?_;intro st4 h4 n4 hk4 hn4 bx4 B4;simp at hk4;have g0:=hfr 0 (by omega);have g1:=hfr 1 (by omega);rw[e0]at g0;rw[e1]at g1;simp[hk4,hk3,hk2,hk1,s32,hw'];refine hR _ _ _ (by simp[hk4,hk3,hk2,hk1,hk]) (by simp) ⟨by omega,by rw[bx4 0 _ _ (by omega) g0,g0],by rw[bx4 1 _ _ (by omega) g1,g1],acc++[⟨Wd p (p.Functions[i]).Name,t⟩],by simp[hal],?_,hJ⟩;simpa using B4
 ·rintro st h m R hk s32 ⟨m1,e0,e1,acc,hal,B,hJ⟩ _ hX;simp at hk;rw[drop_eq_nil_of_le (by simp[Il]),List.nil_append]at hJ;refine Js [2,3,6] (λs=>s 33 = .bool false) (by simp[hk,s32]) ?_;intro Jv hk1 s33;simp at hk1;refine Ut s33 ?_;refine hX _ _ _ _ ?_;simp;refine hK _ _ _ (by simp[hk1,hk]) m1 e0 e1 ⟨acc,by omega,?_,hJ⟩;rw[hk1.2.2];exact B
theorem Jlc{p:Jq}(hp:Ks p<=1048576){b:X0}(hb:b.Lins.length=p.Functions.length)(hpo:Ym p=true){acc0:List X5}{F:Option (List X5)}(hn:1<n)(s2:s 2 = .ptr 0 0 0)(s3:s 3 = .ptr 1 0 0)(e0:h 0=some ⟨true,2,[Jh p]⟩)(e1:h 1=some ⟨true,2,[Kr b]⟩)(hal0:acc0.length<=3)(B0:Kn 1 4 (acc0.map Km) (s 6) h n)(hF:We acc0 (Qs p b)=F)
 (hret:F=Option.none->∀s' h' n',s' 4 = .nil 4->s' 5 = .bool false->Ju prog ks .ret s' h' n' Q)
 (hK:∀s' h' n' acc,Kn 1 4 (acc.map Km) (s' 6) h' n'->some acc=F->Ju prog ks .normal s' h' n' Q):rC prog bo4 ks s h n Q:=by
 have hrl:=(Cj hpo).2.2.2;simp[bo4,s2,e0,Jh];intro _;refine Ki [2,3,50,51] 52 p.Rules.length (λi s h m=>1<m/\h 0=some ⟨true,2,[Jh p]⟩/\h 1=some ⟨true,2,[Kr b]⟩/\∃acc,acc.length=acc0.length+i/\Kn 1 4 (acc.map Km) (s 6) h m/\We acc ((Qs p b).drop i)=F) (by unfold Jb;omega) (by simp) ⟨hn,e0,e1,acc0,rfl,by simpa using B0,by simpa using hF⟩ ?_ ?_
 ·rintro i st h m R hi hg hk s52 hw' ⟨m1,e0,e1,acc,hal,B,hJ⟩ hR hrt _;simp at hk;obtain⟨f,hff,RI⟩:=Eu hpo (getElem_mem hi);have hfc:=J54 RI.calls;have hcl:=RI.ncalls;rw[J9v hi]at hJ;refine Js [2,3,6,50,51,52] (λs=>s 53 = .bool true) (by simp[hk,s52,hi]) ?_;intro Jv hk1 s53;simp at hk1;refine W9 s53 (Jn (Xg ?_));refine Js [2,3,6,50,51,52] (λs=>s 10 = .int .i64 i) (by simp[hk1,s52]) ?_;intro st2 hk2 s10;simp at hk2;refine Jn (Jgo hp (b:=b) hb hi (by rw[hff];rfl) hfc hcl (by simp[hk2,hk1,hk,s2]) (by simp[hk2,hk1,hk,s3]) s10 e0 e1 ?_);intro Kl h3 o hk3 s12 s11 O ho hfr;simp at hk3;generalize hT:Om p b (Wh p i) p.Rules[i]=T at *
  cases T with
  |none=>
   simp only[Option.map_none,We]at hJ;simp[s12]
   exact hrt _ _ _ (hret hJ.symm _ _ _ (by simp) (by simp))
  |some t=>
   simp only[Option.map_some,We]at hJ;obtain rfl:=ho t rfl;simp[s12];refine Jpx (acc:=acc) (o:=⟨(Wh p i).System,t⟩) (v:=st 6) (q:=m) (.inr ⟨rfl,by simp[s11]⟩) (by simp[hk3,hk2,hk1]) O (B.keep (Nat.le_refl _) λid _ hid _=>hfr id hid) rfl (by omega) ?_;intro st4 h4 n4 hk4 hn4 bx4 B4;simp at hk4;have g0:=hfr 0 (by omega);have g1:=hfr 1 (by omega);rw[e0]at g0;rw[e1]at g1;simp[hk4,hk3,hk2,hk1,s52,hw'];refine hR _ _ _ (by simp[hk4,hk3,hk2,hk1,hk]) (by simp) ⟨by omega,by rw[bx4 0 _ _ (by omega) g0,g0],by rw[bx4 1 _ _ (by omega) g1,g1],acc++[⟨(Wh p i).System,t⟩],by simp[hal];omega,?_,hJ⟩;simpa using B4
 ·rintro st h m R hk s52 ⟨m1,e0,e1,acc,hal,B,hJ⟩ _ hX;simp at hk;rw[drop_eq_nil_of_le (by simp[Qs])]at hJ;refine Js [2,3,6] (λs=>s 53 = .bool false) (by simp[hk,s52]) ?_;intro Jv hk1 s53;simp at hk1;refine Ut s53 ?_;refine hX _ _ _ _ ?_;simp;refine hK _ _ _ acc ?_ hJ;rw[hk1.2.2];exact B
end
theorem J01(p:Jq)(hp:Ks p<=1048576)(b:X0):Holds prog 33 [.agg (Jh p),.agg (Kr b)] (λx=>x=Ob (Uz p b)):=by
 refine Jp Tryz.func33 a33_ok rfl (by simp[a33]) ?_;simp[a33,bo0];rw[<-Gg];refine Xo [2,3,4,5] (λs h2 n2=>W1 p b=true/\n2=2/\h2 0=some ⟨true,2,[Jh p]⟩/\h2 1=some ⟨true,2,[Kr b]⟩) ?_ ?_
 ·simp[bo1];refine Jd (Po p hp) (by simp) ?_;rintro r rfl;have hret:Uz p b=Option.none->True:=λ_=>trivial
  clear hret;cases hpo:Ym p
  ·have:Uz p b=Option.none:=by simp[Uz,W1,hpo]
   simp[this,Ob]
  simp[Kr];refine Jd (O0 b.Kind 1 2) (by simp) ?_;rintro r rfl;cases hin:K9 b.Kind 1 2
  ·have:Uz p b=Option.none:=by simp[Uz,W1,hin]
   simp[this,Ob]
  simp;refine Jd (Jgp p b.Lins) (by simp[Jh]) ?_;rintro r rfl;cases hlb:Ek p.Functions b.Lins
  ·have:Uz p b=Option.none:=by simp[Uz,W1,hlb]
   simp[this,Ob]
  simp[W1,hpo,hin,hlb]
 rintro Jv h1 _ hk1 ⟨hB,rfl,e0,e1⟩;simp at hk1;obtain⟨hpo,hin,hbl⟩:=F7 hB;have hbo:Uz p b=We [] (Il p b++Qs p b):=by simp[Uz,hB]
 rw[hbo];clear hbo;generalize hF:We [] (Il p b++Qs p b)=F;simp[bo2];refine Jmz hp hbl hpo (F:=F) (l2:=Qs p b) (by omega) (by simp[hk1]) (by simp[hk1]) (by simp) e0 e1 hF ?_ ?_
 ·rintro rfl s' h' n' s4 s5;simp[s4,s5,Ob]
 rintro st2 h2 n2 hk2 hn2 f0 f1 ⟨acc,hal,B,hJ⟩;simp at hk2;simp;refine Jlc hp hbl hpo (F:=F) hn2 (by simp[hk2,hk1]) (by simp[hk2,hk1]) f0 f1 hal B hJ ?_ ?_
 ·rintro rfl s' h' n' s4 s5;simp[s4,s5,Ob]
 rintro Kl h3 n3 acc3 B3 rfl;obtain⟨h4,d1,_⟩:=B3.dt;simp[bo5,-dt,-Wq,Ob];simp[dt,Wq,d1]
def a60:Jk:= ⟨23,[.t 2],(Zq [ZB 1 0,Zo 2 (.mv (.k (.nil 1)))] (Zq [Zo 5 (.bsl 1 []),Zv 3 5] (.seq (Zq [Zi 4 0] (.blk 0 (.loop (.seq (Zq [Zv 6 4,Zf 7 0 1,Zl 8 false 1 7,Zn 9 8,Zb 10 .lss 6 9] (Zw 10 0)) (.seq (.blk 1 (.reg [Zv 13 3,Zf 14 0 1,Zl 15 false 1 14,Zv 16 4,Zx 17 4 15 16,Zf 18 0 17,Zl 19 false 1 18,Zo 20 (.bsl 1 [.t 19]),ZA 21 16 1 13 20,Zv 3 21])) (.reg [Zv 11 4,Zk 12 .add 11 1,Zv 4 12])))))) (Zq [Zv 22 3,Zv 2 22] .ret))))⟩
theorem a60_ok:Jf prog Tryz.f60=some a60:=by kernel_rfl
theorem J8n(p:Jq)(hp:Ks p<=1048576):Holds prog 60 [.agg (Jh p)] (λx=>x = .us 1 (Ji (D8 p))):=by
 have hfl:p.Functions.length<=1048576:=by have:=Yk Ys p.Functions;unfold Ks I4 at hp;omega
 refine Jp Tryz.func60 a60_ok rfl (by simp[a60]) ?_;simp[a60,Jh];generalize hT:D8 p=T;have hTl:T.length=p.Functions.length:=by rw[<-hT];simp[D8]
 refine Ki [1] 4 p.Functions.length (λi s h n=>h 0=some ⟨true,2,[Jh p]⟩/\∃(acc:List Je) (id:Nat),acc++T.drop i=T/\0<id/\id<n/\s 3 = .ref id 0 acc.length/\h id=some ⟨false,1,Ji acc⟩) (by unfold Jb;omega) (by simp) ⟨by simp[Jh],[],1,by simp,by simp,by simp,by simp,by simp[Ji]⟩ ?_ ?_
 ·rintro i st h n R hi hg hk s4 hw ⟨e0,acc,id,hJ,hid0,hid,s3,eid⟩ hR hret _;simp at hk;have hin:i<T.length:=by omega
  have hni:T[i]=(p.Functions[i]).Name:=by subst hT;simp[D8]
  rw[drop_eq_getElem_cons hin,hni]at hJ;have hal:=congrArg List.length hJ;simp only[length_append,List.length_cons]at hal;have z0:¬id=n:=by omega
  have z1:¬id=n+1:=by omega
  have z2:¬n+1=id:=by omega
  have z3:¬n=id:=by omega
  have z4:¬0=id:=by omega
  have z5:¬0=n:=by omega
  have z6:¬n=0:=by omega
  have z7:¬id=0:=by omega
  simp[hk,s4,hi,e0,Jh,K5,s3,eid,z0,z3,hw];intro _;refine⟨by unfold Jb;omega,?_⟩;exact hR _ _ _ (by simp[hk]) (by simp) ⟨by simp[e0,z4,z5,z6,Jh],acc++[(p.Functions[i]).Name],n+1,by simpa using hJ,by omega,by omega,by simp,by simp[Ji]⟩
 rintro st h n R hk s4 ⟨e0,acc,id,hJ,hid0,hid,s3,eid⟩ hret hX;simp at hk;rw[drop_eq_nil_of_le (by omega),List.append_nil]at hJ;subst hJ;simp[hk,s4,e0,Jh];intro _;refine hX _ _ _ _ ?_;simp[s3,eid]
def a270:Jk:= ⟨10,[.t 4],(Zq [Zi 4 0] (.seq (Zq [Zv 5 0,Zv 6 1,Zb 7 .gtr 5 6] (.cond (.t 7) (Zq [Zv 8 0,Zv 4 8] .ret) .skip)) (Zq [Zv 9 1,Zv 4 9] .ret)))⟩
theorem a270_ok:Jf prog Tryz.f270=some a270:=by kernel_rfl
def a186:Jk:= ⟨15,[(.c 6 true 2)],(Zq [ZB 3 0,Zo 6 (.box [(.int .i64 0),(.nil 1)])] (Zq [Zv 7 1,Zl 8 true 2 3,Zc 9 60 [.t 8],Zv 10 2,Zc 11 63 [.t 9,.t 10],Zc 12 270 [.t 11,(.k (.int .i64 0))],Zx 13 2 7 12,Zl 14 true 2 13,⟨no,.st 2 (.t 6) (.t 14),no⟩] .ret))⟩
theorem a186_ok:Jf prog Tryz.f186=some a186:=by kernel_rfl
theorem J6p{t:Jc}{n k:Int}(h:K4 t n=true)(hk:0<=k/\k<=1048576):Kg t (-1) (Jo k n)=U6 t (-k):=by
 have hl:=W0 h;have hkc:Ky k=true:=by rw[Oi];omega
 have hkn:Ky (-k)=true:=by rw[Oi];omega
 have hc:Jo k n=⟨k,List.replicate n.toNat 0⟩:=by unfold Jo;rw[if_pos (by rw[hkc];simp[K9];omega)]
 have hm1:Ky (-1)=true:=by decide
 have hz:∀c,Ky c=true->U1 c (-1) 0=some c:=λc hc=>by
  have h0:Ky 0=true:=by decide
  simp[U1,Xw,Uv,h0,hm1,hc]
 have h1:U1 t.Const (-1) k=if (Uv t.Const (-k)).2 then some (Uv t.Const (-k)).1 else Option.none:=by simp[U1,Xw,hm1,hkc,hkn]
 have hok:K4 t t.Coeffs.length=true:=by rw[hl.1];exact h
 have hok2:K4 (Jo k n) t.Coeffs.length=true:=by rw[hc];unfold K4;simp[K9];exact⟨⟨⟨by omega,by omega⟩,hkc⟩,.inr (by decide)⟩
 have hall:t.Coeffs.all Ky=true:=by unfold K4 at h;simp at h;simpa using h.2
 have hZ:Yy t (-1) (Jo k n)=t.Coeffs.map some:=by
  rw[hc];unfold Yy;refine List.ext_getElem (by simp;omega) λi h1 h2=>?_
  simp;exact hz _ (all_eq_true.1 hall _ (getElem_mem _))
 have hO:Dh t (-1) (Jo k n)=true:=by unfold Dh;rw[hZ];simp
 unfold Kg U6;rw[hok,hok2,hO,hZ];have hc1:(Jo k n).Const=k:=by rw[hc]
 rw[hc1,h1,hm1];cases(Uv t.Const (-k)).2 <;>simp[Function.comp_def]
theorem J68{n:Nat} : ∀{xs:List Je}{a:MS},(xs.foldl (Yv n) a).pars=a.pars++Gs n xs a.nx
 | [],a=>by simp[Gs]
 |x::xs,a=>by rw[List.foldl_cons,J68];simp[Yv,Gs]
theorem Jbk{p:Jq}{r:Jy}{f:K3}(R:Ev p r f):(Vf r f).Params=(List.range f.Params.length).map λi:Nat=>Ka i (K7 r f):=by
 have h1:(Vf r f).Params=(V5 r f).pars:=rfl
 have h2:(V5 r f).pars=(Y2 r f).pars:=by unfold V5;rw[J2q.2.1];rfl
 have h3:(Y2 r f).pars=(Ud r f).pars:=by unfold Y2;rw[J2r];rfl
 have h4:(Ud r f).pars=Gs (K7 r f) f.Params 0:=by unfold Ud;rw[J68];simp
 rw[h1,h2,h3,h4,J7r R.par]
theorem Jjf{p:Jq}(h1:Ym p=true){i:Nat}(hi:i<p.Rules.length){f:K3}(hf:Kw p.Functions (p.Rules[i]).Func=some f):Wh p i=Vf p.Rules[i] f:=by
 have hg:p.Rules.getD (i:Int).toNat Er=p.Rules[i]:=by simp[hi]
 have hin:K9 (i:Int) 0 ((p.Rules.length:Int) - 1)=true:=by simp[K9];omega
 have hfa:Im p p.Rules[i]=f:=by unfold Im;rw[hf];rfl
 unfold Wh Ie;simp only[h1,hin,hg,hfa,Bool.and_self,if_true,Option.getD_some]
theorem Jcu{p:Jq}{b:X0}(hB:W1 p b=true){j:Nat}(hj:j<p.Functions.length)(hj':j<b.Lins.length):K4 b.Lins[j] (p.Functions[j]).Params.length=true:=by
 unfold W1 Ek at hB;simp only[Bool.and_eq_true,decide_eq_true_eq,all_eq_true]at hB
 have hm:(b.Lins[j],p.Functions[j])∈b.Lins.zip p.Functions:=by rw[List.mem_iff_getElem];exact⟨j,by simp;omega,by simp⟩
 exact hB.2.2 _ hm
theorem Jgi{p:Jq}{b:X0}(hB:W1 p b=true){name:Je}{f:K3}(hf:Kw p.Functions name=some f):K4 (Uq p b name) f.Params.length=true:=by
 obtain⟨_,_,hbl⟩:=F7 hB;rcases Rx (p:=λf:K3=>f.Name==name) (l:=p.Functions) (k:=0)with ⟨h1,_⟩|⟨j,hj,h1,_⟩
 ·unfold Kw at hf;rw[h1]at hf;cases hf
 ·rename_i h2;unfold Kw at hf;rw[h2,Option.some.injEq]at hf;have hj':j<b.Lins.length:=by omega
  have hl:Uq p b name=b.Lins[j]:=by unfold Uq;rw[h1];simp[hj']
  rw[hl,<-hf];exact Jcu hB hj hj'
theorem Jfw{l:Jc}{m n:Nat}(hmn:m<=n)(hn:n<=8)(h:K4 l m=true):K4 (Yc n l) n=true:=by
 have hl:=W0 h;unfold K4 at h⊢;simp only[Bool.and_eq_true,decide_eq_true_eq,all_eq_true]at h⊢;refine⟨⟨⟨by simp[K9];omega,by simp[Yc];omega⟩,h.1.2⟩,?_⟩;intro y hy;simp only[Yc,List.mem_append,List.mem_replicate]at hy;rcases hy with hy|⟨_,rfl⟩
 ·exact h.2 _ hy
 ·decide
theorem Jet{p:Jq}{b:X0}(hB:W1 p b=true){i:Nat}(hi:i<p.Rules.length):∃t,Wj (Uq p b (p.Rules[i]).Func) (Wh p i).Params (Wh p i).System.N=some t/\K4 t (Wh p i).System.N=true:=by
 obtain⟨hpo,_,_⟩:=F7 hB;obtain⟨f,hf,R⟩:=Eu hpo (getElem_mem hi);rw[Jjf hpo hi hf,Jbk R];have hN:(Vf p.Rules[i] f).System.N=(K7 p.Rules[i] f:Nat):=rfl;rw[hN];have hs:=R.size;have hmn:f.Params.length<=K7 p.Rules[i] f:=by unfold K7;omega
 have hl:=Jgi hB hf;exact⟨_,J2t R.par hmn (by omega) hl,Jfw hmn (by omega) hl⟩
theorem Jlv{l:List K3}(hn:(l.map (·.Name)).Nodup){i:Nat}(hi:i<l.length):Kw l (l[i]).Name=some l[i]:=by
 unfold Kw
 cases h:l.find? λf=>f.Name==(l[i]).Name with
 |none=>
  have:=List.find?_eq_none.1 h _ (getElem_mem hi)
  simp at this
 |some g=>
  have hg:=List.find?_some h;have hm:=List.mem_of_find?_eq_some h;simp only[beq_iff_eq]at hg;obtain⟨j,hj,rfl⟩:=List.mem_iff_getElem.1 hm
  have hij:j=i:=by
   have h1:(l.map (·.Name))[j]'(by simpa using hj)=(l.map (·.Name))[i]'(by simpa using hi):=by simpa using hg
   rcases Nat.lt_trichotomy j i with h|h|h
   ·exact absurd h1 (List.pairwise_iff_getElem.1 hn j i (by simpa using hj) (by simpa using hi) h)
   ·exact h
   ·exact absurd h1.symm (List.pairwise_iff_getElem.1 hn i j (by simpa using hi) (by simpa using hj) h)
  subst hij;rfl
theorem Jqd{p:Jq}(hpo:Ym p=true){i:Nat}(hi:i<p.Functions.length):(Wd p (p.Functions[i]).Name).N=((p.Functions[i]).Params.length:Nat):=by have h1:=Jlv (Cj hpo).1 hi;unfold Wd Br;rw[hpo,if_pos rfl,h1];rfl
theorem Jlk{p:Jq}{b:X0}(hB:W1 p b=true){i:Nat}(hi:i<p.Functions.length)(hb:i<b.Lins.length):Kg b.Lins[i] (-1) (Jo (Vj b.Kind) (Wd p (p.Functions[i]).Name).N)=Vp b b.Lins[i]:=by rw[Jqd (F7 hB).1 hi];unfold Vp;exact J6p (Jcu hB hi hb) (by unfold Vj;split <;>omega)
theorem Jaf(x y:Int):Holds prog 270 [i64 x,i64 y] (λr=>r=i64 (if x>y then x else y)):=by refine Jp Tryz.func270 a270_ok rfl (by simp[a270]) ?_;simp[a270];refine⟨λ_ _=>by omega,λ_ _=>by omega⟩
theorem Jc6{name:Je} : ∀{l:List K3}{k:Nat},Y6 (λx=>x==name) (l.map (·.Name)) k=Y6 (λf:K3=>f.Name==name) l k
 | [],_=>rfl
 |f::l,k=>by simp only[List.map_cons,Y6];rw[Jc6]
theorem Jdf{P:Program}{f:FuncId}{xs:List AV}{h:J8}{n:Nat}{K:AV->J8->Nat->Prop}
 (hA:X7 P f xs h n λr h' _=>idb n r/\(∀id,id<n->h' id=h id)/\K r h n):X7 P f xs h n K:=by
 refine⟨hA.1,λbase w0 w L F vs H hv=>?_⟩;refine(hA.2 base w0 w L F vs H hv).mono ?_;rintro e w' ⟨v,r,L',n',F',h',rfl,H',Xy,hr,hs,hh,hk⟩;refine⟨v,r,Dl n L',n,_,h,rfl,H.cut H' hh,?_,D3 (Xa.cut _ _ _) _ _ _ (Si _ _ _ hr hs),hk⟩;exact⟨Nat.le_refl _,λid l hid hl=>Xy.old id l hid (Ec hl).2,Xy.size,λb hb ho=>⟨(Xy.block b hb ho).1,λh=>(Xy.block b hb ho).2 h.cut⟩⟩
theorem Jh6{p:Jq}(hp:Ks p<=1048576){b:X0}{name:Je}(hf:(Kw p.Functions name).isSome=true)(hb:b.Lins.length=p.Functions.length){h:J8}{n:Nat}{K:AV->J8->Nat->Prop}
 (hK:K (.agg (Ja (Uq p b name))) h n):X7 prog 186 [.agg (Jh p),.sl 2 (b.Lins.map Ja),.str name] h n K:=by
 obtain⟨j,hj,hji⟩:=Tp hf;have hjl:j<b.Lins.length:=by omega
 have hl:Uq p b name=b.Lins[j]:=by unfold Uq;rw[hji];simp[hjl]
 rw[hl]at hK;have ne:¬n=n+1/\¬n+1=n/\¬n=n+1+1/\¬n+1=n+1+1:=by omega
 have fr:∀id,id<n->¬id=n/\¬id=n+1/\¬id=n+1+1:=by intro id _;omega
 refine Jdf (U8 Tryz.func186 a186_ok rfl (by simp[a186]) ?_);simp[a186,Jh];refine Jd (J8n p hp) (by simp[Jh]) ?_;rintro r rfl;simp;refine Jd (N4 (D8 p) name) (by simp) ?_;rintro r rfl;have hx:Y6 (λx=>x==name) (D8 p) 0=(j:Int):=by unfold D8;rw[Jc6,hji]
 simp[hx];refine Jd (Jaf (j:Int) 0) (by simp) ?_;rintro r rfl;have hm:(if (j:Int)>0 then(j:Int)else 0)=j:=by split <;>omega
 rw[hm];simp[hjl,Ja];refine⟨by simp[idb,I7],?_,hK⟩;intro id hid;simp[fr id hid]
theorem Pj{p:Jq}(hp:Ks p<=1048576){b:X0}{name:Je}(hf:(Kw p.Functions name).isSome=true)(hb:b.Lins.length=p.Functions.length){h:J8}{n:Nat}{K:AV->J8->Nat->Prop}
 (hk:K (.agg (Ja (Uq p b name))) h n):X7 prog 186 [.agg (Jh p),.sl 2 (b.Lins.map Ja),.str name] h n (hK h K):=Jh6 hp hf hb (by simpa using hk)
theorem J35{a b:Kd}{va ma vb mb:AV}{N m v:Nat}{h:J8}{n:Nat}{K:AV->J8->Nat->Prop}(ga:GD N m a)(gb:GD N m b)(hm:m<=20)(hv:v<N)(hpa:0<Kc v a)(hqb:Kc v b<0)(A1:Wg a.l.Coeffs va h n)(A2:Vd (a.mult++[a.scale]) ma h n)(B1:Wg b.l.Coeffs vb h n)(B2:Vd (b.mult++[b.scale]) mb h n)
 (hK:∀h' n' c k1 l1 k2 l2,n<=n'->(∀id,id<n->h' id=h id)->(∀d,Gp v a b=some d->X6 d [.int .i64 c,.ref k1 0 l1,.ref k2 0 l2] h' n')->K (.tup [.agg [.int .i64 c,.ref k1 0 l1,.ref k2 0 l2],.bool (Gp v a b).isSome]) h' n') :
 X7 prog 304 [.agg [.int .i64 a.l.Const,va,ma],.agg [.int .i64 b.l.Const,vb,mb],i64 v] h n K:=by
 refine U8 Tryz.func304 a304_ok rfl (by simp[a304]) ?_;unfold a304;have c1:=A1.cell;have c2:=A2.cell;have c3:=B1.cell;have c4:=B2.cell;have hpa':=Oi.1 (ga.coef hv);have hqb':=Oi.1 (gb.coef hv);have hvl:v<a.l.Coeffs.length:=by rw[ga.cl];exact hv
 have hvl2:v<b.l.Coeffs.length:=by rw[gb.cl];exact hv
 have hca:a.l.Coeffs[v]=Kc v a:=by simp[Kc,hvl]
 have hcb:b.l.Coeffs[v]=Kc v b:=by simp[Kc,hvl2]
 have fr0:∀id,id<n->¬id=n/\¬id=n+1/\¬id=n+1+1:=by intro id _;omega
 have ne:¬n=n+1+1/\¬n=n+1/\¬n+1=n+1+1/\n+2=n+1+1:=by omega
 refine Xo [2] (λs h' m=>m=n+3/\(s 3 = .ptr n 0 0/\s 4 = .ptr (n+1) 0 0/\s 6 = .ptr (n+2) 0 0)/\(∀id,id<n->h' id=h id) /\
  h' n=some ⟨true,3,[[.int .i64 a.l.Const,va,ma]]⟩/\h' (n+1)=some ⟨true,3,[[.int .i64 b.l.Const,vb,mb]]⟩/\h' (n+2)=some ⟨true,3,[[.int .i64 0,.nil 1,.nil 1]]⟩) ?_ ?_
 ·simp[jn0,-K8,c1,c2,c3,c4];simp[K8];refine⟨λid hid=>?_,?_⟩
  ·simp[fr0 id hid]
  ·simp[ne]
 rintro s1 h1 n1 hk1 ⟨rfl,⟨s3,s4,s6⟩,fr,e3,e4,e6⟩;simp at hk1;have kp1:Ko h h1 n:=Ko.of fr;refine Js [2,3,4,6] (λs=>s 8 = .int .i64 (Kc v a)) ?_ ?_
 ·simp[jn1,s3,hk1,e3];refine F5 (A1.keep (by omega) kp1) hvl ?_;intro w1 hw1;simp;refine hw1 _ ?_;rw[hca];simp
 intro s2 hk2 s8;simp at hk2;have hw:IntKind.i64.wrap (0 - Kc v b) = -(Kc v b):=by rw[Kk (by omega)];omega
 simp at hw;refine Js [2,3,4,6,8] (λs=>s 9 = .int .i64 (-(Kc v b))) ?_ ?_
 ·simp[jn2,s4,hk2,hk1,e4];refine F5 (B1.keep (by omega) kp1) hvl2 ?_;intro w1 hw1;simp;refine hw1 _ ?_;rw[hcb];simp[hw]
 intro s3' hk3 s9;simp at hk3;generalize hg:Gr (Kc v a) (-(Kc v b))=g;have hg1:0<g:=by rw[<-hg];exact Jai (by omega)
 have hg2:g<=1000000000:=by rw[<-hg];exact Jcc (by omega) (by omega)
 refine Js [3,4,6,8,9] (λs=>s 10 = .int .i64 (g:Nat)) ?_ ?_
 ·have hpn:((Kc v a).toNat:Int)=Kc v a:=by omega
  have hqn:((-(Kc v b)).toNat:Int) = -(Kc v b):=by omega
  have hk:=Jnb (Kc v a).toNat (-(Kc v b)).toNat (by omega) (by omega);rw[hpn,hqn,show Nat.gcd (Kc v a).toNat (-(Kc v b)).toNat=Gr (Kc v a) (-(Kc v b))from rfl,hg]at hk;simp[jn3,s9,hk3,s8];refine Jd hk (by simp) ?_;rintro r rfl;simp;refine Jd (Jaf (g:Int) 1) (by simp) ?_;rintro r rfl;have:(if (g:Int)>1 then(g:Int)else 1)=g:=by split <;>omega
  rw[this];simp
 intro s4' hk4 s10;simp at hk4;have y3:s4' 3 = .ptr n 0 0:=by rw[hk4.1,hk3.2.1,hk2.2.1,s3]
 have y4:s4' 4 = .ptr (n+1) 0 0:=by rw[hk4.2.1,hk3.2.2.1,hk2.2.2.1,s4]
 have y6:s4' 6 = .ptr (n+2) 0 0:=by rw[hk4.2.2.1,hk3.2.2.2.1,hk2.2.2.2,s6]
 have y8:s4' 8 = .int .i64 (Kc v a):=by rw[hk4.2.2.2.1,hk3.2.2.2.2,s8]
 have y9:s4' 9 = .int .i64 (-(Kc v b)):=by rw[hk4.2.2.2.2,s9]
 have hja:Gp v a b=Qi a ((-(Kc v b)).tdiv g) b ((Kc v a).tdiv g):=by unfold Gp;rw[hg]
 rw[hja]at hK;generalize hP:Kc v a=P at *;generalize hQ : -(Kc v b)=Qq at *;refine Jn (Jkw (a:=a) (va:=va) (ma:=ma) (q:=Qq) (g:=g) ga (by omega) (by omega) y3 y9 s10 e3 (A1.keep (by omega) kp1) ?_);intro s5 h5 n5 k11 q11 hk5 hn5 hf5 s12 s11 L5;simp at hk5;rw[Qb];have hf50:∀id,id<n->h5 id=h id:=λid hid=>by rw[hf5 id (by omega),fr id hid]
 have kp5:Ko h h5 n:=Ko.of hf50;refine Jn (Jmd (b:=b) (vb:=vb) (mb:=mb) (N:=N) (m:=m) (p:=P) (g:=g) (lo:=n+3) (by omega) (by omega) (by rw[hk5.2.1,y4]) (by rw[hk5.2.2.2.1,y8]) (by rw[hk5.2.2.2.2.2,s10]) s11 (by rw[hf5 _ (by omega),e4]) L5 (B1.keep (by omega) kp5) ?_);intro s6' h6 n6 k13 q13 hk6 hn6 hf6 s14 s13 L6;simp at hk6;rw[Qb];have hf60:∀id,id<n->h6 id=h id:=λid hid=>by rw[hf6 id (by omega),hf50 id hid]
 have kp6:Ko h h6 n:=Ko.of hf60;have z3:h6 n=some ⟨true,3,[[.int .i64 a.l.Const,va,ma]]⟩:=by rw[hf6 _ (by omega),hf5 _ (by omega),e3]
 have z4:h6 (n+1)=some ⟨true,3,[[.int .i64 b.l.Const,vb,mb]]⟩:=by rw[hf6 _ (by omega),hf5 _ (by omega),e4]
 have z6:h6 (n+2)=some ⟨true,3,[[.int .i64 0,.nil 1,.nil 1]]⟩:=by rw[hf6 _ (by omega),hf5 _ (by omega),e6]
 have w1:=Cr (p:=P) (g:=(g:Int)) (by omega) (by omega) (by omega);have w2:=Cr (p:=Qq) (g:=(g:Int)) (by omega) (by omega) (by omega);have v1:IntKind.i64.wrap (P.tdiv g)=P.tdiv g:=Kk (by omega);have v2:IntKind.i64.wrap (Qq.tdiv g)=Qq.tdiv g:=Kk (by omega);have hgn:¬g=0:=by omega
 have hml:b.mult.length=a.mult.length:=by rw[ga.len,gb.len]
 have hml':(b.mult++[b.scale]).length=(a.mult++[a.scale]).length:=by simp[hml]
 have hm20:(a.mult++[a.scale]).length<=100:=by simp[ga.len];omega
 have hb1:=(A2.keep (n':=n6) (by omega) kp6).bw;have hb2:=(B2.keep (n':=n6) (by omega) kp6).bw;generalize hSC:Fl (Qq.tdiv g) (a.mult++[a.scale]) (P.tdiv g) (b.mult++[b.scale])=SC at *;generalize hOK:(Yp (Qq.tdiv g) (a.mult++[a.scale]) (P.tdiv g) (b.mult++[b.scale])).all (·.2)=OK at *;generalize hT1:Kg (Jo 0 a.l.Coeffs.length) (Qq.tdiv g) a.l=T1 at *;generalize hT2:Kg (T1.getD Jl) (P.tdiv g) b.l=T2 at *;have x6:s6' 6 = .ptr (n+2) 0 0:=by rw[hk6.2.2.1,hk5.2.2.1,y6]
 have x12:s6' 12 = .bool T1.isSome:=by rw[hk6.2.2.2.2.2.2,s12]
 refine Xo [6,12,13,14] (λs h' m=>m=n6+1/\s 15 = .ref n6 0 SC.length/\s 16 = .bool OK/\h' n6=some ⟨false,1,Jg SC⟩/\∀id,id<n6->h' id=h6 id) ?_ ?_
 ·simp[jn6,hk6,hk5,y3,y4,y8,y9,s10,z3,z4,hgn,v1,v2];refine Jw (J8a (a.mult++[a.scale]) (b.mult++[b.scale]) (Qq.tdiv g) (P.tdiv g) hml' hm20) (by simp only[U0,hb1,hb2];simp[bw]) ?_;rintro r rfl;rw[hSC,hOK];simp;intro id hid;have:¬id=n6:=by omega
  simp[this]
 rintro s7 h7 n7 hk7 ⟨rfl,s15,s16,e15,hf7⟩;simp at hk7;obtain⟨q1,q2,q3,q4,q5,q6,q7⟩:=L6;have u6:h7 (n+2)=some ⟨true,3,[[.int .i64 0,.nil 1,.nil 1]]⟩:=by rw[hf7 _ (by omega),z6]
 have u13:h7 k13=some ⟨true,2,[[.int .i64 (T2.getD Jl).Const,.ref q13 0 (T2.getD Jl).Coeffs.length]]⟩:=by rw[hf7 k13 q2,q6]
 have uq:h7 q13=some ⟨false,1,Jg (T2.getD Jl).Coeffs⟩:=by rw[hf7 q13 q4,q7]
 have hb:((T1.isSome&&T2.isSome)&&OK)=(Qi a (Qq.tdiv g) b (P.tdiv g)).isSome:=by
  cases T1 with
  |none=>rw[Jc5 hT1];rfl
  |some l1=>
   simp only[Option.getD_some]at hT2
   cases T2 with
   |none=>rw[Jcz hT1 hT2];rfl
   |some l2=>
    rw[J7o hT1 hT2];rw[J2y hml,List.all_append]at hOK;rw[<-hOK];cases h1:(Yp (Qq.tdiv g) a.mult (P.tdiv g) b.mult).all (·.2) <;>cases h2:(Wx (Qq.tdiv g) a.scale (P.tdiv g) b.scale).2 <;>simp[h2]
 have key:∀h',(∀id,id≠n+2->h' id=h7 id)->h' (n+2)=some ⟨true,3,[[.int .i64 (T2.getD Jl).Const,.ref q13 0 (T2.getD Jl).Coeffs.length,.ref n6 0 SC.length]]⟩->K (.tup [.agg [.int .i64 (T2.getD Jl).Const,.ref q13 0 (T2.getD Jl).Coeffs.length,.ref n6 0 SC.length],.bool ((T1.isSome&&T2.isSome)&&OK)]) h' (n6+1):=by
  intro h' hf' _;rw[hb];have hfx:∀id,id<n->h' id=h id:=λid hid=>by rw[hf' id (by omega),hf7 id (by omega),hf60 id hid]
  have g1:h' q13=some ⟨false,1,Jg (T2.getD Jl).Coeffs⟩:=by rw[hf' q13 (by omega),uq]
  have g2:h' n6=some ⟨false,1,Jg SC⟩:=by rw[hf' n6 (by omega),e15]
  refine hK h' (n6+1) _ _ _ _ _ (by omega) hfx λd hd=>?_
  have hs:(Qi a (Qq.tdiv g) b (P.tdiv g)).isSome=true:=by rw[hd];rfl
  rw[<-hb]at hs;simp only[Bool.and_eq_true]at hs;obtain⟨l1,rfl⟩:=Option.isSome_iff_exists.1 hs.1.1;simp only[Option.getD_some]at hT2;obtain⟨l2,rfl⟩:=Option.isSome_iff_exists.1 hs.1.2;have hoka:=hs.2;have hJ:=J7o hT1 hT2
  have hSCv:SC=(Yp (Qq.tdiv g) a.mult (P.tdiv g) b.mult).map (·.1)++[(Wx (Qq.tdiv g) a.scale (P.tdiv g) b.scale).1]:=by rw[<-hSC];unfold Fl;rw[hOK,hoka,if_pos rfl,J2y hml];simp
  have hcond:((Wx (Qq.tdiv g) a.scale (P.tdiv g) b.scale).2&&(Yp (Qq.tdiv g) a.mult (P.tdiv g) b.mult).all (·.2))=true:=by rw[J2y hml,List.all_append,hoka]at hOK;simp at hOK;simpa[and_comm]using hOK
  rw[hcond,if_pos rfl,hd]at hJ;have hd':=Option.some.inj hJ;subst hd';exact⟨_,_,rfl,.inr (.inr ⟨q13,by omega,rfl,g1⟩),.inr ⟨n6,by omega,by rw[hSCv],by rw[g2,hSCv]⟩⟩
 have x13:s7 13 = .ptr k13 0 0:=by rw[hk7.2.2.1,s13]
 have y12:s7 12 = .bool T1.isSome:=by rw[hk7.2.1,x12]
 have y14:s7 14 = .bool T2.isSome:=by rw[hk7.2.2.2,s14]
 have y6:s7 6 = .ptr (n+2) 0 0:=by rw[hk7.1,x6]
 generalize T1.isSome=b1 at *;generalize T2.isSome=b2 at *;cases b1 <;>cases b2 <;>simp[jn7,x13,u13,s15,y12,y14,s16,y6,u6]
 all_goals
  exact key _ (λid hid=>Ye _ _ _ _ hid) (Uu _ _ _)
theorem J0w{a b:Kd}{va ma vb mb:AV}{j k:Int}{h:J8}{n:Nat}{K:AV->J8->Nat->Prop}(hml:b.mult.length=a.mult.length)(hm20:a.mult.length<=20)(A1:Wg a.l.Coeffs va h n)(A2:Vd a.mult ma h n)(B1:Wg b.l.Coeffs vb h n)(B2:Vd b.mult mb h n)
 (hK:∀h' n' o r,n<=n'->(∀id,id<n->h' id=h id)->Kz o r h' n'->(∀d,Qi a j b k=some d->o=d)->K (.tup [.agg r,.bool (Qi a j b k).isSome]) h' n') :
 X7 prog 313 [.agg [.int .i64 a.l.Const,va,ma,.int .i64 a.scale],i64 j,.agg [.int .i64 b.l.Const,vb,mb,.int .i64 b.scale],i64 k] h n K:=by
 refine U8 Tryz.func313 a313_ok rfl (by simp[a313]) ?_;unfold a313;have c1:=A1.cell;have c2:=A2.cell;have c3:=B1.cell;have c4:=B2.cell
 refine Xo [] (λs h' m=>m=n+5/\(s 4 = .ptr n 0 0/\s 5 = .ptr (n+1) 0 0/\s 6 = .ptr (n+2) 0 0/\s 7 = .ptr (n+3) 0 0/\s 8 = .ptr (n+4) 0 0)/\(∀id,id<n->h' id=h id) /\
  h' n=some ⟨true,4,[[.int .i64 a.l.Const,va,ma,.int .i64 a.scale]]⟩/\h' (n+1)=some ⟨true,1,[[i64 j]]⟩/\h' (n+2)=some ⟨true,4,[[.int .i64 b.l.Const,vb,mb,.int .i64 b.scale]]⟩/\h' (n+3)=some ⟨true,1,[[i64 k]]⟩/\h' (n+4)=some ⟨true,4,[[.int .i64 0,.nil 1,.nil 1,.int .i64 0]]⟩) ?_ ?_
 ·simp[cb0,-K8,c1,c2,c3,c4];simp[K8];have ne:¬n=n+1+1+1+1/\¬n=n+1+1+1/\¬n=n+1+1/\¬n=n+1/\¬n+1=n+1+1+1+1/\¬n+1=n+1+1+1/\¬n+1=n+1+1/\¬n+2=n+1+1+1+1/\¬n+2=n+1+1+1/\¬n+3=n+1+1+1+1/\n+2=n+1+1/\n+3=n+1+1+1/\n+4=n+1+1+1+1:=by omega
  refine⟨λid hid=>?_,?_⟩
  ·have:¬id=n/\¬id=n+1/\¬id=n+1+1/\¬id=n+1+1+1/\¬id=n+1+1+1+1:=by omega
   simp[this]
  ·simp[ne]
 rintro s1 h1 n1 - ⟨rfl,⟨s4,s5,s6,s7,s8⟩,fr,e4,e5,e6,e7,e8⟩;have A1':Wg a.l.Coeffs va h1 (n+5):=A1.keep (by omega) (Ko.of fr);refine Jn (Jn9 s4 s5 e4 e5 A1' ?_);intro s2 h2 n2 k10 q10 hk2 hn2 fr2 s11 s10 L2;simp at hk2;rw[Qb];have fr2':∀id,id<n->h2 id=h id:=λid hid=>by rw[fr2 id (by omega),fr id hid]
 have B1':Wg b.l.Coeffs vb h2 n2:=B1.keep (by omega) (Ko.of fr2');generalize hT1:Kg (Jo 0 a.l.Coeffs.length) j a.l=T1 at *;refine Jn (Jn3 (b:=b) (k:=k) (k6:=n+2) (k7:=n+3) (by rw[hk2.2.2.1,s6]) (by rw[hk2.2.2.2.1,s7]) s10 (by rw[fr2 _ (by omega),e6]) (by rw[fr2 _ (by omega),e7]) L2 B1' (by omega) ?_);intro s3 h3 n3 q hk3 hn3 fr3 s12 L3;simp at hk3;rw[Qb];have fr3':∀id,id<n->h3 id=h id:=λid hid=>by rw[fr3 id (by omega),fr2' id hid]
 have e8':h3 (n+4)=some ⟨true,4,[[.int .i64 0,.nil 1,.nil 1,.int .i64 0]]⟩:=by rw[fr3 _ (by omega),fr2 _ (by omega),e8]
 have bad:Qi a j b k=Option.none->K (.tup [.agg [.int .i64 0,.nil 1,.nil 1,.int .i64 0],.bool false]) h3 n3/\∀h',(∀id,id≠n+4->h' id=h3 id)->K (.tup [.agg [.int .i64 0,.nil 1,.nil 1,.int .i64 0],.bool false]) h' n3:=λhj=>by
  have key:∀h',(∀id,id<n->h' id=h id)->K (.tup [.agg [.int .i64 0,.nil 1,.nil 1,.int .i64 0],.bool false]) h' n3:=λh' hf=>by have:=hK h' n3 Jzw _ (by omega) hf Jqi (by rw[hj];simp);rw[hj]at this;exact this
  exact⟨key h3 fr3',λh' hf=>key h' λid hid=>by rw[hf id (by omega),fr3' id hid]⟩
 have x8:s3 8 = .ptr (n+4) 0 0:=by rw[hk3.2.2.2.2.1,hk2.2.2.2.2,s8]
 have x11:s3 11 = .bool T1.isSome:=by rw[hk3.2.2.2.2.2.2,s11]
 cases T1 with
 |none=>
  simp[R9,x11,x8,e8'];refine(bad (Jc5 hT1)).2 _ ?_;intro id hid
  simp[hid]
 |some l1=>
  simp only[Option.getD_some]at s12 L3 L2;generalize hT2:Kg l1 k b.l=T2 at *
  cases T2 with
  |none=>
   simp[R9,x11,x8,e8',s12];refine(bad (Jcz hT1 hT2)).2 _ ?_;intro id hid
   simp[hid]
  |some l2=>
   simp only[Option.getD_some]at L3;obtain⟨q1,q2,q3,q4,q5,q6,q7⟩:=L3;have y4:s3 4 = .ptr n 0 0:=by rw[hk3.1,hk2.1,s4]
   have y5:s3 5 = .ptr (n+1) 0 0:=by rw[hk3.2.1,hk2.2.1,s5]
   have y6:s3 6 = .ptr (n+2) 0 0:=by rw[hk3.2.2.1,hk2.2.2.1,s6]
   have y7:s3 7 = .ptr (n+3) 0 0:=by rw[hk3.2.2.2.1,hk2.2.2.2.1,s7]
   have y10:s3 10 = .ptr k10 0 0:=by rw[hk3.2.2.2.2.2.1,s10]
   have up:∀id,id<n+5->h3 id=h1 id:=λid hid=>by rw[fr3 id hid,fr2 id (by omega)]
   have u4:h3 n=some ⟨true,4,[[.int .i64 a.l.Const,va,ma,.int .i64 a.scale]]⟩:=by rw[up _ (by omega),e4]
   have u5:h3 (n+1)=some ⟨true,1,[[i64 j]]⟩:=by rw[up _ (by omega),e5]
   have u6:h3 (n+2)=some ⟨true,4,[[.int .i64 b.l.Const,vb,mb,.int .i64 b.scale]]⟩:=by rw[up _ (by omega),e6]
   have u7:h3 (n+3)=some ⟨true,1,[[i64 k]]⟩:=by rw[up _ (by omega),e7]
   have ne:¬n=n3/\¬n+1=n3/\¬n+2=n3/\¬n+3=n3/\¬n+4=n3/\¬q=n3/\¬k10=n3:=by omega
   simp[R9,x11,s12,cb4,cb5,cb6,y5,y7,y10,y4,y6,q6,u4,u6,ne];refine J9r (j:=j) (k:=k) (by simp[ne,u5]) (by simp[ne,u7]) ?_;simp[Uy,cb7];refine Jnc (n0:=n) (h0:=h) (a:=a) (b:=b) (va:=va) (ma:=ma) (vb:=vb) (mb:=mb) (j:=j) (k:=k) (k14:=n3) (l2:=l2) (q:=q) hml hm20 A2 B2 _ (by simp[y4]) (by simp[y6]) (by simp) (by simp) (by simp;rfl) ⟨by omega,by omega,by omega,by omega,?_,by simp[ne,u4],by simp[ne,u5],by simp[ne,u6],by simp[ne,u7],by simp[ne,e8'],by simp[ne,q7],.nil 1,by simp;rfl,.inl ⟨rfl,rfl⟩,by simp⟩ ?_
   ·intro id hid;have:¬id=n3:=by omega
    simp[this,fr3' id hid]
   intro s4' h4 n4 hk4 s16 hn4 S;obtain⟨S1,S2,Sq0,Sqm,S3,S4,S5,S6,S7,S8,Sq,vm,S9,S10,S11⟩:=S;simp at hk4;have z8:s4' 8 = .ptr (n+4) 0 0:=by rw[hk4.1];simp[x8]
   have hj:=J7o hT1 hT2;simp[cb9,hk4,x8,S8,S9,s16]
   have hx:∀id,id<n->upd h4 (n+4) (some ⟨true,4,[[.int .i64 l2.Const,.ref q 0 l2.Coeffs.length,vm,.int .i64 (Wx j a.scale k b.scale).1]]⟩) id=h id:=λid hid=>by
    have:¬id=n+4:=by omega
    simp[this,S3 id hid]
   have kp:Ko h4 (upd h4 (n+4) (some ⟨true,4,[[.int .i64 l2.Const,.ref q 0 l2.Coeffs.length,vm,.int .i64 (Wx j a.scale k b.scale).1]]⟩)) n4:=λid z rows hid e=>by
    have:¬id=n+4:=by rintro rfl;rw[S8]at e;simp at e
    simp[this,e]
   have res:=hK _ n4 ⟨l2,(Yp j a.mult k b.mult).map (·.1),(Wx j a.scale k b.scale).1⟩ _ (by omega) hx ⟨.ref q 0 l2.Coeffs.length,vm,rfl,(Wg.keep (.inr (.inr ⟨q,Sqm,rfl,Sq⟩)) (Nat.le_refl _) kp),S10.keep (Nat.le_refl _) kp⟩ ?_
   ·have hs:(Qi a j b k).isSome=((Wx j a.scale k b.scale).2&&(Yp j a.mult k b.mult).all (·.2)):=by
     rw[hj];split <;>simp_all
    rw[hs]at res;exact⟨S10.cell,res⟩
   ·intro d hd;rw[hj]at hd;split at hd
    ·exact Option.some.inj hd
    ·cases hd
def wo0:AC:=(.reg [Zo 4 (.mv (.k (.nil 4)))])
def wo1:AC:=(.reg [Zo 5 (.mv (.k (.nil 4)))])
def wa:AC:=(.reg [Zx 21 4 17 19,Zl 22 true 4 21,Zo 7 (.box [(.int .i64 0),(.nil 1),(.nil 1),(.int .i64 0)]),⟨no,.st 4 (.t 7) (.t 22),no⟩])
def wb:AC:=(.reg [Zf 23 0 7,Zf 24 1 23,Zl 25 false 1 24,Zv 26 1,Zx 27 1 25 26,Zl 28 false 1 27,Zk 29 .eql 28 0])
def wc:AC:=(.reg [Zv 30 5,Zl 31 true 4 7,Zo 32 (.bslb 4 [.t 31]),Zo 33 (.appb 64 4 (.t 30) (.t 32)),Zv 5 33])
def wo2:AC:=(Zq [Zv 17 0,Zn 18 17,Zi 19 0] (.blk 0 (.loop (Zq [Zb 20 .lss 19 18] (.seq (Zw 20 0) (.seq (.blk 1 (.seq  wa (.seq  wb (.cond (.t 29)  wc .skip)))) (.reg [Zk 34 .add 19 1,Zv 19 34])))))))
def wd:AC:=(.reg [Zx 39 4 35 37,Zl 40 true 4 39,Zo 9 (.box [(.int .i64 0),(.nil 1),(.nil 1),(.int .i64 0)]),⟨no,.st 4 (.t 9) (.t 40),no⟩])
def we:AC:=(.reg [Zf 41 0 9,Zf 42 1 41,Zl 43 false 1 42,Zv 44 1,Zx 45 1 43 44,Zl 46 false 1 45,Zv 10 46])
def wg:AC:=(.reg [Zx 53 4 49 51,Zl 54 true 4 53,Zo 12 (.box [(.int .i64 0),(.nil 1),(.nil 1),(.int .i64 0)]),⟨no,.st 4 (.t 12) (.t 54),no⟩])
def wh:AC:=(.reg [Zf 55 0 12,Zf 56 1 55,Zl 57 false 1 56,Zv 58 1,Zx 59 1 57 58,Zl 60 false 1 59,Zo 61 (.un .neg (.t 60)),Zv 13 61])
def wi:AC:=(.reg [Zv 64 10,Zv 65 13,Zc 66 312 [.t 64,.t 65],Zv 14 66])
def wj:AC:=(.draw (.op (Zl 68 true 4 9) (.op (Zv 69 13) (.op (Zv 70 14) (.op (Zb 71 .quo 69 70) (.op (Zl 72 true 4 12) (.op (Zv 73 10) (.op (Zv 74 14) (.op (Zb 75 .quo 73 74) (.both (.op (Zc 76 313 [.t 68,.t 71,.t 72,.t 75]) (.op (Zv 67 76) (.op (Ze 77 67 0) (.op (Ze 78 67 1) (.op (Zo 15 (.box [(.int .i64 0),(.nil 1),(.nil 1),(.int .i64 0)])) (.hop ⟨no,.st 4 (.t 15) (.t 77),no⟩ [] (.op (Zv 16 78) .fin))))))) (.op (Zo 15 (.box [(.int .i64 0),(.nil 1),(.nil 1),(.int .i64 0)])) (.op (Zc 76 313 [.t 68,.t 71,.t 72,.t 75]) (.op (Zv 67 76) (.op (Ze 77 67 0) (.op (Ze 78 67 1) (.hop ⟨no,.st 4 (.t 15) (.t 77),no⟩ [] (.op (Zv 16 78) .fin)))))))))))))))))
def wl:AC:=(.reg [Zv 80 5,Zl 81 true 4 15,Zo 82 (.bslb 4 [.t 81]),Zo 83 (.appb 64 4 (.t 80) (.t 82)),Zv 5 83])
def win:AC:=(.blk 4 (.loop (Zq [Zb 52 .lss 51 50] (.seq (Zw 52 4) (.seq (.blk 5 (.seq  wg (.seq  wh (.seq (Zq [Zv 62 13,Zk 63 .leq 62 0] (.cond (.t 63) (.exit 5) .skip)) (.seq  wi (.seq wj (Zq [Zv 79 16] (.cond (.t 79)  wl .skip)))))))) (.reg [Zk 84 .add 51 1,Zv 51 84]))))))
def To:AC:=(Zq [Zv 35 0,Zn 36 35,Zi 37 0] (.blk 2 (.loop (Zq [Zb 38 .lss 37 36] (.seq (Zw 38 2) (.seq (.blk 3 (.seq  wd (.seq  we (.seq (Zq [Zv 47 10,Zk 48 .leq 47 0] (.cond (.t 48) (.exit 3) .skip)) (Zq [Zv 49 0,Zn 50 49,Zi 51 0] win))))) (.reg [Zk 85 .add 37 1,Zv 37 85])))))))
def wo4:AC:=(.reg [Zv 86 5,Zv 4 86])
def a281:Jk:=⟨87,[.t 4],(.seq wo0 (.seq wo1 (.seq wo2 (.seq To (.seq wo4 .ret)))))⟩
theorem a281_ok:Gh true prog Tryz.f281=some a281:=by kernel_rfl
theorem Kz.cells {d:Kd}{r:List AV}{h:J8}{n:Nat}(x:Kz d r h n):r.all K8=true/\r.length=4:=by obtain⟨vl,vm,rfl,h1,h2⟩:=x;have c1:=h1.cell;have c2:=h2.cell;simp[-K8,c1,c2];simp[K8]
section
variable {ks:List Kt}{s:Jm}{h h':J8}{n:Nat}{Q:Xc}
theorem Ty{a:AC}{ds:List Kd}{vl:AV}{i lo x y b:Nat}(ha:a=wa/\x=17/\y=19/\b=7\/a=wd/\x=35/\y=37/\b=9\/a=wg/\x=49/\y=51/\b=12)(L:K6 Kz 4 lo ds vl h n)(hi:i<ds.length)(sx:s x=vl)(sy:s y = .int .i64 i)
 (hK:∀s' h' r,(∀j∈[0,1,5,17,18,19,35,36,37,49,50,51],s' j=s j)->(b=12->s' 9=s 9/\s' 10=s 10)->(∀id,id<n->h' id=h id)->s' b = .ptr n 0 0->h' n=some ⟨true,4,[r]⟩->Kz ds[i] r h' (n+1)->Ju prog ks .normal s' h' (n+1) Q):rC prog a ks s h n Q:=by
 rcases ha with ⟨rfl,rfl,rfl,rfl⟩|⟨rfl,rfl,rfl,rfl⟩|⟨rfl,rfl,rfl,rfl⟩
 all_goals
  first|simp[-K8,wa,sx,sy] |simp[-K8,wd,sx,sy] |simp[-K8,wg,sx,sy]
  refine E1 L hi ?_;intro id rows r hid e hl hr hR;have hne:¬id=n:=by omega
  have fr:∀j,j<n->¬j=n:=by intro j _;omega
  have hR':=hR;obtain⟨v1,v2,rfl,g1,g2⟩:=hR;have c1:=g1.cell;have c2:=g2.cell;simp[-K8,e,hl,hr,c1,c2];simp[K8];refine hK _ _ [.int .i64 ds[i].l.Const,v1,v2,.int .i64 ds[i].scale] (by simp) (by simp) (λj hj=>by simp[fr j hj]) (by simp) (by simp) (hR'.keep (Nat.le_succ n) (Ko.of λj hj=>by simp[fr j hj]))
theorem Jzt{a:AC}{acc:List Kd}{d:Kd}{r:List AV}{v:AV}{q lo b:Nat}(ha:a=wc/\b=7\/a=wl/\b=15)(sb:s b = .ptr q 0 0)(s5:s 5=v)(eb:h q=some ⟨true,4,[r]⟩)(hqn:q<n)(hr:Kz d r h n)(B:K6 Kz 4 lo acc v h n)(hlo:lo<=n)(hl:acc.length<=4000)
 (hK:∀s' h' n',(∀j∈[0,1,17,18,19,35,36,37,49,50,51,9,10],s' j=s j)->n<=n'->Ko h h' n->(∀id,id<n->(∀k,v ≠ .ref id 0 k)->h' id=h id)->(∀id k,s' 5 = .ref id 0 k->n<=id)->K6 Kz 4 lo (acc++[d]) (s' 5) h' n'->Ju prog ks .normal s' h' n' Q):rC prog a ks s h n Q:=by
 have hR':=hr;obtain⟨v1,v2,rfl,g1,g2⟩:=hr;have c1:=g1.cell;have c2:=g2.cell;have fr:∀j,j<n->¬j=n:=by intro j _;omega
 have kp:Ko h (upd h n (some ⟨true,4,[[.int .i64 d.l.Const,v1,v2,.int .i64 d.scale]]⟩)) n:=Ko.of λj hj=>by simp[fr j hj]
 have B':=K6.keep (R:=Kz) (h':=upd h n (some ⟨true,4,[[.int .i64 d.l.Const,v1,v2,.int .i64 d.scale]]⟩)) (n':=n+1) (λ_ _ _ _ _ _=>Kz.keep) B (Nat.le_succ n) kp λid rows _ hid _ e=>by simp[fr id hid,e]
 rcases ha with ⟨rfl,rfl⟩|⟨rfl,rfl⟩
 all_goals
  first|simp[-K8,wc,sb,s5,eb,c1,c2] |simp[-K8,wl,sb,s5,eb,c1,c2]
  simp[K8];refine Fv (R:=Kz) (λ_ _ _ _ _ _=>Kz.keep) B' (r:=[.int .i64 d.l.Const,v1,v2,.int .i64 d.scale]) (d:=d) (by simp[Iq]) (hR'.keep (Nat.le_succ n) kp) (by omega) (by unfold Jb;omega) ?_;intro h' k1 k2 k3;simp;refine hK _ _ _ (by simp) (by omega) (kp.trans k1 (Nat.le_succ n)) (λid hid hv=>by rw[k2 id (by omega) hv];simp[fr id hid]) (by simp) (by simpa using k3)
theorem Jkk{a:AC}{d:Kd}{r:List AV}{q N m v b:Nat}{J:Int}(ha:a=wb/\b=7/\J=Kc v d\/a=we/\b=9/\J=Kc v d\/a=wh/\b=12/\J = -(Kc v d))(g:GD N m d)(hv:v<N)(sb:s b = .ptr q 0 0)(s1:s 1 = .int .i64 v)(eb:h q=some ⟨true,4,[r]⟩)(hr:Kz d r h n)
 (hK:∀s',(∀j∈[0,1,5,7,9,12,17,18,19,35,36,37,49,50,51],s' j=s j)->(b=7->s' 29 = .bool (Kc v d==0))->(b=9->s' 10 = .int .i64 (Kc v d))->(b=12->s' 13 = .int .i64 (-(Kc v d))/\s' 10=s 10)->Ju prog ks .normal s' h n Q):rC prog a ks s h n Q:=by
 obtain⟨v1,v2,rfl,g1,g2⟩:=hr;have hvl:v<d.l.Coeffs.length:=by rw[g.cl];exact hv
 have hc:d.l.Coeffs[v]=Kc v d:=by simp[Kc,hvl]
 have hw:IntKind.i64.wrap (0 - Kc v d) = -(Kc v d):=by have:=Oi.1 (g.coef hv);rw[Kk (by omega)];omega
 simp at hw;rcases ha with ⟨rfl,rfl,rfl⟩|⟨rfl,rfl,rfl⟩|⟨rfl,rfl,rfl⟩
 all_goals
  first|simp[wb,sb,s1,eb] |simp[we,sb,s1,eb] |simp[wh,sb,s1,eb]
  refine F5 g1 hvl ?_;intro w1 hw1;simp;refine hw1 _ ?_;rw[hc];simp[hw];refine hK _ (by simp) (by simp[BEq.beq]) (by simp) (by simp)
end
section
variable {ks:List Kt}{s:Jm}{h h':J8}{n:Nat}{Q:Xc}
theorem K6.below {R:Kd->List AV->J8->Nat->Prop}{z b:Nat}{ds:List Kd}{v:AV}(x:K6 R z b ds v h n) {q:Nat}(hq:n<=q):∀k,v ≠ .ref q 0 k:=by
 rintro k rfl;rcases x with ⟨h1,_⟩|⟨id,rows,_,h1,h2,_⟩
 ·cases h1
 ·simp at h2;omega
theorem K6.from {R:Kd->List AV->J8->Nat->Prop}{z b:Nat}{ds:List Kd}{v:AV}(x:K6 R z b ds v h n):∀id k,v = .ref id 0 k->b<=id:=by
 rintro id k rfl;rcases x with ⟨h1,_⟩|⟨id',rows,h0,h1,h2,_⟩
 ·cases h1
 ·simp at h2;omega
theorem Jlx{ds:List Kd}{vl:AV}{N m v n0:Nat}{h0:J8}(hg:∀d∈ds,GD N m d)(hv:v<N)(hd:ds.length<=60)(hn0:n0<=n)(hf:∀id,id<n0->h id=h0 id)(L:K6 Kz 4 0 ds vl h0 n0)(s0:s 0=vl)(s1:s 1 = .int .i64 v)(s5:s 5 = .nil 4)
 (hK:∀s' h' n',(∀j∈[0,1],s' j=s j)->n<=n'->(∀id,id<n0->h' id=h0 id)->K6 Kz 4 n0 (ds.filter λd=>Kc v d==0) (s' 5) h' n'->Ju prog ks .normal s' h' n' Q):rC prog wo2 ks s h n Q:=by
 have keepL:∀{h' m'},n0<=m'->(∀id,id<n0->h' id=h0 id)->K6 Kz 4 0 ds vl h' m':=λhm hh=>K6.keep (R:=Kz) (λ_ _ _ _ _ _=>Kz.keep) L hm (Ko.of hh) λid rows _ hid _ e=>by rw[hh id hid,e]
 generalize hT:(ds.filter λd=>Kc v d==0)=T at *;have hTl:T.length<=60:=by rw[<-hT];exact Nat.le_trans (List.length_filter_le _ _) hd
 simp[wo2,s0];refine Gd (keepL hn0 hf) (by unfold Jb;omega) ?_;simp;refine Ki [0,1,17,18] 19 ds.length (λi s h m'=>n<=m'/\(∀id,id<n0->h id=h0 id)/\∃acc,K6 Kz 4 n0 acc (s 5) h m'/\acc++((ds.drop i).filter λd=>Kc v d==0)=T) (by unfold Jb;omega) (by simp) ⟨Nat.le_refl _,hf,[],.inl ⟨by simp[s5],rfl⟩,by simpa using hT⟩ ?_ ?_
 ·rintro i st h1 m1 R hi hgi hk s19 hw ⟨hm1,hf1,acc,B,hJ⟩ hR hret _;simp at hk;rw[drop_eq_getElem_cons hi,List.filter_cons]at hJ;have hal:=congrArg List.length hJ;simp only[length_append]at hal;refine Js [0,1,5,17,18,19] (λs=>s 20 = .bool true) (by simp[hk,s19,hi]) ?_;intro Jv hk1 s20;simp at hk1;refine W9 s20 (Jn (Xg ?_));refine Jn (Ty (.inl ⟨rfl,rfl,rfl,rfl⟩) (keepL (by omega) hf1) hi (by simp[hk1,hk]) (by simp[hk1,s19]) ?_);intro st2 h2 r hk2 _ hf2 s7 e7 hr;simp at hk2;rw[Qb];have B2:K6 Kz 4 n0 acc (st 5) h2 (m1+1):=K6.keep (R:=Kz) (λ_ _ _ _ _ _=>Kz.keep) B (Nat.le_succ m1) (Ko.of hf2) λid rows _ hid _ e=>by rw[hf2 id hid,e]
  refine Jn (Jkk (.inl ⟨rfl,rfl,rfl⟩) (hg _ (getElem_mem hi)) hv s7 (by simp[hk2,hk1,hk,s1]) e7 hr ?_);intro Kl hk3 s29 _ _;simp at hk3;have s29:=s29 rfl;rw[Qb];cases hc:(Kc v ds[i]==0)
  ·rw[hc]at hJ s29;simp only[Bool.false_eq_true,if_false]at hJ;simp[s29,hk3,hk2,hk1,s19,hw];exact hR _ _ _ (by simp[hk3,hk2,hk1,hk]) (by simp) ⟨by omega,λid hid=>by rw[hf2 id (by omega),hf1 id hid],acc,by simpa[hk3,hk2,hk1]using B2,hJ⟩
  ·rw[hc]at hJ s29;simp only[if_true]at hJ;simp[s29];refine Jzt (acc:=acc) (d:=ds[i]) (v:=st 5) (q:=m1) (.inl ⟨rfl,rfl⟩) (by simp[hk3,s7]) (by simp[hk3,hk2,hk1]) e7 (Nat.lt_succ_self m1) hr B2 (by omega) (by omega) ?_;intro st4 h4 m4 hk4 hm4 kp4 hf4 hnew B4;simp at hk4;simp[hk4,hk3,hk2,hk1,s19,hw];refine hR _ _ _ (by simp[hk4,hk3,hk2,hk1,hk]) (by simp) ⟨by omega,λid hid=>?_,acc++[ds[i]],by simpa using B4,by simpa using hJ⟩;rw[hf4 id (by omega) λk e=>?_,hf2 id (by omega),hf1 id hid];have:=B.from id k e;omega
 ·rintro st h1 m1 R hk s19 ⟨hm1,hf1,acc,B,hJ⟩ hret hX;simp at hk;rw[drop_eq_nil_of_le (by omega)]at hJ;simp at hJ;subst hJ;refine Js [0,1,5] (λs=>s 20 = .bool false) (by simp[hk,s19]) ?_;intro Jv hk1 s20;simp at hk1;refine Ut s20 ?_;refine hX _ _ _ _ ?_;simp;exact hK _ _ _ (by simp[hk1,hk]) hm1 hf1 (by simpa[hk1]using B)
end
def Hc(v:Nat)(a b:Kd):Option Kd:=if -(Kc v b)<=0 then Option.none else Gp v a b
theorem Jc3{v:Nat}{l:List Kd}{a:Kd}(h:¬Kc v a<=0):Io v l a=l.filterMap (Hc v a):=by unfold Io;rw[if_neg h];rfl
section
variable {ks:List Kt}{s:Jm}{h h':J8}{n:Nat}{Q:Xc}
theorem Jqv{a b:Kd}{ra rb:List AV}{N m k9 k12:Nat}{p q g:Int}(ga:GD N m a)(gb:GD N m b)(hm:m<=20)(hp:0<=p/\p<=1000000000)(hq:0<=q/\q<=1000000000)(hg0:0<g)(hg:g<=1000000000)(s9:s 9 = .ptr k9 0 0)(s12:s 12 = .ptr k12 0 0)(s10:s 10 = .int .i64 p)(s13:s 13 = .int .i64 q)(s14:s 14 = .int .i64 g)
 (e9:h k9=some ⟨true,4,[ra]⟩) (e12:h k12=some ⟨true,4,[rb]⟩) (hra:Kz a ra h n) (hrb:Kz b rb h n)
 (hK:∀s' h' n' k o r,(∀j∈[0,1,5,9,10,17,18,19,35,36,37,49,50,51],s' j=s j)->n<=n'->(∀id,id<n->h' id=h id)->s' 16 = .bool (Qi a (q.tdiv g) b (p.tdiv g)).isSome->s' 15 = .ptr k 0 0->n<=k->k<n'->h' k=some ⟨true,4,[r]⟩->Kz o r h' n'->(∀d,Qi a (q.tdiv g) b (p.tdiv g)=some d->o=d)->Ju prog ks .normal s' h' n' Q):rC prog wj ks s h n Q:=by
 have w1:=Cr (g:=g) hp.1 hp.2 (by omega);have w2:=Cr (g:=g) hq.1 hq.2 (by omega);have v1:IntKind.i64.wrap (p.tdiv g)=p.tdiv g:=Kk (by omega);have v2:IntKind.i64.wrap (q.tdiv g)=q.tdiv g:=Kk (by omega);have hgn:¬g=0:=by omega
 have c1:=hra.cells;have c2:=hrb.cells;obtain⟨va,ma,rfl,A1,A2⟩:=hra;obtain⟨vb,mb,rfl,B1,B2⟩:=hrb;have hml:b.mult.length=a.mult.length:=by rw[ga.len,gb.len]
 have hm20:a.mult.length<=20:=by rw[ga.len];exact hm
 have fr:∀id,id<n->¬id=n:=by intro id _;omega
 simp[wj,s9,s10,s12,s13,s14,e9,e12,hgn,v1,v2];constructor
 ·refine R5 (J0w hml hm20 A1 A2 B1 B2 ?_);intro h' n' o r hn hf hr ho;refine⟨hf,?_⟩;obtain⟨vo,mo,rfl,O1,O2⟩:=id hr;have k1:=O1.cell;have k2:=O2.cell;simp[-K8,k1,k2];simp[K8];have fr':∀id,id<n'->¬id=n':=by intro id _;omega
  refine hK _ _ _ n' o _ (by simp) (by omega) (λid hid=>by simp[fr' id (by omega),hf id hid]) (by simp) (by simp) (by omega) (by omega) (by simp) (hr.keep (by omega) (Ko.of λid hid=>by simp[fr' id hid])) ho
 ·have kp:Ko h (upd h n (some ⟨true,4,[[.int .i64 0,.nil 1,.nil 1,.int .i64 0]]⟩)) n:=Ko.of λid hid=>by simp[fr id hid]
  refine R5 (J0w hml hm20 (A1.keep (Nat.le_succ n) kp) (A2.keep (Nat.le_succ n) kp) (B1.keep (Nat.le_succ n) kp) (B2.keep (Nat.le_succ n) kp) ?_);intro h' n' o r hn hf hr ho;refine⟨hf,?_⟩;obtain⟨vo,mo,rfl,O1,O2⟩:=id hr;have k1:=O1.cell;have k2:=O2.cell;have en:=hf n (Nat.lt_succ_self n);simp at en;simp[-K8,k1,k2,en];simp[K8];have hx:∀id,id<n->h' id=h id:=λid hid=>by rw[hf id (by omega)];simp[fr id hid]
  have kp2:Ko h' (upd h' n (some ⟨true,4,[[.int .i64 o.l.Const,vo,mo,.int .i64 o.scale]]⟩)) n':=λid z rows hid e=>by
   have:¬id=n:=by rintro rfl;rw[en]at e;simp at e
   simp[this,e]
  refine hK _ _ _ n o _ (by simp) (by omega) (λid hid=>by simp[fr id hid,hx id hid]) (by simp) (by simp) (by omega) (by omega) (by simp) (hr.keep (Nat.le_refl _) kp2) ho
theorem Jmt{ds:List Kd}{vl:AV}{a:Kd}{ra:List AV}{N m v n0 k9:Nat}{h0:J8}{acc0 T:List Kd}(hg:∀d∈ds,GD N m d)(ga:GD N m a)(hm:m<=20)(hv:v<N)(hd:ds.length<=60)(hap:¬Kc v a<=0)(L:K6 Kz 4 0 ds vl h0 n0)(hn0:n0<=n)(hk9:n0<=k9/\k9<n)
 (s1:s 1 = .int .i64 v) (s9:s 9 = .ptr k9 0 0) (s10:s 10 = .int .i64 (Kc v a)) (s49:s 49=vl) (s50:s 50 = .int .i64 ds.length) (s51:s 51 = .int .i64 0)
 (hf:∀id,id<n0->h id=h0 id) (e9:h k9=some ⟨true,4,[ra]⟩) (hra:Kz a ra h n) (B0:K6 Kz 4 n0 acc0 (s 5) h n) (hne0:∀k,s 5 ≠ .ref k9 0 k) (hT:acc0++ds.filterMap (Hc v a)=T) (hTl:T.length<=4000)
 (hK:∀s' h' n',(∀j∈[0,1,17,18,19,35,36,37],s' j=s j)->n<=n'->(∀id,id<n0->h' id=h0 id)->K6 Kz 4 n0 T (s' 5) h' n'->Ju prog ks .normal s' h' n' Q):rC prog win ks s h n Q:=by
 have keepL:∀{h' m'},n0<=m'->(∀id,id<n0->h' id=h0 id)->K6 Kz 4 0 ds vl h' m':=λhm hh=>K6.keep (R:=Kz) (λ_ _ _ _ _ _=>Kz.keep) L hm (Ko.of hh) λid rows _ hid _ e=>by rw[hh id hid,e]
 have hpa:=Oi.1 (ga.coef hv);refine Xg ?_;rw[Jd8];refine Ki [0,1,9,10,17,18,19,35,36,37,49,50] 51 ds.length (λi s h m'=>n<=m'/\(∀id,id<n0->h id=h0 id)/\h k9=some ⟨true,4,[ra]⟩/\Kz a ra h m'/\(∀k,s 5 ≠ .ref k9 0 k)/\∃acc,K6 Kz 4 n0 acc (s 5) h m'/\acc++(ds.drop i).filterMap (Hc v a)=T) (by unfold Jb;omega) (by simp[s51]) ⟨Nat.le_refl _,hf,e9,hra,hne0,acc0,B0,by simpa using hT⟩ ?_ ?_
 ·rintro i st h1 m1 R hi hgi hk s51 hw ⟨hm1,hf1,e9,hra,hne,acc,B,hJ⟩ hR hret _;simp at hk;rw[drop_eq_getElem_cons hi,List.filterMap_cons]at hJ;have gb:=hg _ (getElem_mem hi);refine Js [0,1,5,9,10,17,18,19,35,36,37,49,50,51] (λs=>s 52 = .bool true) (by simp[hk,s51,hi,s50]) ?_;intro Jv hk1 s52;simp at hk1;refine W9 s52 (Jn (Xg ?_));refine Jn (Ty (.inr (.inr ⟨rfl,rfl,rfl,rfl⟩)) (keepL (by omega) hf1) hi (by simp[hk1,hk,s49]) (by simp[hk1,s51]) ?_);intro st2 h2 r hk2 hk2b hf2 s12 e12 hr;simp at hk2 hk2b;rw[Qb];have B2:K6 Kz 4 n0 acc (st 5) h2 (m1+1):=K6.keep (R:=Kz) (λ_ _ _ _ _ _=>Kz.keep) B (Nat.le_succ m1) (Ko.of hf2) λid rows _ hid _ e=>by rw[hf2 id hid,e]
  have e92:h2 k9=some ⟨true,4,[ra]⟩:=by rw[hf2 k9 (by omega),e9]
  have hra2:=hra.keep (Nat.le_succ m1) (Ko.of hf2);refine Jn (Jkk (.inr (.inr ⟨rfl,rfl,rfl⟩)) gb hv s12 (by simp[hk2,hk1,hk,s1]) e12 hr ?_);intro Kl hk3 _ _ hx;obtain⟨s13,s10'⟩:=hx rfl;simp at hk3;rw[Qb];by_cases hq : -(Kc v ds[i])<=0
  ·have hJ0:Hc v a ds[i]=Option.none:=by unfold Hc;rw[if_pos hq]
   rw[hJ0]at hJ;simp[s13,hq,hk3,hk2,hk1,s51,hw];exact hR _ _ _ (by simp[hk3,hk2,hk1,hk,hk2b,s10']) (by simp) ⟨by omega,λid hid=>by rw[hf2 id (by omega),hf1 id hid],e92,hra2,by simpa[hk3,hk2,hk1]using hne,acc,by simpa[hk3,hk2,hk1]using B2,hJ⟩
  ·have hpb:=Oi.1 (gb.coef hv);have hJ1:Hc v a ds[i]=Gp v a ds[i]:=by unfold Hc;rw[if_neg hq]
   rw[hJ1]at hJ;have hpn:((Kc v a).toNat:Int)=Kc v a:=by omega
   have hqn:((-(Kc v ds[i])).toNat:Int) = -(Kc v ds[i]):=by omega
   have hg1:0<Gr (Kc v a) (-(Kc v ds[i])):=Jai (by omega);have hg2:=Jcc (p:=Kc v a) (q := -(Kc v ds[i])) (by omega) (by omega);simp[s13,hq,hk3,hk2,hk1,s51,hw];have s10'':Kl 10 = .int .i64 (Kc v a):=by rw[s10',hk2b.2,hk1.2.2.2.2.1,hk.2.2.2.1,s10]
   rw[<-Gg];refine Js [0,1,5,9,10,12,13,17,18,19,35,36,37,49,50,51] (λs=>s 14 = .int .i64 (Gr (Kc v a) (-(Kc v ds[i])):Nat)) ?_ ?_
   ·simp[wi,s10'',s13];have:=Jq8 (Kc v a).toNat (-(Kc v ds[i])).toNat (by omega) (by omega);rw[hpn,hqn]at this;refine Jd this (by simp) ?_;rintro r rfl;simp[Gr]
   intro st4 hk4 s14;simp at hk4;refine Jn (Jqv (a:=a) (b:=ds[i]) (ra:=ra) (rb:=r) (k9:=k9) (k12:=m1) ga gb hm (p:=Kc v a) (q := -(Kc v ds[i])) (g:=(Gr (Kc v a) (-(Kc v ds[i])):Nat)) (by omega) (by omega) (by omega) (by omega) (by simp[hk4,hk3,hk2b,hk1,hk,s9]) (by simp[hk4,hk3,s12]) (by simp[hk4,s10'']) (by simp[hk4,s13]) s14 e92 e12 hra2 hr ?_);intro Ur h5 m5 k15 o ro hk5 hm5 hf5 s16 s15 hk15 hk15b e15 hro ho;simp at hk5;rw[show Qi a ((-(Kc v ds[i])).tdiv ((Gr (Kc v a) (-(Kc v ds[i])):Nat):Int)) ds[i] ((Kc v a).tdiv ((Gr (Kc v a) (-(Kc v ds[i])):Nat):Int))=Gp v a ds[i]from rfl]at s16 ho;have B5:K6 Kz 4 n0 acc (st 5) h5 m5:=K6.keep (R:=Kz) (λ_ _ _ _ _ _=>Kz.keep) B2 hm5 (Ko.of hf5) λid rows _ hid _ e=>by rw[hf5 id hid,e]
   have hf50:∀id,id<n0->h5 id=h0 id:=λid hid=>by rw[hf5 id (by omega),hf2 id (by omega),hf1 id hid]
   have e95:h5 k9=some ⟨true,4,[ra]⟩:=by rw[hf5 k9 (by omega),e92]
   have hra5:=hra2.keep hm5 (Ko.of hf5);have hal:=congrArg List.length hJ;simp only[length_append]at hal;rw[Qb]
   cases hj:Gp v a ds[i]with
   |none=>
    rw[hj]at s16 hJ;simp at s16 hJ;simp[s16,hk5,hk4,hk3,hk2,hk1,s51,hw]
    refine hR _ _ _ (by simp[hk5,hk4,hk3,hk2,hk1,hk,hk2b,s10'',s10]) (by simp) ⟨by omega,hf50,e95,hra5,by simpa[hk5,hk4,hk3,hk2,hk1]using hne,acc,by simpa[hk5,hk4,hk3,hk2,hk1]using B5,hJ⟩
   |some d=>
    rw[hj]at s16 hJ;have ho:=ho d hj;subst ho;simp at s16 hJ;simp[s16];refine Jzt (acc:=acc) (d:=o) (v:=st 5) (q:=k15) (.inr ⟨rfl,rfl⟩) (by simp[s15]) (by simp[hk5,hk4,hk3,hk2,hk1]) e15 hk15b hro B5 (by omega) (by omega) ?_;intro st6 h6 m6 hk6 hm6 kp6 hf6 hnew B6;simp at hk6;simp[hk6,hk5,hk4,hk3,hk2,hk1,s51,hw];refine hR _ _ _ (by simp[hk6,hk5,hk4,hk3,hk2,hk1,hk,hk2b,s10'',s10]) (by simp) ⟨by omega,λid hid=>?_,?_,hra5.keep hm6 kp6,?_,acc++[o],by simpa using B6,by simpa using hJ⟩
    ·rw[hf6 id (by omega) λk e=>?_,hf50 id hid];have:=B.from id k e;omega
    ·rw[hf6 k9 (by omega) hne,e95]
    ·intro k e;have:=hnew k9 k (by simpa using e);omega
 ·rintro st h1 m1 R hk s51 ⟨hm1,hf1,e9,hra,hne,acc,B,hJ⟩ hret hX;simp at hk;rw[drop_eq_nil_of_le (by omega)]at hJ;simp at hJ;subst hJ;refine Js [0,1,5,17,18,19,35,36,37] (λs=>s 52 = .bool false) (by simp[hk,s51,s50]) ?_;intro Jv hk1 s52;simp at hk1;refine Ut s52 ?_;refine hX _ _ _ _ ?_;simp;exact hK _ _ _ (by simp[hk1,hk]) hm1 hf1 (by simpa[hk1]using B)
end
def el0:AC:=(.reg [Zo 4 (.mv (.k (.nil 3)))])
def el1:AC:=(.reg [Zo 11 (.bslb 3 []),Zv 5 11])
def ea:AC:=(.reg [Zv 18 0,Zv 19 6,Zx 20 3 18 19,Zf 21 0 20,Zf 22 1 21,Zl 23 false 1 22,Zv 24 1,Zx 25 1 23 24,Zl 26 false 1 25,Zk 27 .eql 26 0])
def eb:AC:=(.reg [Zv 28 5,Zv 29 0,Zv 30 6,Zx 31 3 29 30,Zl 32 true 3 31,Zo 33 (.bslb 3 [.t 32]),Zo 34 (.appb 56 3 (.t 28) (.t 33)),Zv 5 34])
def el2:AC:=(Zq [Zi 6 0] (.blk 0 (.loop (.seq (Zq [Zv 12 6,Zv 13 0,Zn 14 13,Zb 15 .lss 12 14] (Zw 15 0)) (.seq (.blk 1 (.seq  ea (.cond (.t 27)  eb .skip))) (.reg [Zv 16 6,Zk 17 .add 16 1,Zv 6 17]))))))
def eh:AC:=(.reg [Zv 41 8,Zv 42 0,Zn 43 42,Zb 44 .lss 41 43,Zv 45 44,Zg 46 45 true (.mv (.t 0)),Zg 47 45 true (.mv (.t 7)),Zg 48 45 true (.ixa 3 (.t 46) (.t 47)),Zg 49 45 true (.fld 0 (.t 48)),Zg 50 45 true (.fld 1 (.t 49)),Zg 51 45 true (.ld false 1 (.t 50)),Zg 52 45 true (.mv (.t 1)),Zg 53 45 true (.ixa 1 (.t 51) (.t 52)),Zg 54 45 true (.ld false 1 (.t 53)),Zg 55 45 true (.bin .gtr (.t 54) (.k (.int .i64 0))),ZQ 56 45 55])
def ec:AC:=(.reg [Zv 59 0,Zv 60 8,Zx 61 3 59 60,Zf 62 0 61,Zf 63 1 62,Zl 64 false 1 63,Zv 65 1,Zx 66 1 64 65,Zl 67 false 1 66,Zk 68 .geq 67 0])
def ed:AC:=(.draw (.op (Zv 70 0) (.op (Zv 71 7) (.op (Zx 72 3 70 71) (.op (Zl 73 true 3 72) (.op (Zv 74 0) (.op (Zv 75 8) (.op (Zx 76 3 74 75) (.op (Zl 77 true 3 76) (.op (Zv 78 1) (.both (.op (Zc 79 304 [.t 73,.t 77,.t 78]) (.op (Zv 69 79) (.op (Ze 80 69 0) (.op (Ze 81 69 1) (.op (Zo 9 (.box [(.int .i64 0),(.nil 1),(.nil 1)])) (.hop ⟨no,.st 3 (.t 9) (.t 80),no⟩ [] (.op (Zv 10 81) .fin))))))) (.op (Zo 9 (.box [(.int .i64 0),(.nil 1),(.nil 1)])) (.op (Zc 79 304 [.t 73,.t 77,.t 78]) (.op (Zv 69 79) (.op (Ze 80 69 0) (.op (Ze 81 69 1) (.hop ⟨no,.st 3 (.t 9) (.t 80),no⟩ [] (.op (Zv 10 81) .fin))))))))))))))))))
def ee:AC:=(.reg [Zv 83 5,Zl 84 true 3 9,Zo 85 (.bslb 3 [.t 84]),Zo 86 (.appb 56 3 (.t 83) (.t 85)),Zv 5 86])
def ein:AC:=(.blk 4 (.loop (.seq (.seq  eh (Zw 56 4)) (.seq (.blk 5 (.seq (.seq  ec (.cond (.t 68) (.exit 5) .skip)) (.seq ed (Zq [Zv 82 10] (.cond (.t 82)  ee .skip))))) (.reg [Zv 57 8,Zk 58 .add 57 1,Zv 8 58])))))
def el3:AC:=(Zq [Zi 7 0] (.blk 2 (.loop (.seq (Zq [Zv 35 7,Zv 36 0,Zn 37 36,Zb 38 .lss 35 37] (Zw 38 2)) (.seq (.blk 3 (Zq [Zi 8 0] ein)) (.reg [Zv 39 7,Zk 40 .add 39 1,Zv 7 40]))))))
def el4:AC:=(.reg [Zv 87 5,Zv 4 87])
def a259:Jk:=⟨88,[.t 4],(.seq el0 (.seq el1 (.seq el2 (.seq el3 (.seq el4 .ret)))))⟩
theorem a259_ok:Gh true prog Tryz.f259=some a259:=by kernel_rfl
section
variable {ks:List Kt}{s:Jm}{h h':J8}{n:Nat}{Q:Xc}
theorem Jqc{ds:List Kd}{vl:AV}{N m v i lo:Nat}(L:K6 X6 3 lo ds vl h n)(hg:∀d∈ds,GD N m d)(hv:v<N)(hi:i<ds.length)(s0:s 0=vl)(s1:s 1 = .int .i64 v)(s6:s 6 = .int .i64 i)
 (hK:∀s',(∀j∈[0,1,5,6],s' j=s j)->s' 27 = .bool (Kc v ds[i]==0)->Ju prog ks .normal s' h n Q):rC prog ea ks s h n Q:=by
 have g:=hg _ (getElem_mem hi);have hvl:v<ds[i].l.Coeffs.length:=by rw[g.cl];exact hv
 have hc:ds[i].l.Coeffs[v]=Kc v ds[i]:=by simp[Kc,hvl]
 simp[ea,s0,s6];refine E1 L hi ?_;intro id rows r hid e hl hr hD;obtain⟨v1,v2,rfl,g1,g2⟩:=hD;simp[e,hl,hr,s1];refine F5 g1 hvl ?_;intro w1 hw1;simp;refine hw1 _ ?_;rw[hc];simp;refine hK _ (by simp) (by simp[BEq.beq])
theorem Jqt{ds acc:List Kd}{vl v:AV}{i lo lo2:Nat}(L:K6 X6 3 lo ds vl h n)(hi:i<ds.length)(s0:s 0=vl)(s6:s 6 = .int .i64 i)(s5:s 5=v)(B:K6 X6 3 lo2 acc v h n)(hlo:lo2<=n)(hl:acc.length<=4000)
 (hK:∀s' h' n',(∀j∈[0,1,6],s' j=s j)->n<=n'->Ko h h' n->(∀id,id<n->(∀k,v ≠ .ref id 0 k)->h' id=h id)->K6 X6 3 lo2 (acc++[ds[i]]) (s' 5) h' n'->Ju prog ks .normal s' h' n' Q):rC prog eb ks s h n Q:=by
 have fr:∀j,j<n->¬j=n:=by intro j _;omega
 simp[-K8,eb,s0,s5,s6];refine E1 L hi ?_;intro id rows r hid e hlr hr hD;have hD':=hD;obtain⟨v1,v2,rfl,g1,g2⟩:=hD;have c1:=g1.cell;have c2:=g2.cell;have kp:Ko h (upd h n (some ⟨true,3,[[.int .i64 ds[i].l.Const,v1,v2]]⟩)) n:=Ko.of λj hj=>by simp[fr j hj]
 have B':=K6.keep (R:=X6) (h':=upd h n (some ⟨true,3,[[.int .i64 ds[i].l.Const,v1,v2]]⟩)) (n':=n+1) (λ_ _ _ _ _ _=>X6.keep) B (Nat.le_succ n) kp λid rows _ hid _ e=>by simp[fr id hid,e]
 simp[-K8,e,hlr,hr,c1,c2];simp[K8];refine Fv (R:=X6) (λ_ _ _ _ _ _=>X6.keep) B' (r:=[.int .i64 ds[i].l.Const,v1,v2]) (d:=ds[i]) (by simp[Iq]) (hD'.keep (Nat.le_succ n) kp) (by omega) (by unfold Jb;omega) ?_;intro h' k1 k2 k3;simp;exact hK _ _ _ (by simp) (by omega) (kp.trans k1 (Nat.le_succ n)) (λid hid hv=>by rw[k2 id (by omega) hv];simp[fr id hid]) (by simpa using k3)
theorem Jq7{acc:List Kd}{d:Kd}{r:List AV}{v:AV}{q lo:Nat}(s9:s 9 = .ptr q 0 0)(s5:s 5=v)(eb:h q=some ⟨true,3,[r]⟩)(hqn:q<n)(hr:X6 d r h n)(B:K6 X6 3 lo acc v h n)(hlo:lo<=n)(hl:acc.length<=4000)
 (hK:∀s' h' n',(∀j∈[0,1,7,8],s' j=s j)->n<=n'->Ko h h' n->(∀id,id<n->(∀k,v ≠ .ref id 0 k)->h' id=h id)->K6 X6 3 lo (acc++[d]) (s' 5) h' n'->Ju prog ks .normal s' h' n' Q):rC prog ee ks s h n Q:=by
 have hR':=hr;obtain⟨v1,v2,rfl,g1,g2⟩:=hr;have c1:=g1.cell;have c2:=g2.cell;have fr:∀j,j<n->¬j=n:=by intro j _;omega
 have kp:Ko h (upd h n (some ⟨true,3,[[.int .i64 d.l.Const,v1,v2]]⟩)) n:=Ko.of λj hj=>by simp[fr j hj]
 have B':=K6.keep (R:=X6) (h':=upd h n (some ⟨true,3,[[.int .i64 d.l.Const,v1,v2]]⟩)) (n':=n+1) (λ_ _ _ _ _ _=>X6.keep) B (Nat.le_succ n) kp λid rows _ hid _ e=>by simp[fr id hid,e]
 simp[-K8,ee,s9,s5,eb,c1,c2];simp[K8];refine Fv (R:=X6) (λ_ _ _ _ _ _=>X6.keep) B' (r:=[.int .i64 d.l.Const,v1,v2]) (d:=d) (by simp[Iq]) (hR'.keep (Nat.le_succ n) kp) (by omega) (by unfold Jb;omega) ?_;intro h' k1 k2 k3;simp;exact hK _ _ _ (by simp) (by omega) (kp.trans k1 (Nat.le_succ n)) (λid hid hv=>by rw[k2 id (by omega) hv];simp[fr id hid]) (by simpa using k3)
theorem Jmm{ds:List Kd}{vl:AV}{N m v n0:Nat}{h0:J8}(hg:∀d∈ds,GD N m d)(hv:v<N)(hd:ds.length<=60)(hn0:n0<=n)(hf:∀id,id<n0->h id=h0 id)(L:K6 X6 3 0 ds vl h0 n0)(s0:s 0=vl)(s1:s 1 = .int .i64 v)(B0:K6 X6 3 n0 [] (s 5) h n)
 (hK:∀s' h' n',(∀j∈[0,1],s' j=s j)->n<=n'->(∀id,id<n0->h' id=h0 id)->K6 X6 3 n0 (ds.filter λd=>Kc v d==0) (s' 5) h' n'->Ju prog ks .normal s' h' n' Q):rC prog el2 ks s h n Q:=by
 have keepL:∀{h' m'},n0<=m'->(∀id,id<n0->h' id=h0 id)->K6 X6 3 0 ds vl h' m':=λhm hh=>K6.keep (R:=X6) (λ_ _ _ _ _ _=>X6.keep) L hm (Ko.of hh) λid rows _ hid _ e=>by rw[hh id hid,e]
 generalize hT:(ds.filter λd=>Kc v d==0)=T at *;have hTl:T.length<=60:=by rw[<-hT];exact Nat.le_trans (List.length_filter_le _ _) hd
 simp[el2];refine Ki [0,1] 6 ds.length (λi s h m'=>n<=m'/\(∀id,id<n0->h id=h0 id)/\∃acc,K6 X6 3 n0 acc (s 5) h m'/\acc++((ds.drop i).filter λd=>Kc v d==0)=T) (by unfold Jb;omega) (by simp) ⟨Nat.le_refl _,hf,[],by simpa using B0,by simpa using hT⟩ ?_ ?_
 ·rintro i st h1 m1 R hi hgi hk s6 hw ⟨hm1,hf1,acc,B,hJ⟩ hR hret _;simp at hk;rw[drop_eq_getElem_cons hi,List.filter_cons]at hJ;have hal:=congrArg List.length hJ;simp only[length_append]at hal;refine Jn (Js [0,1,5,6] (λs=>s 15 = .bool true) ?_ ?_)
  ·simp[hk,s0];refine Gd (keepL (by omega) hf1) (by unfold Jb;omega) ?_;simp[hk,s6,hi]
  intro Jv hk1 s15;simp at hk1;refine Uh s15 (Jn (Xg ?_));refine Jn (Jqc (keepL (by omega) hf1) hg hv hi (by simp[hk1,hk,s0]) (by simp[hk1,hk,s1]) (by simp[hk1,s6]) ?_);intro st2 hk2 s27;simp at hk2;rw[Qb];cases hc:(Kc v ds[i]==0)
  ·rw[hc]at hJ s27;simp only[Bool.false_eq_true,if_false]at hJ;simp[s27,hk2,hk1,s6,hw];exact hR _ _ _ (by simp[hk2,hk1,hk]) (by simp) ⟨by omega,hf1,acc,by simpa[hk2,hk1]using B,hJ⟩
  ·rw[hc]at hJ s27;simp only[if_true]at hJ;simp[s27];refine Jqt (acc:=acc) (v:=st 5) (keepL (by omega) hf1) hi (by simp[hk2,hk1,hk,s0]) (by simp[hk2,hk1,s6]) (by simp[hk2,hk1]) B (by omega) (by omega) ?_;intro st4 h4 m4 hk4 hm4 kp4 hf4 B4;simp at hk4;simp[hk4,hk2,hk1,s6,hw];refine hR _ _ _ (by simp[hk4,hk2,hk1,hk]) (by simp) ⟨by omega,λid hid=>?_,acc++[ds[i]],by simpa using B4,by simpa using hJ⟩;rw[hf4 id (by omega) λk e=>?_,hf1 id hid];have:=B.from id k e;omega
 ·rintro st h1 m1 R hk s6 ⟨hm1,hf1,acc,B,hJ⟩ hret hX;simp at hk;rw[drop_eq_nil_of_le (by omega)]at hJ;simp at hJ;subst hJ;refine Jn (Js [0,1,5] (λs=>s 15 = .bool false) ?_ ?_)
  ·simp[hk,s0];refine Gd (keepL (by omega) hf1) (by unfold Jb;omega) ?_;simp[hk,s6]
  intro Jv hk1 s15;simp at hk1;refine U3 s15 ?_;refine hX _ _ _ _ ?_;simp;exact hK _ _ _ (by simp[hk1,hk]) hm1 hf1 (by simpa[hk1]using B)
end
section
variable {ks:List Kt}{s:Jm}{h h':J8}{n:Nat}{Q:Xc}
theorem Jby{ds:List Kd}{vl:AV}{N m v i j lo:Nat}(L:K6 X6 3 lo ds vl h n)(hd:ds.length<=60)(hg:∀d∈ds,GD N m d)(hv:v<N)(hi:i<ds.length)(hj:j<=ds.length)(s0:s 0=vl)(s1:s 1 = .int .i64 v)(s7:s 7 = .int .i64 i)(s8:s 8 = .int .i64 j)
 (hK:∀s',(∀j∈[0,1,5,7,8],s' j=s j)->s' 56 = .bool (decide (j<ds.length)&&decide (0<Kc v ds[i]))->Ju prog ks .normal s' h n Q):rC prog eh ks s h n Q:=by
 have g:=hg _ (getElem_mem hi);have hvl:v<ds[i].l.Coeffs.length:=by rw[g.cl];exact hv
 have hc:ds[i].l.Coeffs[v]=Kc v ds[i]:=by simp[Kc,hvl]
 simp[eh,s0,s8];refine Gd L (by unfold Jb;omega) ?_;by_cases hjl:j<ds.length
 ·simp[hjl,s0,s7];refine E1 L hi ?_;intro id rows r hid e hl hr hD;obtain⟨v1,v2,rfl,g1,g2⟩:=hD;simp[e,hl,hr,s1];refine F5 g1 hvl ?_;intro w1 hw1;simp;refine hw1 _ ?_;rw[hc];simp;exact hK _ (by simp[s0,s1,s7,s8]) (by simp[hjl])
 ·simp[hjl];exact hK _ (by simp[s0,s8]) (by simp[hjl])
theorem Jqn{ds:List Kd}{vl:AV}{N m v j lo:Nat}(L:K6 X6 3 lo ds vl h n)(hg:∀d∈ds,GD N m d)(hv:v<N)(hj:j<ds.length)(s0:s 0=vl)(s1:s 1 = .int .i64 v)(s8:s 8 = .int .i64 j)
 (hK:∀s',(∀j∈[0,1,5,7,8],s' j=s j)->s' 68 = .bool (decide (0<=Kc v ds[j]))->Ju prog ks .normal s' h n Q):rC prog ec ks s h n Q:=by
 have g:=hg _ (getElem_mem hj);have hvl:v<ds[j].l.Coeffs.length:=by rw[g.cl];exact hv
 have hc:ds[j].l.Coeffs[v]=Kc v ds[j]:=by simp[Kc,hvl]
 simp[ec,s0,s8];refine E1 L hj ?_;intro id rows r hid e hl hr hD;obtain⟨v1,v2,rfl,g1,g2⟩:=hD;simp[e,hl,hr,s1];refine F5 g1 hvl ?_;intro w1 hw1;simp;refine hw1 _ ?_;rw[hc];simp;exact hK _ (by simp[s0,s1,s8]) (by simp)
theorem Jqs{ds:List Kd}{vl:AV}{N m v i j lo:Nat}(L:K6 X6 3 lo ds vl h n)(hg:∀d∈ds,GD N m d)(hm:m<=20)(hv:v<N)(hi:i<ds.length)(hj:j<ds.length)(hp:0<Kc v ds[i])(hq:Kc v ds[j]<0)(s0:s 0=vl)(s1:s 1 = .int .i64 v)(s7:s 7 = .int .i64 i)(s8:s 8 = .int .i64 j)
 (hK:∀s' h' n' k r,(∀j∈[0,1,5,7,8],s' j=s j)->n<=n'->(∀id,id<n->h' id=h id)->s' 10 = .bool (Gp v ds[i] ds[j]).isSome->s' 9 = .ptr k 0 0->n<=k->k<n'->h' k=some ⟨true,3,[r]⟩->(∀d,Gp v ds[i] ds[j]=some d->X6 d r h' n')->Ju prog ks .normal s' h' n' Q):rC prog ed ks s h n Q:=by
 have ga:=hg _ (getElem_mem hi);have gb:=hg _ (getElem_mem hj);have fr:∀id,id<n->¬id=n:=by intro id _;omega
 simp[ed,s0,s7];refine E1 L hi ?_;intro id rows r hid e hl hr hD;obtain⟨va,ma,rfl,A1,A2⟩:=hD;simp[e,hl,hr,s0,s8];refine E1 L hj ?_;intro id2 rows2 r2 hid2 e2 hl2 hr2 hD2;obtain⟨vb,mb,rfl,B1,B2⟩:=hD2;simp[e2,hl2,hr2,s1];constructor
 ·refine R5 (J35 ga gb hm hv hp hq A1 A2 B1 B2 ?_);intro h' n' c k1 l1 k2 l2 hn hf hr;refine⟨hf,?_⟩;have fr':∀id,id<n'->¬id=n':=by intro id _;omega
  simp;refine hK _ _ _ n' [.int .i64 c,.ref k1 0 l1,.ref k2 0 l2] (by simp[s0,s1,s7,s8]) (by omega) (λid hid=>by simp[fr' id (by omega),hf id hid]) (by simp) (by simp) (by omega) (by omega) (by simp) (λd hd=>(hr d hd).keep (by omega) (Ko.of λid hid=>by simp[fr' id hid]))
 ·have kp:Ko h (upd h n (some ⟨true,3,[[.int .i64 0,.nil 1,.nil 1]]⟩)) n:=Ko.of λid hid=>by simp[fr id hid]
  refine R5 (J35 ga gb hm hv hp hq (A1.keep (Nat.le_succ n) kp) (A2.keep (Nat.le_succ n) kp) (B1.keep (Nat.le_succ n) kp) (B2.keep (Nat.le_succ n) kp) ?_);intro h' n' c k1 l1 k2 l2 hn hf hr;refine⟨hf,?_⟩;have en:=hf n (Nat.lt_succ_self n);simp at en;have hx:∀id,id<n->h' id=h id:=λid hid=>by rw[hf id (by omega)];simp[fr id hid]
  have kp2:∀B,Ko h' (upd h' n B) n':=λB id z rows hid e=>by
   have:¬id=n:=by rintro rfl;rw[en]at e;simp at e
   simp[this,e]
  simp[en];refine hK _ _ _ n [.int .i64 c,.ref k1 0 l1,.ref k2 0 l2] (by simp[s0,s1,s7,s8]) (by omega) (λid hid=>by simp[fr id hid,hx id hid]) (by simp) (by simp) (by omega) (by omega) (by simp) (λd hd=>(hr d hd).keep (Nat.le_refl _) (kp2 _))
theorem Jm6{v:Nat}{a b:Kd}(h:Kc v b<0):Hc v a b=Gp v a b:=by unfold Hc;rw[if_neg (by omega)]
theorem Jmq{v:Nat}{a b:Kd}(h:¬Kc v b<0):Hc v a b=Option.none:=by unfold Hc;rw[if_pos (by omega)]
theorem Jm2{ds:List Kd}{vl:AV}{N m v n0 i:Nat}{h0:J8}{acc0 T:List Kd}(hg:∀d∈ds,GD N m d)(hm:m<=20)(hv:v<N)(hd:ds.length<=60)(hi:i<ds.length)(L:K6 X6 3 0 ds vl h0 n0)(hn0:n0<=n)
 (s0:s 0=vl) (s1:s 1 = .int .i64 v) (s7:s 7 = .int .i64 i) (s8:s 8 = .int .i64 0) (hf:∀id,id<n0->h id=h0 id) (B0:K6 X6 3 n0 acc0 (s 5) h n) (hT:acc0++Io v ds ds[i]=T) (hTl:T.length<=4000)
 (hK:∀s' h' n',(∀j∈[0,1,7],s' j=s j)->n<=n'->(∀id,id<n0->h' id=h0 id)->K6 X6 3 n0 T (s' 5) h' n'->Ju prog ks .normal s' h' n' Q):rC prog ein ks s h n Q:=by
 have keepL:∀{h' m'},n0<=m'->(∀id,id<n0->h' id=h0 id)->K6 X6 3 0 ds vl h' m':=λhm hh=>K6.keep (R:=X6) (λ_ _ _ _ _ _=>X6.keep) L hm (Ko.of hh) λid rows _ hid _ e=>by rw[hh id hid,e]
 refine Xg ?_;rw[Jd8];by_cases hp:0<Kc v ds[i]
 ·rw[Jc3 (by omega)]at hT;refine Ki [0,1,7] 8 ds.length (λj s h m'=>n<=m'/\(∀id,id<n0->h id=h0 id)/\∃acc,K6 X6 3 n0 acc (s 5) h m'/\acc++(ds.drop j).filterMap (Hc v ds[i])=T) (by unfold Jb;omega) (by simp[s8]) ⟨Nat.le_refl _,hf,acc0,B0,by simpa using hT⟩ ?_ ?_
  ·rintro j st h1 m1 R hj hgj hk s8 hw ⟨hm1,hf1,acc,B,hJ⟩ hR hret _;simp at hk;rw[drop_eq_getElem_cons hj,List.filterMap_cons]at hJ;refine Jn (Jn (Jby (keepL (by omega) hf1) hd hg hv hi (by omega) (by simp[hk,s0]) (by simp[hk,s1]) (by simp[hk,s7]) s8 ?_));intro Jv hk1 s56;simp at hk1;rw[Qb];refine Uh (by simpa[hj,hp]using s56) (Jn (Xg (Jn (Jn (Jqn (keepL (by omega) hf1) hg hv hj (by simp[hk1,hk,s0]) (by simp[hk1,hk,s1]) (by simp[hk1,s8]) ?_)))));intro st2 hk2 s68;simp at hk2;rw[Qb];by_cases hq:Kc v ds[j]<0
   ·have hq':¬0<=Kc v ds[j]:=by omega
    rw[Jm6 hq]at hJ;simp[s68,hq'];refine Jqs (keepL (by omega) hf1) hg hm hv hi hj hp hq (by simp[hk2,hk1,hk,s0]) (by simp[hk2,hk1,hk,s1]) (by simp[hk2,hk1,hk,s7]) (by simp[hk2,hk1,s8]) ?_;intro Ur h5 m5 k9 r hk5 hm5 hf5 s10 s9 hk9 hk9b e9 hr;simp at hk5;have B5:K6 X6 3 n0 acc (st 5) h5 m5:=K6.keep (R:=X6) (λ_ _ _ _ _ _=>X6.keep) B hm5 (Ko.of hf5) λid rows _ hid _ e=>by rw[hf5 id hid,e]
    have hf50:∀id,id<n0->h5 id=h0 id:=λid hid=>by rw[hf5 id (by omega),hf1 id hid]
    have hal:=congrArg List.length hJ;simp only[length_append]at hal;rw[Qb]
    cases hjn:Gp v ds[i] ds[j]with
    |none=>
     rw[hjn]at s10 hJ;simp at s10 hJ;simp[s10,hk5,hk2,hk1,s8,hw]
     exact hR _ _ _ (by simp[hk5,hk2,hk1,hk]) (by simp) ⟨by omega,hf50,acc,by simpa[hk5,hk2,hk1]using B5,hJ⟩
    |some d=>
     rw[hjn]at s10 hJ;have hrd:=hr d hjn;simp at s10 hJ;simp[s10];refine Jq7 (acc:=acc) (d:=d) (v:=st 5) (q:=k9) (by simp[s9]) (by simp[hk5,hk2,hk1]) e9 hk9b hrd B5 (by omega) (by omega) ?_;intro st6 h6 m6 hk6 hm6 kp6 hf6 B6;simp at hk6;simp[hk6,hk5,hk2,hk1,s8,hw];refine hR _ _ _ (by simp[hk6,hk5,hk2,hk1,hk]) (by simp) ⟨by omega,λid hid=>?_,acc++[d],by simpa using B6,by simpa using hJ⟩;rw[hf6 id (by omega) λk e=>?_,hf50 id hid];have:=B.from id k e;omega
   ·have hq':0<=Kc v ds[j]:=by omega
    rw[Jmq hq]at hJ;simp[s68,hq',hk2,hk1,s8,hw];exact hR _ _ _ (by simp[hk2,hk1,hk]) (by simp) ⟨by omega,hf1,acc,by simpa[hk2,hk1]using B,hJ⟩
  ·rintro st h1 m1 R hk s8 ⟨hm1,hf1,acc,B,hJ⟩ hret hX;simp at hk;rw[drop_eq_nil_of_le (by omega)]at hJ;simp at hJ;subst hJ;refine Jn (Jn (Jby (keepL (by omega) hf1) hd hg hv hi (Nat.le_refl _) (by simp[hk,s0]) (by simp[hk,s1]) (by simp[hk,s7]) s8 ?_));intro Jv hk1 s56;simp at hk1;rw[Qb];refine U3 (by simpa using s56) ?_;refine hX _ _ _ _ ?_;simp;exact hK _ _ _ (by simp[hk1,hk]) hm1 hf1 (by simpa[hk1]using B)
 ·have hj0:Io v ds ds[i]=[]:=by unfold Io;rw[if_pos (by omega)]
  rw[hj0,List.append_nil]at hT;subst hT;refine Oe (λk s' h' m'=>s'=s/\h'=h/\m'=n) 0 ⟨rfl,rfl,rfl⟩ ?_;rintro k s' h' m' ⟨rfl,rfl,rfl⟩;refine Jn (Jn (Jby (keepL hn0 hf) hd hg hv hi (j:=0) (by omega) s0 s1 s7 (by simpa using s8) ?_));intro Jv hk1 s56;simp at hk1;rw[Qb];refine U3 (by simpa[hp]using s56) ?_;simp;exact hK _ _ _ (by simp[hk1]) (Nat.le_refl _) hf (by simpa[hk1]using B0)
end
section
variable {ks:List Kt}{s:Jm}{h h':J8}{n:Nat}{Q:Xc}
theorem Jmc{ds:List Kd}{vl:AV}{N m v n0:Nat}{h0:J8}{acc0 T:List Kd}(hg:∀d∈ds,GD N m d)(hm:m<=20)(hv:v<N)(hd:ds.length<=60)(L:K6 X6 3 0 ds vl h0 n0)(hn0:n0<=n)
 (s0:s 0=vl) (s1:s 1 = .int .i64 v) (hf:∀id,id<n0->h id=h0 id) (B0:K6 X6 3 n0 acc0 (s 5) h n) (hT:acc0++ds.flatMap (Io v ds)=T) (hTl:T.length<=4000)
 (hK:∀s' h' n',n<=n'->(∀id,id<n0->h' id=h0 id)->K6 X6 3 n0 T (s' 5) h' n'->Ju prog ks .normal s' h' n' Q):rC prog el3 ks s h n Q:=by
 have keepL:∀{h' m'},n0<=m'->(∀id,id<n0->h' id=h0 id)->K6 X6 3 0 ds vl h' m':=λhm hh=>K6.keep (R:=X6) (λ_ _ _ _ _ _=>X6.keep) L hm (Ko.of hh) λid rows _ hid _ e=>by rw[hh id hid,e]
 simp[el3];refine Ki [0,1] 7 ds.length (λi s h m'=>n<=m'/\(∀id,id<n0->h id=h0 id)/\∃acc,K6 X6 3 n0 acc (s 5) h m'/\acc++(ds.drop i).flatMap (Io v ds)=T) (by unfold Jb;omega) (by simp) ⟨Nat.le_refl _,hf,acc0,by simpa using B0,by simpa using hT⟩ ?_ ?_
 ·rintro i st h1 m1 R hi hgi hk s7 hw ⟨hm1,hf1,acc,B,hJ⟩ hR hret _;simp at hk;rw[drop_eq_getElem_cons hi,List.flatMap_cons,<-List.append_assoc]at hJ;have hal:=congrArg List.length hJ;simp only[length_append]at hal;refine Jn (Js [0,1,5,7] (λs=>s 38 = .bool true) ?_ ?_)
  ·simp[hk,s0];refine Gd (keepL (by omega) hf1) (by unfold Jb;omega) ?_;simp[hk,s7,hi]
  intro Jv hk1 s38;simp at hk1;refine Uh s38 (Jn (Xg ?_));simp;refine Jm2 (acc0:=acc) hg hm hv hd hi L (by omega) (by simp[hk1,hk,s0]) (by simp[hk1,hk,s1]) (by simp[hk1,s7]) (by simp) hf1 (by simpa[hk1]using B) rfl (by simp;omega) ?_;intro st4 h4 m4 hk4 hm4 hf4 B4;simp at hk4;simp[hk4,hk1,s7,hw];exact hR _ _ _ (by simp[hk4,hk1,hk]) (by simp) ⟨by omega,hf4,_,by simpa using B4,hJ⟩
 ·rintro st h1 m1 R hk s7 ⟨hm1,hf1,acc,B,hJ⟩ hret hX;simp at hk;rw[drop_eq_nil_of_le (by omega)]at hJ;simp at hJ;subst hJ;refine Jn (Js [5] (λs=>s 38 = .bool false) ?_ ?_)
  ·simp[hk,s0];refine Gd (keepL (by omega) hf1) (by unfold Jb;omega) ?_;simp[s7]
  intro Jv hk1 s38;simp at hk1;refine U3 s38 ?_;refine hX _ _ _ _ ?_;simp;exact hK _ _ _ hm1 hf1 (by simpa[hk1]using B)
end
theorem J2e{ds:List Kd}{vl:AV}{N m v:Nat}{h:J8}{n:Nat}{K:AV->J8->Nat->Prop}(hg:∀d∈ds,GD N m d)(hm:m<=20)(hv:v<N)(hd:ds.length<=60)(L:K6 X6 3 0 ds vl h n)
 (hK:∀a h' n',n<=n'->(∀id,id<n->h' id=h id)->K6 X6 3 n (Vh v ds) a h' n'->K a h' n'):X7 prog 259 [vl,i64 v] h n K:=by
 refine U8 Tryz.func259 a259_ok rfl (by simp[a259]) ?_;simp[a259,el0,el1];have fr:∀id,id<n->¬id=n:=by intro id _;omega
 refine Jmm (n0:=n) (h0:=h) hg hv hd (Nat.le_succ n) (λid hid=>by simp[fr id hid]) L (by simp) (by simp) (.inr ⟨n,[],Nat.le_refl n,Nat.lt_succ_self n,by simp,by simp,rfl,by simp⟩) ?_;intro s1 h1 n1 hk1 hn1 hf1 B1;simp at hk1;simp;have hl:=Ri (v:=v) (l:=ds);have h60:ds.length*ds.length<=60*60:=Nat.mul_le_mul hd hd;refine Jmc (n0:=n) (h0:=h) hg hm hv hd L (by omega) (by simp[hk1]) (by simp[hk1]) hf1 B1 (show _=Vh v ds from rfl) (by omega) ?_;intro s2 h2 n2 hn2 hf2 B2;simp[el4];exact hK _ _ _ (by omega) hf2 B2
end Go.Proofs.YtoclolkigjbcgaaGreat
