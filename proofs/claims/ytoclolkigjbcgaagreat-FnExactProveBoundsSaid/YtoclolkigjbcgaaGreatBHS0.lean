/- The reference's environments: contracts of what reads them. -/
import Derived.Test.YtoclolkigjbcgaaGreatBC9
namespace Go.Proofs.YtoclolkigjbcgaaGreat
open Tryz(prog)
open List(drop_eq_getElem_cons drop_eq_nil_of_le all_cons getElem_mem)
set_option maxRecDepth 40000
set_option maxHeartbeats 4000000
open Go Go.RowKit Go.Proofs
set_option linter.all false
def a305:Jk:= ⟨21,[(.c 6 true 2)],(Zq [ZB 3 0,Zo 6 (.box [(.int .i64 0),(.nil 1)])] (Zq [Zf 8 0 3,Zl 9 false 1 8,Zv 10 1,Zc 11 63 [.t 9,.t 10],Zv 7 11] (.seq (Zq [Zv 12 7,Zk 13 .lss 12 0] (.cond (.t 13) (Zq [Zv 14 2,Zc 15 99 [(.k (.int .i64 0)),.t 14],⟨no,.st 2 (.t 6) (.t 15),no⟩] .ret) .skip)) (Zq [Zf 16 1 3,Zl 17 false 1 16,Zv 18 7,Zx 19 2 17 18,Zl 20 true 2 19,⟨no,.st 2 (.t 6) (.t 20),no⟩] .ret))))⟩
theorem a305_ok:Jf prog Tryz.f305=some a305:=by kernel_rfl
def a265:Jk:= ⟨19,[.t 2],(Zq [Zi 2 0] (Zq [Zi 3 0] (.seq (Zq [Zi 4 0] (.blk 0 (.loop (.seq (Zq [Zv 5 4,Zv 6 0,Zn 7 6,Zb 8 .lss 5 7] (Zw 8 0)) (.seq (.blk 1 (Zq [Zv 11 0,Zv 12 4,Zx 13 4 11 12,Zf 14 1 13,Zl 15 false 1 14] (.cond (.t 15) (.reg [Zv 16 3,Zk 17 .add 16 1,Zv 3 17]) .skip))) (.reg [Zv 9 4,Zk 10 .add 9 1,Zv 4 10])))))) (Zq [Zv 18 3,Zv 2 18] .ret))))⟩
theorem a265_ok:Jf prog Tryz.f265=some a265:=by kernel_rfl
theorem Kn.bwS {b:Nat}{l:List Je}{v:AV}{h:J8}{n:Nat}(x:Kn b 1 (Ji l) v h n):bw v h=some (.sl 1 (Ji l)):=by
 rcases x with ⟨h1,rfl⟩|⟨i,_,_,rfl,hb⟩
 ·rw[h1];rfl
 ·simp[hb,List.take_of_length_le]
def Y4(E:Xl):List Jc:=E.map (·.2)
theorem Cw{P:Program}{f:FuncId}{xs xs':List AV}{h:J8}{n:Nat}{Qr:AV->Prop}{K:AV->J8->Nat->Prop}(hh:Holds P f xs' Qr)(hb:U0 xs h=some xs')(hK:∀r,Qr r->K (dr r) h n):X7 P f xs h n K:=by refine⟨hh.1,λbase w0 w L F vs H hv=>?_⟩;refine(hh.2 w vs (Eq H xs hv hb)).mono ?_;rintro e w' ⟨v,r,S,rfl,hq,hcl,hbel,hr,hnd,hS⟩;obtain⟨g1,g2⟩:=H.after hbel;exact⟨v,dr r,L,n,F,h,rfl,g1,g2,Jkh _ _ _ (Tk r v S hcl (λb hb ho=>absurd (H.own_lt ho) (by have:=(hS b hb).1;omega)) hr),hK r hq⟩
theorem D5{P:Program}{f:FuncId}{xs xs':List AV}{h:J8}{n:Nat}{Qr:AV->Prop}{K:AV->J8->Nat->Prop}(hh:Holds P f xs' Qr)(hb:U0 xs h=some xs')(hk:∀r,Qr r->K (dr r) h n):X7 P f xs h n (hK h K):=
 Cw hh hb λr hr=>⟨Xy.refl h,hk r hr⟩
@[simp] theorem Jh4(x:Jc):Yu (Ja x)=Ja x:=by simp[Ja]
@[simp] theorem Jrb(l:List Jc):Yh (l.map Ja)=l.map Ja:=by rw[V7,List.map_map];exact List.map_congr_left λx _=>Jh4 x
@[simp] theorem Jtx(x:Jc)(h:J8):Wq (Ja x) h=some (Ja x,h):=by simp[Ja]
theorem Kn.bwA {b:Nat}{l:List Jc}{v:AV}{h:J8}{n:Nat}(x:Kn b 2 (l.map Ja) v h n):bw v h=some (.sl 2 (l.map Ja)):=by
 rcases x with ⟨h1,rfl⟩|⟨i,_,_,rfl,hb⟩
 ·have:l=[]:=by simpa using h1
  subst this;simp
 ·simp[hb,List.take_of_length_le]
def Cd(v:AV)(l:List Je)(h:J8)(n:Nat):Prop:=v = .sl 1 (Ji l)\/∃b,Kn b 1 (Ji l) v h n
def Ro(v:AV)(l:List Jc)(h:J8)(n:Nat):Prop:=v = .sl 2 (l.map Ja)\/∃b,Kn b 2 (l.map Ja) v h n
theorem Cd.bw {v:AV}{l:List Je}{h h':J8}{n:Nat}(x:Cd v l h n) (hh:∀id,id<n->h' id=h id):Go.Proofs.YtoclolkigjbcgaaGreat.bw v h'=some (.sl 1 (Ji l)):=by
 rcases x with rfl|⟨b,x⟩
 ·simp
 ·exact(x.keep (Nat.le_refl _) λid _ hid _=>hh id hid).bwS
theorem Cd.cell {v:AV}{l:List Je}{h:J8}{n:Nat}(x:Cd v l h n):K8 v=true:=by rcases x with rfl|⟨b,⟨_,rfl⟩|⟨i,_,_,rfl,_⟩⟩ <;>rfl
theorem Ro.cell {v:AV}{l:List Jc}{h:J8}{n:Nat}(x:Ro v l h n):K8 v=true:=by rcases x with rfl|⟨b,⟨_,rfl⟩|⟨i,_,_,rfl,_⟩⟩ <;>rfl
theorem Jc1{x:Je}{E:Xl} : (Y6 (λy=>y==x) (Kj E) 0 = -1/\∀d,Kp d E x=d)\/∃j:Nat,∃hj:j<E.length,Y6 (λy=>y==x) (Kj E) 0=(j:Int)/\∀d,Kp d E x=(E[j]).2:=by
 have key:∀(E:Xl) (k:Nat),(Y6 (λy=>y==x) (Kj E) k = -1/\∀d,Kp d E x=d)\/∃j:Nat,∃hj:j<E.length,Y6 (λy=>y==x) (Kj E) k=((k+j:Nat):Int)/\∀d,Kp d E x=(E[j]).2:=by
  intro E
  induction E with
  |nil=>intro k;exact .inl ⟨rfl,λ_=>rfl⟩
  |cons e E ih=>
   intro k;simp only[Kj,List.map_cons,Y6,Kp,List.find?_cons];cases hb:e.1==x
   ·simp only[Bool.false_eq_true,if_false];rcases ih (k+1)with ⟨h1,h2⟩|⟨j,hj,h1,h2⟩
    ·exact .inl ⟨h1,h2⟩
    ·exact .inr ⟨j+1,by simp;omega,by rw[Kj]at h1;rw[h1];congr 1;omega,by simpa[Kp]using h2⟩
   ·exact .inr ⟨0,by simp,by simp,λd=>by simp⟩
 simpa using key E 0
theorem T7{E:Xl}{vN vL:AV}{h:J8}{n N:Nat}{x:Je}(A:Cd vN (Kj E) h n)(B:Ro vL (Y4 E) h n)(hE:E.length<=1048576){K:AV->J8->Nat->Prop}
 (hK:∀w h' n',n<=n'->(∀id,id<n->h' id=h id)->K8 w=true->(∀H:J8,(∀id,id<n'->H id=h' id)->bw w H=some (.sl 1 (Jg (Kp (Jo 0 N) E x).Coeffs)))->K (.agg [.int .i64 (Kp (Jo 0 N) E x).Const,w]) h' n') :
 X7 prog 305 [.agg [vN,vL],.str x,i64 N] h n K:=by
 refine U8 Tryz.func305 a305_ok rfl (by simp[a305]) ?_;have ne:¬n=n+1/\¬n+1=n/\¬n=n+1+1/\¬n+1+1=n/\¬n+1=n+1+1/\¬n+1+1=n+1:=by omega
 have fr:∀id,id<n->¬id=n/\¬id=n+1/\¬id=n+1+1/\¬id=n+2:=by intro id _;omega
 have cN:=A.cell;have cL:=B.cell;have hbN:∀y z,bw vN (upd (upd h n y) (n+1) z)=some (.sl 1 (Ji (Kj E))):=λy z=>A.bw λid hid=>by simp[fr id hid]
 simp[a305,-K8,cN,cL];refine Jd (N4 (Kj E) x) (by simp[hbN]) ?_;rintro r rfl;rcases Jc1 (x:=x) (E:=E)with ⟨h1,h2⟩|⟨j,hj,h1,h2⟩
 ·rw[h1];rw[h2]at hK;simp;refine Jd (O4 0 N) (by simp) ?_;rintro r rfl;simp[J9];refine hK _ _ _ (by omega) (λid hid=>by simp[fr id hid]) rfl λH hH=>?_
  have:=hH (n+2) (by omega);simp at this;simp[this]
 ·rw[h1];rw[h2]at hK;have hj0:¬(j:Int)<0:=by omega
  have hjv:j<(Y4 E).length:=by simpa[Y4]using hj
  have hve:(Y4 E)[j]=(E[j]).2:=by simp[Y4]
  rcases B with rfl|⟨b,⟨hz,rfl⟩|⟨i,_,hin,rfl,hib⟩⟩
  ·simp[hjv,hj0,hve,Ja];exact hK _ _ _ (by omega) (λid hid=>by simp[fr id hid]) rfl λH hH=>by simp
  ·have:E=[]:=by simpa[Y4]using hz
   subst this;simp at hj
  ·have ni:=fr i hin;simp[hjv,hj0,ni,hib,hve,Ja];exact hK _ _ _ (by omega) (λid hid=>by simp[fr id hid]) rfl λH hH=>by simp
theorem J8i{E:Xl}{vN vL:AV}{h:J8}{n N:Nat}{x:Je}{d:Jc}(A:Cd vN (Kj E) h n)(B:Ro vL (Y4 E) h n)(hx:x∈Kj E){K:AV->J8->Nat->Prop}
 (hK:∀h' n',n<=n'->(∀id,id<n->h' id=h id)->K (.agg (Ja (Kp d E x))) h' n') :
 X7 prog 305 [.agg [vN,vL],.str x,i64 N] h n K:=by
 refine U8 Tryz.func305 a305_ok rfl (by simp[a305]) ?_;have ne:¬n=n+1/\¬n+1=n/\¬n=n+1+1/\¬n+1+1=n/\¬n+1=n+1+1/\¬n+1+1=n+1:=by omega
 have fr:∀id,id<n->¬id=n/\¬id=n+1/\¬id=n+1+1/\¬id=n+2:=by intro id _;omega
 have cN:=A.cell;have cL:=B.cell;have hbN:∀y z,bw vN (upd (upd h n y) (n+1) z)=some (.sl 1 (Ji (Kj E))):=λy z=>A.bw λid hid=>by simp[fr id hid]
 simp[a305,-K8,cN,cL];refine Jd (N4 (Kj E) x) (by simp[hbN]) ?_;rintro r rfl;rcases Jc1 (x:=x) (E:=E)with ⟨h1,h2⟩|⟨j,hj,h1,h2⟩
 ·obtain⟨l,_,hl⟩:=N2 Jl hx;have e1:=hl Jl [];have e2:=hl ⟨1,[]⟩ [];rw[List.append_nil]at e1 e2;rw[h2]at e1 e2;rw[<-e1]at e2;simp[Jl]at e2
 ·rw[h1];rw[h2]at hK;have hj0:¬(j:Int)<0:=by omega
  have hjv:j<(Y4 E).length:=by simpa[Y4]using hj
  have hve:(Y4 E)[j]=(E[j]).2:=by simp[Y4]
  rcases B with rfl|⟨b,⟨hz,rfl⟩|⟨i,_,hin,rfl,hib⟩⟩
  ·simp[hjv,hj0,hve,Ja];exact hK _ _ (by omega) (λid hid=>by simp[fr id hid])
  ·have:E=[]:=by simpa[Y4]using hz
   subst this;simp at hj
  ·have ni:=fr i hin;simp[hjv,hj0,ni,hib,hve,Ja];exact hK _ _ (by omega) (λid hid=>by simp[fr id hid])
theorem Jar(l:List X2):Holds prog 265 [.sl 4 (l.map Kb)] (λr=>r=i64 (Y8 l)):=by
 refine Vv Tryz.func265 rfl rfl λhl=>?_
 simp at hl;refine Jp Tryz.func265 a265_ok rfl (by simp[a265]) ?_;simp[a265];generalize hT:Y8 l=T;refine Qm [0] 4 l.length (λi s=>∃c:Nat,c<=i/\s 3 = .int .i64 c/\c+Y8 (l.drop i)=T) (by exact hl) (by simp) ⟨0,by omega,by simp,by simpa using hT⟩ ?_ ?_
 ·rintro i st h R hi hg hk s4 hw ⟨c,hc,s3,hJ⟩ hh hR _ _;simp at hk hh;rw[drop_eq_getElem_cons hi]at hJ;unfold Y8 at hJ;rw[List.filter_cons]at hJ;have hw2:IntKind.i64.wrap ((c:Int)+1)=(c:Int)+1:=Kk (by unfold Jb at hl;omega);cases hc2:(l[i]).Cons
  ·rw[hc2]at hJ;simp[hk,s4,hi,hw,Kb,hc2];try intro _
   exact hR _ (by simp[hk]) (by simp) ⟨c,by omega,by simp[s3],by simpa[Y8]using hJ⟩
  ·rw[hc2]at hJ;simp only[if_true,List.length_cons]at hJ;simp[hk,s4,hi,s3,hw,hw2,Kb,hc2];try intro _
   exact hR _ (by simp[hk]) (by simp) ⟨c+1,by omega,by simp,by unfold Y8;omega⟩
 ·rintro st h R hk s4 ⟨c,hc,s3,hJ⟩ hh _ hX;simp at hk hh;rw[drop_eq_nil_of_le (by omega)]at hJ;simp[Y8]at hJ;subst hJ;simp[hk,s4];try intro _
  refine hX _ _ ?_;simp[s3]
def a202:Jk:= ⟨16,[(.c 5 true 2)],(Zq [Zo 5 (.box [(.int .i64 0),(.nil 1)])] (Zq [Zl 7 false 1 1,Zl 8 false 1 2,Zc 9 203 [.t 7,.t 8],Zo 6 (.box [(.int .i64 0),(.nil 1)]),⟨no,.st 2 (.t 6) (.t 9),no⟩] (Zq [Zl 10 false 1 3,Zv 11 0,Zl 12 true 2 6,⟨no,.mput (.t 10) (.t 11) (.t 12),no⟩] (Zq [Zl 13 false 1 1,Zk 14 .add 13 1,⟨no,.st 1 (.t 1) (.t 14),no⟩] (Zq [Zl 15 true 2 6,⟨no,.st 2 (.t 5) (.t 15),no⟩] .ret)))))⟩
theorem a202_ok:Jf prog Tryz.f202=some a202:=by kernel_rfl
def a204:Jk:= ⟨12,[],(Zq [ZB 2 0] (.draw (.op (Zf 3 0 1) (.op (Zf 4 1 3) (.op (Zl 5 false 1 4) (.op (Zl 6 true 2 2) (.op (Zc 7 86 [.t 6]) (.hop (Zo 8 (.bsl 2 [.t 7])) [(.ld false 1 (.t 4)),(.fld 1 (.t 3)),(.fld 0 (.t 1))] (.hop (ZA 9 32 2 5 8) [] (.op (Zf 10 0 1) (.op (Zf 11 1 10) (.hop ⟨no,.st 1 (.t 11) (.t 9),no⟩ [] .fin))))))))))))⟩
theorem a204_ok:Jf prog Tryz.f204=some a204:=by kernel_rfl
structure Hs where
 m:Nat
 d:Nat
 s:Nat
 x:Nat
def Xj(N:Nat)(vR vP vA:AV):List AV:=[.int .i64 N,vR,vP,vA,.int .i64 0,.nil 1]
def Mu(N:Nat)(I:Hs)(st:MS)(h:J8)(n:Nat):Prop:=∃vR vP vA,h I.m=some ⟨true,6,[Xj N vR vP vA]⟩/\Kn I.x 2 (st.rows.map J9) vR h n/\Kn I.x 2 (st.pars.map J9) vP h n /\
 Kn I.x 1 (st.args.map Yg) vA h n/\(st.args=[]->vA = .nil 1)/\∀i k j l,vR = .ref i 0 k->vP = .ref j 0 l->i≠j
structure MI (p:Jq) (r:Jy) (f:K3) (N:Nat) (I:Hs) (st:MS) (h:J8) (n:Nat):Prop where
 hp:h 0=some ⟨true,2,[Jh p]⟩
 hz:h 1=some ⟨true,6,[[.int .i64 0,.nil 2,.nil 2,.nil 1,.int .i64 0,.nil 1]]⟩
 hr:h 2=some ⟨true,7,[Jr r]⟩
 h3:h 3=some ⟨false,1,Ji f.Params⟩
 h4:h 4=some ⟨false,2,f.Pre.map J9⟩
 hf:h 5=some ⟨true,4,[[.str f.Name,.ref 3 0 f.Params.length,.bool f.ListResult,.ref 4 0 f.Pre.length]]⟩
 hn:h 6=some ⟨true,1,[[.int .i64 N]]⟩
 lt:6<I.m/\I.m<I.d/\I.d<I.s/\I.s<I.x/\I.x<n
 hmp:h I.s=some ⟨true,1,[[.mp I.d]]⟩
 hnx:h I.x=some ⟨true,1,[[.int .i64 st.nx]]⟩
 map:G8 I.d st.E h n
 acc:Mu N I st h n
section
variable {p:Jq}{r:Jy}{f:K3}{N:Nat}{I:Hs}{st st':MS}{h h':J8}{n n':Nat}
theorem Mu.frame (A:Mu N I st h n) (hm:I.m<n) (hn:n<=n') (hh:∀id,id<n->h' id=h id):Mu N I st h' n':=by obtain⟨vR,vP,vA,g1,g2,g3,g4,g6,g5⟩:=A;exact⟨vR,vP,vA,by rw[hh _ hm,g1],g2.keep hn λid _ hid _=>hh id hid,g3.keep hn λid _ hid _=>hh id hid,g4.keep hn λid _ hid _=>hh id hid,g6,g5⟩
theorem MI.frame (M:MI p r f N I st h n) (hn:n<=n') (hh:∀id,id<n->h' id=h id):MI p r f N I st h' n':=by
 obtain⟨l1,l2,l3,l4,l5⟩:=M.lt;refine⟨?_,?_,?_,?_,?_,?_,?_,⟨l1,l2,l3,l4,by omega⟩,?_,?_,M.map.keep (by omega) hn hh,M.acc.frame (by omega) hn hh⟩
 ·rw[hh 0 (by omega),M.hp]
 ·rw[hh 1 (by omega),M.hz]
 ·rw[hh 2 (by omega),M.hr]
 ·rw[hh 3 (by omega),M.h3]
 ·rw[hh 4 (by omega),M.h4]
 ·rw[hh 5 (by omega),M.hf]
 ·rw[hh 6 (by omega),M.hn]
 ·rw[hh I.s (by omega),M.hmp]
 ·rw[hh I.x (by omega),M.hnx]
theorem MI.upd_acc (M:MI p r f N I st h n) (hE:st'.E=st.E) (hx:st'.nx=st.nx) (hn:n<=n') (bad:Nat->Prop) (hbad:∀id,bad id->I.x<id/\∀l,h id≠some ⟨false,1,Jg l⟩) (hh:∀id,id<n->id≠I.m->¬bad id->h' id=h id)
 (hacc:Mu N I st' h' n'):MI p r f N I st' h' n':=by
 obtain⟨l1,l2,l3,l4,l5⟩:=M.lt;have low:∀id,id<=I.x->id≠I.m->h' id=h id:=λid hid hne=>hh id (by omega) hne λhb=>by have:=(hbad id hb).1;omega
 refine⟨?_,?_,?_,?_,?_,?_,?_,⟨l1,l2,l3,l4,by omega⟩,?_,?_,?_,hacc⟩
 ·rw[low 0 (by omega) (by omega),M.hp]
 ·rw[low 1 (by omega) (by omega),M.hz]
 ·rw[low 2 (by omega) (by omega),M.hr]
 ·rw[low 3 (by omega) (by omega),M.h3]
 ·rw[low 4 (by omega) (by omega),M.h4]
 ·rw[low 5 (by omega) (by omega),M.hf]
 ·rw[low 6 (by omega) (by omega),M.hn]
 ·rw[low I.s (by omega) (by omega),M.hmp]
 ·rw[low I.x (by omega) (by omega),M.hnx,hx]
 ·rw[hE];obtain⟨es,h1,h2,h3⟩:=M.map;refine⟨es,h1,by rw[low I.d (by omega) (by omega),h2],λe he=>⟨by have:=(h3 e he).1;omega,?_⟩⟩;obtain⟨k1,k2⟩:=h3 e he;rw[hh e.q k1 (λg=>?_) λhb=>(hbad _ hb).2 _ k2,k2];obtain⟨vR,vP,vA,g1,_⟩:=M.acc;rw[g,g1]at k2;simp at k2
theorem MI.upd_map (M:MI p r f N I st h n) {x:Je}{l:Jc}{q:Nat}(hE:st'.E=Ow st.E x l) (hR:st'.rows=st.rows) (hP:st'.pars=st.pars) (hA:st'.args=st.args) (hn:n<=n') (hq:q<n') (hqb:h' q=some ⟨false,1,Jg l.Coeffs⟩)
 (hx':h' I.x=some ⟨true,1,[[.int .i64 st'.nx]]⟩)
 (hh:∀id,id<n->id≠I.d->id≠I.x->h' id=h id) (hm:∀es,h I.d=some ⟨true,0,es.map Va.row⟩->h' I.d=some ⟨true,0,(D7 es x l q).map Va.row⟩):MI p r f N I st' h' n':=by
 obtain⟨l1,l2,l3,l4,l5⟩:=M.lt;refine⟨?_,?_,?_,?_,?_,?_,?_,⟨l1,l2,l3,l4,by omega⟩,?_,hx',?_,?_⟩
 ·rw[hh 0 (by omega) (by omega) (by omega),M.hp]
 ·rw[hh 1 (by omega) (by omega) (by omega),M.hz]
 ·rw[hh 2 (by omega) (by omega) (by omega),M.hr]
 ·rw[hh 3 (by omega) (by omega) (by omega),M.h3]
 ·rw[hh 4 (by omega) (by omega) (by omega),M.h4]
 ·rw[hh 5 (by omega) (by omega) (by omega),M.hf]
 ·rw[hh 6 (by omega) (by omega) (by omega),M.hn]
 ·rw[hh I.s (by omega) (by omega) (by omega),M.hmp]
 ·obtain⟨es,h1,h2,h3⟩:=M.map;refine⟨D7 es x l q,by rw[J9i,h1,hE],hm es h2,λe he=>?_⟩;rcases J4g he with he|rfl
  ·obtain⟨k1,k2⟩:=h3 e he;refine⟨by omega,?_⟩;rw[hh e.q k1 (λg=>?_) (λg=>?_),k2]
   ·rw[g,h2]at k2;simp at k2
   ·rw[g,M.hnx]at k2;simp at k2
  ·exact⟨hq,hqb⟩
 ·obtain⟨vR,vP,vA,g1,g2,g3,g4,g6,g5⟩:=M.acc;rw[<-hR]at g2;rw[<-hP]at g3;rw[<-hA]at g4 g6;exact⟨vR,vP,vA,by rw[hh I.m (by omega) (by omega) (by omega),g1],g2.keep hn λid hb hid _=>hh id hid (by omega) (by omega),g3.keep hn λid hb hid _=>hh id hid (by omega) (by omega),g4.keep hn λid hb hid _=>hh id hid (by omega) (by omega),g6,g5⟩
end
def Qu(st:MS)(x:Je)(l:Jc)(k:Nat):MS:=⟨Ow st.E x l,k,st.rows,st.pars,st.args⟩
def Ik(st:MS)(l:Jc):MS:=⟨st.E,st.nx,st.rows++[l],st.pars,st.args⟩
def By(st:MS)(l:Jc):MS:=⟨st.E,st.nx,st.rows,st.pars++[l],st.args⟩
def Vn(st:MS)(l:List Jc):MS:=⟨st.E,st.nx,st.rows,st.pars,st.args++[l]⟩
section
variable {p:Jq}{r:Jy}{f:K3}{N:Nat}{I:Hs}{st:MS}{h:J8}{n:Nat}{K:AV->J8->Nat->Prop}
theorem J1p(M:MI p r f N I st h n)(x:Je)(hx:st.nx<=100000000)
 (hK:∀q h' n',n<=q->q<n'->(∀id,id<n->id≠I.d->id≠I.x->h' id=h id)->h' q=some ⟨false,1,Jg (Ka st.nx N).Coeffs⟩->MI p r f N I (Qu st x (Ka st.nx N) (st.nx+1)) h' n'->K (Id (Ka st.nx N) q) h' n') :
 X7 prog 202 [.str x,.ptr I.x 0 0,.ptr 6 0 0,.ptr I.s 0 0] h n K:=by
 obtain⟨l1,l2,l3,l4,l5⟩:=M.lt;refine U8 Tryz.func202 a202_ok rfl (by simp[a202]) ?_
 have ne:¬I.x=n/\¬I.x=n+1/\¬I.x=n+1+1/\¬I.d=n/\¬I.d=n+1/\¬I.d=n+1+1/\¬I.s=n/\¬I.s=n+1/\¬I.s=n+1+1/\¬I.d=I.x/\¬I.x=I.d/\¬I.s=I.d/\¬I.s=I.x/\¬6=n/\¬6=n+1/\¬6=n+1+1/\¬n=6/\¬n=5/\¬n=4/\¬5=n/\¬4=n /\
  ¬n=I.x/\¬n+1=I.x/\¬n+1+1=I.x/\¬n=I.d/\¬n+1=I.d/\¬n+1+1=I.d/\¬n=n+1/\¬n+1=n/\¬n=n+1+1/\¬n+1+1=n/\¬n+1=n+1+1:=by omega
 have hw:IntKind.i64.wrap ((st.nx:Int)+1)=(st.nx:Int)+1:=Kk (by omega);obtain⟨es,hE,hd,hes⟩:=M.map;simp[a202,M.hnx,M.hn,ne];refine Jd (J5d st.nx N) (by simp) ?_;rintro r rfl;simp[J9,M.hnx,M.hmp,ne,hd,hw];refine hK (n+1) _ _ (by omega) (by omega) ?_ ?_ ?_
 ·intro id hid h1 h2;have:¬id=n/\¬id=n+1/\¬id=n+1+1:=by omega
  simp[this,h1,h2]
 ·simp[ne]
 ·refine M.upd_map (x:=x) (l:=Ka st.nx N) (q:=n+1) rfl rfl rfl rfl (by omega) (by omega) (by simp[ne]) (by simp[ne,Qu]) ?_ ?_
  ·intro id hid h1 h2;have:¬id=n/\¬id=n+1/\¬id=n+1+1:=by omega
   simp[this,h1,h2]
  ·intro es' hd';rw[hd]at hd';simp only[Option.some.injEq,Yd.mk.injEq,true_and]at hd';rw[<-Su,<-hd'];simp[ne,Id]
theorem C9(M:MI p r f N I st h n){l:Jc}{q:Nat}(hl:l.Coeffs.length<=1048576)(hqn:q<n)(hq:h q=some ⟨false,1,Jg l.Coeffs⟩)(hrl:st.rows.length<=1000000)
 (hK:∀h' n',n<=n'->(∀id,id<n->id≠I.m->(∀l,h id≠some ⟨false,2,l⟩)->h' id=h id)->MI p r f N I (Ik st l) h' n'->K (.tup []) h' n') :
 X7 prog 204 [Id l q,.ptr I.m 0 0] h n K:=by
 obtain⟨l1,l2,l3,l4,l5⟩:=M.lt;refine U8 Tryz.func204 a204_ok rfl (by simp[a204]) ?_;have ne:¬I.m=n/\¬I.m=n+1/\¬I.m=n+1+1/\¬I.m=n+1+1+1/\¬I.m=n+2/\¬n=I.m/\¬n+1=I.m/\¬n+1+1=I.m/\¬n+2=I.m/\¬n+1+1+1=I.m/\¬q=n/\¬q=n+1/\¬n=n+1/\¬n+1=n/\¬n=n+1+1/\¬n+1+1=n/\¬n+1=n+1+1/\¬n+2=n+1/\¬n+1=n+2/\¬n+3=I.m/\¬I.m=n+3:=by omega
 obtain⟨vR,vP,vA,g1,g2,g3,g4,g6,g5⟩:=M.acc;simp[a204,Id,g1,Xj,ne];refine Jw (Nu l hl) (by simp[Ja,hq,ne]) ?_;rintro r rfl;rcases g2 with ⟨hz,rfl⟩|⟨i,hi,hin,rfl,hib⟩
 ·have hz':st.rows=[]:=by simpa using hz
  simp[J9,g1,Xj,ne];refine⟨by unfold Jb;omega,?_⟩;refine hK _ _ (by omega) ?_ (M.upd_acc (st':=Ik st l) rfl rfl (by omega) (λ_=>False) (λ_ h=>h.elim) ?_ ?_)
  ·intro id hid hm _;have:¬id=n/\¬id=n+1/\¬id=n+1+1/\¬id=n+1+1+1:=by omega
   simp[this,hm]
  ·intro id hid hm _;have:¬id=n/\¬id=n+1/\¬id=n+1+1/\¬id=n+1+1+1:=by omega
   simp[this,hm]
  ·have fr:∀id,id<n->I.x<id->¬id=n/\¬id=n+1/\¬id=n+1+1/\¬id=n+1+1+1/\¬id=I.m:=by intro id _ _;omega
   refine⟨.ref (n+3) 0 1,vP,vA,by simp[Xj],.inr ⟨n+3,by omega,by omega,by simp[Ik,hz'],by simp[Ik,hz',J9,ne]⟩,g3.keep (by omega) λid hb hid _=>by simp[fr id hid hb],g4.keep (by omega) λid hb hid _=>by simp[fr id hid hb],g6,?_⟩;intro i k j l' e1 e2;simp only[AV.ref.injEq]at e1;rcases g3 with ⟨_,e⟩|⟨j',_,hj',e,_⟩
   ·rw[e]at e2;cases e2
   ·rw[e]at e2;simp only[AV.ref.injEq]at e2;omega
 ·have hi1:st.rows.length<1000001:=by omega
  have ni:¬i=n/\¬i=n+1/\¬i=n+1+1/\¬i=n+1+1+1/\¬i=I.m/\¬I.m=i/\¬n=i/\¬n+1=i/\¬n+1+1=i/\¬n+1+1+1=i:=by omega
  simp[J9,g1,Xj,ne,ni,hib];refine⟨by unfold Jb;omega,?_⟩;refine hK _ _ (by omega) ?_ (M.upd_acc (st':=Ik st l) rfl rfl (by omega) (λid=>id=i) (λid e=>⟨by omega,λl hl=>by rw[e,hib]at hl;simp at hl⟩) ?_ ?_)
  ·intro id hid hm h2;have:¬id=n/\¬id=n+1/\¬id=n+1+1/\¬id=n+1+1+1:=by omega
   have hii:¬id=i:=λe=>h2 _ (by rw[e];exact hib)
   simp[this,hm,hii]
  ·intro id hid hm hii;have:¬id=n/\¬id=n+1/\¬id=n+1+1/\¬id=n+1+1+1:=by omega
   simp[this,hm,hii]
  ·have fr:∀id,id<n->I.x<id->¬id=n/\¬id=n+1/\¬id=n+1+1/\¬id=n+1+1+1/\¬id=I.m:=by intro id _ _;omega
   refine⟨.ref (n+3) 0 (st.rows.length+1),vP,vA,by simp[Xj],.inr ⟨n+3,by omega,by omega,by simp[Ik],by simp[Ik,J9,ne]⟩,g3.keep (by omega) λid hb hid e=>?_,g4.keep (by omega) λid hb hid e=>?_,g6,?_⟩
   ·have hii:¬id=i:=λe'=>g5 i _ id _ rfl e e'.symm
    simp[fr id hid hb,hii]
   ·have hii:¬id=i:=by
     intro e';rcases g4 with ⟨_,e2⟩|⟨j',_,_,e2,hjb⟩
     ·rw[e2]at e;cases e
     ·rw[e2]at e;simp only[AV.ref.injEq]at e;rw[e.1,e',hib]at hjb;simp at hjb
    simp[fr id hid hb,hii]
   ·intro i' k j l' e1 e2;simp only[AV.ref.injEq]at e1;rcases g3 with ⟨_,e⟩|⟨j',_,hj',e,_⟩
    ·rw[e]at e2;cases e2
    ·rw[e]at e2;simp only[AV.ref.injEq]at e2;omega
end
def a295:Jk:= ⟨5,[.t 2],(Zq [Zt 2 false] (Zq [Zv 3 0,Zc 4 102 [.t 3,(.k (.int .i64 (-1000000))),(.k (.int .i64 1000000))],Zv 2 4] .ret))⟩
theorem a295_ok:Jf prog Tryz.f295=some a295:=by kernel_rfl
def a318:Jk:= ⟨5,[.t 2],(Zq [Zt 2 false] (Zq [Zv 3 0,Zc 4 183 [.t 3,(.k (.int .i64 (-1000000))),(.k (.int .i64 1000000))],Zv 2 4] .ret))⟩
theorem a318_ok:Jf prog Tryz.f318=some a318:=by kernel_rfl
def a141:Jk:= ⟨18,[.t 2],(Zq [Zt 2 false] (.seq (Zq [Zv 5 0,Zn 6 5,Zi 7 0] (.blk 0 (.loop (Zq [Zb 8 .lss 7 6] (.seq (Zw 8 0) (.seq (.blk 1 (Zq [Zv 9 7,Zx 10 1 5 7,Zl 11 false 1 10,Zv 3 9,Zv 4 11] (Zq [Zv 12 0,Zv 13 3,Zo 14 (.slc false 1 (.t 12) Option.none (some (.t 13))),Zv 15 4,Zc 16 72 [.t 14,.t 15]] (.cond (.t 16) (Zq [Zt 2 false] .ret) .skip)))) (.reg [Zk 17 .add 7 1,Zv 7 17]))))))) (Zq [Zt 2 true] .ret)))⟩
theorem a141_ok:Jf prog Tryz.f141=some a141:=by kernel_rfl
def a218:Jk:= ⟨18,[.t 2],(Zq [Zt 2 false] (.seq (Zq [Zi 3 0] (.blk 0 (.loop (.seq (Zq [Zv 4 3,Zv 5 0,Zn 6 5,Zb 7 .lss 4 6] (Zw 7 0)) (.seq (.blk 1 (.seq (.draw (.op (Zv 10 0) (.op (Zv 11 3) (.op (Zo 12 (.slc false 1 (.t 10) Option.none (some (.t 11)))) (.op (Zv 13 0) (.op (Zv 14 3) (.op (Zx 15 1 13 14) (.op (Zl 16 false 1 15) (.op (Zc 17 224 [.t 12,.t 16]) .fin))))))))) (.cond (.t 17) (Zq [Zt 2 false] .ret) .skip))) (.reg [Zv 8 3,Zk 9 .add 8 1,Zv 3 9])))))) (Zq [Zt 2 true] .ret)))⟩
theorem a218_ok:Jf prog Tryz.f218=some a218:=by kernel_rfl
def a296:Jk:= ⟨8,[.t 3],(Zq [Zt 3 false] (Zq [Zl 4 false 1 1,Zv 5 0,Zc 6 72 [.t 4,.t 5],ZN 7 6,Zv 3 7] .ret))⟩
theorem a296_ok:Jf prog Tryz.f296=some a296:=by kernel_rfl
def a238:Jk:= ⟨9,[.t 4],(Zq [ZB 3 1,Zt 4 false] (Zq [Zv 5 0,Zo 6 (.mkf (.func 296) [] [.t 3]),Zc 7 69 [.t 5,.t 6],ZN 8 7,Zv 4 8] .ret))⟩
theorem a238_ok:Jf prog Tryz.f238=some a238:=by kernel_rfl
def a137:Jk:= ⟨29,[.t 4],(Zq [Zo 4 (.mv (.k (.nil 1)))] (Zq [Zo 7 (.bsl 1 []),Zv 5 7] (.seq (Zq [Zi 6 0] (.blk 0 (.loop (.seq (Zq [Zv 8 6,Zv 9 0,Zn 10 9,Zb 11 .lss 8 10] (Zw 11 0)) (.seq (.blk 1 (Zq [Zv 14 1,Zv 15 0,Zv 16 6,Zx 17 1 15 16,Zl 18 false 1 17,Zc 19 224 [.t 14,.t 18],ZN 20 19] (.cond (.t 20) (.reg [Zv 21 5,Zv 22 0,Zv 23 6,Zx 24 1 22 23,Zl 25 false 1 24,Zo 26 (.bsl 1 [.t 25]),ZA 27 16 1 21 26,Zv 5 27]) .skip))) (.reg [Zv 12 6,Zk 13 .add 12 1,Zv 6 13])))))) (Zq [Zv 28 5,Zv 4 28] .ret))))⟩
theorem a137_ok:Jf prog Tryz.f137=some a137:=by kernel_rfl
theorem a69_ok:Jf prog Tryz.f69=some (Du 150):=by kernel_rfl
theorem a150_ok:Jf prog Tryz.f150=some (Bf false 1):=by kernel_rfl
theorem a297_ok:Jf prog Tryz.f297=some (Du 323):=by kernel_rfl
theorem a323_ok:Jf prog Tryz.f323=some (Bf true 2):=by kernel_rfl
theorem J5a{P:Program}{s:Jm}{h:J8}{n:Nat}{Q:Xc}{ks:List Kt}{c:Nat}{e:AC}(hc:s c = .bool false)(h1:Ju P ks .normal s h n Q):rC P (.cond (.t c) e .skip) ks s h n Q:=by rw[C1];have:ev s (.t c) = .bool false:=hc;rw[this];simpa using h1
theorem Jjc(n:Int):Holds prog 295 [i64 n] (λr=>r = .bool (Gw n)):=by refine Jp Tryz.func295 a295_ok rfl (by simp[a295]) ?_;simp[a295];refine Jd (O0 n (-1000000) 1000000) (by simp) ?_;rintro r rfl;simp;rfl
theorem Jcm(n:Int):Holds prog 318 [i64 n] (λr=>r = .bool (Gw n)):=by refine Jp Tryz.func318 a318_ok rfl (by simp[a318]) ?_;simp[a318];refine Jd (Hh n (-1000000) 1000000) (by simp) ?_;rintro r rfl;simp;rfl
theorem J1f(l:List Je):Holds prog 141 [.sl 1 (Ji l)] (λr=>r = .bool (Q5 l)):=by
 refine Vv Tryz.func141 rfl rfl λhl=>?_
 simp at hl;refine Jp Tryz.func141 a141_ok rfl (by simp[a141]) ?_;simp[a141];intro _;unfold Q5;generalize hB:O3 [] l=B;refine Qm [0,5,6] 7 l.length (λi _=>O3 (l.take i) (l.drop i)=B) hl (by simp) (by simpa using hB) ?_ ?_
 ·rintro i st h R hi hg hk s7 hw hJ hh hR hret _;simp at hk;rw[drop_eq_getElem_cons hi]at hJ;simp only[O3]at hJ;rw[List.take_append_getElem hi]at hJ;simp[hk,s7,hi,Yx,Vz];refine⟨by omega,?_⟩;have ht:List.take i (Ji l)=Ji (l.take i):=by simp[Ji]
  refine Jd (J1j (l.take i) (l[i]'hi)) (by simp[ht]) ?_;rintro r rfl;cases hc:X3 (l.take i) l[i]
  ·rw[hc]at hJ;simp at hJ;simp[s7,hw];exact hR _ (by simp[hk]) (by simp) hJ
  ·rw[hc]at hJ;simp at hJ;simp;refine hret _ _ _ ?_;simp[hJ]
 ·rintro st h R hk s7 hJ hh _ hX;simp at hk;rw[drop_eq_nil_of_le (by omega)]at hJ;simp[hk,s7];refine hX _ _ ?_;simp[<-hJ,O3]
theorem T5(l:List Je):Holds prog 218 [.sl 1 (Ji l)] (λr=>r = .bool (Q5 l)):=by
 refine Vv Tryz.func218 rfl rfl λhl=>?_
 simp at hl;refine Jp Tryz.func218 a218_ok rfl (by simp[a218]) ?_;simp[a218];unfold Q5;generalize hB:O3 [] l=B;refine Qm [0] 3 l.length (λi _=>O3 (l.take i) (l.drop i)=B) hl (by simp) (by simpa using hB) ?_ ?_
 ·rintro i st h R hi hg hk s3 hw hJ hh hR hret _;simp at hk;rw[drop_eq_getElem_cons hi]at hJ;simp only[O3]at hJ;rw[List.take_append_getElem hi]at hJ;simp[hk,s3,hi,Yx,Vz];intro _;refine⟨by omega,?_⟩;have ht:List.take i (Ji l)=Ji (l.take i):=by simp[Ji]
  refine Jw (J53 (l.take i) (l[i]'hi)) (by simp[ht]) ?_;rintro r rfl;cases hc:X3 (l.take i) l[i]
  ·rw[hc]at hJ;simp at hJ;simp[s3,hw];exact hR _ (by simp[hk]) (by simp) hJ
  ·rw[hc]at hJ;simp at hJ;simp;refine hret _ _ _ ?_;simp[hJ]
 ·rintro st h R hk s3 hJ hh _ hX;simp at hk;rw[drop_eq_nil_of_le (by omega)]at hJ;simp[hk,s3];intro _;refine hX _ _ ?_;simp[<-hJ,O3]
theorem Jhh(l scope:List Je):(l.any λs => !X3 scope s) = !Hg l scope:=by unfold Hg;rw[Dq]
theorem Jbm{h:J8}{n id:Nat}{scope:List Je}(x:Je)(hv:h id=some ⟨true,1,[[.sl 1 (Ji scope)]]⟩)(hid:id<n):Bu prog 296 [] [.ptr id 0 0] h n (.str x) (.bool (!X3 scope x)):=by
 intro K hK;refine Ck ?_;refine U8 Tryz.func296 a296_ok rfl (by simp[a296]) ?_;have n1:¬id=n:=by omega
 simp[a296,hv];refine Jd (J1j scope x) (by simp) ?_;rintro r rfl;simp[Vk,hK]
theorem Ry(l scope:List Je):Holds prog 238 [.sl 1 (Ji l),.sl 1 (Ji scope)] (λr=>r = .bool (Hg l scope)):=by
 refine Jp Tryz.func238 a238_ok rfl (by simp[a238]) ?_;simp[a238]
 refine Hz (p:=λs => !X3 scope s) (rowOf:=λs=>[.str s]) (eltOf:=λs=>.str s) Tryz.func69 a69_ok rfl Tryz.func150 a150_ok rfl (λx=>by simp) l
  (λx _=>Jbm (scope:=scope) x (by simp) (by omega)) ?_
 rw[Jhh];simp
theorem J76{l scope:List Je}{i:Nat}(hi:i<l.length):E3 (l.drop i) scope=(if X3 scope l[i]then []else [l[i]])++E3 (l.drop (i+1)) scope:=by rw[drop_eq_getElem_cons hi];unfold E3;rw[List.filter_cons];cases X3 scope l[i] <;>simp
theorem Jba(l scope:List Je)(hl:l.length<=1048576):Holds prog 137 [.sl 1 (Ji l),.sl 1 (Ji scope)] (λr=>r = .us 1 (Ji (E3 l scope))):=by
 refine Jp Tryz.func137 a137_ok rfl (by simp[a137]) ?_;simp[a137];generalize hB:E3 l scope=B;have hBl:B.length<=l.length:=by rw[<-hB];exact List.length_filter_le _ _
 refine Ki [0,1] 6 l.length (λi s h n=>∃(acc:List Je) (id:Nat),s 5 = .ref id 0 acc.length/\h id=some ⟨false,1,Ji acc⟩/\id<n/\acc++E3 (l.drop i) scope=B)
  (by unfold Jb;omega) (by simp) ⟨[],0,by simp,by simp[Ji],by simp,by simpa using hB⟩ ?_ ?_
 ·rintro i st h n R hi hg hk s6 hw ⟨acc,id,s5,eid,hidn,hJ⟩ hR _ _;simp at hk;rw[J76 hi]at hJ;have hal:=congrArg List.length hJ;simp only[List.length_append]at hal;simp[hk,s6,hi];intro _;refine Jd (J53 scope (l[i]'hi)) (by simp) ?_;rintro r rfl;have n0:¬id=n:=by omega
  have n1:¬id=n+1:=by omega
  have n2:¬n+1=id:=by omega
  have n3:¬n=id:=by omega
  cases hc:X3 scope l[i]
  ·rw[hc]at hJ hal;simp at hJ hal;simp[hk,s6,hi,s5,eid,n0,n3,hw];refine⟨by unfold Jb;omega,?_⟩;exact hR _ _ _ (by simp[hk]) (by simp) ⟨acc++[l[i]],n+1,by simp,by simp[Ji],by omega,by simpa using hJ⟩
  ·rw[hc]at hJ;simp at hJ;simp[s6,hw];exact hR _ _ _ (by simp[hk]) (by simp) ⟨acc,id,by simp[s5],by simp[eid],by omega,hJ⟩
 ·rintro st h n R hk s6 ⟨acc,id,s5,eid,hidn,hJ⟩ hret hX;simp at hk;rw[drop_eq_nil_of_le (by omega)]at hJ;simp[E3]at hJ;subst hJ;simp[hk,s6];intro _;refine hX _ _ _ _ ?_;simp[s5,eid]
def a237:Jk:= ⟨55,[.t 2],(Zq [ZB 1 0,Zt 2 false] (.seq (Zq [Zf 5 0 1,Zl 6 false 1 5,Zc 7 295 [.t 6],ZN 8 7,Zv 9 8,Zg 10 9 false (.fld 1 (.t 1)),Zg 11 9 false (.ld false 1 (.t 10)),Zg 12 9 false (.len false (.t 11)),Zg 13 9 false (.bin .gtr (.t 12) (.k (.int .i64 4))),ZP 14 9 13] (.cond (.t 14) (Zq [Zt 2 false] .ret) .skip)) (.seq (Zq [Zf 15 1 1,Zl 16 false 1 15,Zn 17 16,Zi 18 0] (.blk 0 (.loop (Zq [Zb 19 .lss 18 17] (.seq (Zw 19 0) (.seq (.blk 1 (Zq [Zv 20 18,Zx 21 2 16 18,Zl 22 true 2 21,Zo 4 (.box [(.int .i64 0),(.str [])]),Zv 3 20,⟨no,.st 2 (.t 4) (.t 22),no⟩] (.seq (.draw (.op (Zf 23 0 4) (.op (Zl 24 false 1 23) (.op (Zk 25 .eql 24 0) (.op (Zv 26 25) (.op (Zg 27 26 false (.fld 0 (.t 4))) (.op (Zg 28 26 false (.ld false 1 (.t 27))) (.op (Zg 29 26 false (.call (.k (.fn (.func 295) [] [])) [.t 28])) (.op (Zg 30 26 false (.un .not (.t 29))) (.op (ZP 31 26 30) (.op (Zv 32 31) (.op (Zg 33 32 false (.fld 1 (.t 4))) (.op (Zg 34 32 false (.ld false 1 (.t 33))) (.op (Zg 35 32 false (.call (.k (.fn (.func 140) [] [])) [.t 34])) (.op (Zg 36 32 false (.un .not (.t 35))) (.op (ZP 37 32 36) (.op (Zv 38 37) (.op (Zg 39 38 false (.mv (.t 3))) (.op (Zg 40 38 false (.bin .gtr (.t 39) (.k (.int .i64 0)))) (.op (Zg 41 38 false (.mv (.t 40))) (.op (Zg 42 41 true (.fld 1 (.t 1))) (.op (Zg 43 41 true (.ld false 1 (.t 42))) (.op (Zg 44 41 true (.mv (.t 3))) (.op (Zg 45 41 true (.bin .sub (.t 44) (.k (.int .i64 1)))) (.op (Zg 46 41 true (.ixa 2 (.t 43) (.t 45))) (.op (Zg 47 41 true (.fld 1 (.t 46))) (.op (Zg 48 41 true (.ld false 1 (.t 47))) (.op (Zg 49 41 true (.fld 1 (.t 4))) (.op (Zg 50 41 true (.ld false 1 (.t 49))) (.op (Zg 51 41 true (.bin .geq (.t 48) (.t 50))) (.op (Zg 52 38 false (.pick (.t 41) (.t 51) (.k (.bool false)))) (.op (ZP 53 38 52) .fin)))))))))))))))))))))))))))))))) (.cond (.t 53) (Zq [Zt 2 false] .ret) .skip)))) (.reg [Zk 54 .add 18 1,Zv 18 54]))))))) (Zq [Zt 2 true] .ret))))⟩
theorem a237_ok:Jf prog Tryz.f237=some a237:=by kernel_rfl
def Hl(l:List Yb)(i:Nat):Option Je:=if i=0 then Option.none else(l[i - 1]?).map (·.Name)
theorem P5{l:List Yb}{i:Nat}(hi:i<l.length):Hl l (i+1)=some (l[i]).Name:=by simp[Hl,hi]
set_option maxHeartbeats 1000000 in
theorem J21(x:Xb):Holds prog 237 [.agg (Kq x)] (λr=>r = .bool (I6 x)):=by
 refine Jp Tryz.func237 a237_ok rfl (by simp[a237]) ?_;simp[a237,Kq];refine Jd (Jjc x.Const) (by simp) ?_;rintro r rfl;unfold I6;cases h1:Gw x.Const
 ·simp
 simp;intro hl;have hd:decide (x.Terms.length<=4)=decide ((x.Terms.length:Int)<=4):=by rw[decide_eq_decide];omega
 rw[hd];by_cases h2:(x.Terms.length:Int)<=4
 case neg=>
  have h2n:¬x.Terms.length<=4:=by omega
  simp[h2,h2n,Int.not_le.1 h2]
 simp[h2,Int.not_lt.2 h2];intro _;generalize hB:Gy Option.none x.Terms=B;refine Ki [1,16,17] 18 x.Terms.length (λi s h n=>0<n/\h 0=some ⟨true,2,[[i64 x.Const,.sl 2 (x.Terms.map Xe)]]⟩/\Gy (Hl x.Terms i) (x.Terms.drop i)=B) hl (by simp) ⟨by simp,by simp,by simpa[Hl]using hB⟩ ?_ ?_
 ·rintro i st h n R hi hg hk s18 hw ⟨hn,e0,hJ⟩ hR hret _;simp at hk;rw[drop_eq_getElem_cons hi]at hJ;simp only[Gy]at hJ;have z0:¬0=n:=by omega
  refine Js [1,16,17,18] (λs=>s 19 = .bool true) (by simp[hk,s18,hi]) ?_;intro Jv hk1 s19;simp at hk1;refine W9 s19 (Jn (Xg ?_));refine Xo [1,16,17,18] (λs h' n'=>s 3 = .int .i64 i/\s 4 = .ptr n 0 0/\n'=n+1/\h' n=some ⟨true,2,[Xe x.Terms[i]]⟩/\h' 0=some ⟨true,2,[[i64 x.Const,.sl 2 (x.Terms.map Xe)]]⟩) (by simp[hk,hk1,s18,hi,Xe,e0,z0]) ?_;rintro st2 h2 n2 hk2 ⟨s3,s4,rfl,en,e0'⟩;simp at hk2;obtain⟨bad,hbad⟩:∃bad,bad=(((x.Terms[i]).Coeff==0 || !Gw (x.Terms[i]).Coeff || !W7 (x.Terms[i]).Name)||(match Hl x.Terms i with|Option.none=>false|some q => !(Op.bytesLess q (x.Terms[i]).Name))):=⟨_,rfl⟩;refine Js [1,16,17,18] (λs=>s 53 = .bool bad) ?_ ?_
  ·subst hbad;by_cases c0:(x.Terms[i]).Coeff=0
   ·simp[hk,hk1,hk2,s18,Xe,en,s4,c0]
   simp[hk,hk1,hk2,s18,Xe,en,s4,c0];refine Jw (Jjc (x.Terms[i]'hi).Coeff) (by simp) ?_;rintro r rfl;cases c1:Gw (x.Terms[i]).Coeff
   ·simp[hk,hk1,hk2,s18]
   simp[hk,hk1,hk2,s18,Xe,en,s4];refine Jw (Sc (x.Terms[i]'hi).Name) (by simp) ?_;rintro r rfl;cases c2:W7 (x.Terms[i]).Name
   ·simp[hk,hk1,hk2,s18]
   cases i with
   |zero=>simp[hk,hk1,hk2,s18,Xe,e0',en,s3,s4,Hl,c0]
   |succ i=>
    have hi':i<x.Terms.length:=by omega
    have hwr:IntKind.i64.wrap (i:Int)=i:=Kk (by unfold Jb at hl;omega);simp[hk,hk1,hk2,s18,hi',Xe,e0',en,s3,s4,P5 hi',hwr,c0]
  intro Kl hk3 s53;simp at hk3
  have hJ':(!bad&&Gy (some (x.Terms[i]).Name) (x.Terms.drop (i+1)))=B:=by rw[<-hJ,hbad];cases((x.Terms[i]).Coeff==0) <;>cases(Gw (x.Terms[i]).Coeff) <;>cases(W7 (x.Terms[i]).Name) <;>cases(Hl x.Terms i) <;>simp
  rw[<-P5 hi]at hJ';clear hJ hbad;cases bad
  ·simp[hk1,hk2,hk3,s18,s53,hw];exact hR _ _ _ (by simp[hk,hk1,hk2,hk3]) (by simp) ⟨by omega,by simp[e0'],by simpa using hJ'⟩
  ·simp[s53];simp at hJ';refine hret _ _ _ ?_;simp[hJ']
 ·rintro st h n R hk s18 ⟨hn,e0,hJ⟩ hret hX;simp at hk;rw[drop_eq_nil_of_le (by omega)]at hJ;refine Js [1,16,17,18] (λs=>s 19 = .bool false) (by simp[hk,s18]) ?_;intro Jv hk1 s19;simp at hk1;refine Ut s19 ?_;simp;refine hX _ _ _ _ ?_;simp[<-hJ,Gy]
def a286:Jk:= ⟨62,[.t 2],(Zq [ZB 1 0,Zt 2 false] (.seq (Zq [Zi 3 0] (.blk 0 (.loop (.seq (Zq [Zv 5 3,Zf 6 1 1,Zl 7 false 1 6,Zn 8 7,Zb 9 .lss 5 8] (Zw 9 0)) (.seq (.blk 1 (Zq [Zf 12 1 1,Zl 13 false 1 12,Zv 14 3,Zx 15 2 13 14,Zl 16 true 2 15,Zo 4 (.box [(.int .i64 0),(.str [])]),⟨no,.st 2 (.t 4) (.t 16),no⟩] (.seq (.draw (.op (Zf 17 0 4) (.op (Zl 18 false 1 17) (.op (Zk 19 .eql 18 0) (.op (Zv 20 19) (.op (Zg 21 20 false (.fld 0 (.t 4))) (.op (Zg 22 20 false (.ld false 1 (.t 21))) (.op (Zg 23 20 false (.call (.k (.fn (.func 318) [] [])) [.t 22])) (.op (Zg 24 20 false (.un .not (.t 23))) (.op (ZP 25 20 24) (.op (Zv 26 25) (.op (Zg 27 26 false (.fld 1 (.t 4))) (.op (Zg 28 26 false (.ld false 1 (.t 27))) (.op (Zg 29 26 false (.call (.k (.fn (.func 285) [] [])) [.t 28])) (.op (Zg 30 26 false (.un .not (.t 29))) (.op (ZP 31 26 30) (.op (Zv 32 31) (.op (Zg 33 32 false (.fld 1 (.t 4))) (.op (Zg 34 32 false (.ld false 1 (.t 33))) (.op (Zg 35 32 false (.call (.k (.fn (.func 260) [] [])) [.t 34])) (.op (ZP 36 32 35) (.op (Zv 37 36) (.op (Zg 38 37 false (.mv (.t 3))) (.op (Zg 39 37 false (.bin .gtr (.t 38) (.k (.int .i64 0)))) (.op (Zg 40 37 false (.mv (.t 39))) (.op (Zg 41 40 true (.fld 1 (.t 1))) (.op (Zg 42 40 true (.ld false 1 (.t 41))) (.op (Zg 43 40 true (.mv (.t 3))) (.op (Zg 44 40 true (.bin .sub (.t 43) (.k (.int .i64 1)))) (.op (Zg 45 40 true (.ixa 2 (.t 42) (.t 44))) (.op (Zg 46 40 true (.fld 1 (.t 45))) (.op (Zg 47 40 true (.ld false 1 (.t 46))) (.op (Zg 48 40 true (.fld 1 (.t 4))) (.op (Zg 49 40 true (.ld false 1 (.t 48))) (.op (Zg 50 40 true (.bin .geq (.t 47) (.t 49))) (.op (Zg 51 37 false (.pick (.t 40) (.t 50) (.k (.bool false)))) (.op (ZP 52 37 51) .fin))))))))))))))))))))))))))))))))))))) (.cond (.t 52) (Zq [Zt 2 false] .ret) .skip)))) (.reg [Zv 10 3,Zk 11 .add 10 1,Zv 3 11])))))) (Zq [Zf 53 0 1,Zl 54 false 1 53,Zc 55 318 [.t 54],Zv 56 55,Zg 57 56 true (.fld 1 (.t 1)),Zg 58 56 true (.ld false 1 (.t 57)),Zg 59 56 true (.len false (.t 58)),Zg 60 56 true (.bin .leq (.t 59) (.k (.int .i64 4))),ZQ 61 56 60,Zv 2 61] .ret)))⟩
theorem a286_ok:Jf prog Tryz.f286=some a286:=by kernel_rfl
set_option maxHeartbeats 1000000 in
theorem J18(x:Xb):Holds prog 286 [.agg (Kq x)] (λr=>r = .bool (I6 x)):=by
 refine Vv Tryz.func286 rfl rfl λhl=>?_
 simp[Kq]at hl;refine Jp Tryz.func286 a286_ok rfl (by simp[a286]) ?_;simp[a286,Kq];unfold I6;generalize hB:Gy Option.none x.Terms=B;refine Ki [1] 3 x.Terms.length (λi s h n=>0<n/\h 0=some ⟨true,2,[[i64 x.Const,.sl 2 (x.Terms.map Xe)]]⟩/\Gy (Hl x.Terms i) (x.Terms.drop i)=B) hl (by simp) ⟨by simp,by simp,by simpa[Hl]using hB⟩ ?_ ?_
 ·rintro i st h n R hi hg hk s3x hw ⟨hn,e0,hJ⟩ hR hret _;simp at hk;rw[drop_eq_getElem_cons hi]at hJ;simp only[Gy]at hJ;have z0:¬0=n:=by omega
  refine Jn ?_;refine Js [1,3] (λs=>s 9 = .bool true) (by simp[hk,s3x,hi,e0]) ?_;intro Jv hk1 s9;simp at hk1;refine Uh s9 (Jn (Xg ?_));refine Xo [1,3] (λs h' n'=>s 4 = .ptr n 0 0/\n'=n+1/\h' n=some ⟨true,2,[Xe x.Terms[i]]⟩/\h' 0=some ⟨true,2,[[i64 x.Const,.sl 2 (x.Terms.map Xe)]]⟩) (by simp[hk,hk1,s3x,hi,Xe,e0,z0]) ?_;rintro st2 h2 n2 hk2 ⟨s4,rfl,en,e0'⟩;simp at hk2;obtain⟨bad,hbad⟩:∃bad,bad=(((x.Terms[i]).Coeff==0 || !Gw (x.Terms[i]).Coeff || !W7 (x.Terms[i]).Name)||(match Hl x.Terms i with|Option.none=>false|some q => !(Op.bytesLess q (x.Terms[i]).Name))):=⟨_,rfl⟩;refine Js [1,3] (λs=>s 52 = .bool bad) ?_ ?_
  ·subst hbad;by_cases c0:(x.Terms[i]).Coeff=0
   ·simp (maxSteps:=1000000) [hk,hk1,hk2,s3x,Xe,en,s4,c0]
   simp (maxSteps:=1000000) [hk,hk1,hk2,s3x,Xe,en,s4,c0];refine Jw (Jcm (x.Terms[i]'hi).Coeff) (by simp) ?_;rintro r rfl;cases c1:Gw (x.Terms[i]).Coeff
   ·simp (maxSteps:=1000000) [hk,hk1,hk2,s3x]
   simp (maxSteps:=1000000) [hk,hk1,hk2,s3x,Xe,en,s4];refine Jw (Rl (x.Terms[i]'hi).Name) (by simp) ?_;rintro r rfl;unfold W7;cases c2:W8 (x.Terms[i]).Name
   ·simp (maxSteps:=1000000) [hk,hk1,hk2,s3x]
   simp (maxSteps:=1000000) [hk,hk1,hk2,s3x,Xe,en,s4];refine Jw (Bp (x.Terms[i]'hi).Name) (by simp) ?_;rintro r rfl;cases c3:Xh (x.Terms[i]).Name
   case true=>simp (maxSteps:=1000000) [hk,hk1,hk2,s3x]
   cases i with
   |zero=>simp (maxSteps:=1000000) [hk,hk1,hk2,s3x,Xe,e0',en,s4,Hl,c0]
   |succ i=>
    have hi':i<x.Terms.length:=by omega
    have hwr:IntKind.i64.wrap (i:Int)=i:=Kk (by unfold Jb at hl;omega);simp (maxSteps:=1000000) [hk,hk1,hk2,s3x,hi',Xe,e0',en,s4,P5 hi',hwr,c0]
  intro Kl hk3 s52;simp at hk3
  have hJ':(!bad&&Gy (some (x.Terms[i]).Name) (x.Terms.drop (i+1)))=B:=by rw[<-hJ,hbad];cases((x.Terms[i]).Coeff==0) <;>cases(Gw (x.Terms[i]).Coeff) <;>cases(W7 (x.Terms[i]).Name) <;>cases(Hl x.Terms i) <;>simp
  rw[<-P5 hi]at hJ';clear hJ hbad;cases bad
  ·simp (maxSteps:=1000000) [hk1,hk2,hk3,s3x,s52,hw];exact hR _ _ _ (by simp[hk,hk1,hk2,hk3]) (by simp) ⟨by omega,by simp[e0'],by simpa using hJ'⟩
  ·simp (maxSteps:=1000000) [s52];simp at hJ';refine hret _ _ _ ?_;simp[hJ']
 ·rintro st h n R hk s3 ⟨hn,e0,hJ⟩ hret hX;simp at hk;rw[drop_eq_nil_of_le (by omega)]at hJ;refine Jn ?_;refine Js [1,3] (λs=>s 9 = .bool false) (by simp[hk,s3,e0]) ?_;intro Jv hk1 s9;simp at hk1;refine U3 s9 ?_;simp;refine hX _ _ _ _ ?_;simp[Gy]at hJ;subst hJ;simp[hk,hk1,e0];refine Jd (Jcm x.Const) (by simp) ?_;rintro r rfl;cases h1:Gw x.Const
  ·simp
  have hd:decide (x.Terms.length<=4)=decide ((x.Terms.length:Int)<=4):=by rw[decide_eq_decide];omega
  simp[hk,hk1,e0,hd]
def a298:Jk:= ⟨6,[.t 2],(Zq [ZB 1 0,Zt 2 false] (Zq [Zl 3 true 2 1,Zc 4 237 [.t 3],ZN 5 4,Zv 2 5] .ret))⟩
theorem a298_ok:Jf prog Tryz.f298=some a298:=by kernel_rfl
def a242:Jk:= ⟨32,[.t 2],(Zq [ZB 1 0,Zt 2 false] (.seq (Zq [Zf 3 1 1,Zl 4 false 1 3,Zc 5 297 [.t 4,(.k (.fn (.func 298) [] []))]] (.cond (.t 5) (Zq [Zt 2 false] .ret) .skip)) (.seq (Zq [Zf 6 0 1,Zl 7 false 1 6,ZN 8 7] (.cond (.t 8) (Zq [Zf 9 1 1,Zl 10 false 1 9,Zn 11 10,Zk 12 .eql 11 1,Zv 13 12,Zg 14 13 true (.fld 2 (.t 1)),Zg 15 13 true (.ld false 1 (.t 14)),Zg 16 13 true (.bin .eql (.t 15) (.k (.str []))),ZQ 17 13 16,Zv 2 17] .ret) .skip)) (Zq [Zf 18 1 1,Zl 19 false 1 18,Zn 20 19,Zk 21 .leq 20 3,Zv 22 21,Zg 23 22 true (.fld 2 (.t 1)),Zg 24 22 true (.ld false 1 (.t 23)),Zg 25 22 true (.bin .eql (.t 24) (.k (.str []))),Zg 26 22 true (.mv (.t 25)),Zg 27 26 false (.fld 2 (.t 1)),Zg 28 26 false (.ld false 1 (.t 27)),Zg 29 26 false (.call (.k (.fn (.func 205) [] [])) [.t 28]),Zg 30 22 true (.pick (.t 26) (.k (.bool true)) (.t 29)),ZQ 31 22 30,Zv 2 31] .ret))))⟩
theorem a242_ok:Jf prog Tryz.f242=some a242:=by kernel_rfl
def a287:Jk:= ⟨44,[.t 2],(Zq [ZB 1 0,Zt 2 false] (.seq (Zq [Zi 3 0] (.blk 0 (.loop (.seq (Zq [Zv 4 3,Zf 5 1 1,Zl 6 false 1 5,Zn 7 6,Zb 8 .lss 4 7] (Zw 8 0)) (.seq (.blk 1 (Zq [Zf 11 1 1,Zl 12 false 1 11,Zv 13 3,Zx 14 2 12 13,Zl 15 true 2 14,Zc 16 286 [.t 15],ZN 17 16] (.cond (.t 17) (Zq [Zt 2 false] .ret) .skip))) (.reg [Zv 9 3,Zk 10 .add 9 1,Zv 3 10])))))) (.seq (Zq [Zf 18 0 1,Zl 19 false 1 18,ZN 20 19] (.cond (.t 20) (Zq [Zf 21 1 1,Zl 22 false 1 21,Zn 23 22,Zk 24 .eql 23 1,Zv 25 24,Zg 26 25 true (.fld 2 (.t 1)),Zg 27 25 true (.ld false 1 (.t 26)),Zg 28 25 true (.bin .eql (.t 27) (.k (.str []))),ZQ 29 25 28,Zv 2 29] .ret) .skip)) (Zq [Zf 30 1 1,Zl 31 false 1 30,Zn 32 31,Zk 33 .leq 32 3,Zv 34 33,Zg 35 34 true (.fld 2 (.t 1)),Zg 36 34 true (.ld false 1 (.t 35)),Zg 37 34 true (.bin .eql (.t 36) (.k (.str []))),Zg 38 34 true (.mv (.t 37)),Zg 39 38 false (.fld 2 (.t 1)),Zg 40 38 false (.ld false 1 (.t 39)),Zg 41 38 false (.call (.k (.fn (.func 260) [] [])) [.t 40]),Zg 42 34 true (.pick (.t 38) (.k (.bool true)) (.t 41)),ZQ 43 34 42,Zv 2 43] .ret))))⟩
theorem a287_ok:Jf prog Tryz.f287=some a287:=by kernel_rfl
def a223:Jk:= ⟨23,[.t 6],(Zq [ZB 3 0,Zt 6 false] (Zq [Zl 7 true 3 3,Zc 8 287 [.t 7],Zv 9 8,Zg 10 9 true (.fld 0 (.t 3)),Zg 11 9 true (.ld false 1 (.t 10)),Zg 12 9 true (.mv (.t 1)),Zg 13 9 true (.beq false (.t 11) (.t 12)),ZQ 14 9 13,Zv 15 14,Zg 16 15 true (.ld true 3 (.t 3)),Zg 17 15 true (.call (.k (.fn (.func 288) [] [])) [.t 16]),Zg 18 15 true (.mv (.t 2)),Zg 19 15 true (.call (.k (.fn (.func 137) [] [])) [.t 17,.t 18]),Zg 20 15 true (.len false (.t 19)),Zg 21 15 true (.bin .eql (.t 20) (.k (.int .i64 0))),ZQ 22 15 21,Zv 6 22] .ret))⟩
theorem a223_ok:Jf prog Tryz.f223=some a223:=by kernel_rfl
theorem Jr3(s:Xb):Holds prog 298 [.agg (Kq s)] (λr=>r = .bool (!I6 s)):=by refine Jp Tryz.func298 a298_ok rfl (by simp[a298]) ?_;simp[a298,Kq];refine Jd (J21 s) (by simp[Kq]) ?_;rintro r rfl;simp
theorem J0c(x:X8):Holds prog 242 [.agg (Kf x)] (λr=>r = .bool (Oo x)):=by
 refine Jp Tryz.func242 a242_ok rfl (by simp[a242]) ?_;simp[a242,Kf]
 refine Hz (p:=λs => !I6 s) (rowOf:=Kq) (eltOf:=λs=>.agg (Kq s)) Tryz.func297 a297_ok rfl Tryz.func323 a323_ok rfl (λx=>by simp) x.Heads
  (λs _=>Mn (Jr3 s) (by simp) rfl) ?_
 rw[Dq];unfold Oo;cases h1:x.Heads.all I6
 ·simp
 simp;cases h2:x.Lst
 ·simp;intro _;by_cases h3:(x.Heads.length:Int)=1
  ·have h3n:x.Heads.length=1:=by omega
   simp[h3n]
  ·have h3n:¬x.Heads.length=1:=by omega
   simp[h3,h3n]
 ·simp;intro _;by_cases h3:(x.Heads.length:Int)<=3
  ·have h3n:x.Heads.length<=3:=by omega
   simp[h3,h3n,Int.not_lt.2 h3];by_cases h4:x.Base=[]
   ·simp[h4]
   simp[h4];refine Jd (Dv x.Base) (by simp) ?_;rintro r rfl;simp[h4]
  ·have h3n:¬x.Heads.length<=3:=by omega
   simp[h3,h3n]
theorem J5t(x:X8):Holds prog 287 [.agg (Kf x)] (λr=>r = .bool (Oo x)):=by
 refine Vv Tryz.func287 rfl rfl λhl=>?_
 simp[Kf]at hl;refine Jp Tryz.func287 a287_ok rfl (by simp[a287]) ?_;simp[a287,Kf];unfold Oo;generalize hB:x.Heads.all I6=B;refine Qm [1] 3 x.Heads.length (λi _=>(x.Heads.drop i).all I6=B) hl.1 (by simp) (by simpa using hB) ?_ ?_
 ·rintro i st h R hi hg hk s3 hw hJ hh hR hret _;simp at hk;rw[drop_eq_getElem_cons hi,all_cons]at hJ;have e0:=hh 0;simp at e0;simp[hk,s3,hi,e0];intro _;refine Jd (J18 (x.Heads[i]'hi)) (by simp) ?_;rintro r rfl;cases hc:I6 x.Heads[i]
  ·rw[hc,Bool.false_and]at hJ;subst hJ;simp;refine hret _ _ _ ?_;simp
  ·rw[hc,Bool.true_and]at hJ;simp[s3,hw];exact hR _ (by simp[hk]) (by simp) hJ
 ·rintro st h R hk s3 hJ hh _ hX;simp at hk;rw[drop_eq_nil_of_le (by omega)]at hJ;have e0:=hh 0;simp at e0;simp[hk,s3,e0];intro _;refine hX _ _ ?_;simp at hJ;subst hJ;simp[hk];cases h2:x.Lst
  ·simp;intro _;by_cases h3:(x.Heads.length:Int)=1
   ·have h3n:x.Heads.length=1:=by omega
    simp[h3n]
   ·have h3n:¬x.Heads.length=1:=by omega
    simp[h3,h3n]
  ·simp;intro _;by_cases h3:(x.Heads.length:Int)<=3
   ·have h3n:x.Heads.length<=3:=by omega
    simp[h3,h3n,Int.not_lt.2 h3];by_cases h4:x.Base=[]
    ·simp[h4]
    simp[h4];refine Jd (Bp x.Base) (by simp) ?_;rintro r rfl;simp[h4]
   ·have h3n:¬x.Heads.length<=3:=by omega
    simp[h3,h3n]
theorem Ra(x:X8)(b:Bool)(scope:List Je)(hw:Yz x<=1048576):Holds prog 223 [.agg (Kf x),.bool b,.sl 1 (Ji scope)] (λr=>r = .bool (Ws x b scope)):=by
 refine Jp Tryz.func223 a223_ok rfl (by simp[a223]) ?_;simp[a223,Kf];refine Jd (J5t x) (by simp[Kf]) ?_;rintro r rfl;unfold Ws;cases h1:Oo x
 ·simp
 simp;by_cases hb:x.Lst=b
 case neg=>simp[hb]
 simp[hb];subst hb;refine Jd (Jbo x hw) (by simp[Kf]) ?_;rintro r rfl;simp;have hl:(Ib (Qj x)).length<=1048576:=Nat.le_trans (Jb3 _) (J31 x hw);refine Jd (Jba (Ib (Qj x)) scope hl) (by simp) ?_;rintro r rfl;simp;intro _;rw[<-J6x];rw[Bool.eq_iff_iff];simp
theorem a293_ok:Jf prog Tryz.f293=some (Du 322):=by kernel_rfl
theorem a322_ok:Jf prog Tryz.f322=some (Bf true 4):=by kernel_rfl
def a294:Jk:= ⟨9,[.t 3],(Zq [ZB 2 0,Zt 3 false] (Zq [Zf 4 0 2,Zl 5 false 1 4,Zf 6 0 1,Zl 7 false 1 6,Zb 8 .eql 5 7,Zv 3 8] .ret))⟩
theorem a294_ok:Jf prog Tryz.f294=some a294:=by kernel_rfl
def a236:Jk:= ⟨54,[.t 4],(Zq [ZB 2 0,Zt 4 false] (.seq (Zq [Zv 7 1,Zn 8 7,Zi 9 0] (.blk 0 (.loop (Zq [Zb 10 .lss 9 8] (.seq (Zw 10 0) (.seq (.blk 1 (Zq [Zv 11 9,Zx 12 4 7 9,Zl 13 true 4 12,Zo 6 (.box [(.str []),(.bool false),(.str []),(.str [])]),Zv 5 11,⟨no,.st 4 (.t 6) (.t 13),no⟩] (.seq (Zq [Zf 14 0 6,Zl 15 false 1 14,Zc 16 205 [.t 15],ZN 17 16,Zv 18 17,Zg 19 18 false (.fld 1 (.t 2)),Zg 20 18 false (.ld false 1 (.t 19)),Zg 21 18 false (.fld 0 (.t 6)),Zg 22 18 false (.ld false 1 (.t 21)),Zg 23 18 false (.call (.k (.fn (.func 72) [] [])) [.t 20,.t 22]),Zg 24 18 false (.un .not (.t 23)),ZP 25 18 24,Zv 26 25,Zg 27 26 false (.mv (.t 1)),Zg 28 26 false (.mv (.t 5)),Zg 29 26 false (.slc false 4 (.t 27) Option.none (some (.t 28))),Zg 30 26 false (.mkf (.func 294) [] [.t 6]),Zg 31 26 false (.call (.k (.fn (.func 293) [] [])) [.t 29,.t 30]),ZP 32 26 31] (.cond (.t 32) (Zq [Zt 4 false] .ret) .skip)) (Zq [Zf 33 1 6,Zl 34 false 1 33] (.cond (.t 34) (Zq [Zf 35 2 6,Zl 36 false 1 35,Zc 37 140 [.t 36],ZN 38 37,Zv 39 38,Zg 40 39 false (.fld 3 (.t 6)),Zg 41 39 false (.ld false 1 (.t 40)),Zg 42 39 false (.call (.k (.fn (.func 205) [] [])) [.t 41]),Zg 43 39 false (.un .not (.t 42)),ZP 44 39 43] (.cond (.t 44) (Zq [Zt 4 false] .ret) .skip)) (Zq [Zf 45 2 6,Zl 46 false 1 45,Zo 47 (.bin .neq (.t 46) (.k (.str []))),Zv 48 47,Zg 49 48 false (.fld 3 (.t 6)),Zg 50 48 false (.ld false 1 (.t 49)),Zg 51 48 false (.bin .neq (.t 50) (.k (.str []))),ZP 52 48 51] (.cond (.t 52) (Zq [Zt 4 false] .ret) .skip))))))) (.reg [Zk 53 .add 9 1,Zv 9 53]))))))) (Zq [Zt 4 true] .ret)))⟩
theorem a236_ok:Jf prog Tryz.f236=some a236:=by kernel_rfl
def a219:Jk:= ⟨72,[.t 4],(Zq [ZB 2 0,Zt 4 false] (Zq [Zo 8 (.bsl 1 []),Zv 5 8] (.seq (Zq [Zi 6 0] (.blk 0 (.loop (.seq (Zq [Zv 9 6,Zv 10 1,Zn 11 10,Zb 12 .lss 9 11] (Zw 12 0)) (.seq (.blk 1 (Zq [Zv 15 1,Zv 16 6,Zx 17 4 15 16,Zl 18 true 4 17,Zo 7 (.box [(.str []),(.bool false),(.str []),(.str [])]),⟨no,.st 4 (.t 7) (.t 18),no⟩] (.seq (Zq [Zf 19 1 2,Zl 20 false 1 19,Zf 21 0 7,Zl 22 false 1 21,Zc 23 63 [.t 20,.t 22],Zk 24 .lss 23 0,Zv 25 24,Zg 26 25 false (.fld 0 (.t 7)),Zg 27 25 false (.ld false 1 (.t 26)),Zg 28 25 false (.call (.k (.fn (.func 260) [] [])) [.t 27]),Zg 29 25 false (.un .not (.t 28)),ZP 30 25 29,Zv 31 30,Zg 32 31 false (.mv (.t 5)),Zg 33 31 false (.fld 0 (.t 7)),Zg 34 31 false (.ld false 1 (.t 33)),Zg 35 31 false (.call (.k (.fn (.func 63) [] [])) [.t 32,.t 34]),Zg 36 31 false (.bin .geq (.t 35) (.k (.int .i64 0))),ZP 37 31 36] (.cond (.t 37) (Zq [Zt 4 false] .ret) .skip)) (Zq [Zv 38 5,Zf 39 0 7,Zl 40 false 1 39,Zo 41 (.bsl 1 [.t 40]),ZA 42 16 1 38 41,Zv 5 42] (Zq [Zf 43 1 7,Zl 44 false 1 43,Zv 45 44,Zg 46 45 true (.fld 2 (.t 7)),Zg 47 45 true (.ld false 1 (.t 46)),Zg 48 45 true (.call (.k (.fn (.func 216) [] [])) [.t 47]),Zg 49 45 true (.un .not (.t 48)),Zg 50 45 true (.mv (.t 49)),Zg 51 50 false (.fld 3 (.t 7)),Zg 52 50 false (.ld false 1 (.t 51)),Zg 53 50 false (.call (.k (.fn (.func 260) [] [])) [.t 52]),Zg 54 50 false (.un .not (.t 53)),Zg 55 45 true (.pick (.t 50) (.k (.bool true)) (.t 54)),ZQ 56 45 55,Zv 57 56,Zg 58 57 false (.fld 1 (.t 7)),Zg 59 57 false (.ld false 1 (.t 58)),Zg 60 57 false (.un .not (.t 59)),Zg 61 57 false (.mv (.t 60)),Zg 62 61 true (.fld 2 (.t 7)),Zg 63 61 true (.ld false 1 (.t 62)),Zg 64 61 true (.bin .neq (.t 63) (.k (.str []))),Zg 65 61 true (.mv (.t 64)),Zg 66 65 false (.fld 3 (.t 7)),Zg 67 65 false (.ld false 1 (.t 66)),Zg 68 65 false (.bin .neq (.t 67) (.k (.str []))),Zg 69 61 true (.pick (.t 65) (.k (.bool true)) (.t 68)),Zg 70 57 false (.pick (.t 61) (.t 69) (.k (.bool false))),ZP 71 57 70] (.cond (.t 71) (Zq [Zt 4 false] .ret) .skip)))))) (.reg [Zv 13 6,Zk 14 .add 13 1,Zv 6 14])))))) (Zq [Zt 4 true] .ret))))⟩
theorem a219_ok:Jf prog Tryz.f219=some a219:=by kernel_rfl
def a220:Jk:= ⟨32,[.t 4],(Zq [Zt 4 false] (.seq (Zq [Zi 5 0] (.blk 0 (.loop (.seq (Zq [Zv 6 5,Zv 7 0,Zn 8 7,Zb 9 .lss 6 8] (Zw 9 0)) (.seq (.blk 1 (Zq [Zv 12 0,Zv 13 5,Zx 14 2 12 13,Zl 15 true 2 14,Zc 16 286 [.t 15],ZN 17 16,Zv 18 17,Zg 19 18 false (.mv (.t 0)),Zg 20 18 false (.mv (.t 5)),Zg 21 18 false (.mv (.t 5)),Zg 22 18 false (.bin .add (.t 21) (.k (.int .i64 1))),Zg 23 18 false (.slc false 2 (.t 19) (some (.t 20)) (some (.t 22))),Zg 24 18 false (.build [(.bool false),(.nil 2),(.str [])] [(1,(1,(.t 23)))]),Zg 25 18 false (.mv (.t 1)),Zg 26 18 false (.call (.k (.fn (.func 223) [] [])) [.t 24,(.k (.bool false)),.t 25]),Zg 27 18 false (.un .not (.t 26)),ZP 28 18 27] (.cond (.t 28) (Zq [Zt 4 false] .ret) .skip))) (.reg [Zv 10 5,Zk 11 .add 10 1,Zv 5 11])))))) (Zq [Zv 29 0,Zn 30 29,Zk 31 .leq 30 2,Zv 4 31] .ret)))⟩
theorem a220_ok:Jf prog Tryz.f220=some a220:=by kernel_rfl
theorem Jhp{h:J8}{n id:Nat}{q:X2}(x:X2)(hv:h id=some ⟨true,4,[Kb q]⟩)(hid:id<n):Bu prog 294 [] [.ptr id 0 0] h n (.agg (Kb x)) (.bool (x.Lst==q.Lst)):=by
 intro K hK;refine Ck ?_;refine U8 Tryz.func294 a294_ok rfl (by simp[a294]) ?_;have n1:¬id=n:=by omega
 simp[a294,hv,n1,Kb,Vk,hK];intro j hj hj';omega
def U7(qs:List X2)(i:Nat):List Je:=(qs.take i).map (·.Lst)
theorem J2u{qs:List X2}{i:Nat}(hi:i<qs.length):U7 qs (i+1)=U7 qs i++[(qs[i]).Lst]:=by unfold U7;rw[List.take_succ_eq_append_getElem hi,List.map_append];rfl
theorem Jgr{qs:List X2}{i:Nat}(hi:i<=qs.length):(U7 qs i).length=i:=by simp[U7];omega
theorem Jkx(l:List X2)(s:Je):(l.any λx=>x.Lst==s)=X3 (l.map (·.Lst)) s:=by simp[X3,List.any_map,Function.comp_def]
set_option maxHeartbeats 1000000 in
theorem J7d(f:K3)(qs:List X2):Holds prog 236 [.agg (K5 f),.sl 4 (qs.map Kb)] (λr=>r = .bool (Iv f.Params [] qs)):=by
 refine Jp Tryz.func236 a236_ok rfl (by simp[a236]) ?_;simp[a236,K5];intro hl;generalize hB:Iv f.Params [] qs=B;refine Ki [1,2,7,8] 9 qs.length (λi s h n=>0<n/\h 0=some ⟨true,4,[[.str f.Name,.sl 1 (Ji f.Params),.bool f.ListResult,.sl 2 (f.Pre.map Ja)]]⟩/\Iv f.Params (U7 qs i) (qs.drop i)=B) hl (by simp) ⟨by simp,by simp,hB⟩ ?_ ?_
 ·rintro i st h n R hi hg hk s9 hw ⟨hn,e0,hJ⟩ hR hret _;simp at hk;rw[drop_eq_getElem_cons hi]at hJ;simp only[Iv]at hJ;have z0:¬0=n:=by omega
  have z1:¬n=0:=by omega
  refine Js [1,2,7,8,9] (λs=>s 10 = .bool true) (by simp[hk,s9,hi]) ?_;intro Jv hk1 s10;simp at hk1;refine W9 s10 (Jn (Xg ?_));refine Xo [1,2,7,8,9] (λs h' n'=>s 5 = .int .i64 i/\s 6 = .ptr n 0 0/\n'=n+1/\h' n=some ⟨true,4,[Kb qs[i]]⟩/\h' 0=some ⟨true,4,[[.str f.Name,.sl 1 (Ji f.Params),.bool f.ListResult,.sl 2 (f.Pre.map Ja)]]⟩) (by simp[hk,hk1,s9,hi,Kb,e0,z0]) ?_;rintro st2 h2 n2 hk2 ⟨s5,s6,rfl,en,e0'⟩;simp at hk2;have ht:∀l:List X2,List.take i (l.map Kb)=(l.take i).map Kb:=λl=>by simp
  refine Jn (Js [1,2,6,7,8,9] (λs=>s 32 = .bool (!Xh (qs[i]).Lst || !X3 f.Params (qs[i]).Lst||X3 (U7 qs i) (qs[i]).Lst)) ?_ ?_)
  ·simp[Kb,en,s6];refine Jd (Dv (qs[i]'hi).Lst) (by simp) ?_;rintro r rfl;cases c1:Xh (qs[i]).Lst
   ·simp[hk,hk1,hk2,s9,s6]
   simp[hk,hk1,hk2,Kb,e0',en,s6];refine Jd (J1j f.Params (qs[i]'hi).Lst) (by simp) ?_;rintro r rfl;cases c2:X3 f.Params (qs[i]).Lst
   ·simp[hk,hk1,hk2,s9,s6]
   simp[hk,hk1,hk2,s9,s5,s6,Yx,Vz];refine⟨by omega,?_⟩;rw[ht]
   refine Hz (p:=λx=>x.Lst==(qs[i]).Lst) (rowOf:=Kb) (eltOf:=λx=>.agg (Kb x)) Tryz.func293 a293_ok rfl Tryz.func322 a322_ok rfl (λx=>by simp) (qs.take i)
    (λx _=>Jhp (q:=qs[i]) x en (Nat.lt_succ_self n)) ?_
   rw[Jkx,show List.map (·.Lst) (qs.take i)=U7 qs i from rfl];simp[hk,hk1,hk2]
  intro Kl hk3 s32;simp at hk3;generalize hcc:(!Xh (qs[i]).Lst || !X3 f.Params (qs[i]).Lst||X3 (U7 qs i) (qs[i]).Lst)=cc at *;have hp:(U7 qs (i+1))=U7 qs i++[(qs[i]).Lst]:=J2u hi;rw[<-hp]at hJ;cases cc
  case true=>
   have:(Ew f.Params qs[i] && !X3 (U7 qs i) (qs[i]).Lst)=false:=by unfold Ew;cases g1:Xh (qs[i]).Lst <;>cases g2:X3 f.Params (qs[i]).Lst <;>cases g3:X3 (U7 qs i) (qs[i]).Lst <;>rw[g1,g2,g3]at hcc <;>simp at hcc <;>simp
   rw[this,Bool.false_and]at hJ;subst hJ;simp[s32];refine hret _ _ _ ?_;simp
  have hcc':Xh (qs[i]).Lst=true/\X3 f.Params (qs[i]).Lst=true/\X3 (U7 qs i) (qs[i]).Lst=false:=by cases g1:Xh (qs[i]).Lst <;>cases g2:X3 f.Params (qs[i]).Lst <;>cases g3:X3 (U7 qs i) (qs[i]).Lst <;>rw[g1,g2,g3]at hcc <;>simp at hcc <;>simp
  unfold Ew at hJ;rw[hcc'.1,hcc'.2.1,hcc'.2.2]at hJ;simp only[Bool.true_and,Bool.not_false,Bool.and_true]at hJ;simp[hk1,hk2,hk3,s32,s6,en,Kb];cases c3:(qs[i]).Cons
  ·rw[c3]at hJ;simp only[Bool.false_eq_true,if_false]at hJ;simp;cases c4:((qs[i]).Head==[])
   ·rw[c4,Bool.false_and,Bool.false_and]at hJ;subst hJ;have c4':¬(qs[i]).Head=[]:=by simpa using c4
    simp[c4'];refine hret _ _ _ ?_;simp
   have c4':(qs[i]).Head=[]:=by simpa using c4
   cases c5:((qs[i]).Tail==[])
   ·rw[c4,c5,Bool.and_false,Bool.false_and]at hJ;subst hJ;have c5':¬(qs[i]).Tail=[]:=by simpa using c5
    simp[c4',c5'];refine hret _ _ _ ?_;simp
   ·rw[c4,c5,Bool.true_and,Bool.true_and]at hJ;have c5':(qs[i]).Tail=[]:=by simpa using c5
    simp[c4',c5',s9,hw];exact hR _ _ _ (by simp[hk,hk1,hk2,hk3]) (by simp) ⟨by omega,by simp[e0'],hJ⟩
  ·rw[c3]at hJ;simp only[if_true]at hJ;simp;refine Jd (Sc (qs[i]'hi).Head) (by simp) ?_;rintro r rfl;cases c4:W7 (qs[i]).Head
   ·rw[c4,Bool.false_and,Bool.false_and]at hJ;subst hJ;simp;refine hret _ _ _ ?_;simp
   simp[hk3,s6,en,Kb,c3];refine Jd (Dv (qs[i]'hi).Tail) (by simp) ?_;rintro r rfl;cases c5:Xh (qs[i]).Tail
   ·rw[c4,c5,Bool.and_false,Bool.false_and]at hJ;subst hJ;simp;refine hret _ _ _ ?_;simp
   ·rw[c4,c5,Bool.true_and,Bool.true_and]at hJ;simp[hk1,hk2,hk3,s9,hw];exact hR _ _ _ (by simp[hk,hk1,hk2,hk3]) (by simp) ⟨by omega,by simp[e0'],hJ⟩
 ·rintro st h n R hk s9 ⟨hn,e0,hJ⟩ hret hX;simp at hk;rw[drop_eq_nil_of_le (by omega)]at hJ;refine Js [1,2,7,8,9] (λs=>s 10 = .bool false) (by simp[hk,s9]) ?_;intro Jv hk1 s10;simp at hk1;refine Ut s10 ?_;simp;refine hX _ _ _ _ ?_;simp[<-hJ,Iv]
theorem Jq9(l:List Je)(s:Je):decide (Y6 (λx=>x==s) l 0<0) = !X3 l s:=by
 cases h:X3 l s
 ·have:=Nf (p:=λx=>x==s) (l:=l) (i:=0) |>.2 h
  simp[this]
 ·have:¬Y6 (λx=>x==s) l 0<0:=λh'=>by have:=Nf.1 h';unfold X3 at h;rw[h]at this;cases this
  simp[this]
theorem Jqk(l:List Je)(s:Je):decide (0<=Y6 (λx=>x==s) l 0)=X3 l s:=by have:=Th (p:=λx=>x==s) (l:=l) (i:=0);simp only[ge_iff_le]at this;rw[this];rfl
set_option maxHeartbeats 1000000 in
theorem J3t(f:K3)(qs:List X2)(hq:qs.length<=1048576):Holds prog 219 [.agg (K5 f),.sl 4 (qs.map Kb)] (λr=>r = .bool (Iv f.Params [] qs)):=by
 refine Jp Tryz.func219 a219_ok rfl (by simp[a219]) ?_;simp[a219,K5];generalize hB:Iv f.Params [] qs=B
 refine Ki [1,2] 6 qs.length (λi s h n=>0<n/\h 0=some ⟨true,4,[[.str f.Name,.sl 1 (Ji f.Params),.bool f.ListResult,.sl 2 (f.Pre.map Ja)]]⟩/\Iv f.Params (U7 qs i) (qs.drop i)=B /\
  ∃id,0<id/\id<n/\s 5 = .ref id 0 i/\h id=some ⟨false,1,Ji (U7 qs i)⟩) (by unfold Jb;omega) (by simp) ⟨by simp,by simp,hB,1,by omega,by omega,by simp,by simp[Ji,U7]⟩ ?_ ?_
 ·rintro i st h n R hi hg hk s6 hw ⟨hn,e0,hJ,id,hid0,hidn,s5,eid⟩ hR hret _;simp at hk;rw[drop_eq_getElem_cons hi]at hJ;simp only[Iv]at hJ;have z0:¬0=n:=by omega
  have z1:¬n=0:=by omega
  have z2:¬id=n:=by omega
  have z3:¬n=id:=by omega
  have z4:¬id=0:=by omega
  have z5:¬0=id:=by omega
  have hlt:(U7 qs i).length=i:=Jgr (by omega);refine Jn (Js [1,2,5,6] (λs=>s 12 = .bool true) (by simp[hk,s6,hi]) ?_);intro Jv hk1 s12;simp at hk1;refine Uh s12 (Jn (Xg ?_));refine Xo [1,2,5,6] (λs h' n'=>s 7 = .ptr n 0 0/\n'=n+1/\h' n=some ⟨true,4,[Kb qs[i]]⟩/\h' 0=some ⟨true,4,[[.str f.Name,.sl 1 (Ji f.Params),.bool f.ListResult,.sl 2 (f.Pre.map Ja)]]⟩/\h' id=some ⟨false,1,Ji (U7 qs i)⟩) (by simp[hk,hk1,s6,hi,Kb,e0,z0,z2,eid]) ?_;rintro st2 h2 n2 hk2 ⟨s7,rfl,en,e0',eid'⟩;simp at hk2;have ht:List.take i (Ji (U7 qs i))=Ji (U7 qs i):=List.take_of_length_le (by simp[hlt]);refine Jn (Js [1,2,5,6,7] (λs=>s 37 = .bool (!X3 f.Params (qs[i]).Lst || !Xh (qs[i]).Lst||X3 (U7 qs i) (qs[i]).Lst)) ?_ ?_)
  ·simp[hk,hk1,hk2,Kb,e0',en,s7];refine Jd (N4 f.Params (qs[i]'hi).Lst) (by simp) ?_;rintro r rfl;have e1:=Jq9 f.Params (qs[i]).Lst;generalize Y6 (λx=>x==(qs[i]).Lst) f.Params 0=k1 at e1;cases c1:X3 f.Params (qs[i]).Lst
   ·rw[c1]at e1;have:k1<0:=by simpa using e1
    simp[this]
   rw[c1]at e1;have:¬k1<0:=by simpa using e1
   simp[hk,hk1,hk2,s6,Kb,en,s7,this];refine Jd (Bp (qs[i]'hi).Lst) (by simp) ?_;rintro r rfl;cases c2:Xh (qs[i]).Lst
   ·simp
   simp[hk,hk1,hk2,s6,Kb,en,s7,s5];refine Jd (N4 (U7 qs i) (qs[i]'hi).Lst) (by simp[eid',ht,hlt]) ?_;rintro r rfl;have e2:=Jqk (U7 qs i) (qs[i]).Lst;generalize Y6 (λx=>x==(qs[i]).Lst) (U7 qs i) 0=k2 at e2;simp[hk,hk1,hk2,e2]
  intro Kl hk3 s37;simp at hk3;generalize hcc:(!X3 f.Params (qs[i]).Lst || !Xh (qs[i]).Lst||X3 (U7 qs i) (qs[i]).Lst)=cc at *;have hp:(U7 qs (i+1))=U7 qs i++[(qs[i]).Lst]:=J2u hi;rw[<-hp]at hJ;cases cc
  case true=>
   have:(Ew f.Params qs[i] && !X3 (U7 qs i) (qs[i]).Lst)=false:=by unfold Ew;cases g1:Xh (qs[i]).Lst <;>cases g2:X3 f.Params (qs[i]).Lst <;>cases g3:X3 (U7 qs i) (qs[i]).Lst <;>rw[g1,g2,g3]at hcc <;>simp at hcc <;>simp
   rw[this,Bool.false_and]at hJ;subst hJ;simp[s37];refine hret _ _ _ ?_;simp
  have hcc':Xh (qs[i]).Lst=true/\X3 f.Params (qs[i]).Lst=true/\X3 (U7 qs i) (qs[i]).Lst=false:=by cases g1:Xh (qs[i]).Lst <;>cases g2:X3 f.Params (qs[i]).Lst <;>cases g3:X3 (U7 qs i) (qs[i]).Lst <;>rw[g1,g2,g3]at hcc <;>simp at hcc <;>simp
  unfold Ew at hJ;rw[hcc'.1,hcc'.2.1,hcc'.2.2]at hJ;simp only[Bool.true_and,Bool.not_false,Bool.and_true]at hJ;refine J5a s37 ?_;have y0:¬0=n+1:=by omega
  have y1:¬n=n+1:=by omega
  have y2:¬id=n+1:=by omega
  have y3:¬n+1=id:=by omega
  have y4:¬n+1=0:=by omega
  have y5:¬n+2=0:=by omega
  have y6:¬n=n+2:=by omega
  have y7:¬0=n+2:=by omega
  have y8:¬n+1=n:=by omega
  simp only[Qb];refine Xo [1,2,6,7] (λs h' n'=>n'=n+3/\s 5 = .ref (n+2) 0 (i+1)/\h' n=some ⟨true,4,[Kb qs[i]]⟩/\h' 0=some ⟨true,4,[[.str f.Name,.sl 1 (Ji f.Params),.bool f.ListResult,.sl 2 (f.Pre.map Ja)]]⟩/\h' (n+2)=some ⟨false,1,Ji (U7 qs (i+1))⟩) ?_ ?_
  ·simp[hk,hk1,hk2,hk3,s7,en,Kb,e0',s5,eid',z1,z3,z5,y2,y3,y6,ht,hlt,J2u hi];refine⟨by unfold Jb;omega,?_⟩;simp[Ji]
  rintro st4 h4 n4 hk4 ⟨rfl,s5',en',e0'',eid''⟩;simp at hk4;refine Js [1,2,5,6,7] (λs=>s 71 = .bool (!(if (qs[i]).Cons then W7 (qs[i]).Head&&Xh (qs[i]).Tail else(qs[i]).Head==[]&&(qs[i]).Tail==[]))) ?_ ?_
  ·cases c3:(qs[i]).Cons
   ·cases c4:((qs[i]).Head==[])
    ·have c4':¬(qs[i]).Head=[]:=by simpa using c4
     have c4e:(qs[i]).Head.isEmpty=false:=by simpa using c4'
     simp[hk,hk1,hk2,hk3,hk4,s7,en',Kb,c3,c4]
    have c4':(qs[i]).Head=[]:=by simpa using c4
    cases c5:((qs[i]).Tail==[])
    ·have c5':¬(qs[i]).Tail=[]:=by simpa using c5
     have c5e:(qs[i]).Tail.isEmpty=false:=by simpa using c5'
     simp[hk,hk1,hk2,hk3,hk4,s7,en',Kb,c3,c4',c5]
    ·have c5':(qs[i]).Tail=[]:=by simpa using c5
     simp[hk,hk1,hk2,hk3,hk4,s7,en',Kb,c3,c4',c5']
   ·simp[hk3,hk4,s7,en',Kb,c3];refine Jd (J02 (qs[i]'hi).Head) (by simp) ?_;rintro r rfl;cases c4:W7 (qs[i]).Head
    ·simp[hk,hk1,hk2,hk3,hk4,s7,en',Kb,c3]
    simp[hk3,hk4,s7,en',Kb,c3];refine Jd (Bp (qs[i]'hi).Tail) (by simp) ?_;rintro r rfl;cases c5:Xh (qs[i]).Tail
    ·simp[hk,hk1,hk2,hk3,hk4,s7,en',Kb,c3]
    ·simp[hk,hk1,hk2,hk3,hk4,s7,en',Kb,c3]
  intro Ur hk5 s71;simp at hk5;generalize(if (qs[i]).Cons then W7 (qs[i]).Head&&Xh (qs[i]).Tail else(qs[i]).Head==[]&&(qs[i]).Tail==[])=D at *;cases D
  ·rw[Bool.false_and]at hJ;subst hJ;simp[s71];refine hret _ _ _ ?_;simp
  ·rw[Bool.true_and]at hJ;simp[hk1,hk2,hk3,hk4,hk5,s71,s6,hw];exact hR _ _ _ (by simp[hk,hk1,hk2,hk3,hk4,hk5]) (by simp) ⟨by omega,by simp[e0''],hJ,n+2,by omega,by omega,by simp[hk5,s5'],by simp[eid'']⟩
 ·rintro st h n R hk s6 ⟨hn,e0,hJ,_⟩ hret hX;simp at hk;rw[drop_eq_nil_of_le (by omega)]at hJ;refine Jn (Js [1,2,6] (λs=>s 12 = .bool false) (by simp[hk,s6]) ?_);intro Jv hk1 s12;simp at hk1;refine U3 s12 ?_;simp;refine hX _ _ _ _ ?_;simp[<-hJ,Iv]
theorem Jwq{list:List Xb}{i:Nat}(hi:i<list.length)(hw:Wl list<=1048576):Yz ⟨false,[list[i]],[]⟩<=1048576:=by
 have h1:=W6 (w:=Uw) (getElem_mem hi);unfold Wl at hw
 have h2:1+Uw list[i]<=wL Uw list:=by have h3:=J7x Uw list (getElem_mem hi);unfold wL;omega
 unfold Yz Wl wL;simp;omega
theorem Jfa(s:Xb)(scope:List Je):Ws ⟨false,[s],[]⟩ false scope=Qt scope s:=by unfold Ws Qt;rw[J8o,J3k,J7z];simp
theorem J7g(list:List Xb)(scope:List Je)(hw:Wl list<=1048576):Holds prog 220 [.sl 2 (list.map Kq),.sl 1 (Ji scope)] (λr=>r = .bool (list.all (Qt scope)&&decide (list.length<=2))):=by
 refine Vv Tryz.func220 rfl rfl λhl=>?_
 simp at hl;refine Jp Tryz.func220 a220_ok rfl (by simp[a220]) ?_;simp[a220];generalize hB:list.all (Qt scope)=B;refine Qm [0,1] 5 list.length (λi _=>(list.drop i).all (Qt scope)=B) hl.1 (by simp) (by simpa using hB) ?_ ?_
 ·rintro i st h R hi hg hk s5 hw5 hJ hh hR hret _;simp at hk;rw[drop_eq_getElem_cons hi,all_cons]at hJ;simp[hk,s5,hi];intro _;refine Jd (J18 (list[i]'hi)) (by simp) ?_;rintro r rfl;cases hc:I6 list[i]
  ·have:Qt scope list[i]=false:=by unfold Qt;rw[hc];rfl
   rw[this,Bool.false_and]at hJ;subst hJ;simp;refine hret _ _ _ ?_;simp
  simp[hk,s5,hw5,Yx,Vz];refine⟨by omega,by omega,?_⟩
  have ht:(List.take (i+1) (list.map Kq)).drop i=[Kq list[i]]:=by rw[List.take_succ_eq_append_getElem (by simpa using hi)];rw[List.drop_left' (by simp;omega)];simp
  have he:((i:Int)+1).toNat=i+1:=by omega
  have hb:U0 [.agg [.bool false,.sl 2 [Kq list[i]],.str []],.bool false,.sl 1 (Ji scope)] h=some [.agg (Kf ⟨false,[list[i]],[]⟩),.bool false,.sl 1 (Ji scope)]:=by simp[Kf]
  simp only[ht];refine Jd (Ra ⟨false,[list[i]'hi],[]⟩ false scope (Jwq hi hw)) (by simp[Kf]) ?_;rintro r rfl;rw[Jfa];cases hc2:Qt scope list[i]
  ·rw[hc2,Bool.false_and]at hJ;subst hJ;simp;refine hret _ _ _ ?_;simp
  ·rw[hc2,Bool.true_and]at hJ;simp[s5,hw5];exact hR _ (by simp[hk]) (by simp) hJ
 ·rintro st h R hk s5 hJ hh _ hX;simp at hk;rw[drop_eq_nil_of_le (by omega)]at hJ;simp[hk,s5];intro _;refine hX _ _ ?_;simp at hJ;subst hJ;simp[hk];omega
def a241:Jk:= ⟨78,[.t 6],(Zq [ZB 3 0,ZB 4 1,Zt 6 false] (Zq [Zl 12 true 2 3,Zf 13 1 4,Zl 14 false 1 13,Zc 15 176 [.t 12,.t 14],Zv 11 15,Ze 16 11 0,Ze 17 11 1,Zo 7 (.box [(.str []),(.nil 1),(.bool false),(.nil 2)]),⟨no,.st 4 (.t 7) (.t 16),no⟩,Zv 8 17] (.seq (Zq [Zv 18 8,ZN 19 18,Zv 20 19,Zg 21 20 false (.fld 2 (.t 4)),Zg 22 20 false (.ld false 1 (.t 21)),Zg 23 20 false (.len false (.t 22)),Zg 24 20 false (.fld 1 (.t 7)),Zg 25 20 false (.ld false 1 (.t 24)),Zg 26 20 false (.len false (.t 25)),Zg 27 20 false (.bin .neq (.t 23) (.t 26)),ZP 28 20 27] (.cond (.t 28) (Zq [Zt 6 false] .ret) .skip)) (.seq (Zq [Zf 29 2 7,Zl 30 false 1 29,Zv 31 30,Zg 32 31 true (.fld 0 (.t 4)),Zg 33 31 true (.ld false 1 (.t 32)),Zg 34 31 true (.call (.k (.fn (.func 205) [] [])) [.t 33]),Zg 35 31 true (.un .not (.t 34)),ZQ 36 31 35,Zv 37 36,Zg 38 37 false (.fld 2 (.t 7)),Zg 39 37 false (.ld false 1 (.t 38)),Zg 40 37 false (.un .not (.t 39)),Zg 41 37 false (.mv (.t 40)),Zg 42 41 true (.fld 0 (.t 4)),Zg 43 41 true (.ld false 1 (.t 42)),Zg 44 41 true (.call (.k (.fn (.func 140) [] [])) [.t 43]),Zg 45 41 true (.un .not (.t 44)),Zg 46 37 false (.pick (.t 41) (.t 45) (.k (.bool false))),ZP 47 37 46] (.cond (.t 47) (Zq [Zt 6 false] .ret) .skip)) (.seq (Zq [Zf 48 2 4,Zl 49 false 1 48,Zn 50 49,Zi 51 0] (.blk 0 (.loop (Zq [Zb 52 .lss 51 50] (.seq (Zw 52 0) (.seq (.blk 1 (Zq [Zv 53 51,Zx 54 3 49 51,Zl 55 true 3 54,Zo 10 (.box [(.bool false),(.nil 2),(.str [])]),Zv 9 53,⟨no,.st 3 (.t 10) (.t 55),no⟩] (.seq (.draw (.op (Zl 56 true 3 10) (.op (Zc 57 242 [.t 56]) (.op (ZN 58 57) (.op (Zv 59 58) (.op (Zg 60 59 false (.fld 0 (.t 10))) (.op (Zg 61 59 false (.ld false 1 (.t 60))) (.op (Zg 62 59 false (.fld 1 (.t 7))) (.op (Zg 63 59 false (.ld false 1 (.t 62))) (.op (Zg 64 59 false (.mv (.t 9))) (.op (Zg 65 59 false (.ixa 1 (.t 63) (.t 64))) (.op (Zg 66 59 false (.ld false 1 (.t 65))) (.op (Zg 67 59 false (.call (.k (.fn (.func 205) [] [])) [.t 66])) (.op (Zg 68 59 false (.beq true (.t 61) (.t 67))) (.op (ZP 69 59 68) (.op (Zv 70 69) (.op (Zg 71 70 false (.ld true 3 (.t 10))) (.op (Zg 73 70 false (.mv (.t 2))) (.op (Zg 72 70 false (.call (.k (.fn (.func 243) [] [])) [.t 71])) (.op (Zg 74 70 false (.call (.k (.fn (.func 238) [] [])) [.t 72,.t 73])) (.op (Zg 75 70 false (.un .not (.t 74))) (.op (ZP 76 70 75) .fin)))))))))))))))))))))) (.cond (.t 76) (Zq [Zt 6 false] .ret) .skip)))) (.reg [Zk 77 .add 51 1,Zv 51 77]))))))) (Zq [Zt 6 true] .ret))))))⟩
theorem a241_ok:Jf prog Tryz.f241=some a241:=by kernel_rfl
theorem Pl{scope:List Je}{l:List X8}{m:List Je}{i:Nat}(h1:i<l.length)(h2:i<m.length):Gi scope (l.drop i) (m.drop i)=(Ws l[i] (Xh m[i]) scope&&Gi scope (l.drop (i+1)) (m.drop (i+1))):=by rw[drop_eq_getElem_cons h1,drop_eq_getElem_cons h2];rfl
theorem P9(scope:List Je)(m:List Je):Gi scope [] m=true:=by cases m <;>rfl
theorem Pc{c:Xf}{i:Nat}(hi:i<c.Args.length)(hw:Ub c<=1048576):Yz c.Args[i]<=1048576:=by have:=W6 (w:=Yz) (getElem_mem hi);unfold Ub G1 at hw;omega
set_option maxHeartbeats 1000000 in
theorem Jgy(p:Jq)(c:Xf)(scope:List Je)(hp:Ks p<=1048576)(hc:Ub c<=1048576):Holds prog 241 [.agg (Jh p),.agg (Kx c),.sl 1 (Ji scope)] (λr=>r = .bool (If p c scope)):=by
 have hal:c.Args.length<=1048576:=by have:=Yk Yz c.Args;unfold Ub G1 at hc;omega
 refine Jp Tryz.func241 a241_ok rfl (by simp[a241]) ?_;simp[a241,Jh,Kx];refine Jd (Fg p c.Func hp) (by simp[Jh]) ?_;rintro r rfl;unfold If;generalize hG:(Kw p.Functions c.Func).getD Yf=G;simp only[Q7,hG];generalize hb1:(Kw p.Functions c.Func).isSome=b1;simp[Xk];cases b1
 ·simp
 simp;intro _ _;have hd:decide (c.Args.length=G.Params.length)=decide ((c.Args.length:Int)=G.Params.length):=by rw[decide_eq_decide];omega
 by_cases h1:(c.Args.length:Int)=G.Params.length
 case neg=>
  have h1n:¬c.Args.length=G.Params.length:=by omega
  simp[h1,h1n]
 have h1n:c.Args.length=G.Params.length:=by omega
 simp[h1n];generalize hB:Gi scope c.Args G.Params=B;cases hL:G.ListResult
 ·simp;refine Jd (Sc c.Bind) (by simp) ?_;rintro r rfl;cases hn:W7 c.Bind
  ·simp
  simp;intro _;refine Ki [2,7,49,50] 51 c.Args.length (λi s h n=>4<n/\h 4=some ⟨true,4,[[.str G.Name,.ref 2 0 G.Params.length,.bool false,.ref 3 0 G.Pre.length]]⟩/\h 2=some ⟨false,1,Ji G.Params⟩/\Gi scope (c.Args.drop i) (G.Params.drop i)=B) (by unfold Jb;omega) (by simp) ⟨by simp,by simp,by simp,by simpa using hB⟩ ?_ ?_
  ·rintro i st h n R hi hg hk s51 hw ⟨hn,e4,e2,hJ⟩ hR hret _;simp at hk;have hip:i<G.Params.length:=by omega
   rw[Pl hi hip]at hJ;have z2:¬2=n:=by omega
   have z4:¬4=n:=by omega
   have y2:¬2=n+1:=by omega
   have y4:¬4=n+1:=by omega
   refine Js [2,7,49,50,51] (λs=>s 52 = .bool true) (by simp[hk,s51,hi]) ?_;intro Jv hk1 s52;simp at hk1;refine W9 s52 (Jn (Xg ?_));refine Xo [2,7,49,50,51] (λs h' n'=>s 9 = .int .i64 i/\s 10 = .ptr n 0 0/\n'=n+1/\h' n=some ⟨true,3,[Kf c.Args[i]]⟩/\h' 4=some ⟨true,4,[[.str G.Name,.ref 2 0 G.Params.length,.bool false,.ref 3 0 G.Pre.length]]⟩/\h' 2=some ⟨false,1,Ji G.Params⟩) (by simp[hk,hk1,s51,hi,Kf,e4,e2,z2,z4]) ?_;rintro st2 h2 n2 hk2 ⟨s9,s10,rfl,en,e4',e2'⟩;simp at hk2;refine Xo [2,7,49,50,51] (λs h' n'=>n<n'/\s 76 = .bool (!Ws c.Args[i] (Xh G.Params[i]) scope)/\h' 4=some ⟨true,4,[[.str G.Name,.ref 2 0 G.Params.length,.bool false,.ref 3 0 G.Pre.length]]⟩/\h' 2=some ⟨false,1,Ji G.Params⟩) ?_ ?_
   ·simp[s10,en];refine Jw (J0c (c.Args[i]'hi)) (by simp) ?_;rintro r rfl;unfold Ws;cases g1:Oo c.Args[i]
    ·simp[e4',e2']
    simp[hk,hk1,hk2,s9,s10,en,e4',e2',hip,Kf];refine Jw (Dv (G.Params[i]'hip)) (by simp) ?_;rintro r rfl;cases g2:((c.Args[i]).Lst==Xh G.Params[i])
    ·have g2':¬(c.Args[i]).Lst=Xh G.Params[i]:=by simpa using g2
     simp[g2',e4',e2']
    have g2':(c.Args[i]).Lst=Xh G.Params[i]:=by simpa using g2
    simp[g2',hk,hk1,hk2,s10,en,e4',e2',Kf];refine Jw (J2z (c.Args[i]'hi) (Pc hi hc)) (by simp[Kf,g2']) ?_;rintro r rfl;simp;refine Jw (Ry (Ib (Qj (c.Args[i]'hi))) scope) (by simp) ?_;rintro r rfl;simp[e4',e2',y2,y4]
   rintro Kl h3 n3 hk3 ⟨hn3,s76,e4'',e2''⟩;simp at hk3;generalize Ws c.Args[i] (Xh G.Params[i]) scope=D at *;cases D
   ·rw[Bool.false_and]at hJ;subst hJ;simp[s76];refine hret _ _ _ ?_;simp
   ·rw[Bool.true_and]at hJ;simp[hk1,hk2,hk3,s76,s51,hw];exact hR _ _ _ (by simp[hk,hk1,hk2,hk3]) (by simp) ⟨by omega,by simp[e4''],by simp[e2''],hJ⟩
  ·rintro st h n R hk s51 ⟨hn,e4,e2,hJ⟩ hret hX;simp at hk;rw[drop_eq_nil_of_le (by omega),P9]at hJ;refine Js [2] (λs=>s 52 = .bool false) (by simp[hk,s51]) ?_;intro Jv hk1 s52;refine Ut s52 ?_;simp;refine hX _ _ _ _ ?_;simp[<-hJ]
 ·simp;refine Jd (Dv c.Bind) (by simp) ?_;rintro r rfl;cases hn:Xh c.Bind
  ·simp
  simp;intro _;refine Ki [2,7,49,50] 51 c.Args.length (λi s h n=>4<n/\h 4=some ⟨true,4,[[.str G.Name,.ref 2 0 G.Params.length,.bool true,.ref 3 0 G.Pre.length]]⟩/\h 2=some ⟨false,1,Ji G.Params⟩/\Gi scope (c.Args.drop i) (G.Params.drop i)=B) (by unfold Jb;omega) (by simp) ⟨by simp,by simp,by simp,by simpa using hB⟩ ?_ ?_
  ·rintro i st h n R hi hg hk s51 hw ⟨hn,e4,e2,hJ⟩ hR hret _;simp at hk;have hip:i<G.Params.length:=by omega
   rw[Pl hi hip]at hJ;have z2:¬2=n:=by omega
   have z4:¬4=n:=by omega
   have y2:¬2=n+1:=by omega
   have y4:¬4=n+1:=by omega
   refine Js [2,7,49,50,51] (λs=>s 52 = .bool true) (by simp[hk,s51,hi]) ?_;intro Jv hk1 s52;simp at hk1;refine W9 s52 (Jn (Xg ?_));refine Xo [2,7,49,50,51] (λs h' n'=>s 9 = .int .i64 i/\s 10 = .ptr n 0 0/\n'=n+1/\h' n=some ⟨true,3,[Kf c.Args[i]]⟩/\h' 4=some ⟨true,4,[[.str G.Name,.ref 2 0 G.Params.length,.bool true,.ref 3 0 G.Pre.length]]⟩/\h' 2=some ⟨false,1,Ji G.Params⟩) (by simp[hk,hk1,s51,hi,Kf,e4,e2,z2,z4]) ?_;rintro st2 h2 n2 hk2 ⟨s9,s10,rfl,en,e4',e2'⟩;simp at hk2;refine Xo [2,7,49,50,51] (λs h' n'=>n<n'/\s 76 = .bool (!Ws c.Args[i] (Xh G.Params[i]) scope)/\h' 4=some ⟨true,4,[[.str G.Name,.ref 2 0 G.Params.length,.bool true,.ref 3 0 G.Pre.length]]⟩/\h' 2=some ⟨false,1,Ji G.Params⟩) ?_ ?_
   ·simp[s10,en];refine Jw (J0c (c.Args[i]'hi)) (by simp) ?_;rintro r rfl;unfold Ws;cases g1:Oo c.Args[i]
    ·simp[e4',e2']
    simp[hk,hk1,hk2,s9,s10,en,e4',e2',hip,Kf];refine Jw (Dv (G.Params[i]'hip)) (by simp) ?_;rintro r rfl;cases g2:((c.Args[i]).Lst==Xh G.Params[i])
    ·have g2':¬(c.Args[i]).Lst=Xh G.Params[i]:=by simpa using g2
     simp[g2',e4',e2']
    have g2':(c.Args[i]).Lst=Xh G.Params[i]:=by simpa using g2
    simp[g2',hk,hk1,hk2,s10,en,e4',e2',Kf];refine Jw (J2z (c.Args[i]'hi) (Pc hi hc)) (by simp[Kf,g2']) ?_;rintro r rfl;simp;refine Jw (Ry (Ib (Qj (c.Args[i]'hi))) scope) (by simp) ?_;rintro r rfl;simp[e4',e2',y2,y4]
   rintro Kl h3 n3 hk3 ⟨hn3,s76,e4'',e2''⟩;simp at hk3;generalize Ws c.Args[i] (Xh G.Params[i]) scope=D at *;cases D
   ·rw[Bool.false_and]at hJ;subst hJ;simp[s76];refine hret _ _ _ ?_;simp
   ·rw[Bool.true_and]at hJ;simp[hk1,hk2,hk3,s76,s51,hw];exact hR _ _ _ (by simp[hk,hk1,hk2,hk3]) (by simp) ⟨by omega,by simp[e4''],by simp[e2''],hJ⟩
  ·rintro st h n R hk s51 ⟨hn,e4,e2,hJ⟩ hret hX;simp at hk;rw[drop_eq_nil_of_le (by omega),P9]at hJ;refine Js [2] (λs=>s 52 = .bool false) (by simp[hk,s51]) ?_;intro Jv hk1 s52;refine Ut s52 ?_;simp;refine hX _ _ _ _ ?_;simp[<-hJ]
def a222:Jk:= ⟨70,[.t 6],(Zq [ZB 3 0,ZB 4 1,Zt 6 false] (Zq [Zl 11 true 2 3,Zf 12 1 4,Zl 13 false 1 12,Zc 14 172 [.t 11,.t 13],Zv 10 14,Ze 15 10 0,Ze 16 10 1,Zo 7 (.box [(.str []),(.nil 1),(.bool false),(.nil 2)]),⟨no,.st 4 (.t 7) (.t 15),no⟩,Zv 8 16] (.seq (Zq [Zv 17 8,ZN 18 17,Zv 19 18,Zg 20 19 false (.fld 2 (.t 4)),Zg 21 19 false (.ld false 1 (.t 20)),Zg 22 19 false (.len false (.t 21)),Zg 23 19 false (.fld 1 (.t 7)),Zg 24 19 false (.ld false 1 (.t 23)),Zg 25 19 false (.len false (.t 24)),Zg 26 19 false (.bin .neq (.t 22) (.t 25)),ZP 27 19 26,Zv 28 27,Zg 29 28 false (.fld 2 (.t 7)),Zg 30 28 false (.ld false 1 (.t 29)),Zg 31 28 false (.mv (.t 30)),Zg 32 31 true (.fld 0 (.t 4)),Zg 33 31 true (.ld false 1 (.t 32)),Zg 34 31 true (.call (.k (.fn (.func 260) [] [])) [.t 33]),Zg 35 31 true (.un .not (.t 34)),Zg 36 28 false (.pick (.t 31) (.t 35) (.k (.bool false))),ZP 37 28 36,Zv 38 37,Zg 39 38 false (.fld 2 (.t 7)),Zg 40 38 false (.ld false 1 (.t 39)),Zg 41 38 false (.un .not (.t 40)),Zg 42 38 false (.mv (.t 41)),Zg 43 42 true (.fld 0 (.t 4)),Zg 44 42 true (.ld false 1 (.t 43)),Zg 45 42 true (.call (.k (.fn (.func 216) [] [])) [.t 44]),Zg 46 42 true (.un .not (.t 45)),Zg 47 38 false (.pick (.t 42) (.t 46) (.k (.bool false))),ZP 48 38 47] (.cond (.t 48) (Zq [Zt 6 false] .ret) .skip)) (.seq (Zq [Zi 9 0] (.blk 0 (.loop (.seq (Zq [Zv 49 9,Zf 50 2 4,Zl 51 false 1 50,Zn 52 51,Zb 53 .lss 49 52] (Zw 53 0)) (.seq (.blk 1 (.seq (.draw (.op (Zf 56 2 4) (.op (Zl 57 false 1 56) (.op (Zv 58 9) (.op (Zx 59 3 57 58) (.op (Zl 60 true 3 59) (.op (Zf 61 1 7) (.op (Zl 62 false 1 61) (.op (Zv 63 9) (.op (Zx 64 1 62 63) (.op (Zl 65 false 1 64) (.op (Zv 67 2) (.op (Zc 66 260 [.t 65]) (.op (Zc 68 223 [.t 60,.t 66,.t 67]) (.op (ZN 69 68) .fin))))))))))))))) (.cond (.t 69) (Zq [Zt 6 false] .ret) .skip))) (.reg [Zv 54 9,Zk 55 .add 54 1,Zv 9 55])))))) (Zq [Zt 6 true] .ret)))))⟩
theorem a222_ok:Jf prog Tryz.f222=some a222:=by kernel_rfl
set_option maxHeartbeats 1000000 in
theorem Jbp(p:Jq)(c:Xf)(scope:List Je)(hp:Ks p<=1048576)(hc:Ub c<=1048576):Holds prog 222 [.agg (Jh p),.agg (Kx c),.sl 1 (Ji scope)] (λr=>r = .bool (If p c scope)):=by
 have hal:c.Args.length<=1048576:=by have:=Yk Yz c.Args;unfold Ub G1 at hc;omega
 refine Jp Tryz.func222 a222_ok rfl (by simp[a222]) ?_;simp[a222,Jh,Kx];refine Jd (Ej p c.Func hp) (by simp[Jh]) ?_;rintro r rfl;unfold If;generalize hG:(Kw p.Functions c.Func).getD Yf=G;simp only[Q7,hG];generalize hb1:(Kw p.Functions c.Func).isSome=b1;simp[Xk];cases b1
 ·simp
 simp;intro _ _;have hd:decide (c.Args.length=G.Params.length)=decide ((c.Args.length:Int)=G.Params.length):=by rw[decide_eq_decide];omega
 by_cases h1:(c.Args.length:Int)=G.Params.length
 case neg=>
  have h1n:¬c.Args.length=G.Params.length:=by omega
  simp[h1,h1n]
 have h1n:c.Args.length=G.Params.length:=by omega
 simp[h1n];generalize hB:Gi scope c.Args G.Params=B;cases hL:G.ListResult
 ·simp;refine Jd (J02 c.Bind) (by simp) ?_;rintro r rfl;cases hn:W7 c.Bind
  ·simp
  simp;refine Ki [2,4,7] 9 c.Args.length (λi s h n=>4<n/\h 1=some ⟨true,3,[[.str c.Bind,.str c.Func,.sl 3 (c.Args.map Kf)]]⟩/\h 4=some ⟨true,4,[[.str G.Name,.ref 2 0 G.Params.length,.bool false,.ref 3 0 G.Pre.length]]⟩/\h 2=some ⟨false,1,Ji G.Params⟩/\Gi scope (c.Args.drop i) (G.Params.drop i)=B) (by unfold Jb;omega) (by simp) ⟨by simp,by simp,by simp,by simp,by simpa using hB⟩ ?_ ?_
  ·rintro i st h n R hi hg hk s9 hw ⟨hn,e1,e4,e2,hJ⟩ hR hret _;simp at hk;have hip:i<G.Params.length:=by omega
   rw[Pl hi hip]at hJ;refine Jn (Js [2,4,7,9] (λs=>s 53 = .bool true) (by simp[hk,s9,hip,e1,h1n]) ?_);intro Jv hk1 s53;simp at hk1;refine Uh s53 (Jn (Xg ?_));refine Xo [2,4,7,9] (λs h' n'=>4<n'/\s 69 = .bool (!Ws c.Args[i] (Xh G.Params[i]) scope)/\h' 1=some ⟨true,3,[[.str c.Bind,.str c.Func,.sl 3 (c.Args.map Kf)]]⟩/\h' 4=some ⟨true,4,[[.str G.Name,.ref 2 0 G.Params.length,.bool false,.ref 3 0 G.Pre.length]]⟩/\h' 2=some ⟨false,1,Ji G.Params⟩) ?_ ?_
   ·simp[hk,hk1,s9,e1,e4,e2,hi,hip];refine Jw (Bp (G.Params[i]'hip)) (by simp) ?_;rintro r rfl;simp[Kf];refine Jw (Ra (c.Args[i]'hi) (Xh (G.Params[i]'hip)) scope (Pc hi hc)) (by simp[Kf]) ?_;rintro r rfl;simp[e1,e4,e2,hn]
   rintro Kl h3 n3 hk3 ⟨hn3,s69,e1'',e4'',e2''⟩;simp at hk3;generalize Ws c.Args[i] (Xh G.Params[i]) scope=D at *;cases D
   ·rw[Bool.false_and]at hJ;subst hJ;simp[s69];refine hret _ _ _ ?_;simp
   ·rw[Bool.true_and]at hJ;simp[hk1,hk3,s69,s9,hw];exact hR _ _ _ (by simp[hk,hk1,hk3]) (by simp) ⟨by omega,by simp[e1''],by simp[e4''],by simp[e2''],hJ⟩
  ·rintro st h n R hk s9 ⟨hn,e1,e4,e2,hJ⟩ hret hX;simp at hk;rw[drop_eq_nil_of_le (by omega),P9]at hJ;refine Jn (Js [2] (λs=>s 53 = .bool false) (by simp[hk,s9,e1,h1n]) ?_);intro Jv hk1 s53;refine U3 s53 ?_;simp;refine hX _ _ _ _ ?_;simp[<-hJ]
 ·simp;refine Jd (Bp c.Bind) (by simp) ?_;rintro r rfl;cases hn:Xh c.Bind
  ·simp
  simp;refine Ki [2,4,7] 9 c.Args.length (λi s h n=>4<n/\h 1=some ⟨true,3,[[.str c.Bind,.str c.Func,.sl 3 (c.Args.map Kf)]]⟩/\h 4=some ⟨true,4,[[.str G.Name,.ref 2 0 G.Params.length,.bool true,.ref 3 0 G.Pre.length]]⟩/\h 2=some ⟨false,1,Ji G.Params⟩/\Gi scope (c.Args.drop i) (G.Params.drop i)=B) (by unfold Jb;omega) (by simp) ⟨by simp,by simp,by simp,by simp,by simpa using hB⟩ ?_ ?_
  ·rintro i st h n R hi hg hk s9 hw ⟨hn,e1,e4,e2,hJ⟩ hR hret _;simp at hk;have hip:i<G.Params.length:=by omega
   rw[Pl hi hip]at hJ;refine Jn (Js [2,4,7,9] (λs=>s 53 = .bool true) (by simp[hk,s9,hip,e1,h1n]) ?_);intro Jv hk1 s53;simp at hk1;refine Uh s53 (Jn (Xg ?_));refine Xo [2,4,7,9] (λs h' n'=>4<n'/\s 69 = .bool (!Ws c.Args[i] (Xh G.Params[i]) scope)/\h' 1=some ⟨true,3,[[.str c.Bind,.str c.Func,.sl 3 (c.Args.map Kf)]]⟩/\h' 4=some ⟨true,4,[[.str G.Name,.ref 2 0 G.Params.length,.bool true,.ref 3 0 G.Pre.length]]⟩/\h' 2=some ⟨false,1,Ji G.Params⟩) ?_ ?_
   ·simp[hk,hk1,s9,e1,e4,e2,hi,hip];refine Jw (Bp (G.Params[i]'hip)) (by simp) ?_;rintro r rfl;simp[Kf];refine Jw (Ra (c.Args[i]'hi) (Xh (G.Params[i]'hip)) scope (Pc hi hc)) (by simp[Kf]) ?_;rintro r rfl;simp[e1,e4,e2,hn]
   rintro Kl h3 n3 hk3 ⟨hn3,s69,e1'',e4'',e2''⟩;simp at hk3;generalize Ws c.Args[i] (Xh G.Params[i]) scope=D at *;cases D
   ·rw[Bool.false_and]at hJ;subst hJ;simp[s69];refine hret _ _ _ ?_;simp
   ·rw[Bool.true_and]at hJ;simp[hk1,hk3,s69,s9,hw];exact hR _ _ _ (by simp[hk,hk1,hk3]) (by simp) ⟨by omega,by simp[e1''],by simp[e4''],by simp[e2''],hJ⟩
  ·rintro st h n R hk s9 ⟨hn,e1,e4,e2,hJ⟩ hret hX;simp at hk;rw[drop_eq_nil_of_le (by omega),P9]at hJ;refine Jn (Js [2] (λs=>s 53 = .bool false) (by simp[hk,s9,e1,h1n]) ?_);intro Jv hk1 s53;refine U3 s53 ?_;simp;refine hX _ _ _ _ ?_;simp[<-hJ]
end Go.Proofs.YtoclolkigjbcgaaGreat
