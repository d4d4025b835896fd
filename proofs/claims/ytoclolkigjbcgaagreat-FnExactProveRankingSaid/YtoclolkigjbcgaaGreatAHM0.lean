/- The program's ModelOf: maps of expressions, what the heap holds; functions that read such a map. -/
import Derived.Test.YtoclolkigjbcgaaGreatAC13
namespace Go.Proofs.YtoclolkigjbcgaaGreat
open Tryz
open Tryz(prog)
open List(map_cons mem_cons mem_cons_self drop_eq_getElem_cons drop_eq_nil_of_le)
set_option maxRecDepth 40000
set_option maxHeartbeats 4000000
open Go Go.RowKit Go.Proofs
set_option linter.all false
def K4n:Jl:= ⟨34,[(.c 6 true 2)],(Zq [ZB 4 1,ZR 6] (Zq [Zf 10 0 4,Zl 11 false 1 10,Zv 12 2,Zc 13 178 [.t 11,.t 12],ZR 7,Zs 2 7 13] (.seq (Zq [Zf 14 1 4,Zl 15 false 1 14,Zn 16 15,Zi 17 0] (.blk 0 (.loop (Zq [Zb 18 .lss 17 16] (.seq (Zw 18 0) (.seq (.blk 1 (Zq [Zx 19 2 15 17,Zl 20 true 2 19,Zo 9 (.box [(.int .i64 0),(.str [])]),Zs 2 9 20] (.reg [Zl 22 true 2 7,Zf 23 0 9,Zl 24 false 1 23,Zv 25 0,Zf 26 1 9,Zl 27 false 1 26,Zo 28 (.mget (.agg [(.int .i64 0),(.nil 1)]) (.t 25) (.t 27)),Zc 29 193 [.t 22,.t 24,.t 28],Zv 21 29,Ze 30 21 0,Ze 31 21 1,Zs 2 7 30]))) (.reg [Zk 32 .add 17 1,Zv 17 32]))))))) (Zq [Zl 33 true 2 7,Zs 2 6 33] .ret))))⟩
theorem Jne:Jh prog f206=some K4n:=by kernel_rfl
def Tg:Jl:= ⟨36,[(.c 6 true 2)],(Zq [ZB 4 1,ZR 6] (.seq (Zq [Zf 8 0 4,Zl 9 false 1 8,ZN 10 9] (.cond (.t 10) (Zq [Zv 11 0,Zf 12 1 4,Zl 13 false 1 12,Zo 14 (.ixa 2 (.t 13) (.k (.int .i64 0))),Zl 15 true 2 14,Zv 16 2,Zc 17 206 [.t 11,.t 15,.t 16],Zs 2 6 17] .ret) .skip)) (Zq [Zf 18 1 4,Zl 19 false 1 18,Zn 20 19,Zv 21 2,Zc 22 178 [.t 20,.t 21],ZR 7,Zs 2 7 22] (.seq (Zq [Zf 23 2 4,Zl 24 false 1 23,Zo 25 (.bin .neq (.t 24) (.k (.str [])))] (.cond (.t 25) (.reg [Zl 27 true 2 7,Zv 28 0,Zf 29 2 4,Zl 30 false 1 29,Zo 31 (.mget (.agg [(.int .i64 0),(.nil 1)]) (.t 28) (.t 30)),Zc 32 193 [.t 27,(.k (.int .i64 1)),.t 31],Zv 26 32,Ze 33 26 0,Ze 34 26 1,Zs 2 7 33]) .skip)) (Zq [Zl 35 true 2 7,Zs 2 6 35] .ret)))))⟩
theorem Jsg:Jh prog f207=some Tg:=by kernel_rfl
theorem J2q{P:Program}{f:FuncId}{xs:List AV}{h:J8}{n:Nat}{K:AV->J8->Nat->Prop}
 (hA:X9 P f xs h n λr h' n'=>(∀id,id<n->h' id=h id)/\K r h' n'):X9 P f xs h n (hK h K):=by
 refine⟨hA.1,λbase w0 w L F vs H hv=>?_⟩;refine(hA.2 base w0 w L F vs H hv).mono ?_;rintro e w' ⟨v,r,L',n',F',h',rfl,H',hx,hr,hh,hk⟩;refine⟨v,r,L',n',F',h',rfl,H',hx,hr,λid B hB=>?_,hk⟩
 have hlt:id<n:=by
  cases hl:L id with
  |none=>rw[H.mod id hl]at hB;cases hB
  |some l=>exact H.lt id l hl
 rw[hh id hlt];exact hB
def Id(l:Jc)(q:Nat):AV := .agg [i64 l.Const,.ref q 0 l.Coeffs.length]
structure Vc where
 k:J9
 l:Jc
 q:Nat
def Vc.row (e:Vc):List AV:=[.str e.k,Id e.l e.q]
def Ch(es:List Vc):Xo:=es.map λe=>(e.k,e.l)
def Bw:List Vc->J9->Jc->Nat->List Vc
 | [],k,l,q=>[⟨k,l,q⟩]
 |e::es,k,l,q=>if e.k=k then⟨k,l,q⟩::es else e::Bw es k l q
theorem Jbf{k:J9}{l:Jc}{q:Nat} : ∀{es:List Vc},Ch (Bw es k l q)=G7 (Ch es) k l
 | []=>rfl
 |e::es=>by
  have ih:=Jbf (k:=k) (l:=l) (q:=q) (es:=es);simp only[Bw,Ch,map_cons,G7]at ih⊢;split
  ·rfl
  ·rw[map_cons,ih]
theorem J2t{k:J9}{l:Jc}{q:Nat} : ∀{es:List Vc},Oq (es.map Vc.row) k (Id l q)=(Bw es k l q).map Vc.row
 | []=>rfl
 |e::es=>by
  have ih:=J2t (k:=k) (l:=l) (q:=q) (es:=es);simp only[map_cons,Vc.row,Oq,Bw]at ih⊢;split
  ·rfl
  ·simp only[map_cons,Vc.row,List.cons.injEq,true_and];exact ih
theorem J4m{k:J9}{l:Jc}{q:Nat} : ∀{es:List Vc}{e:Vc},e∈Bw es k l q->e∈es\/e=⟨k,l,q⟩
 | [],e,h=>by simp[Bw]at h;exact .inr h
 |a::es,e,h=>by
  simp only[Bw]at h;split at h
  ·rcases mem_cons.1 h with h|h
   ·exact .inr h
   ·exact .inl (List.mem_cons_of_mem _ h)
  ·rcases mem_cons.1 h with rfl|h
   ·exact .inl mem_cons_self
   ·rcases J4m h with h|h
    ·exact .inl (List.mem_cons_of_mem _ h)
    ·exact .inr h
theorem J1p{k:J9} : ∀{es:List Vc},(I4 (es.map Vc.row) k=Option.none/\∀d,Kp d (Ch es) k=d)\/∃e∈es,I4 (es.map Vc.row) k=some (Id e.l e.q)/\∀d,Kp d (Ch es) k=e.l
 | []=>.inl ⟨rfl,λ_=>rfl⟩
 |a::es=>by
  simp only[map_cons,Vc.row,I4,Ch,Kp,List.find?_cons];by_cases h:a.k=k
  ·exact .inr ⟨a,mem_cons_self,by rw[if_pos h],λd=>by simp[h]⟩
  ·rw[if_neg h];have hb:(a.k==k)=false:=by simpa using h
   rcases J1p (k:=k) (es:=es)with ⟨h1,h2⟩|⟨e,he,h1,h2⟩
   ·exact .inl ⟨h1,λd=>by rw[hb];exact h2 d⟩
   ·exact .inr ⟨e,List.mem_cons_of_mem _ he,h1,λd=>by rw[hb];exact h2 d⟩
def Ov(d:Nat)(E:Xo)(h:J8)(n:Nat):Prop:=∃es:List Vc,Ch es=E/\h d=some ⟨true,0,es.map Vc.row⟩/\∀e∈es,e.q<n/\h e.q=some ⟨false,1,Ji e.l.Coeffs⟩
theorem Ov.keep {d:Nat}{E:Xo}{h h':J8}{n n':Nat}(M:Ov d E h n) (hd:d<n) (hn:n<=n') (hh:∀id,id<n->h' id=h id):Ov d E h' n':=by obtain⟨es,h1,h2,h3⟩:=M;exact⟨es,h1,by rw[hh d hd,h2],λe he=>⟨by have:=(h3 e he).1;omega,by rw[hh _ (h3 e he).1];exact(h3 e he).2⟩⟩
theorem Ov.get {d:Nat}{E:Xo}{h:J8}{n:Nat}(M:Ov d E h n) (x:J9):∃rows w,h d=some ⟨true,0,rows⟩/\(I4 rows x).getD (.agg [.int .i64 0,.nil 1]) = .agg [.int .i64 (Kp Jj E x).Const,w]/\bw w h=some (.sl 1 (Ji (Kp Jj E x).Coeffs)):=by
 obtain⟨es,rfl,h2,h3⟩:=M;refine⟨es.map Vc.row,?_⟩;rcases J1p (k:=x) (es:=es)with ⟨g1,g2⟩|⟨e,he,g1,g2⟩
 ·exact⟨.nil 1,h2,by rw[g1,g2];rfl,by rw[g2];rfl⟩
 ·refine⟨.ref e.q 0 e.l.Coeffs.length,h2,by rw[g1,g2];rfl,?_⟩;rw[g2];simp[bw,(h3 e he).2]
theorem Ov.get2 {d:Nat}{E:Xo}{h:J8}{n:Nat}(M:Ov d E h n) (x:J9):∃rows w,h d=some ⟨true,0,rows⟩/\(I4 rows x).getD (.agg [.int .i64 0,.nil 1]) = .agg [.int .i64 (Kp Jj E x).Const,w] /\
 ((w = .nil 1/\(Kp Jj E x).Coeffs=[])\/∃q,q<n/\w = .ref q 0 (Kp Jj E x).Coeffs.length/\h q=some ⟨false,1,Ji (Kp Jj E x).Coeffs⟩):=by
 obtain⟨es,rfl,h2,h3⟩:=M;refine⟨es.map Vc.row,?_⟩;rcases J1p (k:=x) (es:=es)with ⟨g1,g2⟩|⟨e,he,g1,g2⟩
 ·exact⟨.nil 1,h2,by rw[g1,g2];rfl,.inl ⟨rfl,by rw[g2];rfl⟩⟩
 ·refine⟨.ref e.q 0 e.l.Coeffs.length,h2,by rw[g1,g2];rfl,.inr ⟨e.q,(h3 e he).1,by rw[g2],by rw[g2];exact(h3 e he).2⟩⟩
theorem J2d{d:Nat}{E:Xo}{h:J8}{n N:Nat}{s:Xg}(hs:s.Terms.length<=1048576)(M:Ov d E h n)(hd:d<n){K:AV->J8->Nat->Prop}
 (hK:∀q h' n',n<=q->q<n'->(∀id,id<n->h' id=h id)->h' q=some ⟨false,1,Ji (Q6 E N s).Coeffs⟩->K (Id (Q6 E N s) q) h' n') :
 X9 prog 206 [.mp d,.agg (Ks s),i64 N] h n K:=by
 refine U8 func206 Jne rfl (by simp[K4n]) ?_;have z0:¬n=n+1:=by omega
 have z1:¬n+1=n:=by omega
 have z2:¬n=n+1+1:=by omega
 have z3:¬n=n+1+1+1:=by omega
 have z4:¬n+1=n+1+1:=by omega
 have z5:¬n+1=n+1+1+1:=by omega
 have z6:¬n+1+1=n:=by omega
 have z7:¬n+1+1+1=n:=by omega
 simp[K4n,Ks];refine Je (On s.Const N) (by simp) ?_;rintro r rfl;simp[Ja,z2,z3];intro _;unfold Q6 at hK;generalize hT:s.Terms.foldl (λo t=>Ys o t.Coeff (Kp Jj E t.Name)) (Jr s.Const N)=T at hK
 refine Ka [0,2,4,6,7,15,16] 17 s.Terms.length (λi st h' m=>n+3<m/\(∀id,id<n->h' id=h id)/\h' n=some ⟨true,2,[[.int .i64 s.Const,.sl 2 (s.Terms.map Xh)]]⟩/\h' (n+1)=some ⟨true,2,[[.int .i64 0,.nil 1]]⟩ /\
  ∃(o:Jc) (q:Nat),h' (n+3)=some ⟨true,2,[[.int .i64 o.Const,.ref q 0 o.Coeffs.length]]⟩/\h' q=some ⟨false,1,Ji o.Coeffs⟩/\(q=n+2\/n+3<q)/\q<m/\(s.Terms.drop i).foldl (λo t=>Ys o t.Coeff (Kp Jj E t.Name)) o=T) (by unfold Jd;omega) (by simp) ?_ ?_ ?_
 ·refine⟨by omega,?_,by simp[z2,z3],by simp,Jr s.Const N,n+2,by simp,by simp,.inl rfl,by omega,hT⟩;intro id hid;have y0:¬id=n:=by omega
  have y1:¬id=n+1:=by omega
  have y2:¬id=n+1+1:=by omega
  have y3:¬id=n+1+1+1:=by omega
  have y4:¬id=n+2:=by omega
  have y5:¬id=n+3:=by omega
  simp[y0,y1,y2,y3]
 ·rintro i st h' m R hi hg hk s17 hw ⟨hm,hfr,e0,e1,o,q,eb,eq,hq,hqm,hJ⟩ hR _ _;simp at hk;rw[drop_eq_getElem_cons hi,List.foldl_cons]at hJ;refine Jq [0,2,4,6,7,15,16,17] (λs=>s 18 = .bool true) (by simp[hk,s17,hi]) ?_;intro Jv hk1 s18;simp at hk1;refine W3 s18 (Jn (Xd ?_));refine Xu [0,2,4,6,7,15,16,17] (λst2 h2 m2=>m2=m+1/\st2 9 = .ptr m 0 0/\h2 m=some ⟨true,2,[Xh s.Terms[i]]⟩/\∀id,id<m->h2 id=h' id) ?_ ?_
  ·simp[hk1,hk,s17,hi,Xh];intro id hid;have:¬id=m:=by omega
   simp[this]
  rintro st2 h2 m2 hk2 ⟨rfl,s9,em,hfr2⟩;simp at hk2;have M2:Ov d E h2 (m+1):=M.keep hd (by omega) λid hid=>by rw[hfr2 id (by omega),hfr id hid]
  obtain⟨rows,w,hdr,hv,hbw⟩:=M2.get (s.Terms[i]).Name;have eb2:=hfr2 (n+3) (by omega);have eq2:=hfr2 q (by omega);rw[eb]at eb2;rw[eq]at eq2;simp[hk2,hk1,hk,s9,em,eb2,Xh,hdr,hv];refine Je (If o (s.Terms[i]'hi).Coeff (Kp Jj E (s.Terms[i]'hi).Name)) (by simp[Jb,eq2,hbw]) ?_;rintro r rfl;rw[Xm];have hadd:(K9 o (s.Terms[i]).Coeff (Kp Jj E (s.Terms[i]).Name)).getD Jj=Ys o (s.Terms[i]).Coeff (Kp Jj E (s.Terms[i]).Name):=rfl;rw[hadd];generalize Ys o (s.Terms[i]).Coeff (Kp Jj E (s.Terms[i]).Name)=o' at *;have b1:¬n+3=m+1:=by omega
  have b2:¬m+1=n+3:=by omega
  have b3:¬n=m+1:=by omega
  have b4:¬n+1=m+1:=by omega
  have b5:¬n+1+1=m:=by omega
  have b6:¬m=n+1+1:=by omega
  have b7:¬m=n+2:=by omega
  have b8:¬n+2=m:=by omega
  simp[hk2,hk1,hk,s17,hw,Ja,eb2,b5];refine hR _ _ _ (by simp[hk2,hk1,hk]) (by simp) ⟨by omega,?_,?_,?_,o',m+1,by simp,by simp[b6],.inr (by omega),by omega,hJ⟩
  ·intro id hid;have y0:¬id=n+3:=by omega
   have y1:¬id=m+1:=by omega
   simp[y0,y1,hfr2 id (by omega),hfr id hid]
  ·simp[b3,hfr2 n (by omega),e0,z3]
  ·have:¬n+1=n+3:=by omega
   simp[hfr2 (n+1) (by omega),e1];try omega
 ·rintro st h' m R hk s17 ⟨hm,hfr,e0,e1,o,q,eb,eq,hq,hqm,hJ⟩ hret hX;simp at hk;rw[drop_eq_nil_of_le (by omega)]at hJ;simp only[List.foldl_nil]at hJ;subst hJ;refine Jq [6,7] (λs=>s 18 = .bool false) (by simp[hk,s17]) ?_;intro Jv hk1 s18;simp at hk1;refine Uv s18 ?_;refine hX _ _ _ _ ?_;have c1:¬q=n+1:=by omega
  simp[hk1,hk,eb,e1];refine hK q _ _ (by omega) hqm ?_ (by simp[c1,eq]);intro id hid;have y0:¬id=n+1:=by omega
  simp[y0,hfr id hid]
theorem J28{d:Nat}{E:Xo}{h:J8}{n N:Nat}{a:Xe}(hs:∀s∈a.Heads,s.Terms.length<=1048576)(hne:a.Lst=false->0<a.Heads.length)(M:Ov d E h n)(hd:d<n){K:AV->J8->Nat->Prop}
 (hK:∀q h' n',n<=q->q<n'->(∀id,id<n->h' id=h id)->h' q=some ⟨false,1,Ji (Qd E N a).Coeffs⟩->K (Id (Qd E N a) q) h' n') :
 X9 prog 207 [.mp d,.agg (Kn a),i64 N] h n K:=by
 refine U8 func207 Jsg rfl (by simp[Tg]) ?_;have z0:¬n=n+1:=by omega
 have z1:¬n+1=n:=by omega
 have z2:¬n=n+1+1:=by omega
 have z3:¬n=n+1+1+1:=by omega
 have z4:¬n+1=n+1+1:=by omega
 have z5:¬n+1=n+1+1+1:=by omega
 have z6:¬n+1+1=n:=by omega
 have z7:¬n+1+1+1=n:=by omega
 unfold Qd at hK
 have M2:Ov d E (upd (upd h n (some ⟨true,3,[Kn a]⟩)) (n+1) (some ⟨true,2,[[.int .i64 0,.nil 1]]⟩)) (n+2):=M.keep hd (by omega) λid hid=>by
  have y0:¬id=n:=by omega
  have y1:¬id=n+1:=by omega
  simp[y0,y1]
 cases hL:a.Lst
 ·rw[hL]at hK;have hz:=hne hL
  obtain⟨s,l,hsl⟩:∃s l,a.Heads=s::l:=by
   cases hh:a.Heads with
   |nil=>rw[hh]at hz;cases hz
   |cons s l=>exact⟨s,l,rfl⟩
  have hs0:=hs s (by rw[hsl];exact mem_cons_self);simp[hsl]at hK;simp[Tg,Kn,hL,hsl];refine J2d (E:=E) hs0 (by simpa[Kn,hL,hsl]using M2) (by omega) ?_;intro q h' n' hq hq' hfr hqb;have f1:=hfr (n+1) (by omega);simp at f1;simp[Id,f1];have y2:¬q=n+1:=by omega
  refine hK q _ _ (by omega) hq' ?_ (by simp[y2,hqb]);intro id hid;have y0:¬id=n:=by omega
  have y1:¬id=n+1:=by omega
  simp[y0,y1,hfr id (by omega)]
 ·rw[hL]at hK;simp at hK;simp[Tg,Kn,hL];intro _;refine Je (On a.Heads.length N) (by simp) ?_;rintro r rfl;obtain⟨rows,w,hdr,hv,hw⟩:=M.get2 a.Base;have d0:¬d=n:=by omega
  have d1:¬d=n+1:=by omega
  have d2:¬d=n+1+1:=by omega
  have d3:¬d=n+1+1+1:=by omega
  have d4:¬n+1=n+3:=by omega
  have d5:¬n+1+1=n+3:=by omega
  have fr:∀id,id<n->¬id=n/\¬id=n+1/\¬id=n+1+1/\¬id=n+1+1+1/\¬id=n+2/\¬id=n+3/\¬id=n+1+1+1+1/\¬id=n+4:=λid hid=>by omega
  simp[Ja,z2,z3];constructor
  ·intro hb;rw[if_neg hb]at hK;simp[d0,d1,d2,d3,hdr,hv];unfold Ys at hK;rcases hw with ⟨rfl,hc⟩|⟨q,hq,rfl,hqb⟩
   ·have hl:Kp Jj E a.Base=⟨(Kp Jj E a.Base).Const,[]⟩:=by rw[<-hc]
    generalize(Kp Jj E a.Base).Const=cc at *;rw[hl]at hK;have en:Ji []=[]:=rfl;refine Je (If (Jr a.Heads.length N) 1 ⟨cc,[]⟩) (by simp[Jb,en]) ?_;rintro r rfl;rw[Xm];generalize(K9 (Jr a.Heads.length N) 1 ⟨cc,[]⟩).getD Jj=o' at *;simp[Ja];refine hK (n+4) _ _ (by omega) (by omega) (λid hid=>by simp[fr id hid]) (by simp)
   ·obtain⟨q0,q1,q2,q3,q4,q5,q6,q7⟩:=fr q hq;refine Je (If (Jr a.Heads.length N) 1 (Kp Jj E a.Base)) (by simp[Jb,hqb,q0,q1,q2,q3]) ?_;rintro r rfl;rw[Xm];generalize(K9 (Jr a.Heads.length N) 1 (Kp Jj E a.Base)).getD Jj=o' at *;simp[Ja];refine hK (n+4) _ _ (by omega) (by omega) (λid hid=>by simp[fr id hid]) (by simp)
  ·intro hb;rw[if_pos hb]at hK;refine hK (n+2) _ _ (by omega) (by omega) (λid hid=>by simp[fr id hid]) (by simp)
def Ge:Jl:= ⟨10,[.t 2],(Zq [Zt 2 false] (.seq (Zq [Zv 3 0] (.blk 0 (.seq (Zq [Zo 5 (.bin .eql (.t 3) (.k (.str [102,117,110]))),Zv 4 5] (.cond (.t 4) .skip (Zq [Zo 6 (.bin .eql (.t 3) (.k (.str [112,114,101]))),Zv 4 6] (.cond (.t 4) .skip (Zq [Zo 7 (.bin .eql (.t 3) (.k (.str [114,117,108,101]))),Zv 4 7] (.cond (.t 4) .skip (Zq [Zo 8 (.bin .eql (.t 3) (.k (.str [114,101,116,117,114,110]))),Zv 4 8] (.cond (.t 4) .skip (.reg [Zo 9 (.bin .eql (.t 3) (.k (.str [110,105,108]))),Zv 4 9]))))))))) (.cond (.t 4) (Zq [Zt 2 true] .ret) .skip)))) (Zq [Zt 2 false] .ret)))⟩
theorem Mb:Jh prog f230=some Ge:=by kernel_rfl
def K84:Jl:= ⟨18,[.t 4],(Zq [Zt 4 false] (.seq (Zq [Zi 5 0] (.blk 0 (.loop (.seq (Zq [Zv 6 5,Zv 7 0,Zn 8 7,Zb 9 .lss 6 8] (Zw 9 0)) (.seq (.blk 1 (Zq [Zv 12 0,Zv 13 5,Zx 14 1 12 13,Zl 15 false 1 14,Zv 16 1,Zb 17 .eql 15 16] (.cond (.t 17) (Zq [Zt 4 true] .ret) .skip))) (.reg [Zv 10 5,Zk 11 .add 10 1,Zv 5 11])))))) (Zq [Zt 4 false] .ret)))⟩
theorem Jm6:Jh prog f224=some K84:=by kernel_rfl
def K86:Jl:= ⟨19,[.t 4],(Zq [Zi 4 0] (.seq (Zq [Zv 6 0,Zn 7 6,Zi 8 0] (.blk 0 (.loop (Zq [Zb 9 .lss 8 7] (.seq (Zw 9 0) (.seq (.blk 1 (Zq [Zv 10 8,Zv 5 10] (Zq [Zv 11 1,Zv 12 0,Zv 13 5,Zx 14 1 12 13,Zl 15 false 1 14,Zb 16 .eql 11 15] (.cond (.t 16) (Zq [Zv 17 5,Zv 4 17] .ret) .skip)))) (.reg [Zk 18 .add 8 1,Zv 8 18]))))))) (Zq [Zi 4 (-1)] .ret)))⟩
theorem Jrs:Jh prog f153=some K86:=by kernel_rfl
def a72:Jl:= ⟨9,[.t 4],(Zq [Zt 4 false] (Zq [Zv 5 0,Zv 6 1,Zc 7 153 [.t 5,.t 6],Zk 8 .geq 7 0,Zv 4 8] .ret))⟩
theorem Jyh:Jh prog f72=some a72:=by kernel_rfl
def a63:Jl:= ⟨19,[.t 4],(Zq [Zi 4 0] (.seq (Zq [Zi 5 0] (.blk 0 (.loop (.seq (Zq [Zv 6 5,Zv 7 0,Zn 8 7,Zb 9 .lss 6 8] (Zw 9 0)) (.seq (.blk 1 (Zq [Zv 12 0,Zv 13 5,Zx 14 1 12 13,Zl 15 false 1 14,Zv 16 1,Zb 17 .eql 15 16] (.cond (.t 17) (Zq [Zv 18 5,Zv 4 18] .ret) .skip))) (.reg [Zv 10 5,Zk 11 .add 10 1,Zv 5 11])))))) (Zq [Zi 4 (-1)] .ret)))⟩
theorem Jyt:Jh prog f63=some a63:=by kernel_rfl
def K4h:Jl:= ⟨2,[.t 0],(Zq [Zz 0 1] (Zq [Zo 1 (.bsl 1 [(.k (.str [102,117,110])),(.k (.str [112,114,101])),(.k (.str [114,117,108,101])),(.k (.str [114,101,116,117,114,110])),(.k (.str [110,105,108]))]),Zv 0 1] .ret))⟩
theorem Jo5:Jh prog f333=some K4h:=by kernel_rfl
def K5y:Jl:= ⟨6,[.t 2],(Zq [Zt 2 false] (Zq [Zc 3 333 [],Zv 4 0,Zc 5 224 [.t 3,.t 4],Zv 2 5] .ret))⟩
theorem Ju0:Jh prog f317=some K5y:=by kernel_rfl
def K7j:Jl:= ⟨50,[.t 2],(Zq [Zt 2 false] (.seq (Zq [Zv 6 0,Zo 7 (.len true (.t 6)),Zc 8 102 [.t 7,(.k (.int .i64 1)),(.k (.int .i64 8))],ZN 9 8,Zv 10 9,Zg 11 10 false (.mv (.t 0)),Zg 12 10 false (.call (.k (.fn (.func 230) [] [])) [.t 11]),ZP 13 10 12] (.cond (.t 13) (Zq [Zt 2 false] .ret) .skip)) (.seq (Zq [Zi 3 0] (.blk 0 (.loop (.seq (Zq [Zv 14 3,Zv 15 0,Zo 16 (.len true (.t 15)),Zb 17 .lss 14 16] (Zw 17 0)) (.seq (.blk 1 (Zq [Zv 20 0,Zv 21 3,Zo 22 (.ixs (.t 20) (.t 21)),Zo 23 (.bin .geq (.t 22) (.k (.int .u8 97))),Zv 24 23,Zg 25 24 true (.mv (.t 0)),Zg 26 24 true (.mv (.t 3)),Zg 27 24 true (.ixs (.t 25) (.t 26)),Zg 28 24 true (.bin .leq (.t 27) (.k (.int .u8 122))),ZQ 29 24 28,Zv 4 29] (Zq [Zv 30 0,Zv 31 3,Zo 32 (.ixs (.t 30) (.t 31)),Zo 33 (.bin .geq (.t 32) (.k (.int .u8 48))),Zv 34 33,Zg 35 34 true (.mv (.t 0)),Zg 36 34 true (.mv (.t 3)),Zg 37 34 true (.ixs (.t 35) (.t 36)),Zg 38 34 true (.bin .leq (.t 37) (.k (.int .u8 57))),ZQ 39 34 38,Zv 5 39] (Zq [Zv 40 4,ZN 41 40,Zv 42 41,Zg 43 42 true (.mv (.t 5)),Zg 44 42 true (.mv (.t 43)),Zg 45 44 true (.mv (.t 3)),Zg 46 44 true (.bin .gtr (.t 45) (.k (.int .i64 0))),Zg 47 42 true (.pick (.t 44) (.t 46) (.k (.bool false))),Zg 48 42 true (.un .not (.t 47)),ZQ 49 42 48] (.cond (.t 49) (Zq [Zt 2 false] .ret) .skip))))) (.reg [Zv 18 3,Zk 19 .add 18 1,Zv 3 19])))))) (Zq [Zt 2 true] .ret))))⟩
theorem Jq7:Jh prog f143=some K7j:=by kernel_rfl
def K41:Jl:= ⟨45,[.t 2],(Zq [Zt 2 false] (.seq (Zq [Zi 3 0] (.blk 0 (.loop (.seq (Zq [Zv 6 3,Zv 7 0,Zo 8 (.len true (.t 7)),Zb 9 .lss 6 8] (Zw 9 0)) (.seq (.blk 1 (Zq [Zv 12 0,Zv 13 3,Zo 14 (.ixs (.t 12) (.t 13)),Zo 15 (.bin .geq (.t 14) (.k (.int .u8 97))),Zv 16 15,Zg 17 16 true (.mv (.t 0)),Zg 18 16 true (.mv (.t 3)),Zg 19 16 true (.ixs (.t 17) (.t 18)),Zg 20 16 true (.bin .leq (.t 19) (.k (.int .u8 122))),ZQ 21 16 20,Zv 4 21] (Zq [Zv 22 0,Zv 23 3,Zo 24 (.ixs (.t 22) (.t 23)),Zo 25 (.bin .geq (.t 24) (.k (.int .u8 48))),Zv 26 25,Zg 27 26 true (.mv (.t 0)),Zg 28 26 true (.mv (.t 3)),Zg 29 26 true (.ixs (.t 27) (.t 28)),Zg 30 26 true (.bin .leq (.t 29) (.k (.int .u8 57))),ZQ 31 26 30,Zv 5 31] (Zq [Zv 32 4,ZN 33 32,Zv 34 33,Zg 35 34 true (.mv (.t 3)),Zg 36 34 true (.bin .eql (.t 35) (.k (.int .i64 0))),Zg 37 34 true (.mv (.t 36)),Zg 38 37 false (.mv (.t 5)),Zg 39 37 false (.un .not (.t 38)),Zg 40 34 true (.pick (.t 37) (.k (.bool true)) (.t 39)),ZQ 41 34 40] (.cond (.t 41) (Zq [Zt 2 false] .ret) .skip))))) (.reg [Zv 10 3,Zk 11 .add 10 1,Zv 3 11])))))) (Zq [Zv 42 0,Zo 43 (.len true (.t 42)),Zk 44 .gtr 43 0,Zv 2 44] .ret)))⟩
theorem Jm5:Jh prog f316=some K41:=by kernel_rfl
def K85:Jl:= ⟨15,[.t 2],(Zq [Zt 2 false] (Zq [Zv 3 0,Zc 4 316 [.t 3],Zv 5 4,Zg 6 5 true (.mv (.t 0)),Zg 7 5 true (.len true (.t 6)),Zg 8 5 true (.bin .leq (.t 7) (.k (.int .i64 8))),ZQ 9 5 8,Zv 10 9,Zg 11 10 true (.mv (.t 0)),Zg 12 10 true (.call (.k (.fn (.func 317) [] [])) [.t 11]),Zg 13 10 true (.un .not (.t 12)),ZQ 14 10 13,Zv 2 14] .ret))⟩
theorem Jrd:Jh prog f285=some K85:=by kernel_rfl
def Tq:Jl:= ⟨13,[.t 2],(Zq [Zt 2 false] (Zq [Zv 3 0,Zc 4 143 [.t 3],Zv 5 4,Zg 6 5 true (.mv (.t 0)),Zg 7 5 true (.mv (.t 0)),Zg 8 5 true (.len true (.t 7)),Zg 9 5 true (.bin .sub (.t 8) (.k (.int .i64 1))),Zg 10 5 true (.ixs (.t 6) (.t 9)),Zg 11 5 true (.bin .eql (.t 10) (.k (.int .u8 115))),ZQ 12 5 11,Zv 2 12] .ret))⟩
theorem Jt1:Jh prog f205=some Tq:=by kernel_rfl
def K66:Jl:= ⟨10,[.t 2],(Zq [Zt 2 false] (Zq [Zv 3 0,Zc 4 143 [.t 3],Zv 5 4,Zg 6 5 true (.mv (.t 0)),Zg 7 5 true (.call (.k (.fn (.func 205) [] [])) [.t 6]),Zg 8 5 true (.un .not (.t 7)),ZQ 9 5 8,Zv 2 9] .ret))⟩
theorem Jqi:Jh prog f140=some K66:=by kernel_rfl
def K5j:Jl:= ⟨13,[.t 2],(Zq [Zt 2 false] (Zq [Zv 3 0,Zc 4 285 [.t 3],Zv 5 4,Zg 6 5 true (.mv (.t 0)),Zg 7 5 true (.mv (.t 0)),Zg 8 5 true (.len true (.t 7)),Zg 9 5 true (.bin .sub (.t 8) (.k (.int .i64 1))),Zg 10 5 true (.ixs (.t 6) (.t 9)),Zg 11 5 true (.bin .eql (.t 10) (.k (.int .u8 115))),ZQ 12 5 11,Zv 2 12] .ret))⟩
theorem Jom:Jh prog f260=some K5j:=by kernel_rfl
def K82:Jl:= ⟨10,[.t 2],(Zq [Zt 2 false] (Zq [Zv 3 0,Zc 4 285 [.t 3],Zv 5 4,Zg 6 5 true (.mv (.t 0)),Zg 7 5 true (.call (.k (.fn (.func 260) [] [])) [.t 6]),Zg 8 5 true (.un .not (.t 7)),ZQ 9 5 8,Zv 2 9] .ret))⟩
theorem Jta:Jh prog f216=some K82:=by kernel_rfl
theorem J87(s:J9):Holds prog 230 [.str s] (λr=>r = .bool (Hu s)):=by
 by_cases e1:s=[102,117,110]
 ·subst e1;refine Jp func230 Mb rfl (by simp[Ge]) ?_;simp[Ge,Hu,K6,D6]
 by_cases e2:s=[112,114,101]
 ·subst e2;refine Jp func230 Mb rfl (by simp[Ge]) ?_;simp[Ge,Hu,K6,D6]
 by_cases e3:s=[114,117,108,101]
 ·subst e3;refine Jp func230 Mb rfl (by simp[Ge]) ?_;simp[Ge,Hu,K6,D6]
 by_cases e4:s=[114,101,116,117,114,110]
 ·subst e4;refine Jp func230 Mb rfl (by simp[Ge]) ?_;simp[Ge,Hu,K6,D6]
 by_cases e5:s=[110,105,108]
 ·subst e5;refine Jp func230 Mb rfl (by simp[Ge]) ?_;simp[Ge,Hu,K6,D6]
 have hr:Hu s=false:=by simp[Hu,K6,D6,Ne.symm e1,Ne.symm e2,Ne.symm e3,Ne.symm e4,Ne.symm e5]
 rw[hr];refine Jp func230 Mb rfl (by simp[Ge]) ?_;simp[Ge,e1,e2,e3,e4,e5]
theorem Jg0{l:List J9}{s:J9}{i:Nat}(hi:i<l.length):K6 (l.drop i) s=((l[i]==s)||K6 (l.drop (i+1)) s):=by rw[drop_eq_getElem_cons hi];rfl
theorem J5s(l:List J9)(s:J9):Holds prog 224 [.sl 1 (Jf l),.str s] (λr=>r = .bool (K6 l s)):=by
 refine Vm func224 rfl rfl λhl=>?_
 simp at hl;refine Jp func224 Jm6 rfl (by simp[K84]) ?_;simp[K84];generalize hB:K6 l s=B;refine O7 [0,1] 5 l.length (λi _=>K6 (l.drop i) s=B) hl.1 (by simp) (by simpa using hB) ?_ ?_
 ·rintro i st h R hi hg hk s5 hw hJ hh hR hret _;simp at hk;rw[Jg0 hi]at hJ;simp[hk,s5,hi];intro _;by_cases hx:l[i]=s
  ·simp[hx]at hJ;simp[hx];refine hret _ _ _ ?_;simp[hJ]
  ·have:(l[i]==s)=false:=by simpa using hx
   rw[this,Bool.false_or]at hJ;simp[hx,hw];exact hR _ (by simp[hk]) (by simp) hJ
 ·rintro st h R hk s5 hJ hh _ hX;simp at hk;rw[drop_eq_nil_of_le (by omega)]at hJ;simp[hk,s5];intro _;refine hX _ _ ?_;simp[<-hJ,K6]
theorem Jub(l:List J9)(s:J9):Holds prog 153 [.sl 1 (Jf l),.str s] (λr=>r=i64 (Xi (λx=>x==s) l 0)):=by
 refine Vm func153 rfl rfl λhl=>?_
 simp at hl;refine Jp func153 Jrs rfl (by simp[K86]) ?_;simp[K86];intro _;generalize hB:Xi (λx=>x==s) l 0=B;refine O7 [0,1,7] 8 l.length (λi _=>Xi (λx=>x==s) (l.drop i) i=B) hl.1 (by simp) (by simpa using hB) ?_ ?_
 ·rintro i st h R hi hg hk s8 hw hJ hh hR hret _;simp at hk;rw[drop_eq_getElem_cons hi]at hJ;simp only[Xi]at hJ;simp[hk,s8,hi];by_cases hx:s=l[i]
  ·rw[if_pos (by simp[hx])]at hJ;simp[hx];refine hret _ _ _ ?_;simp[hJ]
  ·rw[if_neg (by simpa using λh=>hx h.symm)]at hJ;simp[hx,hw];exact hR _ (by simp[hk]) (by simp) hJ
 ·rintro st h R hk s8 hJ hh _ hX;simp at hk;rw[drop_eq_nil_of_le (by omega)]at hJ;simp[hk,s8];refine hX _ _ ?_;simp[<-hJ,Xi]
theorem Nl(l:List J9)(s:J9):Holds prog 72 [.sl 1 (Jf l),.str s] (λr=>r = .bool (K6 l s)):=by refine Jp func72 Jyh rfl (by simp[a72]) ?_;simp[a72];refine Je (Jub l s) (by simp) ?_;rintro r rfl;have:=Mm (p:=λx=>x==s) (l:=l) (i:=0);simp only[ge_iff_le]at this;simp[this,K6]
theorem E3(l:List J9)(s:J9):Holds prog 63 [.sl 1 (Jf l),.str s] (λr=>r=i64 (Xi (λx=>x==s) l 0)):=by
 refine Vm func63 rfl rfl λhl=>?_
 simp at hl;refine Jp func63 Jyt rfl (by simp[a63]) ?_;simp[a63];generalize hB:Xi (λx=>x==s) l 0=B;refine O7 [0,1] 5 l.length (λi _=>Xi (λx=>x==s) (l.drop i) i=B) hl.1 (by simp) (by simpa using hB) ?_ ?_
 ·rintro i st h R hi hg hk s5 hw hJ hh hR hret _;simp at hk;rw[drop_eq_getElem_cons hi]at hJ;simp only[Xi]at hJ;simp[hk,s5,hi];intro _;by_cases hx:l[i]=s
  ·rw[if_pos (by simp[hx])]at hJ;simp[hx];refine hret _ _ _ ?_;simp[hJ]
  ·rw[if_neg (by simpa using hx)]at hJ;simp[hx,hw];exact hR _ (by simp[hk]) (by simp) hJ
 ·rintro st h R hk s5 hJ hh _ hX;simp at hk;rw[drop_eq_nil_of_le (by omega)]at hJ;simp[hk,s5];intro _;refine hX _ _ ?_;simp[<-hJ,Xi]
theorem J6c:Holds prog 333 [] (λr=>r = .us 1 (Jf D6)):=by refine Jp func333 Jo5 rfl (by simp[K4h]) ?_;simp[K4h];simp[Jf,D6]
theorem J60(s:J9):Holds prog 317 [.str s] (λr=>r = .bool (Hu s)):=by refine Jp func317 Ju0 rfl (by simp[K5y]) ?_;simp[K5y];refine Je (J6c) (by simp) ?_;rintro r rfl;simp;refine Je (J5s D6 s) (by simp) ?_;rintro r rfl;simp[Hu]
theorem J4o{s:J9}{i:Nat}(hi:i<s.length):Hb i (s.drop i)=((St s[i]||(decide (i≠0)&&T5 s[i]))&&Hb (i+1) (s.drop (i+1))):=by rw[drop_eq_getElem_cons hi];rfl
theorem J03(s:J9):Holds prog 143 [.str s] (λr=>r = .bool (W7 s)):=by
 refine Jp func143 Jq7 rfl (by simp[K7j]) ?_;simp[K7j];intro hl;refine Je (O4 s.length 1 8) (by simp) ?_;rintro r rfl;unfold W7;cases h1:Kh s.length 1 8
 ·simp
 simp;refine Je (J87 s) (by simp) ?_;rintro r rfl;cases h2:Hu s
 case true=>simp
 simp;generalize hB:Hb 0 s=B;refine O7 [0] 3 s.length (λi _=>Hb i (s.drop i)=B) hl (by simp) (by simpa using hB) ?_ ?_
 ·rintro i st h R hi hg hk s3 hw hJ hh hR hret _;simp at hk;rw[J4o hi]at hJ;have hgd:s[i]?.getD 0=s[i]:=by simp[hi]
  unfold St T5 at hJ;obtain⟨m,hm⟩:∃m:Int,((s[i]).toNat:Int)=m:=⟨_,rfl⟩;rw[hm]at hJ;refine Jq [0,3] (λ_=>True) (by simp[hk,s3,hi]) ?_;intro s1 hk1 _;simp at hk1;refine Jn (Xd (Jq [0,3] (λs=>s 4 = .bool (decide (97<=m)&&decide (m<=122))) ?_ ?_))
  ·by_cases u1:97<=m <;>by_cases u2:m<=122 <;>simp[hk,s3,hk1,hi,hm,u1,u2]
  intro s2 hk2 s4;simp at hk2;refine Jq [0,3,4] (λs=>s 5 = .bool (decide (48<=m)&&decide (m<=57))) ?_ ?_
  ·by_cases u1:48<=m <;>by_cases u2:m<=57 <;>simp[hk,s3,hk1,hk2,hi,hm,u1,u2]
  intro s5 hk5 s55;simp at hk5;generalize(decide (97<=m)&&decide (m<=122))=L at *;generalize(decide (48<=m)&&decide (m<=57))=D at *;cases L
  ·cases D
   ·rw[Bool.and_false,Bool.or_false,Bool.false_and]at hJ;simp[s3,hk1,hk2,hk5,s4,s55];refine hret _ _ _ ?_;simp[hJ]
   ·by_cases h0:i=0
    ·subst h0;simp at hJ;simp[s3,hk1,hk2,hk5,s4,s55];refine hret _ _ _ ?_;simp[hJ]
    ·simp[h0]at hJ;simp[s3,hk1,hk2,hk5,s4,s55,hw,(by omega:0<i)];exact hR _ (by simp[hk,hk1,hk2,hk5]) (by simp) hJ
  ·simp at hJ;simp[s3,hk1,hk2,hk5,s4,hw];exact hR _ (by simp[hk,hk1,hk2,hk5]) (by simp) hJ
 ·rintro st h R hk s3 hJ hh _ hX;simp at hk;rw[drop_eq_nil_of_le (by omega)]at hJ;simp[hk,s3];intro _;refine hX _ _ ?_;simp[<-hJ,Hb]
set_option maxHeartbeats 1000000 in
theorem Jc5(s:J9):Holds prog 316 [.str s] (λr=>r = .bool (Hb 0 s&&decide (0<s.length))):=by
 refine Vm func316 rfl rfl λhl=>?_
 simp at hl;refine Jp func316 Jm5 rfl (by simp[K41]) ?_;simp[K41];generalize hB:Hb 0 s=B;refine O7 [0] 3 s.length (λi _=>Hb i (s.drop i)=B) hl (by simp) (by simpa using hB) ?_ ?_
 ·rintro i st h R hi hg hk s3 hw hJ hh hR hret _;simp at hk;rw[J4o hi]at hJ;have hgd:s[i]?.getD 0=s[i]:=by simp[hi]
  unfold St T5 at hJ;obtain⟨m,hm⟩:∃m:Int,((s[i]).toNat:Int)=m:=⟨_,rfl⟩;rw[hm]at hJ;refine Jq [0,3] (λ_=>True) (by simp[hk,s3,hi]) ?_;intro s1 hk1 _;simp at hk1;refine Jn (Xd (Jq [0,3] (λs=>s 4 = .bool (decide (97<=m)&&decide (m<=122))) ?_ ?_))
  ·by_cases u1:97<=m <;>by_cases u2:m<=122 <;>simp[hk,s3,hk1,hi,hm,u1,u2]
  intro s2 hk2 s4;simp at hk2;refine Jq [0,3,4] (λs=>s 5 = .bool (decide (48<=m)&&decide (m<=57))) ?_ ?_
  ·by_cases u1:48<=m <;>by_cases u2:m<=57 <;>simp[hk,s3,hk1,hk2,hi,hm,u1,u2]
  intro s5 hk5 s55;simp at hk5;generalize(decide (97<=m)&&decide (m<=122))=L at *;generalize(decide (48<=m)&&decide (m<=57))=D at *;cases L
  ·cases D
   ·rw[Bool.and_false,Bool.or_false,Bool.false_and]at hJ;subst hJ;by_cases h0:i=0
    ·subst h0;simp[s3,hk1,hk2,hk5,s4,s55];refine hret _ _ _ ?_;simp
    ·simp[s3,hk1,hk2,hk5,s4,s55,h0];refine hret _ _ _ ?_;simp
   ·by_cases h0:i=0
    ·subst h0;simp at hJ;subst hJ;simp[s3,hk1,hk2,hk5,s4,s55];refine hret _ _ _ ?_;simp
    ·simp[h0]at hJ;simp[s3,hk1,hk2,hk5,s4,s55,hw,h0];exact hR _ (by simp[hk,hk1,hk2,hk5]) (by simp) hJ
  ·simp at hJ;simp[s3,hk1,hk2,hk5,s4,hw];exact hR _ (by simp[hk,hk1,hk2,hk5]) (by simp) hJ
 ·rintro st h R hk s3 hJ hh _ hX;simp at hk;rw[drop_eq_nil_of_le (by omega)]at hJ;refine Jq [] (λ_=>False) ?_ (λ_ _ h=>h.elim);simp[hk,s3];intro _;refine hX _ _ ?_;subst hJ;simp[hk,Hb]
theorem Sp(s:J9):Holds prog 285 [.str s] (λr=>r = .bool (W7 s)):=by
 refine Jp func285 Jrd rfl (by simp[K85]) ?_;simp[K85];refine Je (Jc5 s) (by simp) ?_;rintro r rfl;unfold W7 Kh;cases h1:Hb 0 s
 ·simp
 by_cases h2:0<s.length
 case neg=>
  have:s.length=0:=by omega
  simp[this]
 have h2':(1:Int)<=s.length:=by omega
 simp[h2,h2'];intro _;by_cases h3:s.length<=8
 case neg=>
  have h3':¬(s.length:Int)<=8:=by omega
  simp[h3']
 have h3':(s.length:Int)<=8:=by omega
 simp[h3',Int.not_lt.2 h3'];refine Je (J60 s) (by simp) ?_;rintro r rfl;simp
theorem Jkl(c:UInt8):((c.toNat:Int)==115)=(c==115):=by
 rw[Bool.eq_iff_iff];simp only[beq_iff_eq];constructor
 ·intro h;exact UInt8.toNat_inj.1 (by simp;omega)
 ·rintro rfl;rfl
theorem En(s:J9):Holds prog 205 [.str s] (λr=>r = .bool (Xp s)):=by
 refine Jp func205 Jt1 rfl (by simp[Tq]) ?_;simp[Tq];refine Je (J03 s) (by simp) ?_;rintro r rfl;unfold Xp;cases h1:W7 s
 ·simp
 obtain⟨h2,h3⟩:=J5e h1;simp;intro _;rw[Km (by omega)];have e:((s.length:Int) - 1).toNat=s.length - 1:=by omega
 simp[e];refine⟨by omega,by omega,?_⟩;exact Jkl _
theorem Pm(s:J9):Holds prog 140 [.str s] (λr=>r = .bool (Wb s)):=by
 refine Jp func140 Jqi rfl (by simp[K66]) ?_;simp[K66];refine Je (J03 s) (by simp) ?_;rintro r rfl;unfold Wb;cases h1:W7 s
 ·simp
 simp;refine Je (En s) (by simp) ?_;rintro r rfl;simp
theorem Dv(s:J9):Holds prog 260 [.str s] (λr=>r = .bool (Xp s)):=by
 refine Jp func260 Jom rfl (by simp[K5j]) ?_;simp[K5j];refine Je (Sp s) (by simp) ?_;rintro r rfl;unfold Xp;cases h1:W7 s
 ·simp
 obtain⟨h2,h3⟩:=J5e h1;simp;intro _;rw[Km (by omega)];have e:((s.length:Int) - 1).toNat=s.length - 1:=by omega
 simp[e];refine⟨by omega,by omega,?_⟩;exact Jkl _
theorem J05(s:J9):Holds prog 216 [.str s] (λr=>r = .bool (Wb s)):=by
 refine Jp func216 Jta rfl (by simp[K82]) ?_;simp[K82];refine Je (Sp s) (by simp) ?_;rintro r rfl;unfold Wb;cases h1:W7 s
 ·simp
 simp;refine Je (Dv s) (by simp) ?_;rintro r rfl;simp
def Nu:Jl:= ⟨21,[(.c 6 true 2)],(Zq [ZB 3 0,ZR 6] (Zq [Zf 8 0 3,Zl 9 false 1 8,Zv 10 1,Zc 11 63 [.t 9,.t 10],Zv 7 11] (.seq (Zq [Zv 12 7,Zk 13 .lss 12 0] (.cond (.t 13) (Zq [Zv 14 2,Zc 15 99 [(.k (.int .i64 0)),.t 14],Zs 2 6 15] .ret) .skip)) (Zq [Zf 16 1 3,Zl 17 false 1 16,Zv 18 7,Zx 19 2 17 18,Zl 20 true 2 19,Zs 2 6 20] .ret))))⟩
theorem Je8:Jh prog f305=some Nu:=by kernel_rfl
def K45:Jl:= ⟨19,[.t 2],(Zq [Zi 2 0] (Zq [Zi 3 0] (.seq (Zq [Zi 4 0] (.blk 0 (.loop (.seq (Zq [Zv 5 4,Zv 6 0,Zn 7 6,Zb 8 .lss 5 7] (Zw 8 0)) (.seq (.blk 1 (Zq [Zv 11 0,Zv 12 4,Zx 13 4 11 12,Zf 14 1 13,Zl 15 false 1 14] (.cond (.t 15) (.reg [Zv 16 3,Zk 17 .add 16 1,Zv 3 17]) .skip))) (.reg [Zv 9 4,Zk 10 .add 9 1,Zv 4 10])))))) (Zq [Zv 18 3,Zv 2 18] .ret))))⟩
theorem Js1:Jh prog f265=some K45:=by kernel_rfl
theorem Kj.bwS {b:Nat}{l:List J9}{v:AV}{h:J8}{n:Nat}(x:Kj b 1 (Jf l) v h n):bw v h=some (.sl 1 (Jf l)):=by
 rcases x with ⟨h1,rfl⟩|⟨i,_,_,rfl,hb⟩
 ·rw[h1];rfl
 ·simp[hb,List.take_of_length_le]
def Y8(E:Xo):List Jc:=E.map (·.2)
theorem E2{P:Program}{f:FuncId}{xs xs':List AV}{h:J8}{n:Nat}{Qr:AV->Prop}{K:AV->J8->Nat->Prop}(hh:Holds P f xs' Qr)(hb:U5 xs h=some xs')(hK:∀r,Qr r->K (dr r) h n):X9 P f xs h n K:=by refine⟨hh.1,λbase w0 w L F vs H hv=>?_⟩;refine(hh.2 w vs (Fe H xs hv hb)).mono ?_;rintro e w' ⟨v,r,S,rfl,hq,hcl,hbel,hr,hnd,hS⟩;obtain⟨g1,g2⟩:=H.after hbel;exact⟨v,dr r,L,n,F,h,rfl,g1,g2,Jls _ _ _ (Jd1 r v S hcl (λb hb ho=>absurd (H.own_lt ho) (by have:=(hS b hb).1;omega)) hr),hK r hq⟩
theorem Ez{P:Program}{f:FuncId}{xs xs':List AV}{h:J8}{n:Nat}{Qr:AV->Prop}{K:AV->J8->Nat->Prop}(hh:Holds P f xs' Qr)(hb:U5 xs h=some xs')(hk:∀r,Qr r->K (dr r) h n):X9 P f xs h n (hK h K):=
 E2 hh hb λr hr=>⟨Y6.refl h,hk r hr⟩
@[simp] theorem Jia(x:Jc):Yw (Jb x)=Jb x:=by simp[Jb]
@[simp] theorem K0i(l:List Jc):Yl (l.map Jb)=l.map Jb:=by rw[Wx,List.map_map];exact List.map_congr_left λx _=>Jia x
@[simp] theorem K3d(x:Jc)(h:J8):Va (Jb x) h=some (Jb x,h):=by simp[Jb]
theorem Kj.bwA {b:Nat}{l:List Jc}{v:AV}{h:J8}{n:Nat}(x:Kj b 2 (l.map Jb) v h n):bw v h=some (.sl 2 (l.map Jb)):=by
 rcases x with ⟨h1,rfl⟩|⟨i,_,_,rfl,hb⟩
 ·have:l=[]:=by simpa using h1
  subst this;simp
 ·simp[hb,List.take_of_length_le]
def Cq(v:AV)(l:List J9)(h:J8)(n:Nat):Prop:=v = .sl 1 (Jf l)\/∃b,Kj b 1 (Jf l) v h n
def Rs(v:AV)(l:List Jc)(h:J8)(n:Nat):Prop:=v = .sl 2 (l.map Jb)\/∃b,Kj b 2 (l.map Jb) v h n
theorem Cq.bw {v:AV}{l:List J9}{h h':J8}{n:Nat}(x:Cq v l h n) (hh:∀id,id<n->h' id=h id):Go.Proofs.YtoclolkigjbcgaaGreat.bw v h'=some (.sl 1 (Jf l)):=by
 rcases x with rfl|⟨b,x⟩
 ·simp
 ·exact(x.keep (Nat.le_refl _) λid _ hid _=>hh id hid).bwS
theorem Cq.cell {v:AV}{l:List J9}{h:J8}{n:Nat}(x:Cq v l h n):Kb v=true:=by rcases x with rfl|⟨b,⟨_,rfl⟩|⟨i,_,_,rfl,_⟩⟩ <;>rfl
theorem Rs.cell {v:AV}{l:List Jc}{h:J8}{n:Nat}(x:Rs v l h n):Kb v=true:=by rcases x with rfl|⟨b,⟨_,rfl⟩|⟨i,_,_,rfl,_⟩⟩ <;>rfl
theorem Jdz{x:J9}{E:Xo} : (Xi (λy=>y==x) (Kl E) 0 = -1/\∀d,Kp d E x=d)\/∃j:Nat,∃hj:j<E.length,Xi (λy=>y==x) (Kl E) 0=(j:Int)/\∀d,Kp d E x=(E[j]).2:=by
 have key:∀(E:Xo) (k:Nat),(Xi (λy=>y==x) (Kl E) k = -1/\∀d,Kp d E x=d)\/∃j:Nat,∃hj:j<E.length,Xi (λy=>y==x) (Kl E) k=((k+j:Nat):Int)/\∀d,Kp d E x=(E[j]).2:=by
  intro E
  induction E with
  |nil=>intro k;exact .inl ⟨rfl,λ_=>rfl⟩
  |cons e E ih=>
   intro k;simp only[Kl,map_cons,Xi,Kp,List.find?_cons];cases hb:e.1==x
   ·simp only[Bool.false_eq_true,if_false];rcases ih (k+1)with ⟨h1,h2⟩|⟨j,hj,h1,h2⟩
    ·exact .inl ⟨h1,h2⟩
    ·exact .inr ⟨j+1,by simp;omega,by rw[Kl]at h1;rw[h1];congr 1;omega,by simpa[Kp]using h2⟩
   ·exact .inr ⟨0,by simp,by simp,λd=>by simp⟩
 simpa using key E 0
theorem J5t{E:Xo}{vN vL:AV}{h:J8}{n N:Nat}{x:J9}(A:Cq vN (Kl E) h n)(B:Rs vL (Y8 E) h n)(hE:E.length<=1048576){K:AV->J8->Nat->Prop}
 (hK:∀w h' n',n<=n'->(∀id,id<n->h' id=h id)->Kb w=true->(∀H:J8,(∀id,id<n'->H id=h' id)->bw w H=some (.sl 1 (Ji (Kp (Jr 0 N) E x).Coeffs)))->K (.agg [.int .i64 (Kp (Jr 0 N) E x).Const,w]) h' n') :
 X9 prog 305 [.agg [vN,vL],.str x,i64 N] h n K:=by
 refine U8 func305 Je8 rfl (by simp[Nu]) ?_;have ne:¬n=n+1/\¬n+1=n/\¬n=n+1+1/\¬n+1+1=n/\¬n+1=n+1+1/\¬n+1+1=n+1:=by omega
 have fr:∀id,id<n->¬id=n/\¬id=n+1/\¬id=n+1+1/\¬id=n+2:=by intro id _;omega
 have cN:=A.cell;have cL:=B.cell;have hbN:∀y z,bw vN (upd (upd h n y) (n+1) z)=some (.sl 1 (Jf (Kl E))):=λy z=>A.bw λid hid=>by simp[fr id hid]
 simp[Nu,-Kb,cN,cL];refine Je (E3 (Kl E) x) (by simp[hbN]) ?_;rintro r rfl;rcases Jdz (x:=x) (E:=E)with ⟨h1,h2⟩|⟨j,hj,h1,h2⟩
 ·rw[h1];rw[h2]at hK;simp;refine Je (Gi 0 N) (by simp) ?_;rintro r rfl;simp[Ja];refine hK _ _ _ (by omega) (λid hid=>by simp[fr id hid]) rfl λH hH=>?_
  have:=hH (n+2) (by omega);simp at this;simp[this]
 ·rw[h1];rw[h2]at hK;have hj0:¬(j:Int)<0:=by omega
  have hjv:j<(Y8 E).length:=by simpa[Y8]using hj
  have hve:(Y8 E)[j]=(E[j]).2:=by simp[Y8]
  rcases B with rfl|⟨b,⟨hz,rfl⟩|⟨i,_,hin,rfl,hib⟩⟩
  ·simp[hjv,hj0,hve,Jb];exact hK _ _ _ (by omega) (λid hid=>by simp[fr id hid]) rfl λH hH=>by simp
  ·have:E=[]:=by simpa[Y8]using hz
   subst this;simp at hj
  ·have ni:=fr i hin;simp[hjv,hj0,ni,hib,hve,Jb];exact hK _ _ _ (by omega) (λid hid=>by simp[fr id hid]) rfl λH hH=>by simp
theorem J8x{E:Xo}{vN vL:AV}{h:J8}{n N:Nat}{x:J9}{d:Jc}(A:Cq vN (Kl E) h n)(B:Rs vL (Y8 E) h n)(hx:x∈Kl E){K:AV->J8->Nat->Prop}
 (hK:∀h' n',n<=n'->(∀id,id<n->h' id=h id)->K (.agg (Jb (Kp d E x))) h' n') :
 X9 prog 305 [.agg [vN,vL],.str x,i64 N] h n K:=by
 refine U8 func305 Je8 rfl (by simp[Nu]) ?_;have ne:¬n=n+1/\¬n+1=n/\¬n=n+1+1/\¬n+1+1=n/\¬n+1=n+1+1/\¬n+1+1=n+1:=by omega
 have fr:∀id,id<n->¬id=n/\¬id=n+1/\¬id=n+1+1/\¬id=n+2:=by intro id _;omega
 have cN:=A.cell;have cL:=B.cell;have hbN:∀y z,bw vN (upd (upd h n y) (n+1) z)=some (.sl 1 (Jf (Kl E))):=λy z=>A.bw λid hid=>by simp[fr id hid]
 simp[Nu,-Kb,cN,cL];refine Je (E3 (Kl E) x) (by simp[hbN]) ?_;rintro r rfl;rcases Jdz (x:=x) (E:=E)with ⟨h1,h2⟩|⟨j,hj,h1,h2⟩
 ·obtain⟨l,_,hl⟩:=Pb Jj hx;have e1:=hl Jj [];have e2:=hl ⟨1,[]⟩ [];rw[List.append_nil]at e1 e2;rw[h2]at e1 e2;rw[<-e1]at e2;simp[Jj]at e2
 ·rw[h1];rw[h2]at hK;have hj0:¬(j:Int)<0:=by omega
  have hjv:j<(Y8 E).length:=by simpa[Y8]using hj
  have hve:(Y8 E)[j]=(E[j]).2:=by simp[Y8]
  rcases B with rfl|⟨b,⟨hz,rfl⟩|⟨i,_,hin,rfl,hib⟩⟩
  ·simp[hjv,hj0,hve,Jb];exact hK _ _ (by omega) (λid hid=>by simp[fr id hid])
  ·have:E=[]:=by simpa[Y8]using hz
   subst this;simp at hj
  ·have ni:=fr i hin;simp[hjv,hj0,ni,hib,hve,Jb];exact hK _ _ (by omega) (λid hid=>by simp[fr id hid])
theorem Jbt(l:List X4):Holds prog 265 [.sl 4 (l.map Kd)] (λr=>r=i64 (Yf l)):=by
 refine Vm func265 rfl rfl λhl=>?_
 simp at hl;refine Jp func265 Js1 rfl (by simp[K45]) ?_;simp[K45];generalize hT:Yf l=T;refine O7 [0] 4 l.length (λi s=>∃c:Nat,c<=i/\s 3 = .int .i64 c/\c+Yf (l.drop i)=T) (by exact hl) (by simp) ⟨0,by omega,by simp,by simpa using hT⟩ ?_ ?_
 ·rintro i st h R hi hg hk s4 hw ⟨c,hc,s3,hJ⟩ hh hR _ _;simp at hk hh;rw[drop_eq_getElem_cons hi]at hJ;unfold Yf at hJ;rw[List.filter_cons]at hJ;have hw2:IntKind.i64.wrap ((c:Int)+1)=(c:Int)+1:=Km (by unfold Jd at hl;omega);cases hc2:(l[i]).Cons
  ·rw[hc2]at hJ;simp[hk,s4,hi,hw,Kd,hc2];try intro _
   exact hR _ (by simp[hk]) (by simp) ⟨c,by omega,by simp[s3],by simpa[Yf]using hJ⟩
  ·rw[hc2]at hJ;simp only[if_true,List.length_cons]at hJ;simp[hk,s4,hi,s3,hw,hw2,Kd,hc2];try intro _
   exact hR _ (by simp[hk]) (by simp) ⟨c+1,by omega,by simp,by unfold Yf;omega⟩
 ·rintro st h R hk s4 ⟨c,hc,s3,hJ⟩ hh _ hX;simp at hk hh;rw[drop_eq_nil_of_le (by omega)]at hJ;simp[Yf]at hJ;subst hJ;simp[hk,s4];try intro _
  refine hX _ _ ?_;simp[s3]
def K4x:Jl:= ⟨16,[(.c 5 true 2)],(Zq [ZR 5] (Zq [Zl 7 false 1 1,Zl 8 false 1 2,Zc 9 203 [.t 7,.t 8],ZR 6,Zs 2 6 9] (Zq [Zl 10 false 1 3,Zv 11 0,Zl 12 true 2 6,⟨no,.mput (.t 10) (.t 11) (.t 12),no⟩] (Zq [Zl 13 false 1 1,Zk 14 .add 13 1,Zs 1 1 14] (Zq [Zl 15 true 2 6,Zs 2 5 15] .ret)))))⟩
theorem Jr6:Jh prog f202=some K4x:=by kernel_rfl
def K7b:Jl:= ⟨12,[],(Zq [ZB 2 0] (.draw (.op (Zf 3 0 1) (.op (Zf 4 1 3) (.op (Zl 5 false 1 4) (.op (Zl 6 true 2 2) (.op (Zc 7 86 [.t 6]) (.hop (ZS 8 2 7) [(.ld false 1 (.t 4)),(.fld 1 (.t 3)),(.fld 0 (.t 1))] (.hop (ZA 9 32 2 5 8) [] (.op (Zf 10 0 1) (.op (Zf 11 1 10) (.hop (Zs 1 11 9) [] .fin))))))))))))⟩
theorem Joq:Jh prog f204=some K7b:=by kernel_rfl
structure Bt where
 m:Nat
 d:Nat
 s:Nat
 x:Nat
def Xj(N:Nat)(vR vP vA:AV):List AV:=[.int .i64 N,vR,vP,vA,.int .i64 0,.nil 1]
def N7(N:Nat)(I:Bt)(st:MS)(h:J8)(n:Nat):Prop:=∃vR vP vA,h I.m=some ⟨true,6,[Xj N vR vP vA]⟩/\Kj I.x 2 (st.rows.map Ja) vR h n/\Kj I.x 2 (st.pars.map Ja) vP h n /\
 Kj I.x 1 (st.args.map Y3) vA h n/\(st.args=[]->vA = .nil 1)/\∀i k j l,vR = .ref i 0 k->vP = .ref j 0 l->i≠j
structure MI (p:Jo) (r:K0) (f:K3) (N:Nat) (I:Bt) (st:MS) (h:J8) (n:Nat):Prop where
 hp:h 0=some ⟨true,2,[Jg p]⟩
 hz:h 1=some ⟨true,6,[[.int .i64 0,.nil 2,.nil 2,.nil 1,.int .i64 0,.nil 1]]⟩
 hr:h 2=some ⟨true,7,[Ju r]⟩
 h3:h 3=some ⟨false,1,Jf f.Params⟩
 h4:h 4=some ⟨false,2,f.Pre.map Ja⟩
 hf:h 5=some ⟨true,4,[[.str f.Name,.ref 3 0 f.Params.length,.bool f.ListResult,.ref 4 0 f.Pre.length]]⟩
 hn:h 6=some ⟨true,1,[[.int .i64 N]]⟩
 lt:6<I.m/\I.m<I.d/\I.d<I.s/\I.s<I.x/\I.x<n
 hmp:h I.s=some ⟨true,1,[[.mp I.d]]⟩
 hnx:h I.x=some ⟨true,1,[[.int .i64 st.nx]]⟩
 map:Ov I.d st.E h n
 acc:N7 N I st h n
section
variable {p:Jo}{r:K0}{f:K3}{N:Nat}{I:Bt}{st st':MS}{h h':J8}{n n':Nat}
theorem N7.frame (A:N7 N I st h n) (hm:I.m<n) (hn:n<=n') (hh:∀id,id<n->h' id=h id):N7 N I st h' n':=by obtain⟨vR,vP,vA,g1,g2,g3,g4,g6,g5⟩:=A;exact⟨vR,vP,vA,by rw[hh _ hm,g1],g2.keep hn λid _ hid _=>hh id hid,g3.keep hn λid _ hid _=>hh id hid,g4.keep hn λid _ hid _=>hh id hid,g6,g5⟩
theorem MI.frame (M:MI p r f N I st h n) (hn:n<=n') (hh:∀id,id<n->h' id=h id):MI p r f N I st h' n':=by
 obtain⟨l1,l2,l3,l4,l5⟩:=M.lt;refine⟨?_,?_,?_,?_,?_,?_,?_,⟨l1,l2,l3,l4,by omega⟩,?_,?_,M.map.keep (by omega) hn hh,M.acc.frame (by omega) hn hh⟩
 ·rw[hh 0 (by omega),M.hp]
 ·rw[hh 1 (by omega),M.hz]
 ·rw[hh 2 (by omega),M.hr]
 ·rw[hh 3 (by omega),M.h3]
 ·rw[hh 4 (by omega),M.h4]
 ·rw[hh 5 (by omega),M.hf]
 ·rw[hh 6 (by omega),M.hn]
 ·rw[hh I.s (by omega),M.hmp]
 ·rw[hh I.x (by omega),M.hnx]
theorem MI.upd_acc (M:MI p r f N I st h n) (hE:st'.E=st.E) (hx:st'.nx=st.nx) (hn:n<=n') (bad:Nat->Prop) (hbad:∀id,bad id->I.x<id/\∀l,h id≠some ⟨false,1,Ji l⟩) (hh:∀id,id<n->id≠I.m->¬bad id->h' id=h id)
 (hacc:N7 N I st' h' n'):MI p r f N I st' h' n':=by
 obtain⟨l1,l2,l3,l4,l5⟩:=M.lt;have low:∀id,id<=I.x->id≠I.m->h' id=h id:=λid hid hne=>hh id (by omega) hne λhb=>by have:=(hbad id hb).1;omega
 refine⟨?_,?_,?_,?_,?_,?_,?_,⟨l1,l2,l3,l4,by omega⟩,?_,?_,?_,hacc⟩
 ·rw[low 0 (by omega) (by omega),M.hp]
 ·rw[low 1 (by omega) (by omega),M.hz]
 ·rw[low 2 (by omega) (by omega),M.hr]
 ·rw[low 3 (by omega) (by omega),M.h3]
 ·rw[low 4 (by omega) (by omega),M.h4]
 ·rw[low 5 (by omega) (by omega),M.hf]
 ·rw[low 6 (by omega) (by omega),M.hn]
 ·rw[low I.s (by omega) (by omega),M.hmp]
 ·rw[low I.x (by omega) (by omega),M.hnx,hx]
 ·rw[hE];obtain⟨es,h1,h2,h3⟩:=M.map;refine⟨es,h1,by rw[low I.d (by omega) (by omega),h2],λe he=>⟨by have:=(h3 e he).1;omega,?_⟩⟩;obtain⟨k1,k2⟩:=h3 e he;rw[hh e.q k1 (λg=>?_) λhb=>(hbad _ hb).2 _ k2,k2];obtain⟨vR,vP,vA,g1,_⟩:=M.acc;rw[g,g1]at k2;simp at k2
theorem MI.upd_map (M:MI p r f N I st h n) {x:J9}{l:Jc}{q:Nat}(hE:st'.E=G7 st.E x l) (hR:st'.rows=st.rows) (hP:st'.pars=st.pars) (hA:st'.args=st.args) (hn:n<=n') (hq:q<n') (hqb:h' q=some ⟨false,1,Ji l.Coeffs⟩)
 (hx':h' I.x=some ⟨true,1,[[.int .i64 st'.nx]]⟩)
 (hh:∀id,id<n->id≠I.d->id≠I.x->h' id=h id) (hm:∀es,h I.d=some ⟨true,0,es.map Vc.row⟩->h' I.d=some ⟨true,0,(Bw es x l q).map Vc.row⟩):MI p r f N I st' h' n':=by
 obtain⟨l1,l2,l3,l4,l5⟩:=M.lt;refine⟨?_,?_,?_,?_,?_,?_,?_,⟨l1,l2,l3,l4,by omega⟩,?_,hx',?_,?_⟩
 ·rw[hh 0 (by omega) (by omega) (by omega),M.hp]
 ·rw[hh 1 (by omega) (by omega) (by omega),M.hz]
 ·rw[hh 2 (by omega) (by omega) (by omega),M.hr]
 ·rw[hh 3 (by omega) (by omega) (by omega),M.h3]
 ·rw[hh 4 (by omega) (by omega) (by omega),M.h4]
 ·rw[hh 5 (by omega) (by omega) (by omega),M.hf]
 ·rw[hh 6 (by omega) (by omega) (by omega),M.hn]
 ·rw[hh I.s (by omega) (by omega) (by omega),M.hmp]
 ·obtain⟨es,h1,h2,h3⟩:=M.map;refine⟨Bw es x l q,by rw[Jbf,h1,hE],hm es h2,λe he=>?_⟩;rcases J4m he with he|rfl
  ·obtain⟨k1,k2⟩:=h3 e he;refine⟨by omega,?_⟩;rw[hh e.q k1 (λg=>?_) (λg=>?_),k2]
   ·rw[g,h2]at k2;simp at k2
   ·rw[g,M.hnx]at k2;simp at k2
  ·exact⟨hq,hqb⟩
 ·obtain⟨vR,vP,vA,g1,g2,g3,g4,g6,g5⟩:=M.acc;rw[<-hR]at g2;rw[<-hP]at g3;rw[<-hA]at g4 g6;exact⟨vR,vP,vA,by rw[hh I.m (by omega) (by omega) (by omega),g1],g2.keep hn λid hb hid _=>hh id hid (by omega) (by omega),g3.keep hn λid hb hid _=>hh id hid (by omega) (by omega),g4.keep hn λid hb hid _=>hh id hid (by omega) (by omega),g6,g5⟩
end
def Qs(st:MS)(x:J9)(l:Jc)(k:Nat):MS:=⟨G7 st.E x l,k,st.rows,st.pars,st.args⟩
def Ic(st:MS)(l:Jc):MS:=⟨st.E,st.nx,st.rows++[l],st.pars,st.args⟩
def Dp(st:MS)(l:Jc):MS:=⟨st.E,st.nx,st.rows,st.pars++[l],st.args⟩
def Vg(st:MS)(l:List Jc):MS:=⟨st.E,st.nx,st.rows,st.pars,st.args++[l]⟩
section
variable {p:Jo}{r:K0}{f:K3}{N:Nat}{I:Bt}{st:MS}{h:J8}{n:Nat}{K:AV->J8->Nat->Prop}
theorem J1y(M:MI p r f N I st h n)(x:J9)(hx:st.nx<=100000000)
 (hK:∀q h' n',n<=q->q<n'->(∀id,id<n->id≠I.d->id≠I.x->h' id=h id)->h' q=some ⟨false,1,Ji (Ki st.nx N).Coeffs⟩->MI p r f N I (Qs st x (Ki st.nx N) (st.nx+1)) h' n'->K (Id (Ki st.nx N) q) h' n') :
 X9 prog 202 [.str x,.ptr I.x 0 0,.ptr 6 0 0,.ptr I.s 0 0] h n K:=by
 obtain⟨l1,l2,l3,l4,l5⟩:=M.lt;refine U8 func202 Jr6 rfl (by simp[K4x]) ?_
 have ne:¬I.x=n/\¬I.x=n+1/\¬I.x=n+1+1/\¬I.d=n/\¬I.d=n+1/\¬I.d=n+1+1/\¬I.s=n/\¬I.s=n+1/\¬I.s=n+1+1/\¬I.d=I.x/\¬I.x=I.d/\¬I.s=I.d/\¬I.s=I.x/\¬6=n/\¬6=n+1/\¬6=n+1+1/\¬n=6/\¬n=5/\¬n=4/\¬5=n/\¬4=n /\
  ¬n=I.x/\¬n+1=I.x/\¬n+1+1=I.x/\¬n=I.d/\¬n+1=I.d/\¬n+1+1=I.d/\¬n=n+1/\¬n+1=n/\¬n=n+1+1/\¬n+1+1=n/\¬n+1=n+1+1:=by omega
 have hw:IntKind.i64.wrap ((st.nx:Int)+1)=(st.nx:Int)+1:=Km (by omega);obtain⟨es,hE,hd,hes⟩:=M.map;simp[K4x,M.hnx,M.hn,ne];refine Je (Jhg st.nx N) (by simp) ?_;rintro r rfl;simp[Ja,M.hnx,M.hmp,ne,hd,hw];refine hK (n+1) _ _ (by omega) (by omega) ?_ ?_ ?_
 ·intro id hid h1 h2;have:¬id=n/\¬id=n+1/\¬id=n+1+1:=by omega
  simp[this,h1,h2]
 ·simp[ne]
 ·refine M.upd_map (x:=x) (l:=Ki st.nx N) (q:=n+1) rfl rfl rfl rfl (by omega) (by omega) (by simp[ne]) (by simp[ne,Qs]) ?_ ?_
  ·intro id hid h1 h2;have:¬id=n/\¬id=n+1/\¬id=n+1+1:=by omega
   simp[this,h1,h2]
  ·intro es' hd';rw[hd]at hd';simp only[Option.some.injEq,Yi.mk.injEq,true_and]at hd';rw[<-J2t,<-hd'];simp[ne,Id]
theorem Md(M:MI p r f N I st h n){l:Jc}{q:Nat}(hl:l.Coeffs.length<=1048576)(hqn:q<n)(hq:h q=some ⟨false,1,Ji l.Coeffs⟩)(hrl:st.rows.length<=1000000)
 (hK:∀h' n',n<=n'->(∀id,id<n->id≠I.m->(∀l,h id≠some ⟨false,2,l⟩)->h' id=h id)->MI p r f N I (Ic st l) h' n'->K (.tup []) h' n') :
 X9 prog 204 [Id l q,.ptr I.m 0 0] h n K:=by
 obtain⟨l1,l2,l3,l4,l5⟩:=M.lt;refine U8 func204 Joq rfl (by simp[K7b]) ?_;have ne:¬I.m=n/\¬I.m=n+1/\¬I.m=n+1+1/\¬I.m=n+1+1+1/\¬I.m=n+2/\¬n=I.m/\¬n+1=I.m/\¬n+1+1=I.m/\¬n+2=I.m/\¬n+1+1+1=I.m/\¬q=n/\¬q=n+1/\¬n=n+1/\¬n+1=n/\¬n=n+1+1/\¬n+1+1=n/\¬n+1=n+1+1/\¬n+2=n+1/\¬n+1=n+2/\¬n+3=I.m/\¬I.m=n+3:=by omega
 obtain⟨vR,vP,vA,g1,g2,g3,g4,g6,g5⟩:=M.acc;simp[K7b,Id,g1,Xj,ne];refine Jx (N2 l hl) (by simp[Jb,hq,ne]) ?_;rintro r rfl;rcases g2 with ⟨hz,rfl⟩|⟨i,hi,hin,rfl,hib⟩
 ·have hz':st.rows=[]:=by simpa using hz
  simp[Ja,g1,Xj,ne];refine⟨by unfold Jd;omega,?_⟩;refine hK _ _ (by omega) ?_ (M.upd_acc (st':=Ic st l) rfl rfl (by omega) (λ_=>False) (λ_ h=>h.elim) ?_ ?_)
  ·intro id hid hm _;have:¬id=n/\¬id=n+1/\¬id=n+1+1/\¬id=n+1+1+1:=by omega
   simp[this,hm]
  ·intro id hid hm _;have:¬id=n/\¬id=n+1/\¬id=n+1+1/\¬id=n+1+1+1:=by omega
   simp[this,hm]
  ·have fr:∀id,id<n->I.x<id->¬id=n/\¬id=n+1/\¬id=n+1+1/\¬id=n+1+1+1/\¬id=I.m:=by intro id _ _;omega
   refine⟨.ref (n+3) 0 1,vP,vA,by simp[Xj],.inr ⟨n+3,by omega,by omega,by simp[Ic,hz'],by simp[Ic,hz',Ja,ne]⟩,g3.keep (by omega) λid hb hid _=>by simp[fr id hid hb],g4.keep (by omega) λid hb hid _=>by simp[fr id hid hb],g6,?_⟩;intro i k j l' e1 e2;simp only[AV.ref.injEq]at e1;rcases g3 with ⟨_,e⟩|⟨j',_,hj',e,_⟩
   ·rw[e]at e2;cases e2
   ·rw[e]at e2;simp only[AV.ref.injEq]at e2;omega
 ·have hi1:st.rows.length<1000001:=by omega
  have ni:¬i=n/\¬i=n+1/\¬i=n+1+1/\¬i=n+1+1+1/\¬i=I.m/\¬I.m=i/\¬n=i/\¬n+1=i/\¬n+1+1=i/\¬n+1+1+1=i:=by omega
  simp[Ja,g1,Xj,ne,ni,hib];refine⟨by unfold Jd;omega,?_⟩;refine hK _ _ (by omega) ?_ (M.upd_acc (st':=Ic st l) rfl rfl (by omega) (λid=>id=i) (λid e=>⟨by omega,λl hl=>by rw[e,hib]at hl;simp at hl⟩) ?_ ?_)
  ·intro id hid hm h2;have:¬id=n/\¬id=n+1/\¬id=n+1+1/\¬id=n+1+1+1:=by omega
   have hii:¬id=i:=λe=>h2 _ (by rw[e];exact hib)
   simp[this,hm,hii]
  ·intro id hid hm hii;have:¬id=n/\¬id=n+1/\¬id=n+1+1/\¬id=n+1+1+1:=by omega
   simp[this,hm,hii]
  ·have fr:∀id,id<n->I.x<id->¬id=n/\¬id=n+1/\¬id=n+1+1/\¬id=n+1+1+1/\¬id=I.m:=by intro id _ _;omega
   refine⟨.ref (n+3) 0 (st.rows.length+1),vP,vA,by simp[Xj],.inr ⟨n+3,by omega,by omega,by simp[Ic],by simp[Ic,Ja,ne]⟩,g3.keep (by omega) λid hb hid e=>?_,g4.keep (by omega) λid hb hid e=>?_,g6,?_⟩
   ·have hii:¬id=i:=λe'=>g5 i _ id _ rfl e e'.symm
    simp[fr id hid hb,hii]
   ·have hii:¬id=i:=by
     intro e';rcases g4 with ⟨_,e2⟩|⟨j',_,_,e2,hjb⟩
     ·rw[e2]at e;cases e
     ·rw[e2]at e;simp only[AV.ref.injEq]at e;rw[e.1,e',hib]at hjb;simp at hjb
    simp[fr id hid hb,hii]
   ·intro i' k j l' e1 e2;simp only[AV.ref.injEq]at e1;rcases g3 with ⟨_,e⟩|⟨j',_,hj',e,_⟩
    ·rw[e]at e2;cases e2
    ·rw[e]at e2;simp only[AV.ref.injEq]at e2;omega
end
def K7l:Jl:= ⟨5,[.t 2],(Zq [Zt 2 false] (Zq [Zv 3 0,Zc 4 102 [.t 3,(.k (.int .i64 (-1000000))),(.k (.int .i64 1000000))],Zv 2 4] .ret))⟩
theorem Jrp:Jh prog f295=some K7l:=by kernel_rfl
def Tt:Jl:= ⟨5,[.t 2],(Zq [Zt 2 false] (Zq [Zv 3 0,Zc 4 183 [.t 3,(.k (.int .i64 (-1000000))),(.k (.int .i64 1000000))],Zv 2 4] .ret))⟩
theorem Jn7:Jh prog f318=some Tt:=by kernel_rfl
def K4u:Jl:= ⟨18,[.t 2],(Zq [Zt 2 false] (.seq (Zq [Zv 5 0,Zn 6 5,Zi 7 0] (.blk 0 (.loop (Zq [Zb 8 .lss 7 6] (.seq (Zw 8 0) (.seq (.blk 1 (Zq [Zv 9 7,Zx 10 1 5 7,Zl 11 false 1 10,Zv 3 9,Zv 4 11] (Zq [Zv 12 0,Zv 13 3,Zo 14 (.slc false 1 (.t 12) Option.none (some (.t 13))),Zv 15 4,Zc 16 72 [.t 14,.t 15]] (.cond (.t 16) (Zq [Zt 2 false] .ret) .skip)))) (.reg [Zk 17 .add 7 1,Zv 7 17]))))))) (Zq [Zt 2 true] .ret)))⟩
theorem Jt0:Jh prog f141=some K4u:=by kernel_rfl
def a218:Jl:= ⟨18,[.t 2],(Zq [Zt 2 false] (.seq (Zq [Zi 3 0] (.blk 0 (.loop (.seq (Zq [Zv 4 3,Zv 5 0,Zn 6 5,Zb 7 .lss 4 6] (Zw 7 0)) (.seq (.blk 1 (.seq (.draw (.op (Zv 10 0) (.op (Zv 11 3) (.op (Zo 12 (.slc false 1 (.t 10) Option.none (some (.t 11)))) (.op (Zv 13 0) (.op (Zv 14 3) (.op (Zx 15 1 13 14) (.op (Zl 16 false 1 15) (.op (Zc 17 224 [.t 12,.t 16]) .fin))))))))) (.cond (.t 17) (Zq [Zt 2 false] .ret) .skip))) (.reg [Zv 8 3,Zk 9 .add 8 1,Zv 3 9])))))) (Zq [Zt 2 true] .ret)))⟩
theorem Jma:Jh prog f218=some a218:=by kernel_rfl
def K79:Jl:= ⟨8,[.t 3],(Zq [Zt 3 false] (Zq [Zl 4 false 1 1,Zv 5 0,Zc 6 72 [.t 4,.t 5],ZN 7 6,Zv 3 7] .ret))⟩
theorem Ju5:Jh prog f296=some K79:=by kernel_rfl
def K5a:Jl:= ⟨9,[.t 4],(Zq [ZB 3 1,Zt 4 false] (Zq [Zv 5 0,Zo 6 (.mkf (.func 296) [] [.t 3]),Zc 7 69 [.t 5,.t 6],ZN 8 7,Zv 4 8] .ret))⟩
theorem Js6:Jh prog f238=some K5a:=by kernel_rfl
def K3y:Jl:= ⟨29,[.t 4],(Zq [Zz 4 1] (Zq [Zo 7 (.bsl 1 []),Zv 5 7] (.seq (Zq [Zi 6 0] (.blk 0 (.loop (.seq (Zq [Zv 8 6,Zv 9 0,Zn 10 9,Zb 11 .lss 8 10] (Zw 11 0)) (.seq (.blk 1 (Zq [Zv 14 1,Zv 15 0,Zv 16 6,Zx 17 1 15 16,Zl 18 false 1 17,Zc 19 224 [.t 14,.t 18],ZN 20 19] (.cond (.t 20) (.reg [Zv 21 5,Zv 22 0,Zv 23 6,Zx 24 1 22 23,Zl 25 false 1 24,ZS 26 1 25,ZA 27 16 1 21 26,Zv 5 27]) .skip))) (.reg [Zv 12 6,Zk 13 .add 12 1,Zv 6 13])))))) (Zq [Zv 28 5,Zv 4 28] .ret))))⟩
theorem Jog:Jh prog f137=some K3y:=by kernel_rfl
theorem Jkb:Jh prog f69=some (Dz 150):=by kernel_rfl
theorem Je7:Jh prog f150=some (Bl false 1):=by kernel_rfl
theorem Jof:Jh prog f297=some (Dz 323):=by kernel_rfl
theorem Jrj:Jh prog f323=some (Bl true 2):=by kernel_rfl
theorem J5g{P:Program}{s:Jm}{h:J8}{n:Nat}{Q:Xb}{ks:List Kt}{c:Nat}{e:AC}(hc:s c = .bool false)(h1:Jt P ks .normal s h n Q):rC P (.cond (.t c) e .skip) ks s h n Q:=by rw[C5];have:ev s (.t c) = .bool false:=hc;rw[this];simpa using h1
theorem Jku(n:Int):Holds prog 295 [i64 n] (λr=>r = .bool (H8 n)):=by refine Jp func295 Jrp rfl (by simp[K7l]) ?_;simp[K7l];refine Je (O4 n (-1000000) 1000000) (by simp) ?_;rintro r rfl;simp;rfl
theorem Jdb(n:Int):Holds prog 318 [i64 n] (λr=>r = .bool (H8 n)):=by refine Jp func318 Jn7 rfl (by simp[Tt]) ?_;simp[Tt];refine Je (Gb n (-1000000) 1000000) (by simp) ?_;rintro r rfl;simp;rfl
theorem J17(l:List J9):Holds prog 141 [.sl 1 (Jf l)] (λr=>r = .bool (Q5 l)):=by
 refine Vm func141 rfl rfl λhl=>?_
 simp at hl;refine Jp func141 Jt0 rfl (by simp[K4u]) ?_;simp[K4u];intro _;unfold Q5;generalize hB:O3 [] l=B;refine O7 [0,5,6] 7 l.length (λi _=>O3 (l.take i) (l.drop i)=B) hl (by simp) (by simpa using hB) ?_ ?_
 ·rintro i st h R hi hg hk s7 hw hJ hh hR hret _;simp at hk;rw[drop_eq_getElem_cons hi]at hJ;simp only[O3]at hJ;rw[List.take_append_getElem hi]at hJ;simp[hk,s7,hi,U0,Vz];refine⟨by omega,?_⟩;have ht:List.take i (Jf l)=Jf (l.take i):=by simp[Jf]
  refine Je (Nl (l.take i) (l[i]'hi)) (by simp[ht]) ?_;rintro r rfl;cases hc:K6 (l.take i) l[i]
  ·rw[hc]at hJ;simp at hJ;simp[s7,hw];exact hR _ (by simp[hk]) (by simp) hJ
  ·rw[hc]at hJ;simp at hJ;simp;refine hret _ _ _ ?_;simp[hJ]
 ·rintro st h R hk s7 hJ hh _ hX;simp at hk;rw[drop_eq_nil_of_le (by omega)]at hJ;simp[hk,s7];refine hX _ _ ?_;simp[<-hJ,O3]
theorem J01(l:List J9):Holds prog 218 [.sl 1 (Jf l)] (λr=>r = .bool (Q5 l)):=by
 refine Vm func218 rfl rfl λhl=>?_
 simp at hl;refine Jp func218 Jma rfl (by simp[a218]) ?_;simp[a218];unfold Q5;generalize hB:O3 [] l=B;refine O7 [0] 3 l.length (λi _=>O3 (l.take i) (l.drop i)=B) hl (by simp) (by simpa using hB) ?_ ?_
 ·rintro i st h R hi hg hk s3 hw hJ hh hR hret _;simp at hk;rw[drop_eq_getElem_cons hi]at hJ;simp only[O3]at hJ;rw[List.take_append_getElem hi]at hJ;simp[hk,s3,hi,U0,Vz];intro _;refine⟨by omega,?_⟩;have ht:List.take i (Jf l)=Jf (l.take i):=by simp[Jf]
  refine Jx (J5s (l.take i) (l[i]'hi)) (by simp[ht]) ?_;rintro r rfl;cases hc:K6 (l.take i) l[i]
  ·rw[hc]at hJ;simp at hJ;simp[s3,hw];exact hR _ (by simp[hk]) (by simp) hJ
  ·rw[hc]at hJ;simp at hJ;simp;refine hret _ _ _ ?_;simp[hJ]
 ·rintro st h R hk s3 hJ hh _ hX;simp at hk;rw[drop_eq_nil_of_le (by omega)]at hJ;simp[hk,s3];intro _;refine hX _ _ ?_;simp[<-hJ,O3]
theorem Ji8(l scope:List J9):(l.any λs => !K6 scope s) = !He l scope:=by unfold He;rw[Ek]
theorem Jcb{h:J8}{n id:Nat}{scope:List J9}(x:J9)(hv:h id=some ⟨true,1,[[.sl 1 (Jf scope)]]⟩)(hid:id<n):Dt prog 296 [] [.ptr id 0 0] h n (.str x) (.bool (!K6 scope x)):=by
 intro K hK;refine Cr ?_;refine U8 func296 Ju5 rfl (by simp[K79]) ?_;have n1:¬id=n:=by omega
 simp[K79,hv];refine Je (Nl scope x) (by simp) ?_;rintro r rfl;simp[Vk,hK]
theorem Px(l scope:List J9):Holds prog 238 [.sl 1 (Jf l),.sl 1 (Jf scope)] (λr=>r = .bool (He l scope)):=by
 refine Jp func238 Js6 rfl (by simp[K5a]) ?_;simp[K5a]
 refine Bk (p:=λs => !K6 scope s) (rowOf:=λs=>[.str s]) (eltOf:=λs=>.str s) func69 Jkb rfl func150 Je7 rfl (λx=>by simp) l
  (λx _=>Jcb (scope:=scope) x (by simp) (by omega)) ?_
 rw[Ji8];simp
theorem J7v{l scope:List J9}{i:Nat}(hi:i<l.length):Ej (l.drop i) scope=(if K6 scope l[i]then []else [l[i]])++Ej (l.drop (i+1)) scope:=by rw[drop_eq_getElem_cons hi];unfold Ej;rw[List.filter_cons];cases K6 scope l[i] <;>simp
theorem Jc0(l scope:List J9)(hl:l.length<=1048576):Holds prog 137 [.sl 1 (Jf l),.sl 1 (Jf scope)] (λr=>r = .us 1 (Jf (Ej l scope))):=by
 refine Jp func137 Jog rfl (by simp[K3y]) ?_;simp[K3y];generalize hB:Ej l scope=B;have hBl:B.length<=l.length:=by rw[<-hB];exact List.length_filter_le _ _
 refine Ka [0,1] 6 l.length (λi s h n=>∃(acc:List J9) (id:Nat),s 5 = .ref id 0 acc.length/\h id=some ⟨false,1,Jf acc⟩/\id<n/\acc++Ej (l.drop i) scope=B)
  (by unfold Jd;omega) (by simp) ⟨[],0,by simp,by simp[Jf],by simp,by simpa using hB⟩ ?_ ?_
 ·rintro i st h n R hi hg hk s6 hw ⟨acc,id,s5,eid,hidn,hJ⟩ hR _ _;simp at hk;rw[J7v hi]at hJ;have hal:=congrArg List.length hJ;simp only[List.length_append]at hal;simp[hk,s6,hi];intro _;refine Je (J5s scope (l[i]'hi)) (by simp) ?_;rintro r rfl;have n0:¬id=n:=by omega
  have n1:¬id=n+1:=by omega
  have n2:¬n+1=id:=by omega
  have n3:¬n=id:=by omega
  cases hc:K6 scope l[i]
  ·rw[hc]at hJ hal;simp at hJ hal;simp[hk,s6,hi,s5,eid,n0,n3,hw];refine⟨by unfold Jd;omega,?_⟩;exact hR _ _ _ (by simp[hk]) (by simp) ⟨acc++[l[i]],n+1,by simp,by simp[Jf],by omega,by simpa using hJ⟩
  ·rw[hc]at hJ;simp at hJ;simp[s6,hw];exact hR _ _ _ (by simp[hk]) (by simp) ⟨acc,id,by simp[s5],by simp[eid],by omega,hJ⟩
 ·rintro st h n R hk s6 ⟨acc,id,s5,eid,hidn,hJ⟩ hret hX;simp at hk;rw[drop_eq_nil_of_le (by omega)]at hJ;simp[Ej]at hJ;subst hJ;simp[hk,s6];intro _;refine hX _ _ _ _ ?_;simp[s5,eid]
def K8u:Jl:= ⟨55,[.t 2],(Zq [ZB 1 0,Zt 2 false] (.seq (Zq [Zf 5 0 1,Zl 6 false 1 5,Zc 7 295 [.t 6],ZN 8 7,Zv 9 8,Zg 10 9 false (.fld 1 (.t 1)),Zg 11 9 false (.ld false 1 (.t 10)),Zg 12 9 false (.len false (.t 11)),Zg 13 9 false (.bin .gtr (.t 12) (.k (.int .i64 4))),ZP 14 9 13] (.cond (.t 14) (Zq [Zt 2 false] .ret) .skip)) (.seq (Zq [Zf 15 1 1,Zl 16 false 1 15,Zn 17 16,Zi 18 0] (.blk 0 (.loop (Zq [Zb 19 .lss 18 17] (.seq (Zw 19 0) (.seq (.blk 1 (Zq [Zv 20 18,Zx 21 2 16 18,Zl 22 true 2 21,Zo 4 (.box [(.int .i64 0),(.str [])]),Zv 3 20,Zs 2 4 22] (.seq (.draw (.op (Zf 23 0 4) (.op (Zl 24 false 1 23) (.op (Zk 25 .eql 24 0) (.op (Zv 26 25) (.op (Zg 27 26 false (.fld 0 (.t 4))) (.op (Zg 28 26 false (.ld false 1 (.t 27))) (.op (Zg 29 26 false (.call (.k (.fn (.func 295) [] [])) [.t 28])) (.op (Zg 30 26 false (.un .not (.t 29))) (.op (ZP 31 26 30) (.op (Zv 32 31) (.op (Zg 33 32 false (.fld 1 (.t 4))) (.op (Zg 34 32 false (.ld false 1 (.t 33))) (.op (Zg 35 32 false (.call (.k (.fn (.func 140) [] [])) [.t 34])) (.op (Zg 36 32 false (.un .not (.t 35))) (.op (ZP 37 32 36) (.op (Zv 38 37) (.op (Zg 39 38 false (.mv (.t 3))) (.op (Zg 40 38 false (.bin .gtr (.t 39) (.k (.int .i64 0)))) (.op (Zg 41 38 false (.mv (.t 40))) (.op (Zg 42 41 true (.fld 1 (.t 1))) (.op (Zg 43 41 true (.ld false 1 (.t 42))) (.op (Zg 44 41 true (.mv (.t 3))) (.op (Zg 45 41 true (.bin .sub (.t 44) (.k (.int .i64 1)))) (.op (Zg 46 41 true (.ixa 2 (.t 43) (.t 45))) (.op (Zg 47 41 true (.fld 1 (.t 46))) (.op (Zg 48 41 true (.ld false 1 (.t 47))) (.op (Zg 49 41 true (.fld 1 (.t 4))) (.op (Zg 50 41 true (.ld false 1 (.t 49))) (.op (Zg 51 41 true (.bin .geq (.t 48) (.t 50))) (.op (Zg 52 38 false (.pick (.t 41) (.t 51) (.k (.bool false)))) (.op (ZP 53 38 52) .fin)))))))))))))))))))))))))))))))) (.cond (.t 53) (Zq [Zt 2 false] .ret) .skip)))) (.reg [Zk 54 .add 18 1,Zv 18 54]))))))) (Zq [Zt 2 true] .ret))))⟩
theorem Jq5:Jh prog f237=some K8u:=by kernel_rfl
def Hn(l:List Yj)(i:Nat):Option J9:=if i=0 then Option.none else(l[i - 1]?).map (·.Name)
theorem R5{l:List Yj}{i:Nat}(hi:i<l.length):Hn l (i+1)=some (l[i]).Name:=by simp[Hn,hi]
set_option maxHeartbeats 1000000 in
theorem J25(x:Xg):Holds prog 237 [.agg (Ks x)] (λr=>r = .bool (I8 x)):=by
 refine Jp func237 Jq5 rfl (by simp[K8u]) ?_;simp[K8u,Ks];refine Je (Jku x.Const) (by simp) ?_;rintro r rfl;unfold I8;cases h1:H8 x.Const
 ·simp
 simp;intro hl;have hd:decide (x.Terms.length<=4)=decide ((x.Terms.length:Int)<=4):=by rw[decide_eq_decide];omega
 rw[hd];by_cases h2:(x.Terms.length:Int)<=4
 case neg=>
  have h2n:¬x.Terms.length<=4:=by omega
  simp[h2,h2n,Int.not_le.1 h2]
 simp[h2,Int.not_lt.2 h2];intro _;generalize hB:Hs Option.none x.Terms=B;refine Ka [1,16,17] 18 x.Terms.length (λi s h n=>0<n/\h 0=some ⟨true,2,[[i64 x.Const,.sl 2 (x.Terms.map Xh)]]⟩/\Hs (Hn x.Terms i) (x.Terms.drop i)=B) hl (by simp) ⟨by simp,by simp,by simpa[Hn]using hB⟩ ?_ ?_
 ·rintro i st h n R hi hg hk s18 hw ⟨hn,e0,hJ⟩ hR hret _;simp at hk;rw[drop_eq_getElem_cons hi]at hJ;simp only[Hs]at hJ;have z0:¬0=n:=by omega
  refine Jq [1,16,17,18] (λs=>s 19 = .bool true) (by simp[hk,s18,hi]) ?_;intro Jv hk1 s19;simp at hk1;refine W3 s19 (Jn (Xd ?_));refine Xu [1,16,17,18] (λs h' n'=>s 3 = .int .i64 i/\s 4 = .ptr n 0 0/\n'=n+1/\h' n=some ⟨true,2,[Xh x.Terms[i]]⟩/\h' 0=some ⟨true,2,[[i64 x.Const,.sl 2 (x.Terms.map Xh)]]⟩) (by simp[hk,hk1,s18,hi,Xh,e0,z0]) ?_;rintro st2 h2 n2 hk2 ⟨s3,s4,rfl,en,e0'⟩;simp at hk2;obtain⟨bad,hbad⟩:∃bad,bad=(((x.Terms[i]).Coeff==0 || !H8 (x.Terms[i]).Coeff || !Wb (x.Terms[i]).Name)||(match Hn x.Terms i with|Option.none=>false|some q => !(Op.bytesLess q (x.Terms[i]).Name))):=⟨_,rfl⟩;refine Jq [1,16,17,18] (λs=>s 53 = .bool bad) ?_ ?_
  ·subst hbad;by_cases c0:(x.Terms[i]).Coeff=0
   ·simp[hk,hk1,hk2,s18,Xh,en,s4,c0]
   simp[hk,hk1,hk2,s18,Xh,en,s4,c0];refine Jx (Jku (x.Terms[i]'hi).Coeff) (by simp) ?_;rintro r rfl;cases c1:H8 (x.Terms[i]).Coeff
   ·simp[hk,hk1,hk2,s18]
   simp[hk,hk1,hk2,s18,Xh,en,s4];refine Jx (Pm (x.Terms[i]'hi).Name) (by simp) ?_;rintro r rfl;cases c2:Wb (x.Terms[i]).Name
   ·simp[hk,hk1,hk2,s18]
   cases i with
   |zero=>simp[hk,hk1,hk2,s18,Xh,e0',en,s3,s4,Hn,c0]
   |succ i=>
    have hi':i<x.Terms.length:=by omega
    have hwr:IntKind.i64.wrap (i:Int)=i:=Km (by unfold Jd at hl;omega);simp[hk,hk1,hk2,s18,hi',Xh,e0',en,s3,s4,R5 hi',hwr,c0]
  intro Kq hk3 s53;simp at hk3
  have hJ':(!bad&&Hs (some (x.Terms[i]).Name) (x.Terms.drop (i+1)))=B:=by rw[<-hJ,hbad];cases((x.Terms[i]).Coeff==0) <;>cases(H8 (x.Terms[i]).Coeff) <;>cases(Wb (x.Terms[i]).Name) <;>cases(Hn x.Terms i) <;>simp
  rw[<-R5 hi]at hJ';clear hJ hbad;cases bad
  ·simp[hk1,hk2,hk3,s18,s53,hw];exact hR _ _ _ (by simp[hk,hk1,hk2,hk3]) (by simp) ⟨by omega,by simp[e0'],by simpa using hJ'⟩
  ·simp[s53];simp at hJ';refine hret _ _ _ ?_;simp[hJ']
 ·rintro st h n R hk s18 ⟨hn,e0,hJ⟩ hret hX;simp at hk;rw[drop_eq_nil_of_le (by omega)]at hJ;refine Jq [1,16,17,18] (λs=>s 19 = .bool false) (by simp[hk,s18]) ?_;intro Jv hk1 s19;simp at hk1;refine Uv s19 ?_;simp;refine hX _ _ _ _ ?_;simp[<-hJ,Hs]
def K8d:Jl:= ⟨62,[.t 2],(Zq [ZB 1 0,Zt 2 false] (.seq (Zq [Zi 3 0] (.blk 0 (.loop (.seq (Zq [Zv 5 3,Zf 6 1 1,Zl 7 false 1 6,Zn 8 7,Zb 9 .lss 5 8] (Zw 9 0)) (.seq (.blk 1 (Zq [Zf 12 1 1,Zl 13 false 1 12,Zv 14 3,Zx 15 2 13 14,Zl 16 true 2 15,Zo 4 (.box [(.int .i64 0),(.str [])]),Zs 2 4 16] (.seq (.draw (.op (Zf 17 0 4) (.op (Zl 18 false 1 17) (.op (Zk 19 .eql 18 0) (.op (Zv 20 19) (.op (Zg 21 20 false (.fld 0 (.t 4))) (.op (Zg 22 20 false (.ld false 1 (.t 21))) (.op (Zg 23 20 false (.call (.k (.fn (.func 318) [] [])) [.t 22])) (.op (Zg 24 20 false (.un .not (.t 23))) (.op (ZP 25 20 24) (.op (Zv 26 25) (.op (Zg 27 26 false (.fld 1 (.t 4))) (.op (Zg 28 26 false (.ld false 1 (.t 27))) (.op (Zg 29 26 false (.call (.k (.fn (.func 285) [] [])) [.t 28])) (.op (Zg 30 26 false (.un .not (.t 29))) (.op (ZP 31 26 30) (.op (Zv 32 31) (.op (Zg 33 32 false (.fld 1 (.t 4))) (.op (Zg 34 32 false (.ld false 1 (.t 33))) (.op (Zg 35 32 false (.call (.k (.fn (.func 260) [] [])) [.t 34])) (.op (ZP 36 32 35) (.op (Zv 37 36) (.op (Zg 38 37 false (.mv (.t 3))) (.op (Zg 39 37 false (.bin .gtr (.t 38) (.k (.int .i64 0)))) (.op (Zg 40 37 false (.mv (.t 39))) (.op (Zg 41 40 true (.fld 1 (.t 1))) (.op (Zg 42 40 true (.ld false 1 (.t 41))) (.op (Zg 43 40 true (.mv (.t 3))) (.op (Zg 44 40 true (.bin .sub (.t 43) (.k (.int .i64 1)))) (.op (Zg 45 40 true (.ixa 2 (.t 42) (.t 44))) (.op (Zg 46 40 true (.fld 1 (.t 45))) (.op (Zg 47 40 true (.ld false 1 (.t 46))) (.op (Zg 48 40 true (.fld 1 (.t 4))) (.op (Zg 49 40 true (.ld false 1 (.t 48))) (.op (Zg 50 40 true (.bin .geq (.t 47) (.t 49))) (.op (Zg 51 37 false (.pick (.t 40) (.t 50) (.k (.bool false)))) (.op (ZP 52 37 51) .fin))))))))))))))))))))))))))))))))))))) (.cond (.t 52) (Zq [Zt 2 false] .ret) .skip)))) (.reg [Zv 10 3,Zk 11 .add 10 1,Zv 3 11])))))) (Zq [Zf 53 0 1,Zl 54 false 1 53,Zc 55 318 [.t 54],Zv 56 55,Zg 57 56 true (.fld 1 (.t 1)),Zg 58 56 true (.ld false 1 (.t 57)),Zg 59 56 true (.len false (.t 58)),Zg 60 56 true (.bin .leq (.t 59) (.k (.int .i64 4))),ZQ 61 56 60,Zv 2 61] .ret)))⟩
theorem Jsz:Jh prog f286=some K8d:=by kernel_rfl
set_option maxHeartbeats 1000000 in
theorem J15(x:Xg):Holds prog 286 [.agg (Ks x)] (λr=>r = .bool (I8 x)):=by
 refine Vm func286 rfl rfl λhl=>?_
 simp[Ks]at hl;refine Jp func286 Jsz rfl (by simp[K8d]) ?_;simp[K8d,Ks];unfold I8;generalize hB:Hs Option.none x.Terms=B;refine Ka [1] 3 x.Terms.length (λi s h n=>0<n/\h 0=some ⟨true,2,[[i64 x.Const,.sl 2 (x.Terms.map Xh)]]⟩/\Hs (Hn x.Terms i) (x.Terms.drop i)=B) hl (by simp) ⟨by simp,by simp,by simpa[Hn]using hB⟩ ?_ ?_
 ·rintro i st h n R hi hg hk s3x hw ⟨hn,e0,hJ⟩ hR hret _;simp at hk;rw[drop_eq_getElem_cons hi]at hJ;simp only[Hs]at hJ;have z0:¬0=n:=by omega
  refine Jn ?_;refine Jq [1,3] (λs=>s 9 = .bool true) (by simp[hk,s3x,hi,e0]) ?_;intro Jv hk1 s9;simp at hk1;refine U2 s9 (Jn (Xd ?_));refine Xu [1,3] (λs h' n'=>s 4 = .ptr n 0 0/\n'=n+1/\h' n=some ⟨true,2,[Xh x.Terms[i]]⟩/\h' 0=some ⟨true,2,[[i64 x.Const,.sl 2 (x.Terms.map Xh)]]⟩) (by simp[hk,hk1,s3x,hi,Xh,e0,z0]) ?_;rintro st2 h2 n2 hk2 ⟨s4,rfl,en,e0'⟩;simp at hk2;obtain⟨bad,hbad⟩:∃bad,bad=(((x.Terms[i]).Coeff==0 || !H8 (x.Terms[i]).Coeff || !Wb (x.Terms[i]).Name)||(match Hn x.Terms i with|Option.none=>false|some q => !(Op.bytesLess q (x.Terms[i]).Name))):=⟨_,rfl⟩;refine Jq [1,3] (λs=>s 52 = .bool bad) ?_ ?_
  ·subst hbad;by_cases c0:(x.Terms[i]).Coeff=0
   ·simp (maxSteps:=1000000) [hk,hk1,hk2,s3x,Xh,en,s4,c0]
   simp (maxSteps:=1000000) [hk,hk1,hk2,s3x,Xh,en,s4,c0];refine Jx (Jdb (x.Terms[i]'hi).Coeff) (by simp) ?_;rintro r rfl;cases c1:H8 (x.Terms[i]).Coeff
   ·simp (maxSteps:=1000000) [hk,hk1,hk2,s3x]
   simp (maxSteps:=1000000) [hk,hk1,hk2,s3x,Xh,en,s4];refine Jx (Sp (x.Terms[i]'hi).Name) (by simp) ?_;rintro r rfl;unfold Wb;cases c2:W7 (x.Terms[i]).Name
   ·simp (maxSteps:=1000000) [hk,hk1,hk2,s3x]
   simp (maxSteps:=1000000) [hk,hk1,hk2,s3x,Xh,en,s4];refine Jx (Dv (x.Terms[i]'hi).Name) (by simp) ?_;rintro r rfl;cases c3:Xp (x.Terms[i]).Name
   case true=>simp (maxSteps:=1000000) [hk,hk1,hk2,s3x]
   cases i with
   |zero=>simp (maxSteps:=1000000) [hk,hk1,hk2,s3x,Xh,e0',en,s4,Hn,c0]
   |succ i=>
    have hi':i<x.Terms.length:=by omega
    have hwr:IntKind.i64.wrap (i:Int)=i:=Km (by unfold Jd at hl;omega);simp (maxSteps:=1000000) [hk,hk1,hk2,s3x,hi',Xh,e0',en,s4,R5 hi',hwr,c0]
  intro Kq hk3 s52;simp at hk3
  have hJ':(!bad&&Hs (some (x.Terms[i]).Name) (x.Terms.drop (i+1)))=B:=by rw[<-hJ,hbad];cases((x.Terms[i]).Coeff==0) <;>cases(H8 (x.Terms[i]).Coeff) <;>cases(Wb (x.Terms[i]).Name) <;>cases(Hn x.Terms i) <;>simp
  rw[<-R5 hi]at hJ';clear hJ hbad;cases bad
  ·simp (maxSteps:=1000000) [hk1,hk2,hk3,s3x,s52,hw];exact hR _ _ _ (by simp[hk,hk1,hk2,hk3]) (by simp) ⟨by omega,by simp[e0'],by simpa using hJ'⟩
  ·simp (maxSteps:=1000000) [s52];simp at hJ';refine hret _ _ _ ?_;simp[hJ']
 ·rintro st h n R hk s3 ⟨hn,e0,hJ⟩ hret hX;simp at hk;rw[drop_eq_nil_of_le (by omega)]at hJ;refine Jn ?_;refine Jq [1,3] (λs=>s 9 = .bool false) (by simp[hk,s3,e0]) ?_;intro Jv hk1 s9;simp at hk1;refine U1 s9 ?_;simp;refine hX _ _ _ _ ?_;simp[Hs]at hJ;subst hJ;simp[hk,hk1,e0];refine Je (Jdb x.Const) (by simp) ?_;rintro r rfl;cases h1:H8 x.Const
  ·simp
  have hd:decide (x.Terms.length<=4)=decide ((x.Terms.length:Int)<=4):=by rw[decide_eq_decide];omega
  simp[hk,hk1,e0,hd]
def K6n:Jl:= ⟨6,[.t 2],(Zq [ZB 1 0,Zt 2 false] (Zq [Zl 3 true 2 1,Zc 4 237 [.t 3],ZN 5 4,Zv 2 5] .ret))⟩
theorem Jqj:Jh prog f298=some K6n:=by kernel_rfl
def K7p:Jl:= ⟨32,[.t 2],(Zq [ZB 1 0,Zt 2 false] (.seq (Zq [Zf 3 1 1,Zl 4 false 1 3,Zc 5 297 [.t 4,(.k (.fn (.func 298) [] []))]] (.cond (.t 5) (Zq [Zt 2 false] .ret) .skip)) (.seq (Zq [Zf 6 0 1,Zl 7 false 1 6,ZN 8 7] (.cond (.t 8) (Zq [Zf 9 1 1,Zl 10 false 1 9,Zn 11 10,Zk 12 .eql 11 1,Zv 13 12,Zg 14 13 true (.fld 2 (.t 1)),Zg 15 13 true (.ld false 1 (.t 14)),Zg 16 13 true (.bin .eql (.t 15) (.k (.str []))),ZQ 17 13 16,Zv 2 17] .ret) .skip)) (Zq [Zf 18 1 1,Zl 19 false 1 18,Zn 20 19,Zk 21 .leq 20 3,Zv 22 21,Zg 23 22 true (.fld 2 (.t 1)),Zg 24 22 true (.ld false 1 (.t 23)),Zg 25 22 true (.bin .eql (.t 24) (.k (.str []))),Zg 26 22 true (.mv (.t 25)),Zg 27 26 false (.fld 2 (.t 1)),Zg 28 26 false (.ld false 1 (.t 27)),Zg 29 26 false (.call (.k (.fn (.func 205) [] [])) [.t 28]),Zg 30 22 true (.pick (.t 26) (.k (.bool true)) (.t 29)),ZQ 31 22 30,Zv 2 31] .ret))))⟩
theorem Jmw:Jh prog f242=some K7p:=by kernel_rfl
def K42:Jl:= ⟨44,[.t 2],(Zq [ZB 1 0,Zt 2 false] (.seq (Zq [Zi 3 0] (.blk 0 (.loop (.seq (Zq [Zv 4 3,Zf 5 1 1,Zl 6 false 1 5,Zn 7 6,Zb 8 .lss 4 7] (Zw 8 0)) (.seq (.blk 1 (Zq [Zf 11 1 1,Zl 12 false 1 11,Zv 13 3,Zx 14 2 12 13,Zl 15 true 2 14,Zc 16 286 [.t 15],ZN 17 16] (.cond (.t 17) (Zq [Zt 2 false] .ret) .skip))) (.reg [Zv 9 3,Zk 10 .add 9 1,Zv 3 10])))))) (.seq (Zq [Zf 18 0 1,Zl 19 false 1 18,ZN 20 19] (.cond (.t 20) (Zq [Zf 21 1 1,Zl 22 false 1 21,Zn 23 22,Zk 24 .eql 23 1,Zv 25 24,Zg 26 25 true (.fld 2 (.t 1)),Zg 27 25 true (.ld false 1 (.t 26)),Zg 28 25 true (.bin .eql (.t 27) (.k (.str []))),ZQ 29 25 28,Zv 2 29] .ret) .skip)) (Zq [Zf 30 1 1,Zl 31 false 1 30,Zn 32 31,Zk 33 .leq 32 3,Zv 34 33,Zg 35 34 true (.fld 2 (.t 1)),Zg 36 34 true (.ld false 1 (.t 35)),Zg 37 34 true (.bin .eql (.t 36) (.k (.str []))),Zg 38 34 true (.mv (.t 37)),Zg 39 38 false (.fld 2 (.t 1)),Zg 40 38 false (.ld false 1 (.t 39)),Zg 41 38 false (.call (.k (.fn (.func 260) [] [])) [.t 40]),Zg 42 34 true (.pick (.t 38) (.k (.bool true)) (.t 41)),ZQ 43 34 42,Zv 2 43] .ret))))⟩
theorem Jt3:Jh prog f287=some K42:=by kernel_rfl
def K5z:Jl:= ⟨23,[.t 6],(Zq [ZB 3 0,Zt 6 false] (Zq [Zl 7 true 3 3,Zc 8 287 [.t 7],Zv 9 8,Zg 10 9 true (.fld 0 (.t 3)),Zg 11 9 true (.ld false 1 (.t 10)),Zg 12 9 true (.mv (.t 1)),Zg 13 9 true (.beq false (.t 11) (.t 12)),ZQ 14 9 13,Zv 15 14,Zg 16 15 true (.ld true 3 (.t 3)),Zg 17 15 true (.call (.k (.fn (.func 288) [] [])) [.t 16]),Zg 18 15 true (.mv (.t 2)),Zg 19 15 true (.call (.k (.fn (.func 137) [] [])) [.t 17,.t 18]),Zg 20 15 true (.len false (.t 19)),Zg 21 15 true (.bin .eql (.t 20) (.k (.int .i64 0))),ZQ 22 15 21,Zv 6 22] .ret))⟩
theorem Jpm:Jh prog f223=some K5z:=by kernel_rfl
theorem Jye(s:Xg):Holds prog 298 [.agg (Ks s)] (λr=>r = .bool (!I8 s)):=by refine Jp func298 Jqj rfl (by simp[K6n]) ?_;simp[K6n,Ks];refine Je (J25 s) (by simp[Ks]) ?_;rintro r rfl;simp
theorem J0g(x:Xe):Holds prog 242 [.agg (Kn x)] (λr=>r = .bool (Oo x)):=by
 refine Jp func242 Jmw rfl (by simp[K7p]) ?_;simp[K7p,Kn]
 refine Bk (p:=λs => !I8 s) (rowOf:=Ks) (eltOf:=λs=>.agg (Ks s)) func297 Jof rfl func323 Jrj rfl (λx=>by simp) x.Heads
  (λs _=>Nh (Jye s) (by simp) rfl) ?_
 rw[Ek];unfold Oo;cases h1:x.Heads.all I8
 ·simp
 simp;cases h2:x.Lst
 ·simp;intro _;by_cases h3:(x.Heads.length:Int)=1
  ·have h3n:x.Heads.length=1:=by omega
   simp[h3n]
  ·have h3n:¬x.Heads.length=1:=by omega
   simp[h3,h3n]
 ·simp;intro _;by_cases h3:(x.Heads.length:Int)<=3
  ·have h3n:x.Heads.length<=3:=by omega
   simp[h3,h3n,Int.not_lt.2 h3];by_cases h4:x.Base=[]
   ·simp[h4]
   simp[h4];refine Je (En x.Base) (by simp) ?_;rintro r rfl;simp[h4]
  ·have h3n:¬x.Heads.length<=3:=by omega
   simp[h3,h3n]
theorem J68(x:Xe):Holds prog 287 [.agg (Kn x)] (λr=>r = .bool (Oo x)):=by
 refine Vm func287 rfl rfl λhl=>?_
 simp[Kn]at hl;refine Jp func287 Jt3 rfl (by simp[K42]) ?_;simp[K42,Kn];unfold Oo;generalize hB:x.Heads.all I8=B;refine O7 [1] 3 x.Heads.length (λi _=>(x.Heads.drop i).all I8=B) hl.1 (by simp) (by simpa using hB) ?_ ?_
 ·rintro i st h R hi hg hk s3 hw hJ hh hR hret _;simp at hk;rw[drop_eq_getElem_cons hi,List.all_cons]at hJ;have e0:=hh 0;simp at e0;simp[hk,s3,hi,e0];intro _;refine Je (J15 (x.Heads[i]'hi)) (by simp) ?_;rintro r rfl;cases hc:I8 x.Heads[i]
  ·rw[hc,Bool.false_and]at hJ;subst hJ;simp;refine hret _ _ _ ?_;simp
  ·rw[hc,Bool.true_and]at hJ;simp[s3,hw];exact hR _ (by simp[hk]) (by simp) hJ
 ·rintro st h R hk s3 hJ hh _ hX;simp at hk;rw[drop_eq_nil_of_le (by omega)]at hJ;have e0:=hh 0;simp at e0;simp[hk,s3,e0];intro _;refine hX _ _ ?_;simp at hJ;subst hJ;simp[hk];cases h2:x.Lst
  ·simp;intro _;by_cases h3:(x.Heads.length:Int)=1
   ·have h3n:x.Heads.length=1:=by omega
    simp[h3n]
   ·have h3n:¬x.Heads.length=1:=by omega
    simp[h3,h3n]
  ·simp;intro _;by_cases h3:(x.Heads.length:Int)<=3
   ·have h3n:x.Heads.length<=3:=by omega
    simp[h3,h3n,Int.not_lt.2 h3];by_cases h4:x.Base=[]
    ·simp[h4]
    simp[h4];refine Je (Dv x.Base) (by simp) ?_;rintro r rfl;simp[h4]
   ·have h3n:¬x.Heads.length<=3:=by omega
    simp[h3,h3n]
theorem T9(x:Xe)(b:Bool)(scope:List J9)(hw:Uh x<=1048576):Holds prog 223 [.agg (Kn x),.bool b,.sl 1 (Jf scope)] (λr=>r = .bool (Wu x b scope)):=by
 refine Jp func223 Jpm rfl (by simp[K5z]) ?_;simp[K5z,Kn];refine Je (J68 x) (by simp[Kn]) ?_;rintro r rfl;unfold Wu;cases h1:Oo x
 ·simp
 simp;by_cases hb:x.Lst=b
 case neg=>simp[hb]
 simp[hb];subst hb;refine Je (Jca x hw) (by simp[Kn]) ?_;rintro r rfl;simp;have hl:(Im (Qk x)).length<=1048576:=Nat.le_trans (Jbq _) (J3b x hw);refine Je (Jc0 (Im (Qk x)) scope hl) (by simp) ?_;rintro r rfl;simp;intro _;rw[<-J7o];rw[Bool.eq_iff_iff];simp
end Go.Proofs.YtoclolkigjbcgaaGreat
